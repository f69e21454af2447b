/-
  Parts of the proof, 3: the abstract machine, the compiled code, contracts of the functions, plain laws.
-/
import Derived.Test.YtggifklgpdladaaGreatX2
import Derived.Test.YtggifklgpdladaaGreatProg
import Derived.LoopNIn
import Derived.Maps.RangeRun
import Derived.Carry
import Derived.WalkSpells
import Derived.Laws.IdiomStrings
import Derived.Lib.BufferRead


/-! The code of the loaded functions, compiled. -/
namespace Go.Am
abbrev Ins.n (d : Nat) (k : K) (xs : List X) : Ins := ⟨some d, k, xs, none⟩
abbrev Ins.w (d : Nat) (k : K) (xs : List X) (t : Nat) (b : Bool) : Ins := ⟨some d, k, xs, some (t, b)⟩
abbrev Ins.s (k : K) (xs : List X) : Ins := ⟨none, k, xs, none⟩
abbrev X.i (n : Int) : X := .c (.int .i64 n)
end Go.Am
set_option maxRecDepth 100000
set_option maxRecDepth 100000
namespace Go.Proofs.YtggifklgpdladaaGreat
open Go.Am
theorem mixed : Tryz.prog.follows .mixedOrders = true := by kernel_rfl
/-- paravane/paravanelaw10.VolumeTaped -/
abbrev F.law10_VolumeTaped : Nat := 3
def ir.law10_VolumeTaped : IC :=
 (.seq (.reg [.n 3 .box [.t 0], .n 4 .box [.t 1], .n 6 .mov [.c (.bool false)]])
   (.seq (.reg [.n 25 (.load 4 true) [.t 3], .n 26 (.call 4) [.t 25], .n 24 .mov [.t 26], .n 27 (.extract 0) [.t 24], .n 28 (.extract 1) [.t 24], .n 29 (.extract 2) [.t 24], .n 7 .mov [.t 27], .n 8 .mov [.t 28], .n 9 .mov [.t 29]])
   (.seq (.seq (.reg [.n 30 .mov [.t 9], .n 31 (.un .not) [.t 30]])
   (.cond (.t 31) (.seq (.reg [.n 6 .mov [.c (.bool false)]])
   .ret) .skip))
   (.seq (.reg [⟨(some 32), .build [(.str ⟨#[]⟩), .nils] [(0, 1)], [.c (.str ⟨#[108, 105, 110, 101]⟩)], none⟩, ⟨(some 10), .alloc [(.str ⟨#[]⟩), .nils], [], none⟩, .s (.store 2) [.t 10, .t 32]])
   (.seq (.reg [⟨(some 33), .mkslice 1 9, [.c (.str ⟨#[]⟩), .c (.str ⟨#[]⟩)], none⟩, .n 11 .mov [.t 33]])
   (.seq (.seq (.reg [.n 12 .mov [.i 0]])
   (.block 0 (.loop (.seq (.seq (.reg [.n 34 .mov [.t 12], .n 35 .mov [.t 8], .n 36 (.len false) [.t 35], .n 37 (.bin .lss) [.t 34, .t 36]])
   (.cond (.t 37) .skip (.exit 0)))
   (.seq (.block 1 (.seq (.reg [.n 40 .mov [.t 12], .n 41 (.build [(.int .i64 0), (.int .i64 0), .nils] [(0, 1)]) [.t 40], .n 13 (.alloc [(.int .i64 0), (.int .i64 0), .nils]) [], .s (.store 3) [.t 13, .t 41]])
   (.seq (.seq (.reg [.n 14 .mov [.i 0]])
   (.block 2 (.loop (.seq (.seq (.reg [.n 42 .mov [.t 14], .n 43 .mov [.t 8], .n 44 .mov [.t 12], .n 45 (.iaddrS 3) [.t 43, .t 44], .n 46 (.faddr 2) [.t 45], .n 47 (.load 1 false) [.t 46], .n 48 (.len false) [.t 47], .n 49 (.bin .lss) [.t 42, .t 48]])
   (.cond (.t 49) .skip (.exit 2)))
   (.seq (.block 3 (.draw [0, 1, 0, 0, 12, 28, 60, 0, 252, 508, 1020, 2044, 4095, 8191, 16383] [.n 52 (.faddr 2) [.t 13], .n 53 (.load 1 false) [.t 52], .n 54 .mov [.t 8], .n 55 .mov [.t 12], .n 56 (.iaddrS 3) [.t 54, .t 55], .n 57 (.faddr 2) [.t 56], .n 58 (.load 1 false) [.t 57], .n 59 .mov [.t 14], .n 60 (.iaddrS 2) [.t 58, .t 59], .n 61 (.faddr 0) [.t 60], .n 62 (.load 1 false) [.t 61], .n 63 (.mkslice 1 3) [.t 62], .n 64 (.append 1 8 3) [.t 53, .t 63], .n 65 (.faddr 2) [.t 13], .s (.store 1) [.t 65, .t 64]]))
   (.reg [.n 50 .mov [.t 14], .n 51 (.bin .add) [.t 50, .i 1], .n 14 .mov [.t 51]]))))))
   (.seq (.reg [.n 67 (.load 3 true) [.t 13], .n 68 (.call 5) [.t 67], .n 66 .mov [.t 68], .n 69 (.extract 0) [.t 66], .n 70 (.extract 1) [.t 66], .n 15 .mov [.t 69], .n 16 .mov [.t 70]])
   (.seq (.seq (.reg [.n 71 .mov [.t 16], .n 72 (.bin .neq) [.t 71, .i 0]])
   (.cond (.t 72) (.seq (.reg [.n 6 .mov [.c (.bool false)]])
   .ret) .skip))
   (.seq (.reg [.n 73 (.faddr 1) [.t 10], .n 74 (.load 1 false) [.t 73], .n 75 (.load 3 true) [.t 13], .n 76 (.mkslice 3 39) [.t 75], .n 77 (.append 3 40 39) [.t 74, .t 76], .n 78 (.faddr 1) [.t 10], .s (.store 1) [.t 78, .t 77]])
   (.reg [.n 79 .mov [.t 11], .n 80 .mov [.t 2], .n 81 (.call 6) [.t 80, .i 2], .n 82 .mov [.t 12], .n 83 .mov [.t 12], .n 84 (.bin .mul) [.t 82, .t 83], .n 85 (.bin .add) [.t 81, .t 84], .n 86 (.call 6) [.t 85, .i 2], .n 87 (.iaddrS 1) [.t 79, .t 86], .n 88 (.load 1 false) [.t 87], .n 89 .mov [.t 15], .n 90 (.bin .add) [.t 88, .t 89], .n 91 (.iaddrS 1) [.t 79, .t 86], .s (.store 1) [.t 91, .t 90]])))))))
   (.reg [.n 38 .mov [.t 12], .n 39 (.bin .add) [.t 38, .i 1], .n 12 .mov [.t 39]]))))))
   (.seq (.reg [.n 93 .mov [.t 11], ⟨(some 94), .call 7, [.c (.str ⟨#[108, 105, 110, 101]⟩), .t 93], none⟩, .n 92 .mov [.t 94], .n 95 (.extract 0) [.t 92], .n 96 (.extract 1) [.t 92], ⟨(some 17), .alloc [(.str ⟨#[]⟩), .nils], [], none⟩, .s (.store 2) [.t 17, .t 95], .n 18 .mov [.t 96]])
   (.seq (.seq (.reg [.n 97 .mov [.t 18], .n 98 (.bin .neq) [.t 97, .i 0], .n 99 .mov [.t 98], .w 100 (.faddr 1) [.t 17] 99 false, .w 101 (.load 1 false) [.t 100] 99 false, .w 102 (.len false) [.t 101] 99 false, .w 103 .mov [.t 8] 99 false, .w 104 (.len false) [.t 103] 99 false, .w 105 (.bin .neq) [.t 102, .t 104] 99 false, .n 106 .pick [.t 99, .c (.bool true), .t 105]])
   (.cond (.t 106) (.seq (.reg [.n 6 .mov [.c (.bool false)]])
   .ret) .skip))
   (.seq (.reg [.n 19 .mov [.c .nils]])
   (.seq (.seq (.reg [.n 20 .mov [.i 0]])
   (.block 4 (.loop (.seq (.seq (.reg [.n 107 .mov [.t 20], .n 108 (.faddr 1) [.t 17], .n 109 (.load 1 false) [.t 108], .n 110 (.len false) [.t 109], .n 111 (.bin .lss) [.t 107, .t 110]])
   (.cond (.t 111) .skip (.exit 4)))
   (.seq (.block 5 (.draw [0, 0, 0, 6, 14, 30, 0, 0, 192, 448, 960, 0, 2048, 0, 14336, 30720, 63488, 129024, 262142, 524286, 1048575, 2097151] [.n 114 .mov [.t 19], .n 115 .mov [.t 8], .n 116 .mov [.t 20], .n 117 (.iaddrS 3) [.t 115, .t 116], .n 118 (.faddr 0) [.t 117], .n 119 (.load 1 false) [.t 118], .n 120 .mov [.t 8], .n 121 .mov [.t 20], .n 122 (.iaddrS 3) [.t 120, .t 121], .n 123 (.faddr 1) [.t 122], .n 124 (.load 1 false) [.t 123], .n 125 (.faddr 1) [.t 17], .n 126 (.load 1 false) [.t 125], .n 127 .mov [.t 20], .n 128 (.iaddrS 3) [.t 126, .t 127], .n 129 (.faddr 2) [.t 128], .n 130 (.load 1 false) [.t 129], .n 131 (.call 8) [.t 130], .n 132 (.build [(.int .i64 0), (.int .i64 0), .nils] [(0, 1), (1, 1), (2, 1)]) [.t 119, .t 124, .t 131], .n 133 (.mkslice 3 42) [.t 132], .n 134 (.append 3 40 42) [.t 114, .t 133], .n 19 .mov [.t 134]]))
   (.reg [.n 112 .mov [.t 20], .n 113 (.bin .add) [.t 112, .i 1], .n 20 .mov [.t 113]]))))))
   (.seq (.reg [.n 136 .mov [.t 19], .n 137 (.faddr 0) [.t 4], .n 138 (.load 3 true) [.t 137], .n 139 (.faddr 3) [.t 4], .n 140 (.load 3 true) [.t 139], .n 141 (.faddr 6) [.t 4], .n 142 (.load 1 false) [.t 141], .n 143 (.faddr 7) [.t 4], .n 144 (.faddr 0) [.t 143], .n 145 (.load 1 false) [.t 144], .n 146 (.call 9) [.t 136, .t 138, .t 140, .t 142, .t 145], .n 135 .mov [.t 146], .n 147 (.extract 0) [.t 135], .n 148 (.extract 1) [.t 135], .n 21 (.alloc [(.int .i64 0), (.int .i64 0), (.int .i64 0), (.int .i64 0), (.int .i64 0), (.int .i64 0), .nils]) [], .s (.store 7) [.t 21, .t 147], .n 18 .mov [.t 148]])
   (.seq (.reg [.n 150 .mov [.t 8], .n 151 (.faddr 0) [.t 4], .n 152 (.load 3 true) [.t 151], .n 153 (.faddr 3) [.t 4], .n 154 (.load 3 true) [.t 153], .n 155 (.faddr 6) [.t 4], .n 156 (.load 1 false) [.t 155], .n 157 (.faddr 7) [.t 4], .n 158 (.faddr 0) [.t 157], .n 159 (.load 1 false) [.t 158], .n 160 (.call 9) [.t 150, .t 152, .t 154, .t 156, .t 159], .n 149 .mov [.t 160], .n 161 (.extract 0) [.t 149], .n 162 (.extract 1) [.t 149], .n 22 (.alloc [(.int .i64 0), (.int .i64 0), (.int .i64 0), (.int .i64 0), (.int .i64 0), (.int .i64 0), .nils]) [], .s (.store 7) [.t 22, .t 161], .n 23 .mov [.t 162]])
   (.seq (.reg [.n 163 .mov [.t 18], .n 164 .mov [.t 23], .n 165 (.bin .eql) [.t 163, .t 164], .n 166 .mov [.t 165], .w 167 (.load 7 true) [.t 21] 166 true, .w 168 (.load 7 true) [.t 22] 166 true, .w 169 (.call 10) [.t 167, .t 168] 166 true, .n 170 .pick [.t 166, .t 169, .c (.bool false)], .n 171 .mov [.t 170], .w 172 (.load 7 true) [.t 22] 171 true, .w 173 (.load 7 true) [.t 21] 171 true, .w 174 (.call 10) [.t 172, .t 173] 171 true, .n 175 .pick [.t 171, .t 174, .c (.bool false)], .n 176 .mov [.t 175], .w 177 (.call 11) [] 176 true, .n 178 .pick [.t 176, .t 177, .c (.bool false)], .n 6 .mov [.t 178]])
   .ret)))))))))))))
theorem chk.law10_VolumeTaped : chkF Tryz.prog 3 = some (179, ir.law10_VolumeTaped, [.tmp 6]) := by kernel_rfl

/-- paravane/paravanelaw10.told -/
abbrev F.law10_told : Nat := 4
def ir.law10_told : IC :=
 (.seq (.reg [.n 1 .box [.t 0], .n 2 .mov [.c .nils], .n 3 .mov [.c .nils], .n 4 .mov [.c (.bool false)]])
   (.seq (.reg [.n 18 (.faddr 3) [.t 1], .n 19 (.load 1 false) [.t 18], .n 20 (.call 6) [.t 19, .i 100], .n 5 .mov [.t 20]])
   (.seq (.reg [.n 6 .mov [.c .nils], .n 7 .mov [.c .nils]])
   (.seq (.seq (.reg [.n 8 .mov [.i 0]])
   (.block 0 (.loop (.seq (.seq (.reg [.n 21 .mov [.t 8], .n 22 (.faddr 0) [.t 1], .n 23 (.load 1 false) [.t 22], .n 24 (.len false) [.t 23], .n 25 (.bin .lss) [.t 21, .t 24], .n 26 .mov [.t 25], .w 27 .mov [.t 8] 26 true, .w 28 (.bin .lss) [.t 27, .i 8] 26 true, .n 29 .pick [.t 26, .t 28, .c (.bool false)]])
   (.cond (.t 29) .skip (.exit 0)))
   (.seq (.block 1 (.seq (.draw [0, 1, 0, 7, 15, 31, 63, 127, 0, 256, 0, 1792, 3840, 7936, 16255, 32639, 32767, 131071] [.n 32 (.faddr 0) [.t 1], .n 33 (.load 1 false) [.t 32], .n 34 .mov [.t 8], .n 35 (.iaddrS 2) [.t 33, .t 34], .n 36 (.iaddrA 2 1) [.t 35, .i 0], .n 37 (.load 1 false) [.t 36], .n 38 (.call 6) [.t 37, .i 41], .n 39 (.bin .sub) [.t 38, .i 20], .n 40 (.faddr 0) [.t 1], .n 41 (.load 1 false) [.t 40], .n 42 .mov [.t 8], .n 43 (.iaddrS 2) [.t 41, .t 42], .n 44 (.iaddrA 2 1) [.t 43, .i 1], .n 45 (.load 1 false) [.t 44], .n 46 (.call 6) [.t 45, .i 41], .n 47 (.bin .sub) [.t 46, .i 20], .n 9 .mov [.t 39], .n 10 .mov [.t 47]])
   (.seq (.reg [.n 11 .mov [.i 0]])
   (.seq (.reg [.n 12 .mov [.c .nils]])
   (.seq (.seq (.reg [.n 13 .mov [.i 0]])
   (.block 2 (.loop (.seq (.seq (.reg [.n 48 .mov [.t 13], .n 49 (.bin .lss) [.t 48, .i 20]])
   (.cond (.t 49) .skip (.exit 2)))
   (.seq (.block 3 (.seq (.reg [.n 52 .mov [.t 11], .n 53 (.faddr 1) [.t 1], .n 54 (.load 1 false) [.t 53], .n 55 .mov [.t 8], .n 56 (.bin .mul) [.i 3, .t 55], .n 57 .mov [.t 13], .n 58 (.bin .add) [.t 56, .t 57], .n 59 (.call 12) [.t 54, .t 58], .n 60 .mov [.t 5], .n 61 (.bin .mul) [.i 2, .t 60], .n 62 (.bin .add) [.t 61, .i 1], .n 63 (.call 6) [.t 59, .t 62], .n 64 .mov [.t 5], .n 65 (.bin .sub) [.t 63, .t 64], .n 66 (.bin .add) [.t 52, .t 65], .n 11 .mov [.t 66]])
   (.reg [.n 67 .mov [.t 12], .n 68 .mov [.t 11], .n 69 (.mkslice 1 3) [.t 68], .n 70 (.append 1 8 3) [.t 67, .t 69], .n 12 .mov [.t 70]])))
   (.reg [.n 50 .mov [.t 13], .n 51 (.bin .add) [.t 50, .i 1], .n 13 .mov [.t 51]]))))))
   (.seq (.reg [.n 71 .mov [.t 12], .n 72 (.call 13) [.t 71], .n 14 .mov [.t 72]])
   (.seq (.seq (.reg [.n 15 .mov [.i 1]])
   (.block 4 (.loop (.seq (.seq (.reg [.n 73 .mov [.t 15], .n 74 .mov [.t 14], .n 75 (.len false) [.t 74], .n 76 (.bin .lss) [.t 73, .t 75]])
   (.cond (.t 76) .skip (.exit 4)))
   (.seq (.block 5 (.seq (.reg [.n 79 (.faddr 2) [.t 1], .n 80 (.load 1 false) [.t 79], .n 81 .mov [.t 8], .n 82 .mov [.t 15], .n 83 (.bin .add) [.t 81, .t 82], .n 84 (.call 12) [.t 80, .t 83], .n 85 (.call 6) [.t 84, .i 2], .n 86 (.bin .eql) [.t 85, .i 1]])
   (.cond (.t 86) (.reg [.n 87 .mov [.t 14], .n 88 .mov [.t 15], .n 89 (.iaddrS 1) [.t 87, .t 88], .s (.store 1) [.t 89, .i 40000]]) .skip)))
   (.reg [.n 77 .mov [.t 15], .n 78 (.bin .add) [.t 77, .i 1], .n 15 .mov [.t 78]]))))))
   (.seq (.reg [.n 91 .mov [.t 14], .n 92 .mov [.t 5], .n 93 (.call 14) [.t 91, .t 92], .n 90 .mov [.t 93], .n 94 (.extract 0) [.t 90], .n 95 (.extract 1) [.t 90], .n 16 .mov [.t 94], .n 17 .mov [.t 95]])
   (.seq (.seq (.reg [.n 96 .mov [.t 17], .n 97 (.bin .neq) [.t 96, .i 0], .n 98 .mov [.t 97], .w 99 .mov [.t 16] 98 false, .w 100 (.len false) [.t 99] 98 false, .w 101 .mov [.t 12] 98 false, .w 102 (.len false) [.t 101] 98 false, .w 103 (.bin .neq) [.t 100, .t 102] 98 false, .n 104 .pick [.t 98, .c (.bool true), .t 103]])
   (.cond (.t 104) (.seq (.reg [.n 2 .mov [.c .nils], .n 3 .mov [.c .nils], .n 4 .mov [.c (.bool false)]])
   .ret) .skip))
   (.reg [.n 105 .mov [.t 6], .n 106 .mov [.t 9], .n 107 .mov [.t 10], .n 108 .mov [.t 16], .n 109 (.build [(.int .i64 0), (.int .i64 0), .nils] [(0, 1), (1, 1), (2, 1)]) [.t 106, .t 107, .t 108], .n 110 (.mkslice 3 42) [.t 109], .n 111 (.append 3 40 42) [.t 105, .t 110], .n 112 .mov [.t 7], .n 113 .mov [.t 9], .n 114 .mov [.t 10], .n 115 .mov [.t 12], .n 116 (.call 8) [.t 115], .n 117 (.build [(.int .i64 0), (.int .i64 0), .nils] [(0, 1), (1, 1), (2, 1)]) [.t 113, .t 114, .t 116], .n 118 (.mkslice 3 42) [.t 117], .n 119 (.append 3 40 42) [.t 112, .t 118], .n 6 .mov [.t 111], .n 7 .mov [.t 119]]))))))))))
   (.reg [.n 30 .mov [.t 8], .n 31 (.bin .add) [.t 30, .i 1], .n 8 .mov [.t 31]]))))))
   (.seq (.reg [.n 120 .mov [.t 6], .n 121 .mov [.t 7], .n 2 .mov [.t 120], .n 3 .mov [.t 121], .n 4 .mov [.c (.bool true)]])
   .ret)))))
theorem chk.law10_told : chkF Tryz.prog 4 = some (122, ir.law10_told, [.tmp 2, .tmp 3, .tmp 4]) := by kernel_rfl

/-- paravane/tape.PackFrame -/
abbrev F.tape_PackFrame : Nat := 5
def ir.tape_PackFrame : IC :=
 (.seq (.reg [.n 1 .box [.t 0], ⟨(some 2), .mov, [.c (.str ⟨#[]⟩)], none⟩, .n 3 .mov [.i 0]])
   (.seq (.seq (.reg [.n 5 (.load 3 true) [.t 1], .n 6 (.call 15) [.t 5], .n 4 .mov [.t 6]])
   (.seq (.reg [.n 7 .mov [.t 4], .n 8 (.bin .neq) [.t 7, .i 0]])
   (.cond (.t 8) (.seq (.reg [.n 9 .mov [.t 4], ⟨(some 2), .mov, [.c (.str ⟨#[]⟩)], none⟩, .n 3 .mov [.t 9]])
   .ret) .skip)))
   (.seq (.reg [.n 10 (.load 3 true) [.t 1], .n 11 (.call 16) [.t 10], .n 12 (.raw 5 63 9) [.t 11], .n 2 .mov [.t 12], .n 3 .mov [.i 0]])
   .ret)))
theorem chk.tape_PackFrame : chkF Tryz.prog 5 = some (13, ir.tape_PackFrame, [.tmp 2, .tmp 3]) := by kernel_rfl

/-- paravane/paravaneref00.Rest -/
abbrev F.ref00_Rest : Nat := 6
def ir.ref00_Rest : IC :=
 (.seq (.reg [.n 4 .mov [.i 0]])
   (.seq (.seq (.reg [.n 5 .mov [.t 1], .n 6 (.bin .lss) [.t 5, .i 1]])
   (.cond (.t 6) (.seq (.reg [.n 4 .mov [.i 0]])
   .ret) .skip))
   (.seq (.reg [.n 7 .mov [.t 0], .n 8 .mov [.t 1], .n 9 (.bin .rem) [.t 7, .t 8], .n 0 .mov [.t 9]])
   (.seq (.seq (.reg [.n 10 .mov [.t 0], .n 11 (.bin .lss) [.t 10, .i 0]])
   (.cond (.t 11) (.reg [.n 12 .mov [.t 0], .n 13 .mov [.t 1], .n 14 (.bin .add) [.t 12, .t 13], .n 0 .mov [.t 14]]) .skip))
   (.seq (.reg [.n 15 .mov [.t 0], .n 4 .mov [.t 15]])
   .ret)))))
theorem chk.ref00_Rest : chkF Tryz.prog 6 = some (16, ir.ref00_Rest, [.tmp 4]) := by kernel_rfl

/-- paravane/tape.Repair -/
abbrev F.tape_Repair : Nat := 7
def ir.tape_Repair : IC :=
 (.seq (.reg [⟨(some 4), .alloc [(.str ⟨#[]⟩), .nils], [], none⟩, .n 5 .mov [.i 0]])
   (.seq (.seq (.reg [.n 11 .mov [.t 0], .n 12 (.call 17) [.t 11], .n 13 (.un .not) [.t 12]])
   (.cond (.t 13) (.seq (.reg [⟨(some 14), .build [(.str ⟨#[]⟩), .nils] [], [], none⟩, .s (.store 2) [.t 4, .t 14], .n 5 .mov [.i 2]])
   .ret) .skip))
   (.seq (.seq (.reg [.n 15 .mov [.t 1], .n 16 (.len false) [.t 15], .n 17 (.bin .gtr) [.t 16, .i 8], .n 18 .mov [.t 17], .w 19 .mov [.t 1] 18 false, .w 20 (.call 18) [.t 19, .c (.func (.func 19) [] [])] 18 false, .n 21 .pick [.t 18, .c (.bool true), .t 20]])
   (.cond (.t 21) (.seq (.reg [⟨(some 22), .build [(.str ⟨#[]⟩), .nils] [], [], none⟩, .s (.store 2) [.t 4, .t 22], .n 5 .mov [.i 3]])
   .ret) .skip))
   (.seq (.reg [.n 23 (.raw 13 68 0) [], .n 6 .mov [.t 23]])
   (.seq (.seq (.reg [.n 24 .mov [.t 1], .n 25 (.len false) [.t 24], .n 26 .mov [.i 0]])
   (.block 0 (.loop (.seq (.reg [.n 27 (.bin .lss) [.t 26, .t 25]])
   (.seq (.cond (.t 27) .skip (.exit 0))
   (.seq (.block 1 (.seq (.reg [.n 28 (.iaddrS 1) [.t 24, .t 26], .n 29 (.load 1 false) [.t 28], .n 8 .mov [.t 29]])
   (.reg [.n 30 .mov [.t 6], .n 31 .mov [.t 8], .n 32 (.call 20) [.t 30, .t 31]])))
   (.reg [.n 33 (.bin .add) [.t 26, .i 1], .n 26 .mov [.t 33]])))))))
   (.seq (.reg [.n 35 .mov [.t 6], .n 36 (.call 21) [.t 35], .n 34 .mov [.t 36], .n 37 (.extract 0) [.t 34], .n 38 (.extract 1) [.t 34], .n 9 .mov [.t 37], .n 10 .mov [.t 38]])
   (.seq (.seq (.reg [.n 39 .mov [.t 10], .n 40 (.un .not) [.t 39]])
   (.cond (.t 40) (.seq (.reg [⟨(some 41), .build [(.str ⟨#[]⟩), .nils] [], [], none⟩, .s (.store 2) [.t 4, .t 41], .n 5 .mov [.i 6]])
   .ret) .skip))
   (.seq (.reg [.n 42 .mov [.t 0], .n 43 .mov [.t 9], ⟨(some 44), .build [(.str ⟨#[]⟩), .nils] [(0, 1), (1, 1)], [.t 42, .t 43], none⟩, .s (.store 2) [.t 4, .t 44], .n 5 .mov [.i 0]])
   .ret))))))))
theorem chk.tape_Repair : chkF Tryz.prog 7 = some (45, ir.tape_Repair, [.cell 4 36, .tmp 5]) := by kernel_rfl

/-- paravane/paravanelaw10.sure -/
abbrev F.law10_sure : Nat := 8
def ir.law10_sure : IC :=
 (.seq (.reg [.n 2 .mov [.c .nils]])
   (.seq (.reg [.n 3 .mov [.c .nils]])
   (.seq (.seq (.reg [.n 4 .mov [.i 0]])
   (.block 0 (.loop (.seq (.seq (.reg [.n 5 .mov [.t 4], .n 6 .mov [.t 0], .n 7 (.len false) [.t 6], .n 8 (.bin .lss) [.t 5, .t 7]])
   (.cond (.t 8) .skip (.exit 0)))
   (.seq (.block 1 (.draw [0, 0, 0, 6, 14, 0, 0, 96, 224, 510, 1022, 2047, 4095] [.n 11 .mov [.t 3], .n 12 .mov [.t 0], .n 13 .mov [.t 4], .n 14 (.iaddrS 1) [.t 12, .t 13], .n 15 (.load 1 false) [.t 14], .n 16 .mov [.t 0], .n 17 .mov [.t 4], .n 18 (.iaddrS 1) [.t 16, .t 17], .n 19 (.load 1 false) [.t 18], .n 20 (.build [(.int .i64 0), (.int .i64 0)] [(0, 1), (1, 1)]) [.t 15, .t 19], .n 21 (.mkslice 2 28) [.t 20], .n 22 (.append 2 16 28) [.t 11, .t 21], .n 3 .mov [.t 22]]))
   (.reg [.n 9 .mov [.t 4], .n 10 (.bin .add) [.t 9, .i 1], .n 4 .mov [.t 10]]))))))
   (.seq (.reg [.n 23 .mov [.t 3], .n 2 .mov [.t 23]])
   .ret))))
theorem chk.law10_sure : chkF Tryz.prog 8 = some (24, ir.law10_sure, [.tmp 2]) := by kernel_rfl

/-- paravane/volume.Migrate -/
abbrev F.volume_Migrate : Nat := 9
def ir.volume_Migrate : IC :=
 (.seq (.reg [.n 6 .box [.t 1], .n 7 .box [.t 2], .n 10 (.alloc [(.int .i64 0), (.int .i64 0), (.int .i64 0), (.int .i64 0), (.int .i64 0), (.int .i64 0), .nils]) [], .n 11 .mov [.i 0]])
   (.seq (.reg [.n 15 .mov [.t 0], .n 16 .mov [.t 3], .n 17 .mov [.t 4], .n 18 .mov [.t 4], .n 19 (.build [(.int .i64 0), (.int .i64 0)] [(0, 1), (1, 1)]) [.t 17, .t 18], .n 20 (.call 22) [.t 15, .t 16, .t 19], .n 14 .mov [.t 20], .n 21 (.extract 0) [.t 14], .n 22 (.extract 1) [.t 14], .n 12 (.alloc [.nils, (.int .i64 0), (.int .i64 0), (.int .i64 0)]) [], .s (.store 4) [.t 12, .t 21], .n 13 .mov [.t 22]])
   (.seq (.seq (.reg [.n 23 .mov [.t 13], .n 24 (.bin .neq) [.t 23, .i 0]])
   (.cond (.t 24) (.seq (.reg [.n 25 (.build [(.int .i64 0), (.int .i64 0), (.int .i64 0), (.int .i64 0), (.int .i64 0), (.int .i64 0), .nils] []) [], .n 26 .mov [.t 13], .s (.store 7) [.t 10, .t 25], .n 11 .mov [.t 26]])
   .ret) .skip))
   (.seq (.reg [.n 27 (.load 3 true) [.t 6], .n 28 (.load 3 true) [.t 7], .n 29 (.load 4 true) [.t 12], .n 30 (.mkfunc (.func 24) 1) [.t 29], .n 31 (.call 23) [.t 27, .t 28, .t 30], .n 32 (.extract 0) [.t 31], .n 33 (.extract 1) [.t 31], .s (.store 7) [.t 10, .t 32], .n 11 .mov [.t 33]])
   .ret))))
theorem chk.volume_Migrate : chkF Tryz.prog 9 = some (34, ir.volume_Migrate, [.cell 10 51, .tmp 11]) := by kernel_rfl

/-- paravane/paravanelaw10.inside -/
abbrev F.law10_inside : Nat := 10
def ir.law10_inside : IC :=
 (.seq (.reg [.n 2 .box [.t 0], .n 3 .box [.t 1], .n 4 .mov [.c (.bool false)]])
   (.seq (.seq (.reg [.n 6 (.faddr 0) [.t 2], .n 7 (.load 3 true) [.t 6], .n 8 (.faddr 0) [.t 3], .n 9 (.load 3 true) [.t 8], .n 10 (.eqs true [0, 0, 0]) [.t 7, .t 9], .n 11 .mov [.t 10], .w 12 (.faddr 3) [.t 2] 11 false, .w 13 (.load 3 true) [.t 12] 11 false, .w 14 (.faddr 3) [.t 3] 11 false, .w 15 (.load 3 true) [.t 14] 11 false, .w 16 (.eqs true [0, 0, 0]) [.t 13, .t 15] 11 false, .n 17 .pick [.t 11, .c (.bool true), .t 16], .n 18 .mov [.t 17], .w 19 (.faddr 6) [.t 2] 18 false, .w 20 (.load 1 false) [.t 19] 18 false, .w 21 (.len false) [.t 20] 18 false, .w 22 (.faddr 6) [.t 3] 18 false, .w 23 (.load 1 false) [.t 22] 18 false, .w 24 (.len false) [.t 23] 18 false, .w 25 (.bin .neq) [.t 21, .t 24] 18 false, .n 26 .pick [.t 18, .c (.bool true), .t 25]])
   (.cond (.t 26) (.seq (.reg [.n 4 .mov [.c (.bool false)]])
   .ret) .skip))
   (.seq (.seq (.reg [.n 5 .mov [.i 0]])
   (.block 0 (.loop (.seq (.seq (.reg [.n 27 .mov [.t 5], .n 28 (.faddr 6) [.t 2], .n 29 (.load 1 false) [.t 28], .n 30 (.len false) [.t 29], .n 31 (.bin .lss) [.t 27, .t 30]])
   (.cond (.t 31) .skip (.exit 0)))
   (.seq (.block 1 (.seq (.draw [0, 1, 0, 7, 15, 31, 0, 64, 0, 448, 960, 1984, 4095, 8191, 16383, 32767, 16383, 131071, 262143, 524287, 16383, 1064959, 16383, 7356415, 15745023, 32522239, 67108863, 134217727] [.n 34 (.faddr 6) [.t 2], .n 35 (.load 1 false) [.t 34], .n 36 .mov [.t 5], .n 37 (.iaddrS 2) [.t 35, .t 36], .n 38 (.faddr 0) [.t 37], .n 39 (.load 1 false) [.t 38], .n 40 (.faddr 6) [.t 3], .n 41 (.load 1 false) [.t 40], .n 42 .mov [.t 5], .n 43 (.iaddrS 2) [.t 41, .t 42], .n 44 (.faddr 0) [.t 43], .n 45 (.load 1 false) [.t 44], .n 46 (.bin .lss) [.t 39, .t 45], .n 47 .mov [.t 46], .w 48 (.faddr 6) [.t 2] 47 false, .w 49 (.load 1 false) [.t 48] 47 false, .w 50 .mov [.t 5] 47 false, .w 51 (.iaddrS 2) [.t 49, .t 50] 47 false, .w 52 (.faddr 1) [.t 51] 47 false, .w 53 (.load 1 false) [.t 52] 47 false, .w 54 (.faddr 6) [.t 3] 47 false, .w 55 (.load 1 false) [.t 54] 47 false, .w 56 .mov [.t 5] 47 false, .w 57 (.iaddrS 2) [.t 55, .t 56] 47 false, .w 58 (.faddr 1) [.t 57] 47 false, .w 59 (.load 1 false) [.t 58] 47 false, .w 60 (.bin .gtr) [.t 53, .t 59] 47 false, .n 61 .pick [.t 47, .c (.bool true), .t 60]])
   (.cond (.t 61) (.seq (.reg [.n 4 .mov [.c (.bool false)]])
   .ret) .skip)))
   (.reg [.n 32 .mov [.t 5], .n 33 (.bin .add) [.t 32, .i 1], .n 5 .mov [.t 33]]))))))
   (.seq (.reg [.n 4 .mov [.c (.bool true)]])
   .ret))))
theorem chk.law10_inside : chkF Tryz.prog 10 = some (62, ir.law10_inside, [.tmp 4]) := by kernel_rfl

/-- paravane/paravanelaw10.works -/
abbrev F.law10_works : Nat := 11
def ir.law10_works : IC :=
 (.seq (.reg [.n 0 .mov [.c (.bool false)]])
   (.seq (.reg [.n 18 (.call 25) [.i 2, .i 4, .i 64], .n 17 .mov [.t 18], .n 19 (.extract 0) [.t 17], .n 20 (.extract 1) [.t 17], .n 1 .mov [.t 19], .n 2 .mov [.t 20]])
   (.seq (.reg [.n 22 (.call 25) [.i 2, .i 4, .i 100], .n 21 .mov [.t 22], .n 23 (.extract 0) [.t 21], .n 24 (.extract 1) [.t 21], .n 3 .mov [.t 23], .n 4 .mov [.t 24]])
   (.seq (.reg [.n 26 (.call 27) [], .n 27 (.build [(.int .i64 0), (.int .i64 0), (.int .i64 0)] [(0, 1), (1, 1), (2, 1)]) [.i 0, .i 0, .i 2], .n 28 (.call 26) [.t 26, .t 27, .i 3, .i 64], .n 25 .mov [.t 28], .n 29 (.extract 0) [.t 25], .n 30 (.extract 1) [.t 25], .n 5 (.alloc [(.int .i64 0), (.int .i64 0), (.int .i64 0), .nils, (.int .i64 0), (.int .i64 0)]) [], .s (.store 6) [.t 5, .t 29], .n 6 .mov [.t 30]])
   (.seq (.reg [.n 32 (.call 27) [], .n 33 (.build [(.int .i64 0), (.int .i64 0), (.int .i64 0)] [(0, 1), (1, 1), (2, 1)]) [.i 0, .i 0, .i 2], .n 34 (.build [(.int .i64 0), (.int .i64 0), (.int .i64 0)] [(0, 1), (1, 1), (2, 1)]) [.i 1, .i 1, .i 1], .n 35 (.build [(.int .i64 0), (.int .i64 0)] [(0, 1), (1, 1)]) [.i 64, .i 100], .n 36 (.call 28) [.t 32, .t 33, .t 34, .i 3, .t 35], .n 31 .mov [.t 36], .n 37 (.extract 0) [.t 31], .n 38 (.extract 1) [.t 31], .n 7 (.alloc [(.int .i64 0), (.int .i64 0), (.int .i64 0), (.int .i64 0), (.int .i64 0), (.int .i64 0), .nils]) [], .s (.store 7) [.t 7, .t 37], .n 8 .mov [.t 38]])
   (.seq (.seq (.reg [.n 39 .mov [.t 1], .n 40 (.bin .neq) [.t 39, .i 2], .n 41 .mov [.t 40], .w 42 .mov [.t 2] 41 false, .w 43 (.bin .neq) [.t 42, .i 0] 41 false, .n 44 .pick [.t 41, .c (.bool true), .t 43], .n 45 .mov [.t 44], .w 46 .mov [.t 3] 45 false, .w 47 (.bin .neq) [.t 46, .i 3] 45 false, .n 48 .pick [.t 45, .c (.bool true), .t 47], .n 49 .mov [.t 48], .w 50 .mov [.t 4] 49 false, .w 51 (.bin .neq) [.t 50, .i 0] 49 false, .n 52 .pick [.t 49, .c (.bool true), .t 51], .n 53 .mov [.t 52], .w 54 .mov [.t 6] 53 false, .w 55 (.bin .neq) [.t 54, .i 0] 53 false, .n 56 .pick [.t 53, .c (.bool true), .t 55], .n 57 .mov [.t 56], .w 58 .mov [.t 8] 57 false, .w 59 (.bin .neq) [.t 58, .i 0] 57 false, .n 60 .pick [.t 57, .c (.bool true), .t 59], .n 61 .mov [.t 60], .w 62 (.load 6 true) [.t 5] 61 false, .w 63 (.build [(.int .i64 0), (.int .i64 0), (.int .i64 0)] [(0, 1), (1, 1), (2, 1)]) [.i 0, .i 0, .i 2] 61 false, .w 64 (.build [(.int .i64 0), (.int .i64 0)] [(1, 1)]) [.i 2] 61 false, .w 65 (.build [(.int .i64 0), (.int .i64 0)] [(0, 1), (1, 1)]) [.i 1, .i 2] 61 false, .w 66 (.mkslice 2 89) [.t 64, .t 65] 61 false, .w 67 (.build [(.int .i64 0), (.int .i64 0)] [(0, 1), (1, 1)]) [.i 7, .i 7] 61 false, .w 68 (.build [(.int .i64 0), (.int .i64 0), (.int .i64 0), .nils, (.int .i64 0), (.int .i64 0)] [(0, 3), (3, 1), (4, 2)]) [.t 63, .t 66, .t 67] 61 false, .w 69 (.call 29) [.t 62, .t 68] 61 false, .w 70 (.un .not) [.t 69] 61 false, .n 71 .pick [.t 61, .c (.bool true), .t 70], .n 72 .mov [.t 71], .w 73 (.faddr 6) [.t 7] 72 false, .w 74 (.load 1 false) [.t 73] 72 false, .w 75 (.len false) [.t 74] 72 false, .w 76 (.bin .neq) [.t 75, .i 1] 72 false, .n 77 .pick [.t 72, .c (.bool true), .t 76], .n 78 .mov [.t 77], .w 79 (.faddr 6) [.t 7] 78 false, .w 80 (.load 1 false) [.t 79] 78 false, .w 81 (.iaddrS 2) [.t 80, .i 0] 78 false, .w 82 (.load 2 true) [.t 81] 78 false, .w 83 (.build [(.int .i64 0), (.int .i64 0)] [(0, 1), (1, 1)]) [.i 7, .i 12] 78 false, .w 84 (.eqs true [0, 0]) [.t 82, .t 83] 78 false, .n 85 .pick [.t 78, .c (.bool true), .t 84]])
   (.cond (.t 85) (.seq (.reg [.n 0 .mov [.c (.bool false)]])
   .ret) .skip))
   (.seq (.reg [.n 87 (.mkslice 1 3) [.i 8, .i 0, .i 0, .i 4, .i 0], .n 88 (.call 30) [.t 87, .i 2, .i 32], .n 86 .mov [.t 88], .n 89 (.extract 0) [.t 86], .n 90 (.extract 1) [.t 86], .n 9 .mov [.t 89], .n 2 .mov [.t 90]])
   (.seq (.reg [.n 92 (.mkslice 1 3) [.i 8, .i 0, .i 4, .i 4, .i 2], .n 93 (.call 31) [.t 92, .i 2, .i 32], .n 91 .mov [.t 93], .n 94 (.extract 0) [.t 91], .n 95 (.extract 1) [.t 91], .n 10 .mov [.t 94], .n 4 .mov [.t 95]])
   (.seq (.reg [.n 97 (.build [(.int .i64 0), (.int .i64 0), (.int .i64 0)] [(0, 1), (1, 1), (2, 1)]) [.i 1, .i 1, .i 2], .n 98 (.mkslice 1 3) [.i 3, .i 4], .n 99 (.build [(.int .i64 0), (.int .i64 0), (.int .i64 0), (.int .i64 0), (.int .i64 0), (.int .i64 0), .nils] [(3, 3), (6, 1)]) [.t 97, .t 98], .n 100 (.build [(.int .i64 0), (.int .i64 0), (.int .i64 0)] [(0, 1), (1, 1), (2, 1)]) [.i 0, .i 0, .i 1], .n 101 (.build [(.int .i64 0), (.int .i64 0), (.int .i64 0)] [(0, 1), (1, 1), (2, 1)]) [.i 1, .i 1, .i 2], .n 102 (.mkslice 1 3) [.i 4, .i 5], .n 103 (.build [(.int .i64 0), (.int .i64 0), (.int .i64 0), (.int .i64 0), (.int .i64 0), (.int .i64 0), .nils] [(0, 3), (3, 3), (6, 1)]) [.t 100, .t 101, .t 102], .n 104 (.call 32) [.t 99, .t 103], .n 96 .mov [.t 104], .n 105 (.extract 0) [.t 96], .n 106 (.extract 1) [.t 96], .n 11 (.alloc [(.int .i64 0), (.int .i64 0), (.int .i64 0), (.int .i64 0), (.int .i64 0), (.int .i64 0), .nils]) [], .s (.store 7) [.t 11, .t 105], .n 6 .mov [.t 106]])
   (.seq (.seq (.reg [.n 107 .mov [.t 2], .n 108 (.bin .neq) [.t 107, .i 0], .n 109 .mov [.t 108], .w 110 .mov [.t 4] 109 false, .w 111 (.bin .neq) [.t 110, .i 0] 109 false, .n 112 .pick [.t 109, .c (.bool true), .t 111], .n 113 .mov [.t 112], .w 114 .mov [.t 6] 113 false, .w 115 (.bin .neq) [.t 114, .i 0] 113 false, .n 116 .pick [.t 113, .c (.bool true), .t 115], .n 117 .mov [.t 116], .w 118 .mov [.t 9] 117 false, .w 119 (.mkslice 1 3) [.i 8, .i 0, .i 4, .i 4, .i 2] 117 false, .w 120 (.call 33) [.t 118, .t 119] 117 false, .w 121 (.un .not) [.t 120] 117 false, .n 122 .pick [.t 117, .c (.bool true), .t 121], .n 123 .mov [.t 122], .w 124 .mov [.t 10] 123 false, .w 125 (.mkslice 1 3) [.i 8, .i 0, .i 0, .i 4, .i 0] 123 false, .w 126 (.call 33) [.t 124, .t 125] 123 false, .w 127 (.un .not) [.t 126] 123 false, .n 128 .pick [.t 123, .c (.bool true), .t 127], .n 129 .mov [.t 128], .w 130 (.load 7 true) [.t 11] 129 false, .w 131 (.build [(.int .i64 0), (.int .i64 0), (.int .i64 0)] [(0, 1), (1, 1), (2, 1)]) [.i 1, .i 1, .i 3] 129 false, .w 132 (.mkslice 1 3) [.i 3, .i 4, .i 5] 129 false, .w 133 (.build [(.int .i64 0), (.int .i64 0), (.int .i64 0), (.int .i64 0), (.int .i64 0), (.int .i64 0), .nils] [(3, 3), (6, 1)]) [.t 131, .t 132] 129 false, .w 134 (.call 34) [.t 130, .t 133] 129 false, .w 135 (.un .not) [.t 134] 129 false, .n 136 .pick [.t 129, .c (.bool true), .t 135]])
   (.cond (.t 136) (.seq (.reg [.n 0 .mov [.c (.bool false)]])
   .ret) .skip))
   (.seq (.reg [.n 138 (.call 36) [], .n 139 (.call 35) [.t 138, .i 1], .n 137 .mov [.t 139], .n 140 (.extract 0) [.t 137], .n 141 (.extract 1) [.t 137], .n 142 (.extract 2) [.t 137], .n 12 .mov [.t 140], .n 13 .mov [.t 141], .n 2 .mov [.t 142]])
   (.seq (.reg [.n 144 (.call 36) [], .n 145 (.call 35) [.t 144, .i 2], .n 143 .mov [.t 145], .n 146 (.extract 0) [.t 143], .n 147 (.extract 1) [.t 143], .n 148 (.extract 2) [.t 143], .n 14 .mov [.t 146], .n 15 .mov [.t 147], .n 4 .mov [.t 148]])
   (.seq (.reg [.n 150 (.call 36) [], .n 151 (.mkslice 1 3) [.i 9, .i 10, .i 10], .n 152 (.mkslice 1 3) [.i 4, .i 4, .i 10], .n 153 (.mkslice 1 3) [.i 4, .i 0, .i 1], .n 154 (.mkslice 1 23) [.t 151, .t 152, .t 153], .n 155 (.call 37) [.t 150, .i 1, .t 154], .n 149 .mov [.t 155], .n 156 (.extract 0) [.t 149], .n 157 (.extract 1) [.t 149], .n 16 .mov [.t 156], .n 6 .mov [.t 157]])
   (.seq (.reg [.n 158 .mov [.t 2], .n 159 (.bin .eql) [.t 158, .i 0], .n 160 .mov [.t 159], .w 161 .mov [.t 4] 160 true, .w 162 (.bin .eql) [.t 161, .i 0] 160 true, .n 163 .pick [.t 160, .t 162, .c (.bool false)], .n 164 .mov [.t 163], .w 165 .mov [.t 6] 164 true, .w 166 (.bin .eql) [.t 165, .i 0] 164 true, .n 167 .pick [.t 164, .t 166, .c (.bool false)], .n 168 .mov [.t 167], .w 169 .mov [.t 12] 168 true, .w 170 (.mkslice 1 3) [.i 1, .i 2, .i 2] 168 true, .w 171 (.call 33) [.t 169, .t 170] 168 true, .n 172 .pick [.t 168, .t 171, .c (.bool false)], .n 173 .mov [.t 172], .w 174 .mov [.t 13] 173 true, .w 175 (.bin .eql) [.t 174, .i 10] 173 true, .n 176 .pick [.t 173, .t 175, .c (.bool false)], .n 177 .mov [.t 176], .w 178 .mov [.t 14] 177 true, .w 179 (.mkslice 1 3) [.i 0, .i 2, .i 0] 177 true, .w 180 (.call 33) [.t 178, .t 179] 177 true, .n 181 .pick [.t 177, .t 180, .c (.bool false)], .n 182 .mov [.t 181], .w 183 .mov [.t 15] 182 true, .w 184 (.bin .eql) [.t 183, .i 18] 182 true, .n 185 .pick [.t 182, .t 184, .c (.bool false)], .n 186 .mov [.t 185], .w 187 .mov [.t 16] 186 true, .w 188 (.bin .eql) [.t 187, .i 10] 186 true, .n 189 .pick [.t 186, .t 188, .c (.bool false)], .n 0 .mov [.t 189]])
   .ret))))))))))))))
theorem chk.law10_works : chkF Tryz.prog 11 = some (190, ir.law10_works, [.tmp 0]) := by kernel_rfl

/-- paravane/paravaneref00.Pick -/
abbrev F.ref00_Pick : Nat := 12
def ir.ref00_Pick : IC :=
 (.seq (.reg [.n 4 .mov [.i 0]])
   (.seq (.seq (.reg [.n 5 .mov [.t 0], .n 6 (.len false) [.t 5], .n 7 (.bin .eql) [.t 6, .i 0]])
   (.cond (.t 7) (.seq (.reg [.n 4 .mov [.i 0]])
   .ret) .skip))
   (.seq (.reg [.n 8 .mov [.t 0], .n 9 .mov [.t 1], .n 10 .mov [.t 0], .n 11 (.len false) [.t 10], .n 12 (.call 6) [.t 9, .t 11], .n 13 (.iaddrS 1) [.t 8, .t 12], .n 14 (.load 1 false) [.t 13], .n 4 .mov [.t 14]])
   .ret)))
theorem chk.ref00_Pick : chkF Tryz.prog 12 = some (15, ir.ref00_Pick, [.tmp 4]) := by kernel_rfl

/-- paravane/paravaneref00.Own -/
abbrev F.ref00_Own : Nat := 13
def ir.ref00_Own : IC :=
 (.seq (.reg [.n 2 .mov [.c .nils]])
   (.seq (.reg [.n 3 .mov [.c .nils]])
   (.seq (.reg [.n 4 .mov [.t 3], .n 5 .mov [.t 0], .n 6 (.append 1 8 3) [.t 4, .t 5], .n 2 .mov [.t 6]])
   .ret)))
theorem chk.ref00_Own : chkF Tryz.prog 13 = some (7, ir.ref00_Own, [.tmp 2]) := by kernel_rfl

/-- paravane/tape.Fill -/
abbrev F.tape_Fill : Nat := 14
def ir.tape_Fill : IC :=
 (.seq (.reg [.n 4 .mov [.c .nils], .n 5 .mov [.i 0]])
   (.seq (.seq (.reg [.n 14 .mov [.t 0], .n 15 (.build [(.int .i64 0), (.int .i64 0), .nils] [(2, 1)]) [.t 14], .n 16 (.call 15) [.t 15], .n 17 (.bin .neq) [.t 16, .i 0]])
   (.cond (.t 17) (.seq (.reg [.n 4 .mov [.c .nils], .n 5 .mov [.i 80]])
   .ret) .skip))
   (.seq (.seq (.reg [.n 18 .mov [.t 1], .n 19 (.call 38) [.t 18, .i 0, .i 65535], .n 20 (.un .not) [.t 19]])
   (.cond (.t 20) (.seq (.reg [.n 4 .mov [.c .nils], .n 5 .mov [.i 7]])
   .ret) .skip))
   (.seq (.seq (.reg [.n 21 .mov [.t 0], .n 22 (.call 39) [.t 21, .c (.func (.func 40) [] [])], .n 23 (.un .not) [.t 22]])
   (.cond (.t 23) (.seq (.reg [.n 4 .mov [.c .nils], .n 5 .mov [.i 4]])
   .ret) .skip))
   (.seq (.reg [.n 6 .mov [.c .nils]])
   (.seq (.seq (.reg [.n 24 .mov [.t 0], .n 25 (.len false) [.t 24], .n 26 .mov [.i 0]])
   (.block 0 (.loop (.seq (.reg [.n 27 (.bin .lss) [.t 26, .t 25]])
   (.seq (.cond (.t 27) .skip (.exit 0))
   (.seq (.block 1 (.seq (.reg [.n 28 .mov [.t 26], .n 7 .mov [.t 28]])
   (.seq (.reg [.n 29 (.build [(.int .i64 0), (.int .i64 0)] [(0, 1), (1, 1)]) [.i (-32767), .i 32767], .n 8 (.alloc [(.int .i64 0), (.int .i64 0)]) [], .s (.store 2) [.t 8, .t 29]])
   (.seq (.seq (.reg [.n 30 .mov [.t 0], .n 31 (.len false) [.t 30], .n 32 .mov [.i 0]])
   (.block 2 (.loop (.seq (.reg [.n 33 (.bin .lss) [.t 32, .t 31]])
   (.seq (.cond (.t 33) .skip (.exit 2))
   (.seq (.block 3 (.seq (.reg [.n 34 .mov [.t 32], .n 35 (.iaddrS 1) [.t 30, .t 32], .n 36 (.load 1 false) [.t 35], .n 9 .mov [.t 34], .n 10 .mov [.t 36]])
   (.seq (.reg [.n 37 .mov [.t 10], .n 38 (.call 40) [.t 37]])
   (.cond (.t 38) (.seq (.reg [.n 39 .mov [.t 1], .n 40 .mov [.t 7], .n 41 .mov [.t 9], .n 42 (.bin .sub) [.t 40, .t 41], .n 43 .mov [.t 9], .n 44 .mov [.t 7], .n 45 (.bin .sub) [.t 43, .t 44], .n 46 (.minmax true) [.t 42, .t 45], .n 47 (.bin .mul) [.t 39, .t 46], .n 11 .mov [.t 47]])
   (.reg [.n 48 (.faddr 0) [.t 8], .n 49 (.load 1 false) [.t 48], .n 50 .mov [.t 10], .n 51 .mov [.t 11], .n 52 (.bin .sub) [.t 50, .t 51], .n 53 (.minmax true) [.t 49, .t 52], .n 54 (.faddr 1) [.t 8], .n 55 (.load 1 false) [.t 54], .n 56 .mov [.t 10], .n 57 .mov [.t 11], .n 58 (.bin .add) [.t 56, .t 57], .n 59 (.minmax false) [.t 55, .t 58], .n 60 (.build [(.int .i64 0), (.int .i64 0)] [(0, 1), (1, 1)]) [.t 53, .t 59], .s (.store 2) [.t 8, .t 60]])) .skip))))
   (.reg [.n 61 (.bin .add) [.t 32, .i 1], .n 32 .mov [.t 61]])))))))
   (.reg [.n 62 .mov [.t 6], .n 63 (.load 2 true) [.t 8], .n 64 (.mkslice 2 28) [.t 63], .n 65 (.append 2 16 28) [.t 62, .t 64], .n 6 .mov [.t 65]])))))
   (.reg [.n 66 (.bin .add) [.t 26, .i 1], .n 26 .mov [.t 66]])))))))
   (.seq (.seq (.reg [.n 67 .mov [.t 0], .n 68 (.len false) [.t 67], .n 69 .mov [.i 0]])
   (.block 4 (.loop (.seq (.reg [.n 70 (.bin .lss) [.t 69, .t 68]])
   (.seq (.cond (.t 70) .skip (.exit 4))
   (.seq (.block 5 (.seq (.reg [.n 71 .mov [.t 69], .n 72 (.iaddrS 1) [.t 67, .t 69], .n 73 (.load 1 false) [.t 72], .n 12 .mov [.t 71], .n 13 .mov [.t 73]])
   (.seq (.reg [.n 74 .mov [.t 13], .n 75 (.call 40) [.t 74], .n 76 .mov [.t 75], .w 77 .mov [.t 6] 76 true, .w 78 .mov [.t 12] 76 true, .w 79 (.iaddrS 2) [.t 77, .t 78] 76 true, .w 80 (.load 2 true) [.t 79] 76 true, .w 81 .mov [.t 13] 76 true, .w 82 .mov [.t 13] 76 true, .w 83 (.build [(.int .i64 0), (.int .i64 0)] [(0, 1), (1, 1)]) [.t 81, .t 82] 76 true, .w 84 (.eqs true [0, 0]) [.t 80, .t 83] 76 true, .n 85 .pick [.t 76, .t 84, .c (.bool false)]])
   (.cond (.t 85) (.seq (.reg [.n 4 .mov [.c .nils], .n 5 .mov [.i 83]])
   .ret) .skip))))
   (.reg [.n 86 (.bin .add) [.t 69, .i 1], .n 69 .mov [.t 86]])))))))
   (.seq (.reg [.n 87 .mov [.t 6], .n 4 .mov [.t 87], .n 5 .mov [.i 0]])
   .ret))))))))
theorem chk.tape_Fill : chkF Tryz.prog 14 = some (88, ir.tape_Fill, [.tmp 4, .tmp 5]) := by kernel_rfl

/-- paravane/tape.CheckFrame -/
abbrev F.tape_CheckFrame : Nat := 15
def ir.tape_CheckFrame : IC :=
 (.seq (.reg [.n 1 .box [.t 0], .n 2 .mov [.i 0]])
   (.seq (.seq (.reg [.n 3 (.faddr 0) [.t 1], .n 4 (.load 1 false) [.t 3], .n 5 (.call 38) [.t 4, .i 0, .i 60000], .n 6 (.un .not) [.t 5], .n 7 .mov [.t 6], .w 8 (.faddr 1) [.t 1] 7 false, .w 9 (.load 1 false) [.t 8] 7 false, .w 10 (.call 38) [.t 9, .i 0, .i 23] 7 false, .w 11 (.un .not) [.t 10] 7 false, .n 12 .pick [.t 7, .c (.bool true), .t 11], .n 13 .mov [.t 12], .w 14 (.faddr 2) [.t 1] 13 false, .w 15 (.load 1 false) [.t 14] 13 false, .w 16 (.len false) [.t 15] 13 false, .w 17 (.call 38) [.t 16, .i 1, .i 64] 13 false, .w 18 (.un .not) [.t 17] 13 false, .n 19 .pick [.t 13, .c (.bool true), .t 18], .n 20 .mov [.t 19], .w 21 (.faddr 2) [.t 1] 20 false, .w 22 (.load 1 false) [.t 21] 20 false, .w 23 (.call 39) [.t 22, .c (.func (.func 41) [] [])] 20 false, .n 24 .pick [.t 20, .c (.bool true), .t 23]])
   (.cond (.t 24) (.seq (.reg [.n 2 .mov [.i 80]])
   .ret) .skip))
   (.seq (.reg [.n 2 .mov [.i 0]])
   .ret)))
theorem chk.tape_CheckFrame : chkF Tryz.prog 15 = some (25, ir.tape_CheckFrame, [.tmp 2]) := by kernel_rfl

/-- paravane/tape.packed -/
abbrev F.tape_packed : Nat := 16
def ir.tape_packed : IC :=
 (.seq (.reg [.n 1 .box [.t 0], .n 2 .mov [.c .nils]])
   (.seq (.reg [.n 5 (.mkslice 1 5) [.c (.int .u8 165), .c (.int .u8 90)], .n 6 (.faddr 0) [.t 1], .n 7 (.load 1 false) [.t 6], .n 8 (.call 43) [.t 7], .n 9 (.append 1 1 5) [.t 5, .t 8], .n 3 (.alloc [.nils]) [], .s (.store 1) [.t 3, .t 9]])
   (.seq (.reg [.n 10 (.load 1 false) [.t 3], .n 11 (.faddr 1) [.t 1], .n 12 (.load 1 false) [.t 11], .n 13 (.conv .u8) [.t 12], .n 14 (.faddr 2) [.t 1], .n 15 (.load 1 false) [.t 14], .n 16 (.len false) [.t 15], .n 17 (.conv .u8) [.t 16], .n 18 (.mkslice 1 5) [.t 13, .t 17], .n 19 (.append 1 1 5) [.t 10, .t 18], .s (.store 1) [.t 3, .t 19]])
   (.seq (.seq (.reg [.n 20 (.faddr 2) [.t 1], .n 21 (.load 1 false) [.t 20], .n 22 (.call 44) [.t 21]])
   (.block 0 (.range (.t 22) [23] (.reg [.n 4 .mov [.t 23]]) (.block 1 (.seq (.block 2 (.loop (.seq (.seq (.reg [.n 24 .mov [.t 4], .n 25 (.bin .geq) [.t 24, .i 128]])
   (.cond (.t 25) .skip (.exit 2)))
   (.block 3 (.seq (.reg [.n 26 (.load 1 false) [.t 3], .n 27 .mov [.t 4], .n 28 (.bin .rem) [.t 27, .i 128], .n 29 (.bin .add) [.t 28, .i 128], .n 30 (.conv .u8) [.t 29], .n 31 (.mkslice 1 5) [.t 30], .n 32 (.append 1 1 5) [.t 26, .t 31], .s (.store 1) [.t 3, .t 32]])
   (.reg [.n 33 .mov [.t 4], .n 34 (.bin .quo) [.t 33, .i 128], .n 4 .mov [.t 34]]))))))
   (.reg [.n 35 (.load 1 false) [.t 3], .n 36 .mov [.t 4], .n 37 (.conv .u8) [.t 36], .n 38 (.mkslice 1 5) [.t 37], .n 39 (.append 1 1 5) [.t 35, .t 38], .s (.store 1) [.t 3, .t 39]]))))))
   (.seq (.draw [0, 0, 2, 6, 14, 31, 63] [.n 40 (.load 1 false) [.t 3], .n 41 (.load 1 false) [.t 3], .n 42 (.raw 5 63 9) [.t 41], .n 43 (.call 45) [.t 42], .n 44 (.call 43) [.t 43], .n 45 (.append 1 1 5) [.t 40, .t 44], .n 2 .mov [.t 45]])
   .ret)))))
theorem chk.tape_packed : chkF Tryz.prog 16 = some (46, ir.tape_packed, [.tmp 2]) := by kernel_rfl

/-- paravane/region.IsName -/
abbrev F.region_IsName : Nat := 17
def ir.region_IsName : IC :=
 (.seq (.reg [.n 2 .mov [.c (.bool false)]])
   (.seq (.seq (.reg [.n 6 .mov [.t 0], .n 7 (.len true) [.t 6], .n 8 .mov [.i 0]])
   (.block 0 (.loop (.seq (.reg [.n 9 (.bin .lss) [.t 8, .t 7]])
   (.seq (.cond (.t 9) .skip (.exit 0))
   (.seq (.block 1 (.seq (.reg [.n 10 .mov [.t 8], .n 3 .mov [.t 10]])
   (.seq (.reg [.n 11 .mov [.t 0], .n 12 .mov [.t 3], .n 13 (.raw 9 9 0) [.t 11, .t 12], .n 4 .mov [.t 13]])
   (.seq (.reg [.n 14 .mov [.t 4], .n 15 (.bin .geq) [.t 14, .c (.int .u8 97)], .n 16 .mov [.t 15], .w 17 .mov [.t 4] 16 true, .w 18 (.bin .leq) [.t 17, .c (.int .u8 122)] 16 true, .n 19 .pick [.t 16, .t 18, .c (.bool false)], .n 5 .mov [.t 19]])
   (.seq (.reg [.n 20 .mov [.t 5], .n 21 (.un .not) [.t 20], .n 22 .mov [.t 21], .w 23 .mov [.t 3] 22 true, .w 24 (.bin .eql) [.t 23, .i 0] 22 true, .w 25 .mov [.t 24] 22 true, .w 26 .mov [.t 4] 25 false, .w 27 (.bin .neq) [.t 26, .c (.int .u8 95)] 25 false, .w 28 .mov [.t 27] 25 false, .w 29 .mov [.t 4] 28 true, .w 30 (.bin .lss) [.t 29, .c (.int .u8 48)] 28 true, .w 31 .mov [.t 30] 28 true, .w 32 .mov [.t 4] 31 false, .w 33 (.bin .gtr) [.t 32, .c (.int .u8 57)] 31 false, .w 34 .pick [.t 31, .c (.bool true), .t 33] 28 true, .w 35 .pick [.t 28, .t 34, .c (.bool false)] 25 false, .w 36 .pick [.t 25, .c (.bool true), .t 35] 22 true, .n 37 .pick [.t 22, .t 36, .c (.bool false)]])
   (.cond (.t 37) (.seq (.reg [.n 2 .mov [.c (.bool false)]])
   .ret) .skip))))))
   (.reg [.n 38 (.bin .add) [.t 8, .i 1], .n 8 .mov [.t 38]])))))))
   (.seq (.reg [.n 39 .mov [.t 0], .n 40 (.len true) [.t 39], .n 41 (.call 46) [.t 40, .i 1, .i 16], .n 2 .mov [.t 41]])
   .ret)))
theorem chk.region_IsName : chkF Tryz.prog 17 = some (42, ir.region_IsName, [.tmp 2]) := by kernel_rfl

/-- slices.ContainsFunc[[]string,string] -/
abbrev F.slices_ContainsFunc_string_string : Nat := 18
def ir.slices_ContainsFunc_string_string : IC :=
 (.seq (.reg [.n 4 .mov [.c (.bool false)]])
   (.seq (.reg [.n 5 .mov [.t 0], .n 6 .mov [.t 1], .n 7 (.call 47) [.t 5, .t 6], .n 8 (.bin .geq) [.t 7, .i 0], .n 4 .mov [.t 8]])
   .ret))
theorem chk.slices_ContainsFunc_string_string : chkF Tryz.prog 18 = some (9, ir.slices_ContainsFunc_string_string, [.tmp 4]) := by kernel_rfl

/-- paravane/tape.Repair$1 -/
abbrev F.tape_Repair_1 : Nat := 19
def ir.tape_Repair_1 : IC :=
 (.seq (.reg [.n 2 .mov [.c (.bool false)]])
   (.seq (.reg [.n 3 .mov [.t 0], .n 4 (.len true) [.t 3], .n 5 (.bin .gtr) [.t 4, .i 65536], .n 2 .mov [.t 5]])
   .ret))
theorem chk.tape_Repair_1 : chkF Tryz.prog 19 = some (6, ir.tape_Repair_1, [.tmp 2]) := by kernel_rfl

/-- (paravane/tape.rack).whole -/
abbrev F.tape_rack_whole : Nat := 20
def ir.tape_rack_whole : IC :=
 (.seq (.reg [.n 4 .mov [.c .nils]])
   (.seq (.reg [.n 5 .mov [.c .nils]])
   (.seq (.reg [.n 10 .mov [.t 1], ⟨(some 11), .build [(.str ⟨#[]⟩), (.int .i64 0)] [(0, 1)], [.t 10], none⟩, .n 12 .box [.t 11], .n 6 (.alloc [.nilp]) [], .s (.store 1) [.t 6, .t 12]])
   (.seq (.block 0 (.loop (.seq (.seq (.reg [.n 13 (.load 1 false) [.t 6], .n 14 .nilck [.t 13], .n 15 (.faddr 1) [.t 14], .n 16 (.load 1 false) [.t 15], .n 17 .mov [.t 1], .n 18 (.len true) [.t 17], .n 19 (.bin .lss) [.t 16, .t 18]])
   (.cond (.t 19) .skip (.exit 0)))
   (.block 1 (.seq (.reg [.n 20 (.load 1 false) [.t 6], .n 21 .nilck [.t 20], .n 22 (.faddr 1) [.t 21], .n 23 (.load 1 false) [.t 22], .n 7 .mov [.t 23]])
   (.seq (.reg [.n 8 (.alloc [(.int .i64 0), (.int .i64 0), .nils]) []])
   (.seq (.seq (.reg [.n 24 (.mkfunc (.func 49) 0) [.t 6, .t 8], .n 25 (.call 48) [.t 24]])
   (.cond (.t 25) (.seq (.reg [.n 26 .mov [.t 0], .n 27 (.load 3 true) [.t 8], .n 28 (.mkslice 3 39) [.t 27], .n 29 (.call 51) [.t 26, .t 28]])
   (.exit 1)) .skip))
   (.seq (.reg [.n 30 (.load 1 false) [.t 6], .n 31 .mov [.t 7], .n 32 (.bin .add) [.t 31, .i 1], .n 33 .nilck [.t 30], .n 34 (.faddr 1) [.t 33], .s (.store 1) [.t 34, .t 32]])
   (.seq (.reg [.n 35 .mov [.t 5], .n 36 (.len false) [.t 35], .n 37 (.bin .sub) [.t 36, .i 1], .n 9 .mov [.t 37]])
   (.seq (.reg [.n 38 .mov [.t 9], .n 39 (.bin .geq) [.t 38, .i 0], .n 40 .mov [.t 39], .w 41 .mov [.t 5] 40 true, .w 42 .mov [.t 9] 40 true, .w 43 (.iaddrS 2) [.t 41, .t 42] 40 true, .w 44 (.faddr 1) [.t 43] 40 true, .w 45 (.load 1 false) [.t 44] 40 true, .w 46 .mov [.t 7] 40 true, .w 47 (.bin .sub) [.t 46, .i 1] 40 true, .w 48 (.bin .eql) [.t 45, .t 47] 40 true, .n 49 .pick [.t 40, .t 48, .c (.bool false)]])
   (.cond (.t 49) (.reg [.n 50 .mov [.t 5], .n 51 .mov [.t 9], .n 52 .mov [.t 7], .n 53 (.iaddrS 2) [.t 50, .t 51], .n 54 (.faddr 1) [.t 53], .s (.store 1) [.t 54, .t 52]]) (.reg [.n 55 .mov [.t 5], .n 56 .mov [.t 7], .n 57 .mov [.t 7], .n 58 (.build [(.int .i64 0), (.int .i64 0)] [(0, 1), (1, 1)]) [.t 56, .t 57], .n 59 (.mkslice 2 28) [.t 58], .n 60 (.append 2 16 28) [.t 55, .t 59], .n 5 .mov [.t 60]]))))))))))))
   (.seq (.reg [.n 61 .mov [.t 5], .n 4 .mov [.t 61]])
   .ret)))))
theorem chk.tape_rack_whole : chkF Tryz.prog 20 = some (62, ir.tape_rack_whole, [.tmp 4]) := by kernel_rfl

/-- (paravane/tape.rack).frames -/
abbrev F.tape_rack_frames : Nat := 21
def ir.tape_rack_frames : IC :=
 (.seq (.reg [.n 2 .mov [.c .nils], .n 3 .mov [.c (.bool false)]])
   (.seq (.seq (.reg [.n 7 .mov [.t 0], .n 8 (.raw 14 68 0) [.t 7], .n 9 (.bin .gtr) [.t 8, .i 128]])
   (.cond (.t 9) (.seq (.reg [.n 2 .mov [.c .nils], .n 3 .mov [.c (.bool false)]])
   .ret) .skip))
   (.seq (.reg [.n 4 .mov [.c .nils]])
   (.seq (.seq (.reg [.n 10 .mov [.t 0], .n 11 (.call 53) [.t 10], .n 12 (.call 52) [.t 11, .c (.func (.func 54) [] [])], .n 13 (.len false) [.t 12], .n 14 .mov [.i 0]])
   (.block 0 (.loop (.seq (.reg [.n 15 (.bin .lss) [.t 14, .t 13]])
   (.seq (.cond (.t 15) .skip (.exit 0))
   (.seq (.block 1 (.seq (.reg [.n 16 (.iaddrS 2) [.t 12, .t 14], .n 17 (.load 2 true) [.t 16], .n 6 (.alloc [(.int .i64 0), (.int .i64 0)]) [], .s (.store 2) [.t 6, .t 17]])
   (.draw [0, 0, 2, 0, 8, 0, 0, 96, 254, 510, 1023, 2047] [.n 18 .mov [.t 4], .n 19 (.iaddrA 2 1) [.t 6, .i 0], .n 20 (.load 1 false) [.t 19], .n 21 (.iaddrA 2 1) [.t 6, .i 1], .n 22 (.load 1 false) [.t 21], .n 23 .mov [.t 0], .n 24 (.load 2 true) [.t 6], .n 25 (.raw 11 68 0) [.t 23, .t 24], .n 26 (.build [(.int .i64 0), (.int .i64 0), .nils] [(0, 1), (1, 1), (2, 1)]) [.t 20, .t 22, .t 25], .n 27 (.mkslice 3 39) [.t 26], .n 28 (.append 3 40 39) [.t 18, .t 27], .n 4 .mov [.t 28]])))
   (.reg [.n 29 (.bin .add) [.t 14, .i 1], .n 14 .mov [.t 29]])))))))
   (.seq (.reg [.n 30 .mov [.t 4], .n 2 .mov [.t 30], .n 3 .mov [.c (.bool true)]])
   .ret)))))
theorem chk.tape_rack_frames : chkF Tryz.prog 21 = some (31, ir.tape_rack_frames, [.tmp 2, .tmp 3]) := by kernel_rfl

/-- paravane/volume.earOf -/
abbrev F.volume_earOf : Nat := 22
def ir.volume_earOf : IC :=
 (.seq (.reg [.n 5 .box [.t 2], .n 6 (.alloc [.nils, (.int .i64 0), (.int .i64 0), (.int .i64 0)]) [], .n 7 .mov [.i 0]])
   (.seq (.seq (.reg [.n 9 .mov [.t 0], .n 10 (.call 55) [.t 9], .n 8 .mov [.t 10]])
   (.seq (.reg [.n 11 .mov [.t 8], .n 12 (.bin .neq) [.t 11, .i 0]])
   (.cond (.t 12) (.seq (.reg [.n 13 (.build [.nils, (.int .i64 0), (.int .i64 0), (.int .i64 0)] []) [], .n 14 .mov [.t 8], .s (.store 4) [.t 6, .t 13], .n 7 .mov [.t 14]])
   .ret) .skip)))
   (.seq (.seq (.reg [.n 15 .mov [.t 1], .n 16 (.call 56) [.t 15, .i 0, .i 128], .n 17 (.un .not) [.t 16], .n 18 .mov [.t 17], .w 19 (.faddr 0) [.t 5] 18 false, .w 20 (.load 1 false) [.t 19] 18 false, .w 21 (.bin .lss) [.t 20, .i 0] 18 false, .n 22 .pick [.t 18, .c (.bool true), .t 21], .n 23 .mov [.t 22], .w 24 (.faddr 1) [.t 5] 23 false, .w 25 (.load 1 false) [.t 24] 23 false, .w 26 (.faddr 0) [.t 5] 23 false, .w 27 (.load 1 false) [.t 26] 23 false, .w 28 (.call 56) [.t 25, .t 27, .i 4096] 23 false, .w 29 (.un .not) [.t 28] 23 false, .n 30 .pick [.t 23, .c (.bool true), .t 29]])
   (.cond (.t 30) (.seq (.reg [.n 31 (.build [.nils, (.int .i64 0), (.int .i64 0), (.int .i64 0)] []) [], .s (.store 4) [.t 6, .t 31], .n 7 .mov [.i 102]])
   .ret) .skip))
   (.seq (.reg [.n 32 .mov [.t 0], .n 33 .mov [.t 1], .n 34 (.load 2 true) [.t 5], .n 35 (.build [.nils, (.int .i64 0), (.int .i64 0), (.int .i64 0)] [(0, 1), (1, 1), (2, 2)]) [.t 32, .t 33, .t 34], .s (.store 4) [.t 6, .t 35], .n 7 .mov [.i 0]])
   .ret))))
theorem chk.volume_earOf : chkF Tryz.prog 22 = some (36, ir.volume_earOf, [.cell 6 73, .tmp 7]) := by kernel_rfl

/-- paravane/volume.image -/
abbrev F.volume_image : Nat := 23
def ir.volume_image : IC :=
 (.seq (.reg [.n 3 .box [.t 0], .n 4 .box [.t 1], .n 5 .box [.t 2], .n 6 (.alloc [(.int .i64 0), (.int .i64 0), (.int .i64 0), (.int .i64 0), (.int .i64 0), (.int .i64 0), .nils]) [], .n 7 .mov [.i 0]])
   (.seq (.reg [.n 11 (.load 3 true) [.t 3], .n 12 (.load 3 true) [.t 4], .n 13 (.build [(.int .i64 0), (.int .i64 0), (.int .i64 0), (.int .i64 0), (.int .i64 0), (.int .i64 0)] [(0, 3), (3, 3)]) [.t 11, .t 12], .n 8 (.alloc [(.int .i64 0), (.int .i64 0), (.int .i64 0), (.int .i64 0), (.int .i64 0), (.int .i64 0)]) [], .s (.store 6) [.t 8, .t 13]])
   (.seq (.seq (.reg [.n 14 (.load 6 true) [.t 8], .n 15 (.call 57) [.t 14], .n 16 (.un .not) [.t 15]])
   (.cond (.t 16) (.seq (.reg [.n 17 (.build [(.int .i64 0), (.int .i64 0), (.int .i64 0), (.int .i64 0), (.int .i64 0), (.int .i64 0), .nils] []) [], .s (.store 7) [.t 6, .t 17], .n 7 .mov [.i 102]])
   .ret) .skip))
   (.seq (.reg [.n 18 (.load 3 true) [.t 3], .n 19 (.load 3 true) [.t 4], .n 20 (.build [(.int .i64 0), (.int .i64 0), (.int .i64 0), (.int .i64 0), (.int .i64 0), (.int .i64 0), .nils] [(0, 3), (3, 3)]) [.t 18, .t 19], .n 9 (.alloc [(.int .i64 0), (.int .i64 0), (.int .i64 0), (.int .i64 0), (.int .i64 0), (.int .i64 0), .nils]) [], .s (.store 7) [.t 9, .t 20]])
   (.seq (.seq (.reg [.n 21 (.load 6 true) [.t 8], .n 22 (.call 58) [.t 21]])
   (.block 0 (.range (.t 22) [23] (.reg [.n 10 (.alloc [(.int .i64 0), (.int .i64 0), (.int .i64 0)]) [], .s (.store 3) [.t 10, .t 23]]) (.block 1 (.draw [0, 1, 0, 0, 12, 28, 63, 127, 255] [.n 24 (.faddr 6) [.t 9], .n 25 (.load 1 false) [.t 24], .n 26 (.load 1 false) [.t 5], .n 27 (.load 3 true) [.t 10], .n 28 .callv [.t 26, .t 27], .n 29 (.mkslice 2 28) [.t 28], .n 30 (.append 2 16 28) [.t 25, .t 29], .n 31 (.faddr 6) [.t 9], .s (.store 1) [.t 31, .t 30]])))))
   (.seq (.reg [.n 32 (.load 7 true) [.t 9], .s (.store 7) [.t 6, .t 32], .n 7 .mov [.i 0]])
   .ret))))))
theorem chk.volume_image : chkF Tryz.prog 23 = some (33, ir.volume_image, [.cell 6 51, .tmp 7]) := by kernel_rfl

/-- (paravane/volume.ear).value -/
abbrev F.volume_ear_value : Nat := 24
def ir.volume_ear_value : IC :=
 (.seq (.reg [.n 2 .box [.t 0], .n 3 .box [.t 1], .n 4 (.alloc [(.int .i64 0), (.int .i64 0)]) []])
   (.seq (.reg [.n 5 (.build [(.int .i64 0), (.int .i64 0)] []) [], .n 6 (.mkfunc (.func 60) 0) [.t 2, .t 3], .n 7 (.call 59) [.t 5, .t 6, .c (.func (.func 62) [] [])], .s (.store 2) [.t 4, .t 7]])
   .ret))
theorem chk.volume_ear_value : chkF Tryz.prog 24 = some (8, ir.volume_ear_value, [.cell 4 28]) := by kernel_rfl

/-- paravane/volume.Time -/
abbrev F.volume_Time : Nat := 25
def ir.volume_Time : IC :=
 (.seq (.reg [.n 6 .mov [.i 0], .n 7 .mov [.i 0]])
   (.seq (.seq (.reg [.n 8 .mov [.t 0], .n 9 (.call 56) [.t 8, .i 0, .i 64], .n 10 (.un .not) [.t 9], .n 11 .mov [.t 10], .w 12 .mov [.t 1] 11 false, .w 13 (.call 56) [.t 12, .i 0, .i 32768] 11 false, .w 14 (.un .not) [.t 13] 11 false, .n 15 .pick [.t 11, .c (.bool true), .t 14], .n 16 .mov [.t 15], .w 17 .mov [.t 2] 16 false, .w 18 (.call 56) [.t 17, .i 0, .i 4096] 16 false, .w 19 (.un .not) [.t 18] 16 false, .n 20 .pick [.t 16, .c (.bool true), .t 19]])
   (.cond (.t 20) (.seq (.reg [.n 6 .mov [.i 0], .n 7 .mov [.i 7]])
   .ret) .skip))
   (.seq (.reg [.n 21 .mov [.t 0], .n 22 .mov [.t 1], .n 23 .mov [.t 2], .n 24 (.call 63) [.t 21, .t 22, .t 23], .n 6 .mov [.t 24], .n 7 .mov [.i 0]])
   .ret)))
theorem chk.volume_Time : chkF Tryz.prog 25 = some (25, ir.volume_Time, [.tmp 6, .tmp 7]) := by kernel_rfl

/-- paravane/volume.Name -/
abbrev F.volume_Name : Nat := 26
def ir.volume_Name : IC :=
 (.seq (.reg [.n 5 .box [.t 1], .n 8 (.alloc [(.int .i64 0), (.int .i64 0), (.int .i64 0), .nils, (.int .i64 0), (.int .i64 0)]) [], .n 9 .mov [.i 0]])
   (.seq (.reg [.n 13 .mov [.t 0], .n 14 .mov [.t 2], .n 15 .mov [.t 3], .n 16 .mov [.t 3], .n 17 (.build [(.int .i64 0), (.int .i64 0)] [(0, 1), (1, 1)]) [.t 15, .t 16], .n 18 (.call 22) [.t 13, .t 14, .t 17], .n 12 .mov [.t 18], .n 19 (.extract 0) [.t 12], .n 20 (.extract 1) [.t 12], .n 10 (.alloc [.nils, (.int .i64 0), (.int .i64 0), (.int .i64 0)]) [], .s (.store 4) [.t 10, .t 19], .n 11 .mov [.t 20]])
   (.seq (.seq (.reg [.n 21 .mov [.t 11], .n 22 (.bin .neq) [.t 21, .i 0]])
   (.cond (.t 22) (.seq (.reg [.n 23 (.build [(.int .i64 0), (.int .i64 0), (.int .i64 0), .nils, (.int .i64 0), (.int .i64 0)] []) [], .n 24 .mov [.t 11], .s (.store 6) [.t 8, .t 23], .n 9 .mov [.t 24]])
   .ret) .skip))
   (.seq (.seq (.reg [.n 25 (.load 3 true) [.t 5], .n 26 (.call 64) [.t 25], .n 27 (.un .not) [.t 26]])
   (.cond (.t 27) (.seq (.reg [.n 28 (.build [(.int .i64 0), (.int .i64 0), (.int .i64 0), .nils, (.int .i64 0), (.int .i64 0)] []) [], .s (.store 6) [.t 8, .t 28], .n 9 .mov [.i 102]])
   .ret) .skip))
   (.seq (.draw [0, 0, 0, 6, 0, 0, 62, 127, 255, 511] [.n 29 (.load 3 true) [.t 5], .n 30 (.load 4 true) [.t 10], .n 31 (.load 3 true) [.t 5], .n 32 (.call 61) [.t 30, .t 31], .n 33 (.load 4 true) [.t 10], .n 34 (.load 3 true) [.t 5], .n 35 (.call 24) [.t 33, .t 34], .n 36 (.build [(.int .i64 0), (.int .i64 0), (.int .i64 0), .nils, (.int .i64 0), (.int .i64 0)] [(0, 3), (3, 1), (4, 2)]) [.t 29, .t 32, .t 35], .s (.store 6) [.t 8, .t 36], .n 9 .mov [.i 0]])
   .ret)))))
theorem chk.volume_Name : chkF Tryz.prog 26 = some (37, ir.volume_Name, [.cell 8 82, .tmp 9]) := by kernel_rfl

/-- paravane/paravanelaw10.echoes -/
abbrev F.law10_echoes : Nat := 27
def ir.law10_echoes : IC :=
 (.seq (.reg [.n 0 .mov [.c .nils]])
   (.seq (.reg [.n 1 (.mkslice 1 3) [.i 0, .i 0, .i 5, .i 0], .n 2 (.call 8) [.t 1], .n 3 (.build [(.int .i64 0), (.int .i64 0), .nils] [(2, 1)]) [.t 2], .n 4 (.mkslice 1 3) [.i 0, .i 1, .i 2, .i 7], .n 5 (.call 8) [.t 4], .n 6 (.build [(.int .i64 0), (.int .i64 0), .nils] [(0, 1), (2, 1)]) [.i 2, .t 5], .n 7 (.mkslice 3 42) [.t 3, .t 6], .n 0 .mov [.t 7]])
   .ret))
theorem chk.law10_echoes : chkF Tryz.prog 27 = some (8, ir.law10_echoes, [.tmp 0]) := by kernel_rfl

/-- paravane/volume.Enclose -/
abbrev F.volume_Enclose : Nat := 28
def ir.volume_Enclose : IC :=
 (.seq (.reg [.n 6 .box [.t 1], .n 7 .box [.t 2], .n 9 .box [.t 4], .n 10 (.alloc [(.int .i64 0), (.int .i64 0), (.int .i64 0), (.int .i64 0), (.int .i64 0), (.int .i64 0), .nils]) [], .n 11 .mov [.i 0]])
   (.seq (.reg [.n 15 .mov [.t 0], .n 16 .mov [.t 3], .n 17 (.load 2 true) [.t 9], .n 18 (.call 22) [.t 15, .t 16, .t 17], .n 14 .mov [.t 18], .n 19 (.extract 0) [.t 14], .n 20 (.extract 1) [.t 14], .n 12 (.alloc [.nils, (.int .i64 0), (.int .i64 0), (.int .i64 0)]) [], .s (.store 4) [.t 12, .t 19], .n 13 .mov [.t 20]])
   (.seq (.seq (.reg [.n 21 .mov [.t 13], .n 22 (.bin .neq) [.t 21, .i 0]])
   (.cond (.t 22) (.seq (.reg [.n 23 (.build [(.int .i64 0), (.int .i64 0), (.int .i64 0), (.int .i64 0), (.int .i64 0), (.int .i64 0), .nils] []) [], .n 24 .mov [.t 13], .s (.store 7) [.t 10, .t 23], .n 11 .mov [.t 24]])
   .ret) .skip))
   (.seq (.reg [.n 25 (.load 3 true) [.t 6], .n 26 (.load 3 true) [.t 7], .n 27 (.load 4 true) [.t 12], .n 28 (.mkfunc (.func 65) 1) [.t 27], .n 29 (.call 23) [.t 25, .t 26, .t 28], .n 30 (.extract 0) [.t 29], .n 31 (.extract 1) [.t 29], .s (.store 7) [.t 10, .t 30], .n 11 .mov [.t 31]])
   .ret))))
theorem chk.volume_Enclose : chkF Tryz.prog 28 = some (32, ir.volume_Enclose, [.cell 10 51, .tmp 11]) := by kernel_rfl

/-- paravane/paravaneref10.SameNamed -/
abbrev F.ref10_SameNamed : Nat := 29
def ir.ref10_SameNamed : IC :=
 (.seq (.reg [.n 2 .box [.t 0], .n 3 .box [.t 1], .n 4 .mov [.c (.bool false)]])
   (.seq (.seq (.reg [.n 6 (.faddr 0) [.t 2], .n 7 (.load 3 true) [.t 6], .n 8 (.faddr 0) [.t 3], .n 9 (.load 3 true) [.t 8], .n 10 (.eqs true [0, 0, 0]) [.t 7, .t 9], .n 11 .mov [.t 10], .w 12 (.faddr 4) [.t 2] 11 false, .w 13 (.load 2 true) [.t 12] 11 false, .w 14 (.faddr 4) [.t 3] 11 false, .w 15 (.load 2 true) [.t 14] 11 false, .w 16 (.eqs true [0, 0]) [.t 13, .t 15] 11 false, .n 17 .pick [.t 11, .c (.bool true), .t 16], .n 18 .mov [.t 17], .w 19 (.faddr 3) [.t 2] 18 false, .w 20 (.load 1 false) [.t 19] 18 false, .w 21 (.len false) [.t 20] 18 false, .w 22 (.faddr 3) [.t 3] 18 false, .w 23 (.load 1 false) [.t 22] 18 false, .w 24 (.len false) [.t 23] 18 false, .w 25 (.bin .neq) [.t 21, .t 24] 18 false, .n 26 .pick [.t 18, .c (.bool true), .t 25]])
   (.cond (.t 26) (.seq (.reg [.n 4 .mov [.c (.bool false)]])
   .ret) .skip))
   (.seq (.seq (.reg [.n 5 .mov [.i 0]])
   (.block 0 (.loop (.seq (.seq (.reg [.n 27 .mov [.t 5], .n 28 (.faddr 3) [.t 2], .n 29 (.load 1 false) [.t 28], .n 30 (.len false) [.t 29], .n 31 (.bin .lss) [.t 27, .t 30]])
   (.cond (.t 31) .skip (.exit 0)))
   (.seq (.block 1 (.seq (.draw [0, 1, 0, 7, 15, 0, 32, 0, 224, 480, 1023] [.n 34 (.faddr 3) [.t 2], .n 35 (.load 1 false) [.t 34], .n 36 .mov [.t 5], .n 37 (.iaddrS 2) [.t 35, .t 36], .n 38 (.load 2 true) [.t 37], .n 39 (.faddr 3) [.t 3], .n 40 (.load 1 false) [.t 39], .n 41 .mov [.t 5], .n 42 (.iaddrS 2) [.t 40, .t 41], .n 43 (.load 2 true) [.t 42], .n 44 (.eqs true [0, 0]) [.t 38, .t 43]])
   (.cond (.t 44) (.seq (.reg [.n 4 .mov [.c (.bool false)]])
   .ret) .skip)))
   (.reg [.n 32 .mov [.t 5], .n 33 (.bin .add) [.t 32, .i 1], .n 5 .mov [.t 33]]))))))
   (.seq (.reg [.n 4 .mov [.c (.bool true)]])
   .ret))))
theorem chk.ref10_SameNamed : chkF Tryz.prog 29 = some (45, ir.ref10_SameNamed, [.tmp 4]) := by kernel_rfl

/-- paravane/volume.Ring -/
abbrev F.volume_Ring : Nat := 30
def ir.volume_Ring : IC :=
 (.seq (.reg [.n 6 .mov [.c .nils], .n 7 .mov [.i 0]])
   (.seq (.seq (.reg [.n 11 .mov [.t 0], .n 12 .mov [.t 1], .n 13 .mov [.t 2], .n 14 (.call 66) [.t 11, .i 16777216, .t 12, .t 13], .n 15 (.un .not) [.t 14]])
   (.cond (.t 15) (.seq (.reg [.n 6 .mov [.c .nils], .n 7 .mov [.i 2]])
   .ret) .skip))
   (.seq (.reg [.n 8 .mov [.c .nils]])
   (.seq (.seq (.reg [.n 16 .mov [.t 0], .n 17 (.len false) [.t 16], .n 18 .mov [.i 0]])
   (.block 0 (.loop (.seq (.reg [.n 19 (.bin .lss) [.t 18, .t 17]])
   (.seq (.cond (.t 19) .skip (.exit 0))
   (.seq (.block 1 (.seq (.reg [.n 20 .mov [.t 18], .n 21 (.iaddrS 1) [.t 16, .t 18], .n 22 (.load 1 false) [.t 21], .n 9 .mov [.t 20], .n 10 .mov [.t 22]])
   (.seq (.seq (.reg [.n 23 .mov [.t 9], .n 24 .mov [.t 1], .n 25 (.bin .geq) [.t 23, .t 24]])
   (.cond (.t 25) (.reg [.n 26 .mov [.t 10], .n 27 .mov [.t 2], .n 28 .mov [.t 8], .n 29 .mov [.t 9], .n 30 .mov [.t 1], .n 31 (.bin .sub) [.t 29, .t 30], .n 32 (.iaddrS 1) [.t 28, .t 31], .n 33 (.load 1 false) [.t 32], .n 34 (.bin .mul) [.t 27, .t 33], .n 35 (.call 67) [.t 34], .n 36 (.bin .add) [.t 26, .t 35], .n 10 .mov [.t 36]]) .skip))
   (.seq (.seq (.reg [.n 37 .mov [.t 10], .n 38 (.call 56) [.t 37, .i (-1073741824), .i 1073741824], .n 39 (.un .not) [.t 38]])
   (.cond (.t 39) (.seq (.reg [.n 6 .mov [.c .nils], .n 7 .mov [.i 7]])
   .ret) .skip))
   (.reg [.n 40 .mov [.t 8], .n 41 .mov [.t 10], .n 42 (.mkslice 1 3) [.t 41], .n 43 (.append 1 8 3) [.t 40, .t 42], .n 8 .mov [.t 43]])))))
   (.reg [.n 44 (.bin .add) [.t 18, .i 1], .n 18 .mov [.t 44]])))))))
   (.seq (.reg [.n 45 .mov [.t 8], .n 6 .mov [.t 45], .n 7 .mov [.i 0]])
   .ret)))))
theorem chk.volume_Ring : chkF Tryz.prog 30 = some (46, ir.volume_Ring, [.tmp 6, .tmp 7]) := by kernel_rfl

/-- paravane/volume.Unring -/
abbrev F.volume_Unring : Nat := 31
def ir.volume_Unring : IC :=
 (.seq (.reg [.n 6 .mov [.c .nils], .n 7 .mov [.i 0]])
   (.seq (.seq (.reg [.n 11 .mov [.t 0], .n 12 .mov [.t 1], .n 13 .mov [.t 2], .n 14 (.call 66) [.t 11, .i 1073741824, .t 12, .t 13], .n 15 (.un .not) [.t 14]])
   (.cond (.t 15) (.seq (.reg [.n 6 .mov [.c .nils], .n 7 .mov [.i 2]])
   .ret) .skip))
   (.seq (.reg [.n 8 .mov [.c .nils]])
   (.seq (.seq (.reg [.n 16 .mov [.t 0], .n 17 (.len false) [.t 16], .n 18 .mov [.i 0]])
   (.block 0 (.loop (.seq (.reg [.n 19 (.bin .lss) [.t 18, .t 17]])
   (.seq (.cond (.t 19) .skip (.exit 0))
   (.seq (.block 1 (.seq (.reg [.n 20 .mov [.t 18], .n 21 (.iaddrS 1) [.t 16, .t 18], .n 22 (.load 1 false) [.t 21], .n 9 .mov [.t 20], .n 10 .mov [.t 22]])
   (.seq (.seq (.reg [.n 23 .mov [.t 9], .n 24 .mov [.t 1], .n 25 (.bin .geq) [.t 23, .t 24]])
   (.cond (.t 25) (.reg [.n 26 .mov [.t 10], .n 27 .mov [.t 2], .n 28 .mov [.t 0], .n 29 .mov [.t 9], .n 30 .mov [.t 1], .n 31 (.bin .sub) [.t 29, .t 30], .n 32 (.iaddrS 1) [.t 28, .t 31], .n 33 (.load 1 false) [.t 32], .n 34 (.bin .mul) [.t 27, .t 33], .n 35 (.call 67) [.t 34], .n 36 (.bin .sub) [.t 26, .t 35], .n 10 .mov [.t 36]]) .skip))
   (.reg [.n 37 .mov [.t 8], .n 38 .mov [.t 10], .n 39 (.mkslice 1 3) [.t 38], .n 40 (.append 1 8 3) [.t 37, .t 39], .n 8 .mov [.t 40]]))))
   (.reg [.n 41 (.bin .add) [.t 18, .i 1], .n 18 .mov [.t 41]])))))))
   (.seq (.reg [.n 42 .mov [.t 8], .n 6 .mov [.t 42], .n 7 .mov [.i 0]])
   .ret)))))
theorem chk.volume_Unring : chkF Tryz.prog 31 = some (43, ir.volume_Unring, [.tmp 6, .tmp 7]) := by kernel_rfl

/-- paravane/volume.Join -/
abbrev F.volume_Join : Nat := 32
def ir.volume_Join : IC :=
 (.seq (.reg [.n 2 .box [.t 0], .n 3 .box [.t 1], .n 4 (.alloc [(.int .i64 0), (.int .i64 0), (.int .i64 0), (.int .i64 0), (.int .i64 0), (.int .i64 0), .nils]) [], .n 5 (.alloc [(.int .i64 0)]) []])
   (.seq (.reg [.n 13 (.load 7 true) [.t 2], .n 14 (.call 68) [.t 13], .n 12 .mov [.t 14], .n 15 (.extract 0) [.t 12], .n 16 (.extract 1) [.t 12], .n 6 (.alloc [(.int .i64 0), (.int .i64 0), (.int .i64 0), (.int .i64 0), (.int .i64 0), (.int .i64 0), .nils]) [], .s (.store 7) [.t 6, .t 15], .n 7 .mov [.t 16]])
   (.seq (.seq (.reg [.n 17 .mov [.t 7], .n 18 (.bin .neq) [.t 17, .i 0]])
   (.cond (.t 18) (.seq (.reg [.n 19 (.build [(.int .i64 0), (.int .i64 0), (.int .i64 0), (.int .i64 0), (.int .i64 0), (.int .i64 0), .nils] []) [], .n 20 .mov [.t 7], .s (.store 7) [.t 4, .t 19], .s (.store 1) [.t 5, .t 20]])
   .ret) .skip))
   (.seq (.reg [.n 22 (.load 7 true) [.t 3], .n 23 (.call 68) [.t 22], .n 21 .mov [.t 23], .n 24 (.extract 0) [.t 21], .n 25 (.extract 1) [.t 21], .n 8 (.alloc [(.int .i64 0), (.int .i64 0), (.int .i64 0), (.int .i64 0), (.int .i64 0), (.int .i64 0), .nils]) [], .s (.store 7) [.t 8, .t 24], .n 7 .mov [.t 25]])
   (.seq (.seq (.reg [.n 26 .mov [.t 7], .n 27 (.bin .neq) [.t 26, .i 0]])
   (.cond (.t 27) (.seq (.reg [.n 28 (.build [(.int .i64 0), (.int .i64 0), (.int .i64 0), (.int .i64 0), (.int .i64 0), (.int .i64 0), .nils] []) [], .n 29 .mov [.t 7], .s (.store 7) [.t 4, .t 28], .s (.store 1) [.t 5, .t 29]])
   .ret) .skip))
   (.seq (.reg [.n 30 (.faddr 0) [.t 6], .n 31 (.load 6 true) [.t 30], .n 32 (.faddr 0) [.t 8], .n 33 (.load 6 true) [.t 32], .n 34 (.call 69) [.t 31, .t 33], .n 9 (.alloc [(.int .i64 0), (.int .i64 0), (.int .i64 0), (.int .i64 0), (.int .i64 0), (.int .i64 0)]) [], .s (.store 6) [.t 9, .t 34]])
   (.seq (.seq (.draw [0, 1, 0, 4, 15, 0, 32, 127, 255, 0, 512, 0, 2048, 7935, 16383, 32767] [.n 35 (.load 6 true) [.t 9], .n 36 (.call 70) [.t 35], .n 37 (.faddr 0) [.t 6], .n 38 (.load 6 true) [.t 37], .n 39 (.call 70) [.t 38], .n 40 (.faddr 0) [.t 8], .n 41 (.load 6 true) [.t 40], .n 42 (.call 70) [.t 41], .n 43 (.bin .add) [.t 39, .t 42], .n 44 (.faddr 0) [.t 6], .n 45 (.load 6 true) [.t 44], .n 46 (.faddr 0) [.t 8], .n 47 (.load 6 true) [.t 46], .n 48 (.call 71) [.t 45, .t 47], .n 49 (.bin .sub) [.t 43, .t 48], .n 50 (.bin .neq) [.t 36, .t 49]])
   (.cond (.t 50) (.seq (.reg [.n 51 (.build [(.int .i64 0), (.int .i64 0), (.int .i64 0), (.int .i64 0), (.int .i64 0), (.int .i64 0), .nils] []) [], .s (.store 7) [.t 4, .t 51], .s (.store 1) [.t 5, .i 103]])
   .ret) .skip))
   (.seq (.seq (.reg [.n 52 (.load 6 true) [.t 9], .n 53 (.call 72) [.t 52], .n 54 (.un .not) [.t 53]])
   (.cond (.t 54) (.seq (.reg [.n 55 (.build [(.int .i64 0), (.int .i64 0), (.int .i64 0), (.int .i64 0), (.int .i64 0), (.int .i64 0), .nils] []) [], .s (.store 7) [.t 4, .t 55], .s (.store 1) [.t 5, .i 3]])
   .ret) .skip))
   (.seq (.reg [.n 56 (.faddr 0) [.t 9], .n 57 (.load 3 true) [.t 56], .n 58 (.faddr 3) [.t 9], .n 59 (.load 3 true) [.t 58], .n 60 (.build [(.int .i64 0), (.int .i64 0), (.int .i64 0), (.int .i64 0), (.int .i64 0), (.int .i64 0), .nils] [(0, 3), (3, 3)]) [.t 57, .t 59], .n 10 (.alloc [(.int .i64 0), (.int .i64 0), (.int .i64 0), (.int .i64 0), (.int .i64 0), (.int .i64 0), .nils]) [], .s (.store 7) [.t 10, .t 60]])
   (.seq (.seq (.reg [.n 61 (.load 6 true) [.t 9], .n 62 (.call 58) [.t 61]])
   (.block 0 (.range (.t 62) [63] (.reg [.n 11 (.alloc [(.int .i64 0), (.int .i64 0), (.int .i64 0)]) [], .s (.store 3) [.t 11, .t 63]]) (.block 1 (.block 2 (.seq (.reg [.n 78 (.faddr 0) [.t 6], .n 79 (.load 6 true) [.t 78], .n 80 (.load 3 true) [.t 11], .n 81 (.call 73) [.t 79, .t 80], .n 82 (.un .not) [.t 81], .n 77 .mov [.t 82]])
   (.cond (.t 77) (.draw [0, 1, 0, 4, 0, 16, 0, 112, 252, 508, 1020, 2047, 4095, 8191] [.n 83 (.faddr 6) [.t 10], .n 84 (.load 1 false) [.t 83], .n 85 (.faddr 6) [.t 8], .n 86 (.load 1 false) [.t 85], .n 87 (.faddr 0) [.t 8], .n 88 (.load 6 true) [.t 87], .n 89 (.load 3 true) [.t 11], .n 90 (.call 74) [.t 88, .t 89], .n 91 (.iaddrS 1) [.t 86, .t 90], .n 92 (.load 1 false) [.t 91], .n 93 (.mkslice 1 3) [.t 92], .n 94 (.append 1 8 3) [.t 84, .t 93], .n 95 (.faddr 6) [.t 10], .s (.store 1) [.t 95, .t 94]]) (.seq (.draw [0, 1, 0, 7, 15, 31, 63, 31, 159, 31, 927, 2047, 4095, 31, 8223, 31, 32799, 31, 231327, 518047, 1042335, 2097151, 4194303, 8388607] [.n 97 (.faddr 0) [.t 8], .n 98 (.load 6 true) [.t 97], .n 99 (.load 3 true) [.t 11], .n 100 (.call 73) [.t 98, .t 99], .n 101 .mov [.t 100], .w 102 (.faddr 6) [.t 6] 101 true, .w 103 (.load 1 false) [.t 102] 101 true, .w 104 (.faddr 0) [.t 6] 101 true, .w 105 (.load 6 true) [.t 104] 101 true, .w 106 (.load 3 true) [.t 11] 101 true, .w 107 (.call 74) [.t 105, .t 106] 101 true, .w 108 (.iaddrS 1) [.t 103, .t 107] 101 true, .w 109 (.load 1 false) [.t 108] 101 true, .w 110 (.faddr 6) [.t 8] 101 true, .w 111 (.load 1 false) [.t 110] 101 true, .w 112 (.faddr 0) [.t 8] 101 true, .w 113 (.load 6 true) [.t 112] 101 true, .w 114 (.load 3 true) [.t 11] 101 true, .w 115 (.call 74) [.t 113, .t 114] 101 true, .w 116 (.iaddrS 1) [.t 111, .t 115] 101 true, .w 117 (.load 1 false) [.t 116] 101 true, .w 118 (.bin .neq) [.t 109, .t 117] 101 true, .n 119 .pick [.t 101, .t 118, .c (.bool false)], .n 96 .mov [.t 119]])
   (.cond (.t 96) (.seq (.reg [.n 120 (.build [(.int .i64 0), (.int .i64 0), (.int .i64 0), (.int .i64 0), (.int .i64 0), (.int .i64 0), .nils] []) [], .s (.store 7) [.t 4, .t 120], .s (.store 1) [.t 5, .i 104]])
   .ret) (.draw [0, 1, 0, 4, 0, 16, 0, 112, 252, 508, 1020, 2047, 4095, 8191] [.n 64 (.faddr 6) [.t 10], .n 65 (.load 1 false) [.t 64], .n 66 (.faddr 6) [.t 6], .n 67 (.load 1 false) [.t 66], .n 68 (.faddr 0) [.t 6], .n 69 (.load 6 true) [.t 68], .n 70 (.load 3 true) [.t 11], .n 71 (.call 74) [.t 69, .t 70], .n 72 (.iaddrS 1) [.t 67, .t 71], .n 73 (.load 1 false) [.t 72], .n 74 (.mkslice 1 3) [.t 73], .n 75 (.append 1 8 3) [.t 65, .t 74], .n 76 (.faddr 6) [.t 10], .s (.store 1) [.t 76, .t 75]]))))))))))
   (.seq (.reg [.n 121 (.load 7 true) [.t 10], .s (.store 7) [.t 4, .t 121], .s (.store 1) [.t 5, .i 0]])
   .ret)))))))))))
theorem chk.volume_Join : chkF Tryz.prog 32 = some (122, ir.volume_Join, [.cell 4 93, .cell 5 43]) := by kernel_rfl

/-- paravane/paravaneref00.Alike -/
abbrev F.ref00_Alike : Nat := 33
def ir.ref00_Alike : IC :=
 (.seq (.reg [.n 4 .mov [.c (.bool false)]])
   (.seq (.seq (.reg [.n 6 .mov [.t 0], .n 7 (.len false) [.t 6], .n 8 .mov [.t 1], .n 9 (.len false) [.t 8], .n 10 (.bin .neq) [.t 7, .t 9]])
   (.cond (.t 10) (.seq (.reg [.n 4 .mov [.c (.bool false)]])
   .ret) .skip))
   (.seq (.seq (.reg [.n 5 .mov [.i 0]])
   (.block 0 (.loop (.seq (.seq (.reg [.n 11 .mov [.t 5], .n 12 .mov [.t 0], .n 13 (.len false) [.t 12], .n 14 (.bin .lss) [.t 11, .t 13]])
   (.cond (.t 14) .skip (.exit 0)))
   (.seq (.block 1 (.seq (.draw [0, 0, 3, 7, 0, 0, 48, 112, 255] [.n 17 .mov [.t 0], .n 18 .mov [.t 5], .n 19 (.iaddrS 1) [.t 17, .t 18], .n 20 (.load 1 false) [.t 19], .n 21 .mov [.t 1], .n 22 .mov [.t 5], .n 23 (.iaddrS 1) [.t 21, .t 22], .n 24 (.load 1 false) [.t 23], .n 25 (.bin .neq) [.t 20, .t 24]])
   (.cond (.t 25) (.seq (.reg [.n 4 .mov [.c (.bool false)]])
   .ret) .skip)))
   (.reg [.n 15 .mov [.t 5], .n 16 (.bin .add) [.t 15, .i 1], .n 5 .mov [.t 16]]))))))
   (.seq (.reg [.n 4 .mov [.c (.bool true)]])
   .ret))))
theorem chk.ref00_Alike : chkF Tryz.prog 33 = some (26, ir.ref00_Alike, [.tmp 4]) := by kernel_rfl

/-- paravane/paravaneref10.SameVolume -/
abbrev F.ref10_SameVolume : Nat := 34
def ir.ref10_SameVolume : IC :=
 (.seq (.reg [.n 2 .box [.t 0], .n 3 .box [.t 1], .n 4 .mov [.c (.bool false)]])
   (.seq (.reg [.n 5 (.faddr 0) [.t 2], .n 6 (.load 3 true) [.t 5], .n 7 (.faddr 0) [.t 3], .n 8 (.load 3 true) [.t 7], .n 9 (.eqs false [0, 0, 0]) [.t 6, .t 8], .n 10 .mov [.t 9], .w 11 (.faddr 3) [.t 2] 10 true, .w 12 (.load 3 true) [.t 11] 10 true, .w 13 (.faddr 3) [.t 3] 10 true, .w 14 (.load 3 true) [.t 13] 10 true, .w 15 (.eqs false [0, 0, 0]) [.t 12, .t 14] 10 true, .n 16 .pick [.t 10, .t 15, .c (.bool false)], .n 17 .mov [.t 16], .w 18 (.faddr 6) [.t 2] 17 true, .w 19 (.load 1 false) [.t 18] 17 true, .w 20 (.faddr 6) [.t 3] 17 true, .w 21 (.load 1 false) [.t 20] 17 true, .w 22 (.call 33) [.t 19, .t 21] 17 true, .n 23 .pick [.t 17, .t 22, .c (.bool false)], .n 4 .mov [.t 23]])
   .ret))
theorem chk.ref10_SameVolume : chkF Tryz.prog 34 = some (24, ir.ref10_SameVolume, [.tmp 4]) := by kernel_rfl

/-- paravane/volume.Horizon -/
abbrev F.volume_Horizon : Nat := 35
def ir.volume_Horizon : IC :=
 (.seq (.reg [.n 4 (.alloc [.nils]) [], .n 5 .mov [.i 0], .n 6 .mov [.i 0]])
   (.scope (.seq (.reg [.n 14 .mov [.t 0], .n 15 .mov [.t 1], .n 16 (.call 75) [.t 14, .t 15], .n 13 .mov [.t 16], .n 17 (.extract 0) [.t 13], .n 18 (.extract 1) [.t 13], .n 7 (.alloc [(.int .i64 0), (.int .i64 0), .nils, (.int .i64 0)]) [], .s (.store 4) [.t 7, .t 17], .n 6 .mov [.t 18]])
   (.seq (.seq (.reg [.n 19 .mov [.t 6], .n 20 (.bin .neq) [.t 19, .i 0]])
   (.cond (.t 20) (.seq (.reg [.n 21 .mov [.t 6], .s (.store 1) [.t 4, .c .nils], .n 5 .mov [.i 0], .n 6 .mov [.t 21]])
   .ret) .skip))
   (.seq (.reg [.n 22 (.load 4 true) [.t 7], .n 23 (.call 76) [.t 22], .n 8 (.alloc [.nilm]) [], .s (.store 1) [.t 8, .t 23]])
   (.seq (.reg [.n 24 (.build [(.int .i64 0), (.int .i64 0)] []) [], .n 9 (.alloc [(.int .i64 0), (.int .i64 0)]) [], .s (.store 2) [.t 9, .t 24]])
   (.seq (.seq (.reg [.n 25 (.faddr 0) [.t 7], .n 26 (.iaddrA 2 1) [.t 25, .i 1], .n 27 (.load 1 false) [.t 26], .n 28 .mov [.i 0]])
   (.block 0 (.loop (.seq (.reg [.n 29 (.bin .lss) [.t 28, .t 27]])
   (.seq (.cond (.t 29) .skip (.exit 0))
   (.seq (.block 1 (.seq (.reg [.n 30 .mov [.t 28], .n 10 .mov [.t 30]])
   (.seq (.draw [0, 0, 2, 7, 0, 0, 48, 127] [.n 31 (.load 1 false) [.t 8], .n 32 .mov [.t 10], .n 33 (.build [(.int .i64 0), (.int .i64 0)] [(0, 1), (1, 1)]) [.i 0, .t 32], .n 34 (.lookup false) [.t 31, .t 33], .n 35 (.load 1 false) [.t 8], .n 36 (.load 2 true) [.t 9], .n 37 (.lookup false) [.t 35, .t 36], .n 38 (.bin .gtr) [.t 34, .t 37]])
   (.cond (.t 38) (.reg [.n 39 .mov [.t 10], .n 40 (.build [(.int .i64 0), (.int .i64 0)] [(0, 1), (1, 1)]) [.i 0, .t 39], .s (.store 2) [.t 9, .t 40]]) .skip))))
   (.reg [.n 41 (.bin .add) [.t 28, .i 1], .n 28 .mov [.t 41]])))))))
   (.seq (.reg [.n 42 (.load 1 false) [.t 8], .n 43 (.load 2 true) [.t 9], .n 44 (.lookup false) [.t 42, .t 43], .n 5 .mov [.t 44]])
   (.seq (.reg [.n 45 (.faddr 1) [.t 9], .n 46 (.load 1 false) [.t 45], .n 47 (.mkslice 1 3) [.t 46], .s (.store 1) [.t 4, .t 47]])
   (.seq (.label 0)
   (.seq (.block 2 (.loop (.seq (.seq (.reg [.n 48 (.load 1 false) [.t 4], .n 49 (.len false) [.t 48], .n 50 (.faddr 0) [.t 7], .n 51 (.iaddrA 2 1) [.t 50, .i 0], .n 52 (.load 1 false) [.t 51], .n 53 (.bin .lss) [.t 49, .t 52]])
   (.cond (.t 53) .skip (.exit 2)))
   (.block 3 (.seq (.draw [0, 0, 3, 0, 8, 0, 32, 120, 248, 0, 512, 2040, 4088, 8191, 0, 32767] [.n 54 (.load 1 false) [.t 8], .n 55 (.load 2 true) [.t 9], .n 56 (.lookup false) [.t 54, .t 55], .n 57 (.faddr 2) [.t 7], .n 58 (.load 1 false) [.t 57], .n 59 (.faddr 0) [.t 9], .n 60 (.load 1 false) [.t 59], .n 61 (.iaddrS 1) [.t 58, .t 60], .n 62 (.load 1 false) [.t 61], .n 63 (.faddr 1) [.t 9], .n 64 (.load 1 false) [.t 63], .n 65 (.iaddrS 1) [.t 62, .t 64], .n 66 (.load 1 false) [.t 65], .n 67 (.bin .sub) [.t 56, .t 66], .n 11 (.alloc [(.int .i64 0)]) [], .s (.store 1) [.t 11, .t 67]])
   (.seq (.reg [.n 68 (.load 4 true) [.t 7], .n 69 (.load 2 true) [.t 9], .n 70 (.call 77) [.t 68, .t 69]])
   (.block 4 (.range (.t 70) [71] (.reg [.n 12 (.alloc [(.int .i64 0), (.int .i64 0)]) [], .s (.store 2) [.t 12, .t 71]]) (.block 5 (.seq (.draw [0, 0, 3, 0, 15] [.n 72 (.load 1 false) [.t 8], .n 73 (.load 2 true) [.t 12], .n 74 (.lookup false) [.t 72, .t 73], .n 75 (.load 1 false) [.t 11], .n 76 (.bin .eql) [.t 74, .t 75]])
   (.cond (.t 76) (.seq (.draw [0, 0, 2, 6, 15, 0, 31, 127] [.n 77 (.load 1 false) [.t 4], .n 78 (.faddr 1) [.t 12], .n 79 (.load 1 false) [.t 78], .n 80 (.mkslice 1 3) [.t 79], .n 81 (.append 1 8 3) [.t 77, .t 80], .n 82 (.load 2 true) [.t 12], .s (.store 1) [.t 4, .t 81], .s (.store 2) [.t 9, .t 82]])
   (.exit 3)) .skip)))))))))))
   (.seq (.reg [.n 83 (.load 1 false) [.t 4], .n 84 .mov [.t 5], .s (.store 1) [.t 4, .t 83], .n 5 .mov [.t 84], .n 6 .mov [.i 0]])
   .ret))))))))))))
theorem chk.volume_Horizon : chkF Tryz.prog 35 = some (85, ir.volume_Horizon, [.cell 4 23, .tmp 5, .tmp 6]) := by kernel_rfl

/-- paravane/paravanelaw10.section -/
abbrev F.law10_section : Nat := 36
def ir.law10_section : IC :=
 (.seq (.reg [.n 0 .mov [.c .nils]])
   (.seq (.reg [.n 1 (.mkslice 1 3) [.i 5, .i 0, .i 0], .n 2 (.mkslice 1 3) [.i 0, .i 0, .i 9], .n 3 (.mkslice 1 3) [.i 4, .i 0, .i 1], .n 4 (.mkslice 1 23) [.t 1, .t 2, .t 3], .n 0 .mov [.t 4]])
   .ret))
theorem chk.law10_section : chkF Tryz.prog 36 = some (5, ir.law10_section, [.tmp 0]) := by kernel_rfl

/-- paravane/volume.Backed -/
abbrev F.volume_Backed : Nat := 37
def ir.volume_Backed : IC :=
 (.seq (.reg [.n 5 .box [.t 2], .n 6 .mov [.i 0], .n 7 .mov [.i 0]])
   (.seq (.reg [.n 19 .mov [.t 0], .n 20 .mov [.t 1], .n 21 (.call 75) [.t 19, .t 20], .n 18 .mov [.t 21], .n 22 (.extract 0) [.t 18], .n 23 (.extract 1) [.t 18], .n 8 (.alloc [(.int .i64 0), (.int .i64 0), .nils, (.int .i64 0)]) [], .s (.store 4) [.t 8, .t 22], .n 9 .mov [.t 23]])
   (.seq (.seq (.reg [.n 24 .mov [.t 9], .n 25 (.bin .neq) [.t 24, .i 0]])
   (.cond (.t 25) (.seq (.reg [.n 26 .mov [.t 9], .n 6 .mov [.i 0], .n 7 .mov [.t 26]])
   .ret) .skip))
   (.seq (.reg [.n 28 (.load 1 false) [.t 5], .n 29 (.call 78) [.t 28], .n 27 .mov [.t 29], .n 30 (.extract 0) [.t 27], .n 31 (.extract 1) [.t 27], .n 10 (.alloc [(.int .i64 0), (.int .i64 0)]) [], .s (.store 2) [.t 10, .t 30], .n 11 .mov [.t 31]])
   (.seq (.seq (.reg [.n 32 .mov [.t 11], .n 33 (.un .not) [.t 32], .n 34 .mov [.t 33], .w 35 (.load 2 true) [.t 10] 34 false, .w 36 (.faddr 0) [.t 8] 34 false, .w 37 (.load 2 true) [.t 36] 34 false, .w 38 (.eqs true [0, 0]) [.t 35, .t 37] 34 false, .n 39 .pick [.t 34, .c (.bool true), .t 38], .n 40 .mov [.t 39], .w 41 (.load 1 false) [.t 5] 40 false, .w 42 (.call 79) [.t 41, .i 70368744177664] 40 false, .w 43 (.un .not) [.t 42] 40 false, .n 44 .pick [.t 40, .c (.bool true), .t 43]])
   (.cond (.t 44) (.seq (.reg [.n 6 .mov [.i 0], .n 7 .mov [.i 106]])
   .ret) .skip))
   (.seq (.seq (.reg [.n 45 (.faddr 0) [.t 8], .n 46 (.iaddrA 2 1) [.t 45, .i 0], .n 47 (.load 1 false) [.t 46], .n 48 .mov [.i 0]])
   (.block 0 (.loop (.seq (.reg [.n 49 (.bin .lss) [.t 48, .t 47]])
   (.seq (.cond (.t 49) .skip (.exit 0))
   (.seq (.block 1 (.seq (.reg [.n 50 .mov [.t 48], .n 12 .mov [.t 50]])
   (.seq (.reg [.n 51 (.load 1 false) [.t 5], .n 52 .mov [.t 12], .n 53 (.iaddrS 1) [.t 51, .t 52], .n 54 (.load 1 false) [.t 53], .n 55 (.len false) [.t 54], .n 56 .mov [.i 0]])
   (.block 2 (.loop (.seq (.reg [.n 57 (.bin .lss) [.t 56, .t 55]])
   (.seq (.cond (.t 57) .skip (.exit 2))
   (.seq (.block 3 (.seq (.reg [.n 58 .mov [.t 56], .n 59 (.iaddrS 1) [.t 54, .t 56], .n 60 (.load 1 false) [.t 59], .n 14 (.alloc [(.int .i64 0)]) [], .n 13 .mov [.t 58], .s (.store 1) [.t 14, .t 60]])
   (.seq (.reg [.n 61 (.faddr 2) [.t 8], .n 62 (.load 1 false) [.t 61], .n 63 .mov [.t 12], .n 64 (.iaddrS 1) [.t 62, .t 63], .n 65 (.load 1 false) [.t 64], .n 66 .mov [.t 13], .n 67 (.iaddrS 1) [.t 65, .t 66], .n 68 (.load 1 false) [.t 67], .n 15 (.alloc [(.int .i64 0)]) [], .s (.store 1) [.t 15, .t 68]])
   (.seq (.reg [.n 69 .mov [.t 12], .n 70 (.bin .add) [.t 69, .i 1], .n 71 (.faddr 0) [.t 8], .n 72 (.iaddrA 2 1) [.t 71, .i 0], .n 73 (.load 1 false) [.t 72], .n 74 (.bin .lss) [.t 70, .t 73], .n 75 .mov [.t 74], .w 76 (.load 1 false) [.t 14] 75 false, .w 77 (.load 1 false) [.t 15] 75 false, .w 78 (.bin .geq) [.t 76, .t 77] 75 false, .n 79 .pick [.t 75, .c (.bool true), .t 78], .n 16 (.alloc [(.bool false)]) [], .s (.store 1) [.t 16, .t 79]])
   (.seq (.seq (.reg [.n 80 (.load 4 true) [.t 8], .n 81 .mov [.t 12], .n 82 .mov [.t 13], .n 83 (.build [(.int .i64 0), (.int .i64 0)] [(0, 1), (1, 1)]) [.t 81, .t 82], .n 84 (.call 77) [.t 80, .t 83]])
   (.block 4 (.range (.t 84) [85] (.reg [.n 17 (.alloc [(.int .i64 0), (.int .i64 0)]) [], .s (.store 2) [.t 17, .t 85]]) (.block 5 (.draw [0, 1, 3, 3, 3, 3, 35, 115, 243, 3, 515, 2035, 4083, 8187, 16383, 32767, 65535] [.n 86 (.load 1 false) [.t 16], .n 87 .mov [.t 86], .w 88 (.load 1 false) [.t 14] 87 true, .w 89 (.load 1 false) [.t 15] 87 true, .w 90 (.load 1 false) [.t 5] 87 true, .w 91 (.faddr 0) [.t 17] 87 true, .w 92 (.load 1 false) [.t 91] 87 true, .w 93 (.iaddrS 1) [.t 90, .t 92] 87 true, .w 94 (.load 1 false) [.t 93] 87 true, .w 95 (.faddr 1) [.t 17] 87 true, .w 96 (.load 1 false) [.t 95] 87 true, .w 97 (.iaddrS 1) [.t 94, .t 96] 87 true, .w 98 (.load 1 false) [.t 97] 87 true, .w 99 (.bin .add) [.t 89, .t 98] 87 true, .w 100 (.bin .geq) [.t 88, .t 99] 87 true, .n 101 .pick [.t 87, .t 100, .c (.bool false)], .s (.store 1) [.t 16, .t 101]])))))
   (.seq (.reg [.n 102 (.load 1 false) [.t 16], .n 103 (.un .not) [.t 102]])
   (.cond (.t 103) (.seq (.reg [.n 6 .mov [.i 0], .n 7 .mov [.i 106]])
   .ret) .skip)))))))
   (.reg [.n 104 (.bin .add) [.t 56, .i 1], .n 56 .mov [.t 104]])))))))))
   (.reg [.n 105 (.bin .add) [.t 48, .i 1], .n 48 .mov [.t 105]])))))))
   (.seq (.reg [.n 106 (.load 1 false) [.t 5], .n 107 (.iaddrS 1) [.t 106, .i 0], .n 108 (.load 1 false) [.t 107], .n 109 (.call 80) [.t 108], .n 6 .mov [.t 109], .n 7 .mov [.i 0]])
   .ret)))))))
theorem chk.volume_Backed : chkF Tryz.prog 37 = some (110, ir.volume_Backed, [.tmp 6, .tmp 7]) := by kernel_rfl

/-- paravane/tape.within -/
abbrev F.tape_within : Nat := 38
def ir.tape_within : IC :=
 (.seq (.reg [.n 6 .mov [.c (.bool false)]])
   (.seq (.reg [.n 7 .mov [.t 0], .n 8 .mov [.t 1], .n 9 (.bin .geq) [.t 7, .t 8], .n 10 .mov [.t 9], .w 11 .mov [.t 0] 10 true, .w 12 .mov [.t 2] 10 true, .w 13 (.bin .leq) [.t 11, .t 12] 10 true, .n 14 .pick [.t 10, .t 13, .c (.bool false)], .n 6 .mov [.t 14]])
   .ret))
theorem chk.tape_within : chkF Tryz.prog 38 = some (15, ir.tape_within, [.tmp 6]) := by kernel_rfl

/-- slices.ContainsFunc[[]int,int] -/
abbrev F.slices_ContainsFunc_int_int : Nat := 39
def ir.slices_ContainsFunc_int_int : IC :=
 (.seq (.reg [.n 4 .mov [.c (.bool false)]])
   (.seq (.reg [.n 5 .mov [.t 0], .n 6 .mov [.t 1], .n 7 (.call 81) [.t 5, .t 6], .n 8 (.bin .geq) [.t 7, .i 0], .n 4 .mov [.t 8]])
   .ret))
theorem chk.slices_ContainsFunc_int_int : chkF Tryz.prog 39 = some (9, ir.slices_ContainsFunc_int_int, [.tmp 4]) := by kernel_rfl

/-- paravane/tape.known -/
abbrev F.tape_known : Nat := 40
def ir.tape_known : IC :=
 (.seq (.reg [.n 2 .mov [.c (.bool false)]])
   (.seq (.reg [.n 3 .mov [.t 0], .n 4 (.call 38) [.t 3, .i (-32767), .i 32767], .n 2 .mov [.t 4]])
   .ret))
theorem chk.tape_known : chkF Tryz.prog 40 = some (5, ir.tape_known, [.tmp 2]) := by kernel_rfl

/-- paravane/tape.CheckFrame$1 -/
abbrev F.tape_CheckFrame_1 : Nat := 41
def ir.tape_CheckFrame_1 : IC :=
 (.seq (.reg [.n 2 .mov [.c (.bool false)]])
   (.seq (.reg [.n 3 .mov [.t 0], .n 4 (.call 42) [.t 3], .n 5 (.un .not) [.t 4], .n 2 .mov [.t 5]])
   .ret))
theorem chk.tape_CheckFrame_1 : chkF Tryz.prog 41 = some (6, ir.tape_CheckFrame_1, [.tmp 2]) := by kernel_rfl

/-- paravane/tape.sample -/
abbrev F.tape_sample : Nat := 42
def ir.tape_sample : IC :=
 (.seq (.reg [.n 2 .mov [.c (.bool false)]])
   (.seq (.reg [.n 3 .mov [.t 0], .n 4 (.call 40) [.t 3], .n 5 .mov [.t 4], .w 6 .mov [.t 0] 5 false, .w 7 (.bin .eql) [.t 6, .i 40000] 5 false, .n 8 .pick [.t 5, .c (.bool true), .t 7], .n 9 .mov [.t 8], .w 10 .mov [.t 0] 9 false, .w 11 (.bin .eql) [.t 10, .i 40001] 9 false, .n 12 .pick [.t 9, .c (.bool true), .t 11], .n 2 .mov [.t 12]])
   .ret))
theorem chk.tape_sample : chkF Tryz.prog 42 = some (13, ir.tape_sample, [.tmp 2]) := by kernel_rfl

/-- paravane/tape.two -/
abbrev F.tape_two : Nat := 43
def ir.tape_two : IC :=
 (.seq (.reg [.n 2 .mov [.c .nils]])
   (.seq (.reg [.n 3 .mov [.t 0], .n 4 (.bin .shr) [.t 3, .c (.int .u64 8)], .n 5 (.conv .u8) [.t 4], .n 6 .mov [.t 0], .n 7 (.conv .u8) [.t 6], .n 8 (.mkslice 1 5) [.t 5, .t 7], .n 2 .mov [.t 8]])
   .ret))
theorem chk.tape_two : chkF Tryz.prog 43 = some (9, ir.tape_two, [.tmp 2]) := by kernel_rfl

/-- paravane/tape.codes -/
abbrev F.tape_codes : Nat := 44
def ir.tape_codes : IC :=
 (.seq (.reg [.n 1 .box [.t 0], .n 2 .mov [.c .nilf]])
   (.seq (.reg [.n 3 (.mkfunc (.func 82) 0) [.t 1], .n 2 .mov [.t 3]])
   .ret))
theorem chk.tape_codes : chkF Tryz.prog 44 = some (4, ir.tape_codes, [.tmp 2]) := by kernel_rfl

/-- paravane/tape.Crc -/
abbrev F.tape_Crc : Nat := 45
def ir.tape_Crc : IC :=
 (.seq (.reg [.n 2 .mov [.i 0]])
   (.seq (.reg [.n 3 .mov [.i 65535]])
   (.seq (.seq (.reg [.n 5 .mov [.t 0], .n 6 (.len true) [.t 5], .n 7 .mov [.i 0]])
   (.block 0 (.loop (.seq (.reg [.n 8 (.bin .lss) [.t 7, .t 6]])
   (.seq (.cond (.t 8) .skip (.exit 0))
   (.seq (.block 1 (.seq (.reg [.n 9 .mov [.t 7], .n 4 .mov [.t 9]])
   (.seq (.reg [.n 10 .mov [.t 3], .n 11 .mov [.t 0], .n 12 .mov [.t 4], .n 13 (.raw 9 9 0) [.t 11, .t 12], .n 14 (.conv .i64) [.t 13], .n 15 (.bin .shl) [.t 14, .c (.int .u64 8)], .n 16 (.bin .xor) [.t 10, .t 15], .n 3 .mov [.t 16]])
   (.seq (.reg [.n 17 .mov [.i 0]])
   (.block 2 (.loop (.seq (.reg [.n 18 (.bin .lss) [.t 17, .i 8]])
   (.seq (.cond (.t 18) .skip (.exit 2))
   (.seq (.block 3 (.seq (.reg [.n 19 .mov [.t 3], .n 20 (.bin .shl) [.t 19, .c (.int .u64 1)], .n 3 .mov [.t 20]])
   (.seq (.reg [.n 21 .mov [.t 3], .n 22 (.bin .gtr) [.t 21, .i 65535]])
   (.cond (.t 22) (.reg [.n 23 .mov [.t 3], .n 24 (.bin .and) [.t 23, .i 65535], .n 25 (.bin .xor) [.t 24, .i 4129], .n 3 .mov [.t 25]]) .skip))))
   (.reg [.n 26 (.bin .add) [.t 17, .i 1], .n 17 .mov [.t 26]]))))))))))
   (.reg [.n 27 (.bin .add) [.t 7, .i 1], .n 7 .mov [.t 27]])))))))
   (.seq (.reg [.n 28 .mov [.t 3], .n 2 .mov [.t 28]])
   .ret))))
theorem chk.tape_Crc : chkF Tryz.prog 45 = some (29, ir.tape_Crc, [.tmp 2]) := by kernel_rfl

/-- paravane/region.within -/
abbrev F.region_within : Nat := 46
def ir.region_within : IC :=
 (.seq (.reg [.n 6 .mov [.c (.bool false)]])
   (.seq (.reg [.n 7 .mov [.t 0], .n 8 .mov [.t 1], .n 9 (.bin .geq) [.t 7, .t 8], .n 10 .mov [.t 9], .w 11 .mov [.t 0] 10 true, .w 12 .mov [.t 2] 10 true, .w 13 (.bin .leq) [.t 11, .t 12] 10 true, .n 14 .pick [.t 10, .t 13, .c (.bool false)], .n 6 .mov [.t 14]])
   .ret))
theorem chk.region_within : chkF Tryz.prog 46 = some (15, ir.region_within, [.tmp 6]) := by kernel_rfl

/-- slices.IndexFunc[[]string,string] -/
abbrev F.slices_IndexFunc_string_string : Nat := 47
def ir.slices_IndexFunc_string_string : IC :=
 (.seq (.reg [.n 4 .mov [.i 0]])
   (.seq (.seq (.reg [.n 6 .mov [.t 0], .n 7 (.len false) [.t 6], .n 8 .mov [.i 0]])
   (.block 0 (.loop (.seq (.reg [.n 9 (.bin .lss) [.t 8, .t 7]])
   (.seq (.cond (.t 9) .skip (.exit 0))
   (.seq (.block 1 (.seq (.reg [.n 10 .mov [.t 8], .n 5 .mov [.t 10]])
   (.seq (.reg [.n 11 .mov [.t 1], .n 12 .mov [.t 0], .n 13 .mov [.t 5], .n 14 (.iaddrS 1) [.t 12, .t 13], .n 15 (.load 1 false) [.t 14], .n 16 .callv [.t 11, .t 15]])
   (.cond (.t 16) (.seq (.reg [.n 17 .mov [.t 5], .n 4 .mov [.t 17]])
   .ret) .skip))))
   (.reg [.n 18 (.bin .add) [.t 8, .i 1], .n 8 .mov [.t 18]])))))))
   (.seq (.reg [.n 4 .mov [.i (-1)]])
   .ret)))
theorem chk.slices_IndexFunc_string_string : chkF Tryz.prog 47 = some (19, ir.slices_IndexFunc_string_string, [.tmp 4]) := by kernel_rfl

/-- paravane/tape.read -/
abbrev F.tape_read : Nat := 48
def ir.tape_read : IC :=
 (.seq (.reg [.n 2 (.alloc [(.bool false)]) []])
   (.seq .bad
   (.seq (.reg [.n 4 .mov [.t 0], .n 5 .callv [.t 4]])
   (.seq (.reg [.s (.store 1) [.t 2, .c (.bool true)]])
   .ret))))
theorem chk.tape_read : chkF Tryz.prog 48 = some (6, ir.tape_read, [.cell 2 4]) := by kernel_rfl

/-- (paravane/tape.rack).whole$1 -/
abbrev F.tape_rack_whole_1 : Nat := 49
def ir.tape_rack_whole_1 : IC :=
 (.reg [.n 2 (.load 1 false) [.t 0], .n 3 (.call 50) [.t 2], .s (.store 3) [.t 1, .t 3]])
theorem chk.tape_rack_whole_1 : chkF Tryz.prog 49 = some (4, ir.tape_rack_whole_1, []) := by kernel_rfl

/-- (*paravane/tape.reader).frame -/
abbrev F.tape_reader_frame : Nat := 50
def ir.tape_reader_frame : IC :=
 (.seq (.reg [.n 2 (.alloc [(.int .i64 0), (.int .i64 0), .nils]) []])
   (.seq (.reg [.n 8 .mov [.t 0], .n 9 .nilck [.t 8], .n 10 (.faddr 1) [.t 9], .n 11 (.load 1 false) [.t 10], .n 3 .mov [.t 11]])
   (.seq (.reg [.n 4 (.alloc [(.int .i64 0), (.int .i64 0), (.int .i64 0), (.int .i64 0)]) []])
   (.seq (.seq (.reg [.n 12 .mov [.t 0], .n 13 (.mkfunc (.func 84) 1) [.t 12], .n 14 .mov [.t 0], .n 15 (.mkfunc (.func 84) 1) [.t 14], .n 16 .mov [.t 0], .n 17 (.mkfunc (.func 85) 1) [.t 16], .n 18 .mov [.t 0], .n 19 (.mkfunc (.func 85) 1) [.t 18], .n 20 (.build [.nilf, .nilf, .nilf, .nilf] [(0, 1), (1, 1), (2, 1), (3, 1)]) [.t 13, .t 15, .t 17, .t 19], .n 21 .mov [.i 0]])
   (.block 0 (.loop (.seq (.reg [.n 22 (.bin .lss) [.t 21, .i 4]])
   (.seq (.cond (.t 22) .skip (.exit 0))
   (.seq (.block 1 (.seq (.reg [.n 23 .mov [.t 21], .n 24 (.idxA 4 1 false) [.t 20, .t 21], .n 5 .mov [.t 23], .n 6 .mov [.t 24]])
   (.reg [.n 25 .mov [.t 5], .n 26 .mov [.t 6], .n 27 .callv [.t 26], .n 28 (.iaddrA 4 1) [.t 4, .t 25], .s (.store 1) [.t 28, .t 27]])))
   (.reg [.n 29 (.bin .add) [.t 21, .i 1], .n 21 .mov [.t 29]])))))))
   (.seq (.reg [.n 30 (.iaddrA 4 1) [.t 4, .i 0], .n 31 (.load 1 false) [.t 30], .n 32 (.bin .eql) [.t 31, .i 42330], .n 33 .mov [.t 32], .w 34 (.iaddrA 4 1) [.t 4, .i 3] 33 true, .w 35 (.load 1 false) [.t 34] 33 true, .w 36 (.call 38) [.t 35, .i 1, .i 64] 33 true, .n 37 .pick [.t 33, .t 36, .c (.bool false)], .n 38 (.call 86) [.t 37]])
   (.seq (.draw [0, 1, 0, 4, 0, 0, 32, 112, 255, 0, 1023] [.n 39 (.iaddrA 4 1) [.t 4, .i 1], .n 40 (.load 1 false) [.t 39], .n 41 (.iaddrA 4 1) [.t 4, .i 2], .n 42 (.load 1 false) [.t 41], .n 43 .mov [.t 0], .n 44 (.iaddrA 4 1) [.t 4, .i 3], .n 45 (.load 1 false) [.t 44], .n 46 (.call 87) [.t 43, .t 45], .n 47 (.build [(.int .i64 0), (.int .i64 0), .nils] [(0, 1), (1, 1), (2, 1)]) [.t 40, .t 42, .t 46], .n 7 (.alloc [(.int .i64 0), (.int .i64 0), .nils]) [], .s (.store 3) [.t 7, .t 47]])
   (.seq (.reg [.n 48 (.load 3 true) [.t 7], .n 49 (.call 15) [.t 48], .n 50 (.bin .eql) [.t 49, .i 0], .n 51 (.call 86) [.t 50]])
   (.seq (.reg [.n 52 .mov [.t 0], .n 53 .mov [.t 3], .n 54 (.call 88) [.t 52, .t 53]])
   (.seq (.reg [.n 55 (.load 3 true) [.t 7], .s (.store 3) [.t 2, .t 55]])
   .ret)))))))))
theorem chk.tape_reader_frame : chkF Tryz.prog 50 = some (56, ir.tape_reader_frame, [.cell 2 39]) := by kernel_rfl

/-- (paravane/tape.rack).add -/
abbrev F.tape_rack_add : Nat := 51
def ir.tape_rack_add : IC :=
 (.seq (.reg [.n 6 .mov [.t 1], .n 7 (.len false) [.t 6], .n 8 .mov [.i 0]])
   (.block 0 (.loop (.seq (.reg [.n 9 (.bin .lss) [.t 8, .t 7]])
   (.seq (.cond (.t 9) .skip (.exit 0))
   (.seq (.block 1 (.seq (.reg [.n 10 (.iaddrS 3) [.t 6, .t 8], .n 11 (.load 3 true) [.t 10], .n 5 (.alloc [(.int .i64 0), (.int .i64 0), .nils]) [], .s (.store 3) [.t 5, .t 11]])
   (.draw [0, 0, 2, 0, 0, 22, 62, 0, 128, 510, 1023] [.n 12 .mov [.t 0], .n 13 (.load 3 true) [.t 5], .n 14 (.call 90) [.t 13], .n 15 .mov [.t 0], .n 16 (.load 3 true) [.t 5], .n 17 (.call 90) [.t 16], .n 18 (.raw 11 68 0) [.t 15, .t 17], .n 19 (.faddr 2) [.t 5], .n 20 (.load 1 false) [.t 19], .n 21 (.call 89) [.t 18, .t 20], .s (.raw 12 68 0) [.t 12, .t 14, .t 21]])))
   (.reg [.n 22 (.bin .add) [.t 8, .i 1], .n 8 .mov [.t 22]])))))))
theorem chk.tape_rack_add : chkF Tryz.prog 51 = some (23, ir.tape_rack_add, []) := by kernel_rfl

/-- slices.SortedFunc[paravane/tape.key] -/
abbrev F.slices_SortedFunc_tape_key : Nat := 52
def ir.slices_SortedFunc_tape_key : IC :=
 (.seq (.reg [.n 4 .mov [.c .nils]])
   (.seq (.reg [.n 6 .mov [.t 0], .n 7 (.call 91) [.t 6], .n 5 .mov [.t 7]])
   (.seq (.reg [.n 8 .mov [.t 5], .n 9 .mov [.t 1], .n 10 (.call 92) [.t 8, .t 9]])
   (.seq (.reg [.n 11 .mov [.t 5], .n 4 .mov [.t 11]])
   .ret))))
theorem chk.slices_SortedFunc_tape_key : chkF Tryz.prog 52 = some (12, ir.slices_SortedFunc_tape_key, [.tmp 4]) := by kernel_rfl

/-- maps.Keys[paravane/tape.rack,paravane/tape.key,[]int] -/
abbrev F.maps_Keys_tape_rack_tape_key_int : Nat := 53
def ir.maps_Keys_tape_rack_tape_key_int : IC :=
 (.seq (.reg [.n 1 .box [.t 0], .n 2 .mov [.c .nilf]])
   (.seq (.reg [.n 3 (.mkfunc (.func 93) 0) [.t 1], .n 2 .mov [.t 3]])
   .ret))
theorem chk.maps_Keys_tape_rack_tape_key_int : chkF Tryz.prog 53 = some (4, ir.maps_Keys_tape_rack_tape_key_int, [.tmp 2]) := by kernel_rfl

/-- paravane/tape.order -/
abbrev F.tape_order : Nat := 54
def ir.tape_order : IC :=
 (.seq (.reg [.n 2 .box [.t 0], .n 3 .box [.t 1], .n 4 .mov [.i 0]])
   (.seq (.draw [0, 0, 3, 7] [.n 5 (.sla 2 1) [.t 2], .n 6 (.sla 2 1) [.t 3], .n 7 (.call 94) [.t 5, .t 6], .n 4 .mov [.t 7]])
   .ret))
theorem chk.tape_order : chkF Tryz.prog 54 = some (8, ir.tape_order, [.tmp 4]) := by kernel_rfl

/-- paravane/volume.CheckEchoes -/
abbrev F.volume_CheckEchoes : Nat := 55
def ir.volume_CheckEchoes : IC :=
 (.seq (.reg [.n 2 .mov [.i 0]])
   (.seq (.seq (.reg [.n 6 .mov [.t 0], .n 7 (.len false) [.t 6], .n 8 (.bin .gtr) [.t 7, .i 32]])
   (.cond (.t 8) (.seq (.reg [.n 2 .mov [.i 100]])
   .ret) .skip))
   (.seq (.seq (.reg [.n 9 .mov [.t 0], .n 10 (.len false) [.t 9], .n 11 .mov [.i 0]])
   (.block 0 (.loop (.seq (.reg [.n 12 (.bin .lss) [.t 11, .t 10]])
   (.seq (.cond (.t 12) .skip (.exit 0))
   (.seq (.block 1 (.seq (.reg [.n 13 (.iaddrS 3) [.t 9, .t 11], .n 14 (.load 3 true) [.t 13], .n 4 (.alloc [(.int .i64 0), (.int .i64 0), .nils]) [], .s (.store 3) [.t 4, .t 14]])
   (.seq (.reg [.n 15 (.faddr 2) [.t 4], .n 16 (.load 1 false) [.t 15], .n 17 (.call 95) [.t 16, .c (.func (.func 96) [] [])], .n 5 .mov [.t 17]])
   (.seq (.reg [.n 18 .mov [.t 5], .n 19 .mov [.t 18], .w 20 (.faddr 0) [.t 4] 19 false, .w 21 (.load 1 false) [.t 20] 19 false, .w 22 (.faddr 1) [.t 4] 19 false, .w 23 (.load 1 false) [.t 22] 19 false, .w 24 (.build [(.int .i64 0), (.int .i64 0), (.int .i64 0)] [(0, 1), (1, 1), (2, 1)]) [.t 21, .t 23, .i 0] 19 false, .w 25 (.call 64) [.t 24] 19 false, .w 26 (.un .not) [.t 25] 19 false, .n 27 .pick [.t 19, .c (.bool true), .t 26], .n 28 .mov [.t 27], .w 29 (.faddr 2) [.t 4] 28 false, .w 30 (.load 1 false) [.t 29] 28 false, .w 31 (.len false) [.t 30] 28 false, .w 32 (.call 56) [.t 31, .i 1, .i 64] 28 false, .w 33 (.un .not) [.t 32] 28 false, .n 34 .pick [.t 28, .c (.bool true), .t 33]])
   (.cond (.t 34) (.seq (.reg [.n 2 .mov [.i 100]])
   .ret) .skip)))))
   (.reg [.n 35 (.bin .add) [.t 11, .i 1], .n 11 .mov [.t 35]])))))))
   (.seq (.reg [.n 2 .mov [.i 0]])
   .ret))))
theorem chk.volume_CheckEchoes : chkF Tryz.prog 55 = some (36, ir.volume_CheckEchoes, [.tmp 2]) := by kernel_rfl

/-- paravane/volume.within -/
abbrev F.volume_within : Nat := 56
def ir.volume_within : IC :=
 (.seq (.reg [.n 6 .mov [.c (.bool false)]])
   (.seq (.reg [.n 7 .mov [.t 0], .n 8 .mov [.t 1], .n 9 (.bin .geq) [.t 7, .t 8], .n 10 .mov [.t 9], .w 11 .mov [.t 0] 10 true, .w 12 .mov [.t 2] 10 true, .w 13 (.bin .leq) [.t 11, .t 12] 10 true, .n 14 .pick [.t 10, .t 13, .c (.bool false)], .n 6 .mov [.t 14]])
   .ret))
theorem chk.volume_within : chkF Tryz.prog 56 = some (15, ir.volume_within, [.tmp 6]) := by kernel_rfl

/-- (paravane/volume.box).valid -/
abbrev F.volume_box_valid : Nat := 57
def ir.volume_box_valid : IC :=
 (.seq (.reg [.n 1 .box [.t 0], .n 2 .mov [.c (.bool false)]])
   (.seq (.reg [.n 3 (.load 6 true) [.t 1], .n 4 (.call 72) [.t 3], .n 5 .mov [.t 4], .w 6 (.faddr 0) [.t 1] 5 true, .w 7 (.load 3 true) [.t 6] 5 true, .w 8 (.call 64) [.t 7] 5 true, .n 9 .pick [.t 5, .t 8, .c (.bool false)], .n 10 .mov [.t 9], .w 11 (.load 6 true) [.t 1] 10 true, .w 12 (.call 97) [.t 11] 10 true, .w 13 (.call 64) [.t 12] 10 true, .n 14 .pick [.t 10, .t 13, .c (.bool false)], .n 2 .mov [.t 14]])
   .ret))
theorem chk.volume_box_valid : chkF Tryz.prog 57 = some (15, ir.volume_box_valid, [.tmp 2]) := by kernel_rfl

/-- (paravane/volume.box).cells -/
abbrev F.volume_box_cells : Nat := 58
def ir.volume_box_cells : IC :=
 (.seq (.reg [.n 1 .box [.t 0], .n 2 .mov [.c .nilf]])
   (.seq (.reg [.n 3 (.mkfunc (.func 98) 0) [.t 1], .n 2 .mov [.t 3]])
   .ret))
theorem chk.volume_box_cells : chkF Tryz.prog 58 = some (4, ir.volume_box_cells, [.tmp 2]) := by kernel_rfl

/-- paravane/volume.fold[paravane/volume.sum] -/
abbrev F.volume_fold_volume_sum : Nat := 59
def ir.volume_fold_volume_sum : IC :=
 (.seq (.reg [.n 3 .box [.t 0], .n 5 .box [.t 2], .n 6 (.alloc [(.int .i64 0), (.int .i64 0)]) []])
   (.seq (.seq (.reg [.n 8 .mov [.t 1]])
   (.block 0 (.range (.t 8) [9] (.reg [.n 7 (.alloc [(.int .i64 0), (.int .i64 0)]) [], .s (.store 2) [.t 7, .t 9]]) (.block 1 (.reg [.n 10 (.load 1 false) [.t 5], .n 11 (.load 2 true) [.t 3], .n 12 (.load 2 true) [.t 7], .n 13 .callv [.t 10, .t 11, .t 12], .s (.store 2) [.t 3, .t 13]])))))
   (.seq (.reg [.n 14 (.load 2 true) [.t 3], .s (.store 2) [.t 6, .t 14]])
   .ret)))
theorem chk.volume_fold_volume_sum : chkF Tryz.prog 59 = some (15, ir.volume_fold_volume_sum, [.cell 6 131]) := by kernel_rfl

/-- (paravane/volume.ear).value$1 -/
abbrev F.volume_ear_value_1 : Nat := 60
def ir.volume_ear_value_1 : IC :=
 (.seq (.reg [.n 6 (.load 4 true) [.t 1], .n 7 (.load 3 true) [.t 2], .n 8 (.call 61) [.t 6, .t 7], .n 9 (.len false) [.t 8], .n 10 .mov [.i 0]])
   (.block 0 (.loop (.seq (.reg [.n 11 (.bin .lss) [.t 10, .t 9]])
   (.seq (.cond (.t 11) .skip (.exit 0))
   (.seq (.block 1 (.seq (.reg [.n 12 (.iaddrS 2) [.t 8, .t 10], .n 13 (.load 2 true) [.t 12], .n 5 (.alloc [(.int .i64 0), (.int .i64 0)]) [], .s (.store 2) [.t 5, .t 13]])
   (.seq (.draw [0, 0, 2, 0, 8, 30, 62, 126, 0, 256, 1022, 2046, 4095, 8191] [.n 14 .mov [.t 0], .n 15 (.faddr 0) [.t 1], .n 16 (.load 1 false) [.t 15], .n 17 (.faddr 0) [.t 5], .n 18 (.load 1 false) [.t 17], .n 19 (.iaddrS 3) [.t 16, .t 18], .n 20 (.faddr 2) [.t 19], .n 21 (.load 1 false) [.t 20], .n 22 (.faddr 1) [.t 5], .n 23 (.load 1 false) [.t 22], .n 24 (.iaddrS 2) [.t 21, .t 23], .n 25 (.load 2 true) [.t 24], .n 26 .callv [.t 14, .t 25], .n 27 (.un .not) [.t 26]])
   (.cond (.t 27) .ret .skip))))
   (.reg [.n 28 (.bin .add) [.t 10, .i 1], .n 10 .mov [.t 28]])))))))
theorem chk.volume_ear_value_1 : chkF Tryz.prog 60 = some (29, ir.volume_ear_value_1, []) := by kernel_rfl

/-- (paravane/volume.ear).named -/
abbrev F.volume_ear_named : Nat := 61
def ir.volume_ear_named : IC :=
 (.seq (.reg [.n 2 .box [.t 0], .n 3 .box [.t 1], .n 4 .mov [.c .nils]])
   (.seq (.reg [.n 5 (.alloc [.nils]) []])
   (.seq (.seq (.reg [.n 9 (.load 4 true) [.t 2], .n 10 (.load 3 true) [.t 3], .n 11 (.call 99) [.t 9, .t 10]])
   (.block 0 (.range (.t 11) [12, 13] (.seq (.reg [.n 6 .mov [.t 12]])
   (.reg [.n 7 .mov [.t 13]])) (.block 1 (.seq (.reg [.n 14 (.iaddrA 3 1) [.t 3, .i 2], .n 15 (.load 1 false) [.t 14], .n 16 .mov [.t 7], .n 17 (.faddr 2) [.t 2], .n 18 (.faddr 0) [.t 17], .n 19 (.load 1 false) [.t 18], .n 20 (.call 63) [.t 15, .t 16, .t 19], .n 8 .mov [.t 20]])
   (.seq (.reg [.n 21 .mov [.t 8], .n 22 (.faddr 0) [.t 2], .n 23 (.load 1 false) [.t 22], .n 24 .mov [.t 6], .n 25 (.iaddrS 3) [.t 23, .t 24], .n 26 (.faddr 2) [.t 25], .n 27 (.load 1 false) [.t 26], .n 28 (.len false) [.t 27], .n 29 (.bin .lss) [.t 21, .t 28]])
   (.cond (.t 29) (.reg [.n 30 (.load 1 false) [.t 5], .n 31 .mov [.t 6], .n 32 .mov [.t 8], .n 33 (.build [(.int .i64 0), (.int .i64 0)] [(0, 1), (1, 1)]) [.t 31, .t 32], .n 34 (.mkslice 2 89) [.t 33], .n 35 (.append 2 16 89) [.t 30, .t 34], .s (.store 1) [.t 5, .t 35]]) .skip)))))))
   (.seq (.reg [.n 36 (.load 1 false) [.t 5], .n 4 .mov [.t 36]])
   .ret))))
theorem chk.volume_ear_named : chkF Tryz.prog 61 = some (37, ir.volume_ear_named, [.tmp 4]) := by kernel_rfl

/-- (paravane/volume.sum).plus -/
abbrev F.volume_sum_plus : Nat := 62
def ir.volume_sum_plus : IC :=
 (.seq (.reg [.n 2 .box [.t 0], .n 3 .box [.t 1], .n 4 (.alloc [(.int .i64 0), (.int .i64 0)]) []])
   (.seq (.reg [.n 5 (.faddr 0) [.t 2], .n 6 (.load 1 false) [.t 5], .n 7 (.faddr 0) [.t 3], .n 8 (.load 1 false) [.t 7], .n 9 (.bin .add) [.t 6, .t 8], .n 10 (.faddr 1) [.t 2], .n 11 (.load 1 false) [.t 10], .n 12 (.faddr 1) [.t 3], .n 13 (.load 1 false) [.t 12], .n 14 (.bin .add) [.t 11, .t 13], .n 15 (.build [(.int .i64 0), (.int .i64 0)] [(0, 1), (1, 1)]) [.t 9, .t 14], .s (.store 2) [.t 4, .t 15]])
   .ret))
theorem chk.volume_sum_plus : chkF Tryz.prog 62 = some (16, ir.volume_sum_plus, [.cell 4 131]) := by kernel_rfl

/-- paravane/volume.time -/
abbrev F.volume_time : Nat := 63
def ir.volume_time : IC :=
 (.seq (.reg [.n 6 .mov [.i 0]])
   (.seq (.reg [.n 10 .mov [.t 0], .n 11 .mov [.t 0], .n 12 (.bin .mul) [.t 10, .t 11], .n 13 .mov [.t 2], .n 14 .mov [.t 1], .n 15 (.bin .mul) [.t 13, .t 14], .n 16 (.bin .quo) [.t 15, .i 64], .n 17 (.bin .add) [.t 12, .t 16], .n 18 (.call 100) [.t 17], .n 9 .mov [.t 18], .n 19 (.extract 0) [.t 9], .n 20 (.extract 1) [.t 9], .n 7 .mov [.t 19], .n 8 .mov [.t 20]])
   (.seq (.reg [.n 21 .mov [.t 7], .n 6 .mov [.t 21]])
   .ret)))
theorem chk.volume_time : chkF Tryz.prog 63 = some (22, ir.volume_time, [.tmp 6]) := by kernel_rfl

/-- (paravane/volume.cell).valid -/
abbrev F.volume_cell_valid : Nat := 64
def ir.volume_cell_valid : IC :=
 (.seq (.reg [.n 1 .box [.t 0], .n 2 .mov [.c (.bool false)]])
   (.seq (.reg [.n 3 (.iaddrA 3 1) [.t 1, .i 0], .n 4 (.load 1 false) [.t 3], .n 5 (.call 56) [.t 4, .i (-64), .i 64], .n 6 .mov [.t 5], .w 7 (.iaddrA 3 1) [.t 1, .i 1] 6 true, .w 8 (.load 1 false) [.t 7] 6 true, .w 9 (.call 56) [.t 8, .i (-64), .i 64] 6 true, .n 10 .pick [.t 6, .t 9, .c (.bool false)], .n 11 .mov [.t 10], .w 12 (.iaddrA 3 1) [.t 1, .i 2] 11 true, .w 13 (.load 1 false) [.t 12] 11 true, .w 14 (.call 56) [.t 13, .i 0, .i 64] 11 true, .n 15 .pick [.t 11, .t 14, .c (.bool false)], .n 2 .mov [.t 15]])
   .ret))
theorem chk.volume_cell_valid : chkF Tryz.prog 64 = some (16, ir.volume_cell_valid, [.tmp 2]) := by kernel_rfl

/-- (paravane/volume.ear).enclosure -/
abbrev F.volume_ear_enclosure : Nat := 65
def ir.volume_ear_enclosure : IC :=
 (.seq (.reg [.n 2 .box [.t 0], .n 3 .box [.t 1], .n 4 (.alloc [(.int .i64 0), (.int .i64 0)]) []])
   (.seq (.reg [.n 5 (.build [(.int .i64 0), (.int .i64 0)] []) [], .n 6 (.mkfunc (.func 101) 0) [.t 2, .t 3], .n 7 (.call 59) [.t 5, .t 6, .c (.func (.func 62) [] [])], .s (.store 2) [.t 4, .t 7]])
   .ret))
theorem chk.volume_ear_enclosure : chkF Tryz.prog 65 = some (8, ir.volume_ear_enclosure, [.cell 4 28]) := by kernel_rfl

/-- paravane/volume.ringing -/
abbrev F.volume_ringing : Nat := 66
def ir.volume_ringing : IC :=
 (.seq (.reg [.n 5 .box [.t 1], .n 8 .mov [.c (.bool false)]])
   (.seq (.reg [.n 9 .mov [.t 0], .n 10 (.len false) [.t 9], .n 11 (.bin .leq) [.t 10, .i 64], .n 12 .mov [.t 11], .w 13 .mov [.t 2] 12 true, .w 14 (.call 56) [.t 13, .i 1, .i 64] 12 true, .n 15 .pick [.t 12, .t 14, .c (.bool false)], .n 16 .mov [.t 15], .w 17 .mov [.t 3] 16 true, .w 18 (.call 56) [.t 17, .i (-63), .i 63] 16 true, .n 19 .pick [.t 16, .t 18, .c (.bool false)], .n 20 .mov [.t 19], .w 21 .mov [.t 0] 20 true, .w 22 (.mkfunc (.func 103) 0) [.t 5] 20 true, .w 23 (.call 39) [.t 21, .t 22] 20 true, .w 24 (.un .not) [.t 23] 20 true, .n 25 .pick [.t 20, .t 24, .c (.bool false)], .n 8 .mov [.t 25]])
   .ret))
theorem chk.volume_ringing : chkF Tryz.prog 66 = some (26, ir.volume_ringing, [.tmp 8]) := by kernel_rfl

/-- paravane/volume.down -/
abbrev F.volume_down : Nat := 67
def ir.volume_down : IC :=
 (.seq (.reg [.n 2 .mov [.i 0]])
   (.seq (.reg [.n 3 .mov [.t 0], .n 4 (.bin .shr) [.t 3, .c (.int .u64 6)], .n 2 .mov [.t 4]])
   .ret))
theorem chk.volume_down : chkF Tryz.prog 67 = some (5, ir.volume_down, [.tmp 2]) := by kernel_rfl

/-- paravane/volume.blockOf -/
abbrev F.volume_blockOf : Nat := 68
def ir.volume_blockOf : IC :=
 (.seq (.reg [.n 1 .box [.t 0], .n 2 (.alloc [(.int .i64 0), (.int .i64 0), (.int .i64 0), (.int .i64 0), (.int .i64 0), (.int .i64 0), .nils]) [], .n 3 .mov [.i 0]])
   (.seq (.reg [.n 5 (.faddr 0) [.t 1], .n 6 (.load 3 true) [.t 5], .n 7 (.faddr 3) [.t 1], .n 8 (.load 3 true) [.t 7], .n 9 (.build [(.int .i64 0), (.int .i64 0), (.int .i64 0), (.int .i64 0), (.int .i64 0), (.int .i64 0)] [(0, 3), (3, 3)]) [.t 6, .t 8], .n 4 (.alloc [(.int .i64 0), (.int .i64 0), (.int .i64 0), (.int .i64 0), (.int .i64 0), (.int .i64 0)]) [], .s (.store 6) [.t 4, .t 9]])
   (.seq (.seq (.draw [0, 1, 3, 7, 15, 31, 63, 15, 143, 511, 1023, 2047, 4095, 8191, 16383, 32767] [.n 10 (.load 6 true) [.t 4], .n 11 (.call 57) [.t 10], .n 12 (.un .not) [.t 11], .n 13 .mov [.t 12], .w 14 (.faddr 6) [.t 1] 13 false, .w 15 (.load 1 false) [.t 14] 13 false, .w 16 (.len false) [.t 15] 13 false, .w 17 (.load 6 true) [.t 4] 13 false, .w 18 (.call 70) [.t 17] 13 false, .w 19 (.bin .neq) [.t 16, .t 18] 13 false, .n 20 .pick [.t 13, .c (.bool true), .t 19], .n 21 .mov [.t 20], .w 22 (.faddr 6) [.t 1] 21 false, .w 23 (.load 1 false) [.t 22] 21 false, .w 24 (.call 39) [.t 23, .c (.func (.func 104) [] [])] 21 false, .n 25 .pick [.t 21, .c (.bool true), .t 24]])
   (.cond (.t 25) (.seq (.reg [.n 26 (.build [(.int .i64 0), (.int .i64 0), (.int .i64 0), (.int .i64 0), (.int .i64 0), (.int .i64 0), .nils] []) [], .s (.store 7) [.t 2, .t 26], .n 3 .mov [.i 101]])
   .ret) .skip))
   (.seq (.reg [.n 27 (.load 6 true) [.t 4], .n 28 (.faddr 6) [.t 1], .n 29 (.load 1 false) [.t 28], .n 30 (.build [(.int .i64 0), (.int .i64 0), (.int .i64 0), (.int .i64 0), (.int .i64 0), (.int .i64 0), .nils] [(0, 6), (6, 1)]) [.t 27, .t 29], .s (.store 7) [.t 2, .t 30], .n 3 .mov [.i 0]])
   .ret))))
theorem chk.volume_blockOf : chkF Tryz.prog 68 = some (31, ir.volume_blockOf, [.cell 2 142, .tmp 3]) := by kernel_rfl

/-- (paravane/volume.box).around -/
abbrev F.volume_box_around : Nat := 69
def ir.volume_box_around : IC :=
 (.seq (.reg [.n 2 .box [.t 0], .n 3 .box [.t 1], .n 4 (.alloc [(.int .i64 0), (.int .i64 0), (.int .i64 0), (.int .i64 0), (.int .i64 0), (.int .i64 0)]) []])
   (.seq (.reg [.n 5 (.alloc [(.int .i64 0), (.int .i64 0), (.int .i64 0), (.int .i64 0), (.int .i64 0), (.int .i64 0)]) []])
   (.seq (.draw [0, 1, 0, 7, 0, 0, 63, 127] [.n 9 (.load 6 true) [.t 2], .n 10 (.call 97) [.t 9], .n 11 (.load 6 true) [.t 3], .n 12 (.call 97) [.t 11], .n 6 (.alloc [(.int .i64 0), (.int .i64 0), (.int .i64 0)]) [], .n 7 (.alloc [(.int .i64 0), (.int .i64 0), (.int .i64 0)]) [], .s (.store 3) [.t 6, .t 10], .s (.store 3) [.t 7, .t 12]])
   (.seq (.seq (.reg [.n 13 .mov [.i 0]])
   (.block 0 (.loop (.seq (.reg [.n 14 (.bin .lss) [.t 13, .i 3]])
   (.seq (.cond (.t 14) .skip (.exit 0))
   (.seq (.block 1 (.seq (.reg [.n 15 .mov [.t 13], .n 8 .mov [.t 15]])
   (.seq (.draw [0, 0, 0, 6, 14, 0, 0, 96, 224, 510, 0, 2047, 4095] [.n 16 .mov [.t 8], .n 17 .mov [.t 8], .n 18 (.faddr 0) [.t 2], .n 19 (.iaddrA 3 1) [.t 18, .t 17], .n 20 (.load 1 false) [.t 19], .n 21 .mov [.t 8], .n 22 (.faddr 0) [.t 3], .n 23 (.iaddrA 3 1) [.t 22, .t 21], .n 24 (.load 1 false) [.t 23], .n 25 (.minmax false) [.t 20, .t 24], .n 26 (.faddr 0) [.t 5], .n 27 (.iaddrA 3 1) [.t 26, .t 16], .s (.store 1) [.t 27, .t 25]])
   (.draw [0, 0, 2, 6, 0, 16, 48, 126, 0, 0, 768, 1792, 4094, 8190, 0, 32767, 65535] [.n 28 .mov [.t 8], .n 29 .mov [.t 8], .n 30 (.iaddrA 3 1) [.t 6, .t 29], .n 31 (.load 1 false) [.t 30], .n 32 .mov [.t 8], .n 33 (.iaddrA 3 1) [.t 7, .t 32], .n 34 (.load 1 false) [.t 33], .n 35 (.minmax true) [.t 31, .t 34], .n 36 .mov [.t 8], .n 37 (.faddr 0) [.t 5], .n 38 (.iaddrA 3 1) [.t 37, .t 36], .n 39 (.load 1 false) [.t 38], .n 40 (.bin .sub) [.t 35, .t 39], .n 41 (.bin .add) [.t 40, .i 1], .n 42 (.faddr 3) [.t 5], .n 43 (.iaddrA 3 1) [.t 42, .t 28], .s (.store 1) [.t 43, .t 41]]))))
   (.reg [.n 44 (.bin .add) [.t 13, .i 1], .n 13 .mov [.t 44]])))))))
   (.seq (.reg [.n 45 (.load 6 true) [.t 5], .s (.store 6) [.t 4, .t 45]])
   .ret)))))
theorem chk.volume_box_around : chkF Tryz.prog 69 = some (46, ir.volume_box_around, [.cell 4 128]) := by kernel_rfl

/-- (paravane/volume.box).many -/
abbrev F.volume_box_many : Nat := 70
def ir.volume_box_many : IC :=
 (.seq (.reg [.n 1 .box [.t 0], .n 2 .mov [.i 0]])
   (.seq (.reg [.n 3 (.faddr 3) [.t 1], .n 4 (.iaddrA 3 1) [.t 3, .i 0], .n 5 (.load 1 false) [.t 4], .n 6 (.faddr 3) [.t 1], .n 7 (.iaddrA 3 1) [.t 6, .i 1], .n 8 (.load 1 false) [.t 7], .n 9 (.bin .mul) [.t 5, .t 8], .n 10 (.faddr 3) [.t 1], .n 11 (.iaddrA 3 1) [.t 10, .i 2], .n 12 (.load 1 false) [.t 11], .n 13 (.bin .mul) [.t 9, .t 12], .n 2 .mov [.t 13]])
   .ret))
theorem chk.volume_box_many : chkF Tryz.prog 70 = some (14, ir.volume_box_many, [.tmp 2]) := by kernel_rfl

/-- (paravane/volume.box).common -/
abbrev F.volume_box_common : Nat := 71
def ir.volume_box_common : IC :=
 (.seq (.reg [.n 2 .box [.t 0], .n 3 .box [.t 1], .n 4 .mov [.i 0]])
   (.seq (.reg [.n 5 .mov [.i 1]])
   (.seq (.draw [0, 1, 0, 7, 0, 0, 63, 127] [.n 9 (.load 6 true) [.t 2], .n 10 (.call 97) [.t 9], .n 11 (.load 6 true) [.t 3], .n 12 (.call 97) [.t 11], .n 6 (.alloc [(.int .i64 0), (.int .i64 0), (.int .i64 0)]) [], .n 7 (.alloc [(.int .i64 0), (.int .i64 0), (.int .i64 0)]) [], .s (.store 3) [.t 6, .t 10], .s (.store 3) [.t 7, .t 12]])
   (.seq (.seq (.reg [.n 13 .mov [.i 0]])
   (.block 0 (.loop (.seq (.reg [.n 14 (.bin .lss) [.t 13, .i 3]])
   (.seq (.cond (.t 14) .skip (.exit 0))
   (.seq (.block 1 (.seq (.reg [.n 15 .mov [.t 13], .n 8 .mov [.t 15]])
   (.draw [0, 0, 2, 6, 0, 16, 48, 126, 0, 0, 768, 1792, 0, 0, 12288, 28672, 65280, 131070, 262142, 524286, 1048575, 2097151] [.n 16 .mov [.t 5], .n 17 .mov [.t 8], .n 18 (.iaddrA 3 1) [.t 6, .t 17], .n 19 (.load 1 false) [.t 18], .n 20 .mov [.t 8], .n 21 (.iaddrA 3 1) [.t 7, .t 20], .n 22 (.load 1 false) [.t 21], .n 23 (.minmax false) [.t 19, .t 22], .n 24 .mov [.t 8], .n 25 (.faddr 0) [.t 2], .n 26 (.iaddrA 3 1) [.t 25, .t 24], .n 27 (.load 1 false) [.t 26], .n 28 .mov [.t 8], .n 29 (.faddr 0) [.t 3], .n 30 (.iaddrA 3 1) [.t 29, .t 28], .n 31 (.load 1 false) [.t 30], .n 32 (.minmax true) [.t 27, .t 31], .n 33 (.bin .sub) [.t 23, .t 32], .n 34 (.bin .add) [.t 33, .i 1], .n 35 (.minmax true) [.i 0, .t 34], .n 36 (.bin .mul) [.t 16, .t 35], .n 5 .mov [.t 36]])))
   (.reg [.n 37 (.bin .add) [.t 13, .i 1], .n 13 .mov [.t 37]])))))))
   (.seq (.reg [.n 38 .mov [.t 5], .n 4 .mov [.t 38]])
   .ret)))))
theorem chk.volume_box_common : chkF Tryz.prog 71 = some (39, ir.volume_box_common, [.tmp 4]) := by kernel_rfl

/-- (paravane/volume.box).small -/
abbrev F.volume_box_small : Nat := 72
def ir.volume_box_small : IC :=
 (.seq (.reg [.n 1 .box [.t 0], .n 2 .mov [.c (.bool false)]])
   (.seq (.seq (.reg [.n 5 (.faddr 3) [.t 1], .n 6 (.load 3 true) [.t 5], .n 7 .mov [.i 0]])
   (.block 0 (.loop (.seq (.reg [.n 8 (.bin .lss) [.t 7, .i 3]])
   (.seq (.cond (.t 8) .skip (.exit 0))
   (.seq (.block 1 (.seq (.reg [.n 9 (.idxA 3 1 false) [.t 6, .t 7], .n 4 .mov [.t 9]])
   (.seq (.reg [.n 10 .mov [.t 4], .n 11 (.call 56) [.t 10, .i 1, .i 16], .n 12 (.un .not) [.t 11]])
   (.cond (.t 12) (.seq (.reg [.n 2 .mov [.c (.bool false)]])
   .ret) .skip))))
   (.reg [.n 13 (.bin .add) [.t 7, .i 1], .n 7 .mov [.t 13]])))))))
   (.seq (.reg [.n 14 (.load 6 true) [.t 1], .n 15 (.call 70) [.t 14], .n 16 (.bin .leq) [.t 15, .i 1024], .n 2 .mov [.t 16]])
   .ret)))
theorem chk.volume_box_small : chkF Tryz.prog 72 = some (17, ir.volume_box_small, [.tmp 2]) := by kernel_rfl

/-- (paravane/volume.box).has -/
abbrev F.volume_box_has : Nat := 73
def ir.volume_box_has : IC :=
 (.seq (.reg [.n 2 .box [.t 0], .n 3 .box [.t 1], .n 4 .mov [.c (.bool false)]])
   (.seq (.seq (.reg [.n 7 (.load 6 true) [.t 2], .n 8 (.call 97) [.t 7], .n 9 .mov [.i 0]])
   (.block 0 (.loop (.seq (.reg [.n 10 (.bin .lss) [.t 9, .i 3]])
   (.seq (.cond (.t 10) .skip (.exit 0))
   (.seq (.block 1 (.seq (.reg [.n 11 .mov [.t 9], .n 12 (.idxA 3 1 false) [.t 8, .t 9], .n 5 .mov [.t 11], .n 6 .mov [.t 12]])
   (.seq (.draw [0, 1, 3, 0, 0, 24, 56, 0, 255, 511] [.n 13 .mov [.t 5], .n 14 (.iaddrA 3 1) [.t 3, .t 13], .n 15 (.load 1 false) [.t 14], .n 16 .mov [.t 5], .n 17 (.faddr 0) [.t 2], .n 18 (.iaddrA 3 1) [.t 17, .t 16], .n 19 (.load 1 false) [.t 18], .n 20 .mov [.t 6], .n 21 (.call 56) [.t 15, .t 19, .t 20], .n 22 (.un .not) [.t 21]])
   (.cond (.t 22) (.seq (.reg [.n 4 .mov [.c (.bool false)]])
   .ret) .skip))))
   (.reg [.n 23 (.bin .add) [.t 9, .i 1], .n 9 .mov [.t 23]])))))))
   (.seq (.reg [.n 4 .mov [.c (.bool true)]])
   .ret)))
theorem chk.volume_box_has : chkF Tryz.prog 73 = some (24, ir.volume_box_has, [.tmp 4]) := by kernel_rfl

/-- (paravane/volume.box).index -/
abbrev F.volume_box_index : Nat := 74
def ir.volume_box_index : IC :=
 (.seq (.reg [.n 2 .box [.t 0], .n 3 .box [.t 1], .n 4 .mov [.i 0]])
   (.seq (.reg [.n 5 (.iaddrA 3 1) [.t 3, .i 0], .n 6 (.load 1 false) [.t 5], .n 7 (.faddr 0) [.t 2], .n 8 (.iaddrA 3 1) [.t 7, .i 0], .n 9 (.load 1 false) [.t 8], .n 10 (.bin .sub) [.t 6, .t 9], .n 11 (.faddr 3) [.t 2], .n 12 (.iaddrA 3 1) [.t 11, .i 1], .n 13 (.load 1 false) [.t 12], .n 14 (.bin .mul) [.t 10, .t 13], .n 15 (.iaddrA 3 1) [.t 3, .i 1], .n 16 (.load 1 false) [.t 15], .n 17 (.bin .add) [.t 14, .t 16], .n 18 (.faddr 0) [.t 2], .n 19 (.iaddrA 3 1) [.t 18, .i 1], .n 20 (.load 1 false) [.t 19], .n 21 (.bin .sub) [.t 17, .t 20], .n 22 (.faddr 3) [.t 2], .n 23 (.iaddrA 3 1) [.t 22, .i 2], .n 24 (.load 1 false) [.t 23], .n 25 (.bin .mul) [.t 21, .t 24], .n 26 (.iaddrA 3 1) [.t 3, .i 2], .n 27 (.load 1 false) [.t 26], .n 28 (.bin .add) [.t 25, .t 27], .n 29 (.faddr 0) [.t 2], .n 30 (.iaddrA 3 1) [.t 29, .i 2], .n 31 (.load 1 false) [.t 30], .n 32 (.bin .sub) [.t 28, .t 31], .n 4 .mov [.t 32]])
   .ret))
theorem chk.volume_box_index : chkF Tryz.prog 74 = some (33, ir.volume_box_index, [.tmp 4]) := by kernel_rfl

/-- paravane/volume.sectionOf -/
abbrev F.volume_sectionOf : Nat := 75
def ir.volume_sectionOf : IC :=
 (.seq (.reg [.n 4 (.alloc [(.int .i64 0), (.int .i64 0), .nils, (.int .i64 0)]) [], .n 5 .mov [.i 0]])
   (.seq (.reg [.n 9 .mov [.t 0], .n 10 (.call 78) [.t 9], .n 8 .mov [.t 10], .n 11 (.extract 0) [.t 8], .n 12 (.extract 1) [.t 8], .n 6 (.alloc [(.int .i64 0), (.int .i64 0)]) [], .s (.store 2) [.t 6, .t 11], .n 7 .mov [.t 12]])
   (.seq (.seq (.reg [.n 13 .mov [.t 7], .n 14 (.un .not) [.t 13], .n 15 .mov [.t 14], .w 16 (.iaddrA 2 1) [.t 6, .i 0] 15 false, .w 17 (.load 1 false) [.t 16] 15 false, .w 18 (.call 56) [.t 17, .i 1, .i 16] 15 false, .w 19 (.un .not) [.t 18] 15 false, .n 20 .pick [.t 15, .c (.bool true), .t 19], .n 21 .mov [.t 20], .w 22 (.iaddrA 2 1) [.t 6, .i 1] 21 false, .w 23 (.load 1 false) [.t 22] 21 false, .w 24 (.call 56) [.t 23, .i 1, .i 32] 21 false, .w 25 (.un .not) [.t 24] 21 false, .n 26 .pick [.t 21, .c (.bool true), .t 25], .n 27 .mov [.t 26], .w 28 .mov [.t 0] 27 false, .w 29 (.call 79) [.t 28, .i 1099511627776] 27 false, .w 30 (.un .not) [.t 29] 27 false, .n 31 .pick [.t 27, .c (.bool true), .t 30]])
   (.cond (.t 31) (.seq (.reg [.n 32 (.build [(.int .i64 0), (.int .i64 0), .nils, (.int .i64 0)] []) [], .s (.store 4) [.t 4, .t 32], .n 5 .mov [.i 105]])
   .ret) .skip))
   (.seq (.seq (.reg [.n 33 .mov [.t 1], .n 34 (.call 56) [.t 33, .i 0, .i 32], .n 35 (.un .not) [.t 34]])
   (.cond (.t 35) (.seq (.reg [.n 36 (.build [(.int .i64 0), (.int .i64 0), .nils, (.int .i64 0)] []) [], .s (.store 4) [.t 4, .t 36], .n 5 .mov [.i 7]])
   .ret) .skip))
   (.seq (.reg [.n 37 (.load 2 true) [.t 6], .n 38 .mov [.t 0], .n 39 .mov [.t 1], .n 40 (.build [(.int .i64 0), (.int .i64 0), .nils, (.int .i64 0)] [(0, 2), (2, 1), (3, 1)]) [.t 37, .t 38, .t 39], .s (.store 4) [.t 4, .t 40], .n 5 .mov [.i 0]])
   .ret)))))
theorem chk.volume_sectionOf : chkF Tryz.prog 75 = some (41, ir.volume_sectionOf, [.cell 4 152, .tmp 5]) := by kernel_rfl

/-- (paravane/volume.section).worths -/
abbrev F.volume_section_worths : Nat := 76
def ir.volume_section_worths : IC :=
 (.seq (.reg [.n 1 .box [.t 0], .n 2 .mov [.c .nilm]])
   (.seq (.reg [.n 6 .mkmap [], .n 3 (.alloc [.nilm]) [], .s (.store 1) [.t 3, .t 6]])
   (.seq (.reg [.n 4 (.alloc [.nilf]) []])
   (.seq (.reg [.n 7 (.mkfunc (.func 105) 0) [.t 3, .t 1, .t 4], .s (.store 1) [.t 4, .t 7]])
   (.seq (.seq (.reg [.n 8 (.faddr 0) [.t 1], .n 9 (.iaddrA 2 1) [.t 8, .i 1], .n 10 (.load 1 false) [.t 9], .n 11 .mov [.i 0]])
   (.block 0 (.loop (.seq (.reg [.n 12 (.bin .lss) [.t 11, .t 10]])
   (.seq (.cond (.t 12) .skip (.exit 0))
   (.seq (.block 1 (.seq (.reg [.n 13 .mov [.t 11], .n 5 .mov [.t 13]])
   (.reg [.n 14 (.load 1 false) [.t 4], .n 15 .mov [.t 5], .n 16 (.build [(.int .i64 0), (.int .i64 0)] [(0, 1), (1, 1)]) [.i 0, .t 15], .n 17 .callv [.t 14, .t 16]])))
   (.reg [.n 18 (.bin .add) [.t 11, .i 1], .n 11 .mov [.t 18]])))))))
   (.seq (.reg [.n 19 (.load 1 false) [.t 3], .n 2 .mov [.t 19]])
   .ret))))))
theorem chk.volume_section_worths : chkF Tryz.prog 76 = some (20, ir.volume_section_worths, [.tmp 2]) := by kernel_rfl

/-- (paravane/volume.section).next -/
abbrev F.volume_section_next : Nat := 77
def ir.volume_section_next : IC :=
 (.seq (.reg [.n 2 .box [.t 0], .n 3 .box [.t 1], .n 4 .mov [.c .nilf]])
   (.seq (.reg [.n 5 (.mkfunc (.func 106) 0) [.t 3, .t 2], .n 4 .mov [.t 5]])
   .ret))
theorem chk.volume_section_next : chkF Tryz.prog 77 = some (6, ir.volume_section_next, [.tmp 4]) := by kernel_rfl

/-- paravane/volume.shapeOf -/
abbrev F.volume_shapeOf : Nat := 78
def ir.volume_shapeOf : IC :=
 (.seq (.reg [.n 1 .box [.t 0], .n 2 (.alloc [(.int .i64 0), (.int .i64 0)]) [], .n 3 .mov [.c (.bool false)]])
   (.seq (.seq (.reg [.n 5 (.load 1 false) [.t 1], .n 6 (.len false) [.t 5], .n 7 (.bin .eql) [.t 6, .i 0]])
   (.cond (.t 7) (.seq (.reg [.n 8 (.build [(.int .i64 0), (.int .i64 0)] []) [], .s (.store 2) [.t 2, .t 8], .n 3 .mov [.c (.bool false)]])
   .ret) .skip))
   (.seq (.reg [.n 9 (.load 1 false) [.t 1], .n 10 (.mkfunc (.func 108) 0) [.t 1], .n 11 (.call 107) [.t 9, .t 10], .n 12 (.un .not) [.t 11], .n 4 .mov [.t 12]])
   (.seq (.draw [0, 1, 0, 4, 12, 28, 63, 0, 127, 511] [.n 13 (.load 1 false) [.t 1], .n 14 (.len false) [.t 13], .n 15 (.load 1 false) [.t 1], .n 16 (.iaddrS 1) [.t 15, .i 0], .n 17 (.load 1 false) [.t 16], .n 18 (.len false) [.t 17], .n 19 (.build [(.int .i64 0), (.int .i64 0)] [(0, 1), (1, 1)]) [.t 14, .t 18], .n 20 .mov [.t 4], .s (.store 2) [.t 2, .t 19], .n 3 .mov [.t 20]])
   .ret))))
theorem chk.volume_shapeOf : chkF Tryz.prog 78 = some (21, ir.volume_shapeOf, [.cell 2 150, .tmp 3]) := by kernel_rfl

/-- paravane/volume.numbers -/
abbrev F.volume_numbers : Nat := 79
def ir.volume_numbers : IC :=
 (.seq (.reg [.n 3 .box [.t 1], .n 4 .mov [.c (.bool false)]])
   (.seq (.reg [.n 5 .mov [.t 0], .n 6 (.mkfunc (.func 109) 0) [.t 3], .n 7 (.call 107) [.t 5, .t 6], .n 8 (.un .not) [.t 7], .n 4 .mov [.t 8]])
   .ret))
theorem chk.volume_numbers : chkF Tryz.prog 79 = some (9, ir.volume_numbers, [.tmp 4]) := by kernel_rfl

/-- slices.Max[[]int,int] -/
abbrev F.slices_Max_int_int : Nat := 80
def ir.slices_Max_int_int : IC :=
 (.seq (.reg [.n 2 .mov [.i 0]])
   (.seq (.seq (.reg [.n 5 .mov [.t 0], .n 6 (.len false) [.t 5], .n 7 (.bin .lss) [.t 6, .i 1]])
   (.cond (.t 7) (.reg [⟨(some 8), .raw 20 9 0, [.c (.str ⟨#[115, 108, 105, 99, 101, 115, 46, 77, 97, 120, 58, 32, 101, 109, 112, 116, 121, 32, 108, 105, 115, 116]⟩)], none⟩, .s (.raw 18 0 0) [.t 8]]) .skip))
   (.seq (.reg [.n 9 .mov [.t 0], .n 10 (.iaddrS 1) [.t 9, .i 0], .n 11 (.load 1 false) [.t 10], .n 3 .mov [.t 11]])
   (.seq (.seq (.reg [.n 4 .mov [.i 1]])
   (.block 0 (.loop (.seq (.seq (.reg [.n 12 .mov [.t 4], .n 13 .mov [.t 0], .n 14 (.len false) [.t 13], .n 15 (.bin .lss) [.t 12, .t 14]])
   (.cond (.t 15) .skip (.exit 0)))
   (.seq (.block 1 (.reg [.n 18 .mov [.t 3], .n 19 .mov [.t 0], .n 20 .mov [.t 4], .n 21 (.iaddrS 1) [.t 19, .t 20], .n 22 (.load 1 false) [.t 21], .n 23 (.minmax true) [.t 18, .t 22], .n 3 .mov [.t 23]]))
   (.reg [.n 16 .mov [.t 4], .n 17 (.bin .add) [.t 16, .i 1], .n 4 .mov [.t 17]]))))))
   (.seq (.reg [.n 24 .mov [.t 3], .n 2 .mov [.t 24]])
   .ret)))))
theorem chk.slices_Max_int_int : chkF Tryz.prog 80 = some (25, ir.slices_Max_int_int, [.tmp 2]) := by kernel_rfl

/-- slices.IndexFunc[[]int,int] -/
abbrev F.slices_IndexFunc_int_int : Nat := 81
def ir.slices_IndexFunc_int_int : IC :=
 (.seq (.reg [.n 4 .mov [.i 0]])
   (.seq (.seq (.reg [.n 6 .mov [.t 0], .n 7 (.len false) [.t 6], .n 8 .mov [.i 0]])
   (.block 0 (.loop (.seq (.reg [.n 9 (.bin .lss) [.t 8, .t 7]])
   (.seq (.cond (.t 9) .skip (.exit 0))
   (.seq (.block 1 (.seq (.reg [.n 10 .mov [.t 8], .n 5 .mov [.t 10]])
   (.seq (.reg [.n 11 .mov [.t 1], .n 12 .mov [.t 0], .n 13 .mov [.t 5], .n 14 (.iaddrS 1) [.t 12, .t 13], .n 15 (.load 1 false) [.t 14], .n 16 .callv [.t 11, .t 15]])
   (.cond (.t 16) (.seq (.reg [.n 17 .mov [.t 5], .n 4 .mov [.t 17]])
   .ret) .skip))))
   (.reg [.n 18 (.bin .add) [.t 8, .i 1], .n 8 .mov [.t 18]])))))))
   (.seq (.reg [.n 4 .mov [.i (-1)]])
   .ret)))
theorem chk.slices_IndexFunc_int_int : chkF Tryz.prog 81 = some (19, ir.slices_IndexFunc_int_int, [.tmp 4]) := by kernel_rfl

/-- paravane/tape.codes$1 -/
abbrev F.tape_codes_1 : Nat := 82
def ir.tape_codes_1 : IC :=
 (.seq (.reg [.n 3 .mov [.i 0]])
   (.seq (.reg [.n 8 (.load 1 false) [.t 1], .n 9 (.len false) [.t 8], .n 10 .mov [.i 0]])
   (.block 0 (.loop (.seq (.reg [.n 11 (.bin .lss) [.t 10, .t 9]])
   (.seq (.cond (.t 11) .skip (.exit 0))
   (.seq (.block 1 (.seq (.reg [.n 12 (.iaddrS 1) [.t 8, .t 10], .n 13 (.load 1 false) [.t 12], .n 5 .mov [.t 13]])
   (.seq (.reg [.n 6 .mov [.i 0]])
   (.seq (.block 2 (.seq (.reg [.n 15 .mov [.t 5], .n 16 (.bin .eql) [.t 15, .i 40001], .n 14 .mov [.t 16]])
   (.cond (.t 14) (.reg [.n 6 .mov [.i 1]]) (.seq (.reg [.n 18 .mov [.t 5], .n 19 (.call 40) [.t 18], .n 17 .mov [.t 19]])
   (.cond (.t 17) (.seq (.reg [.n 20 .mov [.t 5], .n 21 .mov [.t 3], .n 22 (.bin .sub) [.t 20, .t 21], .n 7 .mov [.t 22]])
   (.seq (.reg [.n 23 .mov [.t 7], .n 24 (.bin .mul) [.i 2, .t 23], .n 25 (.bin .add) [.t 24, .i 2], .n 6 .mov [.t 25]])
   (.seq (.seq (.reg [.n 26 .mov [.t 7], .n 27 (.bin .lss) [.t 26, .i 0]])
   (.cond (.t 27) (.reg [.n 28 .mov [.t 7], .n 29 (.bin .mul) [.i 2, .t 28], .n 30 (.bin .sub) [.i 1, .t 29], .n 6 .mov [.t 30]]) .skip))
   (.reg [.n 31 .mov [.t 5], .n 3 .mov [.t 31]])))) .skip)))))
   (.seq (.reg [.n 32 .mov [.t 0], .n 33 .mov [.t 6], .n 34 .callv [.t 32, .t 33], .n 35 (.un .not) [.t 34]])
   (.cond (.t 35) .ret .skip))))))
   (.reg [.n 36 (.bin .add) [.t 10, .i 1], .n 10 .mov [.t 36]]))))))))
theorem chk.tape_codes_1 : chkF Tryz.prog 82 = some (37, ir.tape_codes_1, []) := by kernel_rfl

/-- (*paravane/tape.reader).two -/
abbrev F.tape_reader_two : Nat := 84
def ir.tape_reader_two : IC :=
 (.seq (.reg [.n 2 .mov [.i 0]])
   (.seq (.reg [.n 4 .mov [.t 0], .n 5 (.call 85) [.t 4], .n 3 .mov [.t 5]])
   (.seq (.reg [.n 6 .mov [.t 3], .n 7 (.bin .shl) [.t 6, .c (.int .u64 8)], .n 8 .mov [.t 0], .n 9 (.call 85) [.t 8], .n 10 (.bin .add) [.t 7, .t 9], .n 2 .mov [.t 10]])
   .ret)))
theorem chk.tape_reader_two : chkF Tryz.prog 84 = some (11, ir.tape_reader_two, [.tmp 2]) := by kernel_rfl

/-- (*paravane/tape.reader).one -/
abbrev F.tape_reader_one : Nat := 85
def ir.tape_reader_one : IC :=
 (.seq (.reg [.n 2 .mov [.i 0]])
   (.seq (.draw [0, 1, 3, 7, 0, 16, 48, 112, 255, 511, 1023, 1023, 2047, 8191] [.n 6 .mov [.t 0], .n 7 .nilck [.t 6], .n 8 (.faddr 0) [.t 7], .n 9 (.load 1 false) [.t 8], .n 10 .mov [.t 0], .n 11 .nilck [.t 10], .n 12 (.faddr 1) [.t 11], .n 13 (.load 1 false) [.t 12], .n 14 (.call 111) [.t 9, .t 13], .n 5 .mov [.t 14], .n 15 (.extract 0) [.t 5], .n 16 (.extract 1) [.t 5], .n 3 .mov [.t 15], .n 4 .mov [.t 16]])
   (.seq (.reg [.n 17 .mov [.t 4], .n 18 (.call 86) [.t 17]])
   (.seq (.reg [.n 19 .mov [.t 0], .n 20 .nilck [.t 19], .n 21 (.faddr 1) [.t 20], .n 22 (.load 1 false) [.t 21], .n 23 (.bin .add) [.t 22, .i 1], .n 24 .nilck [.t 19], .n 25 (.faddr 1) [.t 24], .s (.store 1) [.t 25, .t 23]])
   (.seq (.reg [.n 26 .mov [.t 3], .n 2 .mov [.t 26]])
   .ret)))))
theorem chk.tape_reader_one : chkF Tryz.prog 85 = some (27, ir.tape_reader_one, [.tmp 2]) := by kernel_rfl

/-- paravane/tape.must -/
abbrev F.tape_must : Nat := 86
def ir.tape_must : IC :=
 (.seq (.reg [.n 2 .mov [.t 0], .n 3 (.un .not) [.t 2]])
   (.cond (.t 3) (.reg [.n 4 (.build [] []) [], .n 5 (.raw 20 168 0) [.t 4], .s (.raw 18 0 0) [.t 5]]) .skip))
theorem chk.tape_must : chkF Tryz.prog 86 = some (6, ir.tape_must, []) := by kernel_rfl

/-- (*paravane/tape.reader).samples -/
abbrev F.tape_reader_samples : Nat := 87
def ir.tape_reader_samples : IC :=
 (.seq (.reg [.n 4 .mov [.c .nils]])
   (.seq (.reg [.n 5 .mov [.c .nils]])
   (.seq (.reg [.n 6 .mov [.i 0]])
   (.seq (.seq (.reg [.n 8 .mov [.t 1], .n 9 .mov [.i 0]])
   (.block 0 (.loop (.seq (.reg [.n 10 (.bin .lss) [.t 9, .t 8]])
   (.seq (.cond (.t 10) .skip (.exit 0))
   (.seq (.block 1 (.seq (.reg [.n 11 .mov [.t 0], .n 12 (.call 112) [.t 11], .n 7 .mov [.t 12]])
   (.seq (.block 2 (.seq (.reg [.n 18 .mov [.t 7], .n 19 (.bin .eql) [.t 18, .i 0], .n 17 .mov [.t 19]])
   (.cond (.t 17) (.seq (.reg [.n 20 .mov [.t 5], .n 21 (.mkslice 1 3) [.i 40000], .n 22 (.append 1 8 3) [.t 20, .t 21], .n 5 .mov [.t 22]])
   (.exit 1)) (.seq (.reg [.n 24 .mov [.t 7], .n 25 (.bin .eql) [.t 24, .i 1], .n 23 .mov [.t 25]])
   (.cond (.t 23) (.seq (.reg [.n 26 .mov [.t 5], .n 27 (.mkslice 1 3) [.i 40001], .n 28 (.append 1 8 3) [.t 26, .t 27], .n 5 .mov [.t 28]])
   (.exit 1)) (.seq (.reg [.n 30 .mov [.t 7], .n 31 (.bin .rem) [.t 30, .i 2], .n 32 (.bin .eql) [.t 31, .i 0], .n 29 .mov [.t 32]])
   (.cond (.t 29) (.reg [.n 33 .mov [.t 6], .n 34 .mov [.t 7], .n 35 (.bin .quo) [.t 34, .i 2], .n 36 (.bin .sub) [.t 35, .i 1], .n 37 (.bin .add) [.t 33, .t 36], .n 6 .mov [.t 37]]) (.reg [.n 13 .mov [.t 6], .n 14 .mov [.t 7], .n 15 (.bin .quo) [.t 14, .i 2], .n 16 (.bin .sub) [.t 13, .t 15], .n 6 .mov [.t 16]]))))))))
   (.seq (.reg [.n 38 .mov [.t 6], .n 39 (.call 40) [.t 38], .n 40 (.call 86) [.t 39]])
   (.reg [.n 41 .mov [.t 5], .n 42 .mov [.t 6], .n 43 (.mkslice 1 3) [.t 42], .n 44 (.append 1 8 3) [.t 41, .t 43], .n 5 .mov [.t 44]])))))
   (.reg [.n 45 (.bin .add) [.t 9, .i 1], .n 9 .mov [.t 45]])))))))
   (.seq (.reg [.n 46 .mov [.t 5], .n 4 .mov [.t 46]])
   .ret)))))
theorem chk.tape_reader_samples : chkF Tryz.prog 87 = some (47, ir.tape_reader_samples, [.tmp 4]) := by kernel_rfl

/-- (*paravane/tape.reader).checked -/
abbrev F.tape_reader_checked : Nat := 88
def ir.tape_reader_checked : IC :=
 (.seq (.draw [0, 1, 3, 7, 0, 0, 32, 96, 224, 511, 1023, 2047] [.n 5 .mov [.t 0], .n 6 .nilck [.t 5], .n 7 (.faddr 0) [.t 6], .n 8 (.load 1 false) [.t 7], .n 9 .mov [.t 1], .n 10 .mov [.t 0], .n 11 .nilck [.t 10], .n 12 (.faddr 1) [.t 11], .n 13 (.load 1 false) [.t 12], .n 14 (.raw 10 3 112) [.t 8, .t 9, .t 13], .n 15 (.call 45) [.t 14], .n 4 .mov [.t 15]])
   (.reg [.n 16 .mov [.t 0], .n 17 (.call 84) [.t 16], .n 18 .mov [.t 4], .n 19 (.bin .eql) [.t 17, .t 18], .n 20 (.call 86) [.t 19]]))
theorem chk.tape_reader_checked : chkF Tryz.prog 88 = some (21, ir.tape_reader_checked, []) := by kernel_rfl

/-- paravane/tape.both -/
abbrev F.tape_both : Nat := 89
def ir.tape_both : IC :=
 (.seq (.reg [.n 4 .mov [.c .nils]])
   (.seq (.reg [.n 5 .mov [.c (.func (.func 113) [] [])]])
   (.seq (.reg [.n 6 .mov [.c .nils]])
   (.seq (.seq (.reg [.n 8 .mov [.t 0], .n 9 (.len false) [.t 8], .n 10 .mov [.t 1], .n 11 (.len false) [.t 10], .n 12 (.minmax true) [.t 9, .t 11], .n 13 .mov [.i 0]])
   (.block 0 (.loop (.seq (.reg [.n 14 (.bin .lss) [.t 13, .t 12]])
   (.seq (.cond (.t 14) .skip (.exit 0))
   (.seq (.block 1 (.seq (.reg [.n 15 .mov [.t 13], .n 7 .mov [.t 15]])
   (.reg [.n 16 .mov [.t 6], .n 17 .mov [.t 5], .n 18 .mov [.t 0], .n 19 .mov [.t 7], .n 20 .callv [.t 17, .t 18, .t 19], .n 21 .mov [.t 5], .n 22 .mov [.t 1], .n 23 .mov [.t 7], .n 24 .callv [.t 21, .t 22, .t 23], .n 25 (.call 114) [.t 20, .t 24, .i 40000, .i 40001], .n 26 (.mkslice 1 3) [.t 25], .n 27 (.append 1 8 3) [.t 16, .t 26], .n 6 .mov [.t 27]])))
   (.reg [.n 28 (.bin .add) [.t 13, .i 1], .n 13 .mov [.t 28]])))))))
   (.seq (.reg [.n 29 .mov [.t 6], .n 4 .mov [.t 29]])
   .ret)))))
theorem chk.tape_both : chkF Tryz.prog 89 = some (30, ir.tape_both, [.tmp 4]) := by kernel_rfl

/-- paravane/tape.keyOf -/
abbrev F.tape_keyOf : Nat := 90
def ir.tape_keyOf : IC :=
 (.seq (.reg [.n 1 .box [.t 0], .n 2 (.alloc [(.int .i64 0), (.int .i64 0)]) []])
   (.seq (.reg [.n 3 (.faddr 0) [.t 1], .n 4 (.load 1 false) [.t 3], .n 5 (.faddr 1) [.t 1], .n 6 (.load 1 false) [.t 5], .n 7 (.build [(.int .i64 0), (.int .i64 0)] [(0, 1), (1, 1)]) [.t 4, .t 6], .s (.store 2) [.t 2, .t 7]])
   .ret))
theorem chk.tape_keyOf : chkF Tryz.prog 90 = some (8, ir.tape_keyOf, [.cell 2 120]) := by kernel_rfl

/-- slices.Collect[paravane/tape.key] -/
abbrev F.slices_Collect_tape_key : Nat := 91
def ir.slices_Collect_tape_key : IC :=
 (.seq (.reg [.n 2 .mov [.c .nils]])
   (.seq (.reg [.n 3 .mov [.t 0], .n 4 (.call 115) [.c .nils, .t 3], .n 2 .mov [.t 4]])
   .ret))
theorem chk.slices_Collect_tape_key : chkF Tryz.prog 91 = some (5, ir.slices_Collect_tape_key, [.tmp 2]) := by kernel_rfl

/-- slices.SortFunc[[]paravane/tape.key,paravane/tape.key] -/
abbrev F.slices_SortFunc_tape_key_tape_key : Nat := 92
def ir.slices_SortFunc_tape_key_tape_key : IC :=
 (.seq (.reg [.n 5 .mov [.t 0], .n 6 (.len false) [.t 5], .n 4 .mov [.t 6]])
   (.reg [.n 7 .mov [.t 0], .n 8 .mov [.t 4], .n 9 .mov [.t 4], .n 10 (.conv .u64) [.t 9], .n 11 (.call 117) [.t 10], .n 12 .mov [.t 1], .n 13 (.call 116) [.t 7, .i 0, .t 8, .t 11, .t 12]]))
theorem chk.slices_SortFunc_tape_key_tape_key : chkF Tryz.prog 92 = some (14, ir.slices_SortFunc_tape_key_tape_key, []) := by kernel_rfl

/-- maps.Keys[paravane/tape.rack,paravane/tape.key,[]int]$1 -/
abbrev F.maps_Keys_tape_rack_tape_key_int_1 : Nat := 93
def ir.maps_Keys_tape_rack_tape_key_int_1 : IC :=
 (.seq (.reg [.n 4 (.load 1 false) [.t 1], .n 5 (.raw 15 68 0) [.t 4]])
   (.block 0 (.loop (.seq (.reg [.n 6 (.raw 3 0 0) [.t 5], .n 7 (.extract 0) [.t 6]])
   (.seq (.cond (.t 7) .skip (.exit 0))
   (.block 1 (.seq (.reg [.n 8 (.raw 4 0 0) [.t 5], .n 9 (.extract 0) [.t 8], .n 3 (.alloc [(.int .i64 0), (.int .i64 0)]) [], .s (.store 2) [.t 3, .t 9]])
   (.seq (.reg [.n 10 .mov [.t 0], .n 11 (.load 2 true) [.t 3], .n 12 .callv [.t 10, .t 11], .n 13 (.un .not) [.t 12]])
   (.cond (.t 13) .ret .skip)))))))))
theorem chk.maps_Keys_tape_rack_tape_key_int_1 : chkF Tryz.prog 93 = some (14, ir.maps_Keys_tape_rack_tape_key_int_1, []) := by kernel_rfl

/-- slices.ContainsFunc[[]paravane/api.Bound,paravane/api.Bound] -/
abbrev F.slices_ContainsFunc_api_Bound_api_Bound : Nat := 95
def ir.slices_ContainsFunc_api_Bound_api_Bound : IC :=
 (.seq (.reg [.n 4 .mov [.c (.bool false)]])
   (.seq (.reg [.n 5 .mov [.t 0], .n 6 .mov [.t 1], .n 7 (.call 119) [.t 5, .t 6], .n 8 (.bin .geq) [.t 7, .i 0], .n 4 .mov [.t 8]])
   .ret))
theorem chk.slices_ContainsFunc_api_Bound_api_Bound : chkF Tryz.prog 95 = some (9, ir.slices_ContainsFunc_api_Bound_api_Bound, [.tmp 4]) := by kernel_rfl

/-- paravane/volume.CheckEchoes$1 -/
abbrev F.volume_CheckEchoes_1 : Nat := 96
def ir.volume_CheckEchoes_1 : IC :=
 (.seq (.reg [.n 1 .box [.t 0], .n 2 .mov [.c (.bool false)]])
   (.seq (.reg [.n 3 (.faddr 0) [.t 1], .n 4 (.load 1 false) [.t 3], .n 5 (.faddr 1) [.t 1], .n 6 (.load 1 false) [.t 5], .n 7 (.bin .gtr) [.t 4, .t 6], .n 8 .mov [.t 7], .w 9 (.faddr 0) [.t 1] 8 false, .w 10 (.load 1 false) [.t 9] 8 false, .w 11 (.bin .lss) [.t 10, .i (-16777216)] 8 false, .n 12 .pick [.t 8, .c (.bool true), .t 11], .n 13 .mov [.t 12], .w 14 (.faddr 1) [.t 1] 13 false, .w 15 (.load 1 false) [.t 14] 13 false, .w 16 (.bin .gtr) [.t 15, .i 16777216] 13 false, .n 17 .pick [.t 13, .c (.bool true), .t 16], .n 2 .mov [.t 17]])
   .ret))
theorem chk.volume_CheckEchoes_1 : chkF Tryz.prog 96 = some (18, ir.volume_CheckEchoes_1, [.tmp 2]) := by kernel_rfl

/-- (paravane/volume.box).last -/
abbrev F.volume_box_last : Nat := 97
def ir.volume_box_last : IC :=
 (.seq (.reg [.n 1 .box [.t 0], .n 2 (.alloc [(.int .i64 0), (.int .i64 0), (.int .i64 0)]) []])
   (.seq (.reg [.n 3 (.alloc [(.int .i64 0), (.int .i64 0), (.int .i64 0)]) []])
   (.seq (.seq (.reg [.n 5 .mov [.i 0]])
   (.block 0 (.loop (.seq (.reg [.n 6 (.bin .lss) [.t 5, .i 3]])
   (.seq (.cond (.t 6) .skip (.exit 0))
   (.seq (.block 1 (.seq (.reg [.n 7 .mov [.t 5], .n 4 .mov [.t 7]])
   (.draw [0, 0, 0, 6, 14, 0, 0, 96, 224, 510, 1022, 2047, 4095] [.n 8 .mov [.t 4], .n 9 .mov [.t 4], .n 10 (.faddr 0) [.t 1], .n 11 (.iaddrA 3 1) [.t 10, .t 9], .n 12 (.load 1 false) [.t 11], .n 13 .mov [.t 4], .n 14 (.faddr 3) [.t 1], .n 15 (.iaddrA 3 1) [.t 14, .t 13], .n 16 (.load 1 false) [.t 15], .n 17 (.bin .add) [.t 12, .t 16], .n 18 (.bin .sub) [.t 17, .i 1], .n 19 (.iaddrA 3 1) [.t 3, .t 8], .s (.store 1) [.t 19, .t 18]])))
   (.reg [.n 20 (.bin .add) [.t 5, .i 1], .n 5 .mov [.t 20]])))))))
   (.seq (.reg [.n 21 (.load 3 true) [.t 3], .s (.store 3) [.t 2, .t 21]])
   .ret))))
theorem chk.volume_box_last : chkF Tryz.prog 97 = some (22, ir.volume_box_last, [.cell 2 126]) := by kernel_rfl

/-- (paravane/volume.box).cells$1 -/
abbrev F.volume_box_cells_1 : Nat := 98
def ir.volume_box_cells_1 : IC :=
 (.seq (.reg [.n 6 (.faddr 3) [.t 1], .n 7 (.iaddrA 3 1) [.t 6, .i 0], .n 8 (.load 1 false) [.t 7], .n 9 .mov [.i 0]])
   (.block 0 (.loop (.seq (.reg [.n 10 (.bin .lss) [.t 9, .t 8]])
   (.seq (.cond (.t 10) .skip (.exit 0))
   (.seq (.block 1 (.seq (.reg [.n 11 .mov [.t 9], .n 3 .mov [.t 11]])
   (.seq (.reg [.n 12 (.faddr 3) [.t 1], .n 13 (.iaddrA 3 1) [.t 12, .i 1], .n 14 (.load 1 false) [.t 13], .n 15 .mov [.i 0]])
   (.block 2 (.loop (.seq (.reg [.n 16 (.bin .lss) [.t 15, .t 14]])
   (.seq (.cond (.t 16) .skip (.exit 2))
   (.seq (.block 3 (.seq (.reg [.n 17 .mov [.t 15], .n 4 .mov [.t 17]])
   (.seq (.reg [.n 18 (.faddr 3) [.t 1], .n 19 (.iaddrA 3 1) [.t 18, .i 2], .n 20 (.load 1 false) [.t 19], .n 21 .mov [.i 0]])
   (.block 4 (.loop (.seq (.reg [.n 22 (.bin .lss) [.t 21, .t 20]])
   (.seq (.cond (.t 22) .skip (.exit 4))
   (.seq (.block 5 (.seq (.reg [.n 23 .mov [.t 21], .n 5 .mov [.t 23]])
   (.seq (.reg [.n 24 .mov [.t 0], .n 25 (.faddr 0) [.t 1], .n 26 (.iaddrA 3 1) [.t 25, .i 0], .n 27 (.load 1 false) [.t 26], .n 28 .mov [.t 3], .n 29 (.bin .add) [.t 27, .t 28], .n 30 (.faddr 0) [.t 1], .n 31 (.iaddrA 3 1) [.t 30, .i 1], .n 32 (.load 1 false) [.t 31], .n 33 .mov [.t 4], .n 34 (.bin .add) [.t 32, .t 33], .n 35 (.faddr 0) [.t 1], .n 36 (.iaddrA 3 1) [.t 35, .i 2], .n 37 (.load 1 false) [.t 36], .n 38 .mov [.t 5], .n 39 (.bin .add) [.t 37, .t 38], .n 40 (.build [(.int .i64 0), (.int .i64 0), (.int .i64 0)] [(0, 1), (1, 1), (2, 1)]) [.t 29, .t 34, .t 39], .n 41 .callv [.t 24, .t 40], .n 42 (.un .not) [.t 41]])
   (.cond (.t 42) .ret .skip))))
   (.reg [.n 43 (.bin .add) [.t 21, .i 1], .n 21 .mov [.t 43]])))))))))
   (.reg [.n 44 (.bin .add) [.t 15, .i 1], .n 15 .mov [.t 44]])))))))))
   (.reg [.n 45 (.bin .add) [.t 9, .i 1], .n 9 .mov [.t 45]])))))))
theorem chk.volume_box_cells_1 : chkF Tryz.prog 98 = some (46, ir.volume_box_cells_1, []) := by kernel_rfl

/-- (paravane/volume.ear).near -/
abbrev F.volume_ear_near : Nat := 99
def ir.volume_ear_near : IC :=
 (.seq (.reg [.n 2 .box [.t 0], .n 3 .box [.t 1], .n 4 .mov [.c .nilf]])
   (.seq (.reg [.n 5 (.mkfunc (.func 120) 0) [.t 2, .t 3], .n 4 .mov [.t 5]])
   .ret))
theorem chk.volume_ear_near : chkF Tryz.prog 99 = some (6, ir.volume_ear_near, [.tmp 4]) := by kernel_rfl

/-- paravane/region.Root -/
abbrev F.region_Root : Nat := 100
def ir.region_Root : IC :=
 (.seq (.reg [.n 2 .mov [.i 0], .n 3 .mov [.i 0]])
   (.seq (.seq (.reg [.n 4 .mov [.t 0], .n 5 (.call 46) [.t 4, .i 0, .i 1099511627776], .n 6 (.un .not) [.t 5]])
   (.cond (.t 6) (.seq (.reg [.n 2 .mov [.i 0], .n 3 .mov [.i 7]])
   .ret) .skip))
   (.seq (.reg [.n 7 .mov [.t 0], .n 8 (.call 121) [.t 7], .n 2 .mov [.t 8], .n 3 .mov [.i 0]])
   .ret)))
theorem chk.region_Root : chkF Tryz.prog 100 = some (9, ir.region_Root, [.tmp 2, .tmp 3]) := by kernel_rfl

/-- (paravane/volume.ear).enclosure$1 -/
abbrev F.volume_ear_enclosure_1 : Nat := 101
def ir.volume_ear_enclosure_1 : IC :=
 (.seq (.reg [.n 3 .box [.t 0]])
   (.seq (.reg [.n 6 (.load 4 true) [.t 1], .n 7 (.load 3 true) [.t 2], .n 8 (.call 99) [.t 6, .t 7]])
   (.block 0 (.range (.t 8) [9, 10] (.seq (.reg [.n 4 .mov [.t 9]])
   (.reg [.n 5 .mov [.t 10]])) (.block 1 (.seq (.draw [0, 0, 0, 4, 0, 28, 60, 124, 0, 256, 0, 2046, 4095, 8191] [.n 11 (.load 1 false) [.t 3], .n 12 (.load 4 true) [.t 1], .n 13 (.faddr 0) [.t 1], .n 14 (.load 1 false) [.t 13], .n 15 .mov [.t 4], .n 16 (.iaddrS 3) [.t 14, .t 15], .n 17 (.faddr 2) [.t 16], .n 18 (.load 1 false) [.t 17], .n 19 (.iaddrA 3 1) [.t 2, .i 2], .n 20 (.load 1 false) [.t 19], .n 21 .mov [.t 5], .n 22 (.call 102) [.t 12, .t 18, .t 20, .t 21], .n 23 .callv [.t 11, .t 22], .n 24 (.un .not) [.t 23]])
   (.cond (.t 24) .ret .skip)))))))
theorem chk.volume_ear_enclosure_1 : chkF Tryz.prog 101 = some (25, ir.volume_ear_enclosure_1, []) := by kernel_rfl

/-- (paravane/volume.ear).reach -/
abbrev F.volume_ear_reach : Nat := 102
def ir.volume_ear_reach : IC :=
 (.seq (.reg [.n 4 .box [.t 0], .n 8 (.alloc [(.int .i64 0), (.int .i64 0)]) []])
   (.seq (.draw [0, 0, 0, 4, 12, 31, 0, 0, 0, 256, 768, 2047, 4095, 8191] [.n 14 .mov [.t 2], .n 15 .mov [.t 3], .n 16 (.faddr 2) [.t 4], .n 17 (.faddr 0) [.t 16], .n 18 (.load 1 false) [.t 17], .n 19 (.call 63) [.t 14, .t 15, .t 18], .n 20 .mov [.t 2], .n 21 .mov [.t 3], .n 22 (.faddr 2) [.t 4], .n 23 (.faddr 1) [.t 22], .n 24 (.load 1 false) [.t 23], .n 25 (.call 63) [.t 20, .t 21, .t 24], .n 9 .mov [.t 19], .n 10 .mov [.t 25]])
   (.seq (.reg [.n 11 (.alloc [(.int .i64 0), (.int .i64 0)]) []])
   (.seq (.reg [.n 26 .mov [.t 10], .n 27 .mov [.t 1], .n 28 (.len false) [.t 27], .n 29 (.bin .geq) [.t 26, .t 28], .n 12 .mov [.t 29]])
   (.seq (.seq (.reg [.n 30 .mov [.t 9], .n 13 .mov [.t 30]])
   (.block 0 (.loop (.seq (.seq (.reg [.n 31 .mov [.t 13], .n 32 .mov [.t 10], .n 33 (.bin .leq) [.t 31, .t 32], .n 34 .mov [.t 33], .w 35 .mov [.t 13] 34 true, .w 36 .mov [.t 1] 34 true, .w 37 (.len false) [.t 36] 34 true, .w 38 (.bin .lss) [.t 35, .t 37] 34 true, .n 39 .pick [.t 34, .t 38, .c (.bool false)]])
   (.cond (.t 39) .skip (.exit 0)))
   (.seq (.block 1 (.seq (.seq (.reg [.n 42 .mov [.t 12], .n 43 (.un .not) [.t 42]])
   (.cond (.t 43) (.reg [.n 44 .mov [.t 1], .n 45 .mov [.t 13], .n 46 (.iaddrS 2) [.t 44, .t 45], .n 47 (.load 2 true) [.t 46], .s (.store 2) [.t 11, .t 47], .n 12 .mov [.c (.bool true)]]) .skip))
   (.draw [0, 1, 0, 0, 12, 28, 60, 127, 0, 256, 0, 0, 3072, 7168, 15360, 32512, 65535, 131071] [.n 48 (.faddr 0) [.t 11], .n 49 (.load 1 false) [.t 48], .n 50 .mov [.t 1], .n 51 .mov [.t 13], .n 52 (.iaddrS 2) [.t 50, .t 51], .n 53 (.faddr 0) [.t 52], .n 54 (.load 1 false) [.t 53], .n 55 (.minmax false) [.t 49, .t 54], .n 56 (.faddr 1) [.t 11], .n 57 (.load 1 false) [.t 56], .n 58 .mov [.t 1], .n 59 .mov [.t 13], .n 60 (.iaddrS 2) [.t 58, .t 59], .n 61 (.faddr 1) [.t 60], .n 62 (.load 1 false) [.t 61], .n 63 (.minmax true) [.t 57, .t 62], .n 64 (.build [(.int .i64 0), (.int .i64 0)] [(0, 1), (1, 1)]) [.t 55, .t 63], .s (.store 2) [.t 11, .t 64]])))
   (.reg [.n 40 .mov [.t 13], .n 41 (.bin .add) [.t 40, .i 1], .n 13 .mov [.t 41]]))))))
   (.seq (.reg [.n 65 (.load 2 true) [.t 11], .s (.store 2) [.t 8, .t 65]])
   .ret))))))
theorem chk.volume_ear_reach : chkF Tryz.prog 102 = some (66, ir.volume_ear_reach, [.cell 8 131]) := by kernel_rfl

/-- paravane/volume.ringing$1 -/
abbrev F.volume_ringing_1 : Nat := 103
def ir.volume_ringing_1 : IC :=
 (.seq (.reg [.n 3 .mov [.c (.bool false)]])
   (.seq (.reg [.n 4 .mov [.t 0], .n 5 (.load 1 false) [.t 1], .n 6 (.un .neg) [.t 5], .n 7 (.load 1 false) [.t 1], .n 8 (.call 56) [.t 4, .t 6, .t 7], .n 9 (.un .not) [.t 8], .n 3 .mov [.t 9]])
   .ret))
theorem chk.volume_ringing_1 : chkF Tryz.prog 103 = some (10, ir.volume_ringing_1, [.tmp 3]) := by kernel_rfl

/-- paravane/volume.blockOf$1 -/
abbrev F.volume_blockOf_1 : Nat := 104
def ir.volume_blockOf_1 : IC :=
 (.seq (.reg [.n 2 .mov [.c (.bool false)]])
   (.seq (.reg [.n 3 .mov [.t 0], .n 4 (.call 56) [.t 3, .i (-1099511627776), .i 1099511627776], .n 5 (.un .not) [.t 4], .n 2 .mov [.t 5]])
   .ret))
theorem chk.volume_blockOf_1 : chkF Tryz.prog 104 = some (6, ir.volume_blockOf_1, [.tmp 2]) := by kernel_rfl

/-- (paravane/volume.section).worths$1 -/
abbrev F.volume_section_worths_1 : Nat := 105
def ir.volume_section_worths_1 : IC :=
 (.seq (.reg [.n 4 .box [.t 0], .n 5 .mov [.i 0]])
   (.seq (.seq (.reg [.n 13 (.load 1 false) [.t 1], .n 14 (.load 2 true) [.t 4], .n 15 (.lookup true) [.t 13, .t 14], .n 12 .mov [.t 15], .n 16 (.extract 0) [.t 12], .n 17 (.extract 1) [.t 12], .n 6 .mov [.t 16], .n 7 .mov [.t 17]])
   (.seq (.reg [.n 18 .mov [.t 7]])
   (.cond (.t 18) (.seq (.reg [.n 19 .mov [.t 6], .n 5 .mov [.t 19]])
   .ret) .skip)))
   (.seq (.reg [.n 8 (.alloc [(.int .i64 0)]) [], .n 9 (.alloc [(.bool false)]) [], .s (.store 1) [.t 8, .i 0], .s (.store 1) [.t 9, .c (.bool false)]])
   (.seq (.seq (.reg [.n 20 (.load 4 true) [.t 2], .n 21 (.load 2 true) [.t 4], .n 22 (.call 77) [.t 20, .t 21]])
   (.block 0 (.range (.t 22) [23] (.reg [.n 10 (.alloc [(.int .i64 0), (.int .i64 0)]) [], .s (.store 2) [.t 10, .t 23]]) (.block 1 (.seq (.reg [.n 24 (.load 1 false) [.t 3], .n 25 (.load 2 true) [.t 10], .n 26 .callv [.t 24, .t 25], .n 11 .mov [.t 26]])
   (.seq (.reg [.n 27 (.load 1 false) [.t 9], .n 28 (.un .not) [.t 27], .n 29 .mov [.t 28], .w 30 .mov [.t 11] 29 false, .w 31 (.load 1 false) [.t 8] 29 false, .w 32 (.bin .gtr) [.t 30, .t 31] 29 false, .n 33 .pick [.t 29, .c (.bool true), .t 32]])
   (.cond (.t 33) (.reg [.n 34 .mov [.t 11], .s (.store 1) [.t 8, .t 34], .s (.store 1) [.t 9, .c (.bool true)]]) .skip)))))))
   (.seq (.draw [0, 0, 0, 4, 0, 16, 60, 124, 0, 256, 1020, 2044, 0, 8188, 16383] [.n 35 (.load 1 false) [.t 1], .n 36 (.load 2 true) [.t 4], .n 37 (.faddr 2) [.t 2], .n 38 (.load 1 false) [.t 37], .n 39 (.faddr 0) [.t 4], .n 40 (.load 1 false) [.t 39], .n 41 (.iaddrS 1) [.t 38, .t 40], .n 42 (.load 1 false) [.t 41], .n 43 (.faddr 1) [.t 4], .n 44 (.load 1 false) [.t 43], .n 45 (.iaddrS 1) [.t 42, .t 44], .n 46 (.load 1 false) [.t 45], .n 47 (.load 1 false) [.t 8], .n 48 (.bin .add) [.t 46, .t 47], .s .mapup [.t 35, .t 36, .t 48]])
   (.seq (.reg [.n 49 (.load 1 false) [.t 1], .n 50 (.load 2 true) [.t 4], .n 51 (.lookup false) [.t 49, .t 50], .n 5 .mov [.t 51]])
   .ret))))))
theorem chk.volume_section_worths_1 : chkF Tryz.prog 105 = some (52, ir.volume_section_worths_1, [.tmp 5]) := by kernel_rfl

/-- (paravane/volume.section).next$1 -/
abbrev F.volume_section_next_1 : Nat := 106
def ir.volume_section_next_1 : IC :=
 (.seq (.seq (.reg [.n 5 (.faddr 0) [.t 1], .n 6 (.load 1 false) [.t 5], .n 7 (.bin .add) [.t 6, .i 1], .n 8 (.faddr 0) [.t 2], .n 9 (.iaddrA 2 1) [.t 8, .i 0], .n 10 (.load 1 false) [.t 9], .n 11 (.bin .eql) [.t 7, .t 10]])
   (.cond (.t 11) .ret .skip))
   (.seq (.reg [.n 12 (.faddr 1) [.t 1], .n 13 (.load 1 false) [.t 12], .n 14 (.faddr 3) [.t 2], .n 15 (.load 1 false) [.t 14], .n 16 (.bin .sub) [.t 13, .t 15], .n 17 (.minmax true) [.i 0, .t 16], .n 4 .mov [.t 17]])
   (.block 0 (.loop (.seq (.seq (.reg [.n 18 .mov [.t 4], .n 19 (.faddr 0) [.t 2], .n 20 (.iaddrA 2 1) [.t 19, .i 1], .n 21 (.load 1 false) [.t 20], .n 22 (.bin .sub) [.t 21, .i 1], .n 23 (.faddr 1) [.t 1], .n 24 (.load 1 false) [.t 23], .n 25 (.faddr 3) [.t 2], .n 26 (.load 1 false) [.t 25], .n 27 (.bin .add) [.t 24, .t 26], .n 28 (.minmax false) [.t 22, .t 27], .n 29 (.bin .leq) [.t 18, .t 28]])
   (.cond (.t 29) .skip (.exit 0)))
   (.seq (.block 1 (.seq (.reg [.n 32 .mov [.t 0], .n 33 (.faddr 0) [.t 1], .n 34 (.load 1 false) [.t 33], .n 35 (.bin .add) [.t 34, .i 1], .n 36 .mov [.t 4], .n 37 (.build [(.int .i64 0), (.int .i64 0)] [(0, 1), (1, 1)]) [.t 35, .t 36], .n 38 .callv [.t 32, .t 37], .n 39 (.un .not) [.t 38]])
   (.cond (.t 39) .ret .skip)))
   (.reg [.n 30 .mov [.t 4], .n 31 (.bin .add) [.t 30, .i 1], .n 4 .mov [.t 31]])))))))
theorem chk.volume_section_next_1 : chkF Tryz.prog 106 = some (40, ir.volume_section_next_1, []) := by kernel_rfl

/-- slices.ContainsFunc[[][]int,[]int] -/
abbrev F.slices_ContainsFunc_int_int_107 : Nat := 107
def ir.slices_ContainsFunc_int_int_107 : IC :=
 (.seq (.reg [.n 4 .mov [.c (.bool false)]])
   (.seq (.reg [.n 5 .mov [.t 0], .n 6 .mov [.t 1], .n 7 (.call 122) [.t 5, .t 6], .n 8 (.bin .geq) [.t 7, .i 0], .n 4 .mov [.t 8]])
   .ret))
theorem chk.slices_ContainsFunc_int_int_107 : chkF Tryz.prog 107 = some (9, ir.slices_ContainsFunc_int_int_107, [.tmp 4]) := by kernel_rfl

/-- paravane/volume.shapeOf$1 -/
abbrev F.volume_shapeOf_1 : Nat := 108
def ir.volume_shapeOf_1 : IC :=
 (.seq (.reg [.n 3 .mov [.c (.bool false)]])
   (.seq (.reg [.n 4 .mov [.t 0], .n 5 (.len false) [.t 4], .n 6 (.load 1 false) [.t 1], .n 7 (.iaddrS 1) [.t 6, .i 0], .n 8 (.load 1 false) [.t 7], .n 9 (.len false) [.t 8], .n 10 (.bin .neq) [.t 5, .t 9], .n 3 .mov [.t 10]])
   .ret))
theorem chk.volume_shapeOf_1 : chkF Tryz.prog 108 = some (11, ir.volume_shapeOf_1, [.tmp 3]) := by kernel_rfl

/-- paravane/volume.numbers$1 -/
abbrev F.volume_numbers_1 : Nat := 109
def ir.volume_numbers_1 : IC :=
 (.seq (.reg [.n 3 .mov [.c (.bool false)]])
   (.seq (.reg [.n 4 .mov [.t 0], .n 5 (.mkfunc (.func 110) 0) [.t 1], .n 6 (.call 39) [.t 4, .t 5], .n 3 .mov [.t 6]])
   .ret))
theorem chk.volume_numbers_1 : chkF Tryz.prog 109 = some (7, ir.volume_numbers_1, [.tmp 3]) := by kernel_rfl

/-- paravane/volume.numbers$1$1 -/
abbrev F.volume_numbers_1_1 : Nat := 110
def ir.volume_numbers_1_1 : IC :=
 (.seq (.reg [.n 3 .mov [.c (.bool false)]])
   (.seq (.reg [.n 4 .mov [.t 0], .n 5 (.load 1 false) [.t 1], .n 6 (.un .neg) [.t 5], .n 7 (.load 1 false) [.t 1], .n 8 (.call 56) [.t 4, .t 6, .t 7], .n 9 (.un .not) [.t 8], .n 3 .mov [.t 9]])
   .ret))
theorem chk.volume_numbers_1_1 : chkF Tryz.prog 110 = some (10, ir.volume_numbers_1_1, [.tmp 3]) := by kernel_rfl

/-- (paravane/tape.bytes).at -/
abbrev F.tape_bytes_at : Nat := 111
def ir.tape_bytes_at : IC :=
 (.seq (.reg [.n 4 .mov [.i 0], .n 5 .mov [.c (.bool false)]])
   (.seq (.seq (.reg [.n 6 .mov [.t 1], .n 7 .mov [.t 0], .n 8 (.len true) [.t 7], .n 9 (.bin .geq) [.t 6, .t 8]])
   (.cond (.t 9) (.seq (.reg [.n 4 .mov [.i 0], .n 5 .mov [.c (.bool false)]])
   .ret) .skip))
   (.seq (.reg [.n 10 .mov [.t 0], .n 11 .mov [.t 1], .n 12 (.raw 9 112 0) [.t 10, .t 11], .n 13 (.conv .i64) [.t 12], .n 4 .mov [.t 13], .n 5 .mov [.c (.bool true)]])
   .ret)))
theorem chk.tape_bytes_at : chkF Tryz.prog 111 = some (14, ir.tape_bytes_at, [.tmp 4, .tmp 5]) := by kernel_rfl

/-- (*paravane/tape.reader).code -/
abbrev F.tape_reader_code : Nat := 112
def ir.tape_reader_code : IC :=
 (.seq (.reg [.n 2 .mov [.i 0]])
   (.seq (.reg [.n 3 .mov [.i 0], .n 4 .mov [.i 1]])
   (.block 0 (.loop (.block 1 (.seq (.reg [.n 6 .mov [.t 0], .n 7 (.call 85) [.t 6], .n 5 .mov [.t 7]])
   (.seq (.reg [.n 8 .mov [.t 3], .n 9 .mov [.t 5], .n 10 (.bin .rem) [.t 9, .i 128], .n 11 .mov [.t 4], .n 12 (.bin .mul) [.t 10, .t 11], .n 13 (.bin .add) [.t 8, .t 12], .n 3 .mov [.t 13]])
   (.seq (.seq (.reg [.n 14 .mov [.t 5], .n 15 (.bin .lss) [.t 14, .i 128]])
   (.cond (.t 15) (.seq (.reg [.n 16 .mov [.t 5], .n 17 (.bin .gtr) [.t 16, .i 0], .n 18 .mov [.t 17], .w 19 .mov [.t 4] 18 false, .w 20 (.bin .eql) [.t 19, .i 1] 18 false, .n 21 .pick [.t 18, .c (.bool true), .t 20], .n 22 (.call 86) [.t 21]])
   (.seq (.reg [.n 23 .mov [.t 3], .n 2 .mov [.t 23]])
   .ret)) .skip))
   (.seq (.reg [.n 24 .mov [.t 4], .n 25 (.bin .mul) [.t 24, .i 128], .n 4 .mov [.t 25]])
   (.reg [.n 26 .mov [.t 4], .n 27 (.bin .leq) [.t 26, .i 16384], .n 28 (.call 86) [.t 27]]))))))))))
theorem chk.tape_reader_code : chkF Tryz.prog 112 = some (29, ir.tape_reader_code, [.tmp 2]) := by kernel_rfl

/-- paravane/tape.both$1 -/
abbrev F.tape_both_1 : Nat := 113
def ir.tape_both_1 : IC :=
 (.seq (.reg [.n 4 .mov [.i 0]])
   (.seq (.seq (.reg [.n 5 .mov [.t 1], .n 6 .mov [.t 0], .n 7 (.len false) [.t 6], .n 8 (.bin .lss) [.t 5, .t 7]])
   (.cond (.t 8) (.seq (.reg [.n 9 .mov [.t 0], .n 10 .mov [.t 1], .n 11 (.iaddrS 1) [.t 9, .t 10], .n 12 (.load 1 false) [.t 11], .n 4 .mov [.t 12]])
   .ret) .skip))
   (.seq (.reg [.n 4 .mov [.i 40000]])
   .ret)))
theorem chk.tape_both_1 : chkF Tryz.prog 113 = some (13, ir.tape_both_1, [.tmp 4]) := by kernel_rfl

/-- paravane/tape.joined[int] -/
abbrev F.tape_joined_int : Nat := 114
def ir.tape_joined_int : IC :=
 (.seq (.reg [.n 8 .mov [.i 0]])
   (.seq (.block 0 (.seq (.seq (.reg [.n 10 .mov [.t 0], .n 11 .mov [.t 1], .n 12 (.bin .eql) [.t 10, .t 11], .n 9 .mov [.t 12]])
   (.cond (.t 9) .skip (.reg [.n 13 .mov [.t 1], .n 14 .mov [.t 2], .n 15 (.bin .eql) [.t 13, .t 14], .n 9 .mov [.t 15]])))
   (.cond (.t 9) (.seq (.reg [.n 16 .mov [.t 0], .n 8 .mov [.t 16]])
   .ret) (.seq (.reg [.n 18 .mov [.t 0], .n 19 .mov [.t 2], .n 20 (.bin .eql) [.t 18, .t 19], .n 17 .mov [.t 20]])
   (.cond (.t 17) (.seq (.reg [.n 21 .mov [.t 1], .n 8 .mov [.t 21]])
   .ret) .skip)))))
   (.seq (.reg [.n 22 .mov [.t 3], .n 8 .mov [.t 22]])
   .ret)))
theorem chk.tape_joined_int : chkF Tryz.prog 114 = some (23, ir.tape_joined_int, [.tmp 8]) := by kernel_rfl

/-- slices.AppendSeq[[]paravane/tape.key,paravane/tape.key] -/
abbrev F.slices_AppendSeq_tape_key_tape_key : Nat := 115
def ir.slices_AppendSeq_tape_key_tape_key : IC :=
 (.seq (.reg [.n 2 .box [.t 0], .n 4 .mov [.c .nils]])
   (.seq (.seq (.reg [.n 6 .mov [.t 1]])
   (.block 0 (.range (.t 6) [7] (.reg [.n 5 (.alloc [(.int .i64 0), (.int .i64 0)]) [], .s (.store 2) [.t 5, .t 7]]) (.block 1 (.reg [.n 8 (.load 1 false) [.t 2], .n 9 (.load 2 true) [.t 5], .n 10 (.mkslice 2 120) [.t 9], .n 11 (.append 2 16 120) [.t 8, .t 10], .s (.store 1) [.t 2, .t 11]])))))
   (.seq (.reg [.n 12 (.load 1 false) [.t 2], .n 4 .mov [.t 12]])
   .ret)))
theorem chk.slices_AppendSeq_tape_key_tape_key : chkF Tryz.prog 115 = some (13, ir.slices_AppendSeq_tape_key_tape_key, [.tmp 4]) := by kernel_rfl

/-- slices.pdqsortCmpFunc[paravane/tape.key] -/
abbrev F.slices_pdqsortCmpFunc_tape_key : Nat := 116
def ir.slices_pdqsortCmpFunc_tape_key : IC :=
 (.seq (.reg [.n 10 .mov [.c (.bool true)]])
   (.seq (.reg [.n 11 .mov [.c (.bool true)]])
   (.block 0 (.loop (.block 1 (.seq (.reg [.n 21 .mov [.t 2], .n 22 .mov [.t 1], .n 23 (.bin .sub) [.t 21, .t 22], .n 12 .mov [.t 23]])
   (.seq (.seq (.reg [.n 24 .mov [.t 12], .n 25 (.bin .leq) [.t 24, .i 12]])
   (.cond (.t 25) (.seq (.reg [.n 26 .mov [.t 0], .n 27 .mov [.t 1], .n 28 .mov [.t 2], .n 29 .mov [.t 4], .n 30 (.call 123) [.t 26, .t 27, .t 28, .t 29]])
   .ret) .skip))
   (.seq (.seq (.reg [.n 31 .mov [.t 3], .n 32 (.bin .eql) [.t 31, .i 0]])
   (.cond (.t 32) (.seq (.reg [.n 33 .mov [.t 0], .n 34 .mov [.t 1], .n 35 .mov [.t 2], .n 36 .mov [.t 4], .n 37 (.call 124) [.t 33, .t 34, .t 35, .t 36]])
   .ret) .skip))
   (.seq (.seq (.reg [.n 38 .mov [.t 10], .n 39 (.un .not) [.t 38]])
   (.cond (.t 39) (.seq (.reg [.n 40 .mov [.t 0], .n 41 .mov [.t 1], .n 42 .mov [.t 2], .n 43 .mov [.t 4], .n 44 (.call 125) [.t 40, .t 41, .t 42, .t 43]])
   (.reg [.n 45 .mov [.t 3], .n 46 (.bin .sub) [.t 45, .i 1], .n 3 .mov [.t 46]])) .skip))
   (.seq (.reg [.n 48 .mov [.t 0], .n 49 .mov [.t 1], .n 50 .mov [.t 2], .n 51 .mov [.t 4], .n 52 (.call 126) [.t 48, .t 49, .t 50, .t 51], .n 47 .mov [.t 52], .n 53 (.extract 0) [.t 47], .n 54 (.extract 1) [.t 47], .n 13 .mov [.t 53], .n 14 .mov [.t 54]])
   (.seq (.seq (.reg [.n 55 .mov [.t 14], .n 56 (.bin .eql) [.t 55, .i 2]])
   (.cond (.t 56) (.seq (.reg [.n 57 .mov [.t 0], .n 58 .mov [.t 1], .n 59 .mov [.t 2], .n 60 .mov [.t 4], .n 61 (.call 127) [.t 57, .t 58, .t 59, .t 60]])
   (.seq (.reg [.n 62 .mov [.t 2], .n 63 (.bin .sub) [.t 62, .i 1], .n 64 .mov [.t 13], .n 65 .mov [.t 1], .n 66 (.bin .sub) [.t 64, .t 65], .n 67 (.bin .sub) [.t 63, .t 66], .n 13 .mov [.t 67]])
   (.reg [.n 14 .mov [.i 1]]))) .skip))
   (.seq (.seq (.reg [.n 68 .mov [.t 10], .n 69 .mov [.t 68], .w 70 .mov [.t 11] 69 true, .n 71 .pick [.t 69, .t 70, .c (.bool false)], .n 72 .mov [.t 71], .w 73 .mov [.t 14] 72 true, .w 74 (.bin .eql) [.t 73, .i 1] 72 true, .n 75 .pick [.t 72, .t 74, .c (.bool false)]])
   (.cond (.t 75) (.seq (.reg [.n 76 .mov [.t 0], .n 77 .mov [.t 1], .n 78 .mov [.t 2], .n 79 .mov [.t 4], .n 80 (.call 128) [.t 76, .t 77, .t 78, .t 79]])
   (.cond (.t 80) .ret .skip)) .skip))
   (.seq (.seq (.draw [0, 1, 3, 7, 7, 7, 39, 119, 247, 7, 7, 1543, 3591, 8191, 16383, 32767, 65535] [.n 81 .mov [.t 1], .n 82 (.bin .gtr) [.t 81, .i 0], .n 83 .mov [.t 82], .w 84 .mov [.t 4] 83 true, .w 85 .mov [.t 0] 83 true, .w 86 .mov [.t 1] 83 true, .w 87 (.bin .sub) [.t 86, .i 1] 83 true, .w 88 (.iaddrS 2) [.t 85, .t 87] 83 true, .w 89 (.load 2 true) [.t 88] 83 true, .w 90 .mov [.t 0] 83 true, .w 91 .mov [.t 13] 83 true, .w 92 (.iaddrS 2) [.t 90, .t 91] 83 true, .w 93 (.load 2 true) [.t 92] 83 true, .w 94 .callv [.t 84, .t 89, .t 93] 83 true, .w 95 (.bin .lss) [.t 94, .i 0] 83 true, .w 96 (.un .not) [.t 95] 83 true, .n 97 .pick [.t 83, .t 96, .c (.bool false)]])
   (.cond (.t 97) (.seq (.reg [.n 98 .mov [.t 0], .n 99 .mov [.t 1], .n 100 .mov [.t 2], .n 101 .mov [.t 13], .n 102 .mov [.t 4], .n 103 (.call 129) [.t 98, .t 99, .t 100, .t 101, .t 102], .n 15 .mov [.t 103]])
   (.seq (.reg [.n 104 .mov [.t 15], .n 1 .mov [.t 104]])
   (.exit 1))) .skip))
   (.seq (.reg [.n 106 .mov [.t 0], .n 107 .mov [.t 1], .n 108 .mov [.t 2], .n 109 .mov [.t 13], .n 110 .mov [.t 4], .n 111 (.call 130) [.t 106, .t 107, .t 108, .t 109, .t 110], .n 105 .mov [.t 111], .n 112 (.extract 0) [.t 105], .n 113 (.extract 1) [.t 105], .n 16 .mov [.t 112], .n 17 .mov [.t 113]])
   (.seq (.reg [.n 114 .mov [.t 17], .n 11 .mov [.t 114]])
   (.seq (.reg [.n 115 .mov [.t 16], .n 116 .mov [.t 1], .n 117 (.bin .sub) [.t 115, .t 116], .n 118 .mov [.t 2], .n 119 .mov [.t 16], .n 120 (.bin .sub) [.t 118, .t 119], .n 18 .mov [.t 117], .n 19 .mov [.t 120]])
   (.seq (.reg [.n 121 .mov [.t 12], .n 122 (.bin .quo) [.t 121, .i 8], .n 20 .mov [.t 122]])
   (.seq (.reg [.n 123 .mov [.t 18], .n 124 .mov [.t 19], .n 125 (.bin .lss) [.t 123, .t 124]])
   (.cond (.t 125) (.seq (.reg [.n 126 .mov [.t 18], .n 127 .mov [.t 20], .n 128 (.bin .geq) [.t 126, .t 127], .n 10 .mov [.t 128]])
   (.seq (.reg [.n 129 .mov [.t 0], .n 130 .mov [.t 1], .n 131 .mov [.t 16], .n 132 .mov [.t 3], .n 133 .mov [.t 4], .n 134 (.call 116) [.t 129, .t 130, .t 131, .t 132, .t 133]])
   (.reg [.n 135 .mov [.t 16], .n 136 (.bin .add) [.t 135, .i 1], .n 1 .mov [.t 136]]))) (.seq (.reg [.n 137 .mov [.t 19], .n 138 .mov [.t 20], .n 139 (.bin .geq) [.t 137, .t 138], .n 10 .mov [.t 139]])
   (.seq (.reg [.n 140 .mov [.t 0], .n 141 .mov [.t 16], .n 142 (.bin .add) [.t 141, .i 1], .n 143 .mov [.t 2], .n 144 .mov [.t 3], .n 145 .mov [.t 4], .n 146 (.call 116) [.t 140, .t 142, .t 143, .t 144, .t 145]])
   (.reg [.n 147 .mov [.t 16], .n 2 .mov [.t 147]]))))))))))))))))))))))
theorem chk.slices_pdqsortCmpFunc_tape_key : chkF Tryz.prog 116 = some (148, ir.slices_pdqsortCmpFunc_tape_key, []) := by kernel_rfl

/-- math/bits.Len -/
abbrev F.math_bits_Len : Nat := 117
def ir.math_bits_Len : IC :=
 (.seq (.reg [.n 2 .mov [.i 0]])
   (.seq (.cond (.c (.bool false)) (.seq (.reg [.n 3 .mov [.t 0], .n 4 (.conv .u32) [.t 3], .n 5 (.call 131) [.t 4], .n 2 .mov [.t 5]])
   .ret) .skip)
   (.seq (.reg [.n 6 .mov [.t 0], .n 7 (.call 132) [.t 6], .n 2 .mov [.t 7]])
   .ret)))
theorem chk.math_bits_Len : chkF Tryz.prog 117 = some (8, ir.math_bits_Len, [.tmp 2]) := by kernel_rfl

/-- slices.IndexFunc[[]paravane/api.Bound,paravane/api.Bound] -/
abbrev F.slices_IndexFunc_api_Bound_api_Bound : Nat := 119
def ir.slices_IndexFunc_api_Bound_api_Bound : IC :=
 (.seq (.reg [.n 4 .mov [.i 0]])
   (.seq (.seq (.reg [.n 6 .mov [.t 0], .n 7 (.len false) [.t 6], .n 8 .mov [.i 0]])
   (.block 0 (.loop (.seq (.reg [.n 9 (.bin .lss) [.t 8, .t 7]])
   (.seq (.cond (.t 9) .skip (.exit 0))
   (.seq (.block 1 (.seq (.reg [.n 10 .mov [.t 8], .n 5 .mov [.t 10]])
   (.seq (.reg [.n 11 .mov [.t 1], .n 12 .mov [.t 0], .n 13 .mov [.t 5], .n 14 (.iaddrS 2) [.t 12, .t 13], .n 15 (.load 2 true) [.t 14], .n 16 .callv [.t 11, .t 15]])
   (.cond (.t 16) (.seq (.reg [.n 17 .mov [.t 5], .n 4 .mov [.t 17]])
   .ret) .skip))))
   (.reg [.n 18 (.bin .add) [.t 8, .i 1], .n 8 .mov [.t 18]])))))))
   (.seq (.reg [.n 4 .mov [.i (-1)]])
   .ret)))
theorem chk.slices_IndexFunc_api_Bound_api_Bound : chkF Tryz.prog 119 = some (19, ir.slices_IndexFunc_api_Bound_api_Bound, [.tmp 4]) := by kernel_rfl

/-- (paravane/volume.ear).near$1 -/
abbrev F.volume_ear_near_1 : Nat := 120
def ir.volume_ear_near_1 : IC :=
 (.seq (.reg [.n 7 (.faddr 0) [.t 1], .n 8 (.load 1 false) [.t 7], .n 9 (.len false) [.t 8], .n 10 .mov [.i 0]])
   (.block 0 (.loop (.seq (.reg [.n 11 (.bin .lss) [.t 10, .t 9]])
   (.seq (.cond (.t 11) .skip (.exit 0))
   (.seq (.block 1 (.seq (.reg [.n 12 .mov [.t 10], .n 13 (.iaddrS 3) [.t 8, .t 10], .n 14 (.load 3 true) [.t 13], .n 5 (.alloc [(.int .i64 0), (.int .i64 0), .nils]) [], .n 4 .mov [.t 12], .s (.store 3) [.t 5, .t 14]])
   (.seq (.reg [.n 15 (.iaddrA 3 1) [.t 2, .i 0], .n 16 (.load 1 false) [.t 15], .n 17 (.faddr 0) [.t 5], .n 18 (.load 1 false) [.t 17], .n 19 (.bin .sub) [.t 16, .t 18], .n 20 (.iaddrA 3 1) [.t 2, .i 0], .n 21 (.load 1 false) [.t 20], .n 22 (.faddr 0) [.t 5], .n 23 (.load 1 false) [.t 22], .n 24 (.bin .sub) [.t 21, .t 23], .n 25 (.bin .mul) [.t 19, .t 24], .n 26 (.iaddrA 3 1) [.t 2, .i 1], .n 27 (.load 1 false) [.t 26], .n 28 (.faddr 1) [.t 5], .n 29 (.load 1 false) [.t 28], .n 30 (.bin .sub) [.t 27, .t 29], .n 31 (.iaddrA 3 1) [.t 2, .i 1], .n 32 (.load 1 false) [.t 31], .n 33 (.faddr 1) [.t 5], .n 34 (.load 1 false) [.t 33], .n 35 (.bin .sub) [.t 32, .t 34], .n 36 (.bin .mul) [.t 30, .t 35], .n 37 (.bin .add) [.t 25, .t 36], .n 6 .mov [.t 37]])
   (.seq (.reg [.n 38 .mov [.t 6], .n 39 (.faddr 1) [.t 1], .n 40 (.load 1 false) [.t 39], .n 41 (.faddr 1) [.t 1], .n 42 (.load 1 false) [.t 41], .n 43 (.bin .mul) [.t 40, .t 42], .n 44 (.bin .leq) [.t 38, .t 43], .n 45 .mov [.t 44], .w 46 .mov [.t 0] 45 true, .w 47 .mov [.t 4] 45 true, .w 48 .mov [.t 6] 45 true, .w 49 .callv [.t 46, .t 47, .t 48] 45 true, .w 50 (.un .not) [.t 49] 45 true, .n 51 .pick [.t 45, .t 50, .c (.bool false)]])
   (.cond (.t 51) .ret .skip)))))
   (.reg [.n 52 (.bin .add) [.t 10, .i 1], .n 10 .mov [.t 52]])))))))
theorem chk.volume_ear_near_1 : chkF Tryz.prog 120 = some (53, ir.volume_ear_near_1, []) := by kernel_rfl

/-- paravane/region.root -/
abbrev F.region_root : Nat := 121
def ir.region_root : IC :=
 (.seq (.reg [.n 2 .mov [.i 0]])
   (.seq (.reg [.n 3 .mov [.i 0]])
   (.seq (.seq (.reg [.n 4 .mov [.i 1048576]])
   (.block 0 (.loop (.seq (.seq (.reg [.n 5 .mov [.t 4], .n 6 (.bin .gtr) [.t 5, .i 0]])
   (.cond (.t 6) .skip (.exit 0)))
   (.seq (.block 1 (.seq (.reg [.n 9 .mov [.t 3], .n 10 .mov [.t 4], .n 11 (.bin .add) [.t 9, .t 10], .n 12 .mov [.t 3], .n 13 .mov [.t 4], .n 14 (.bin .add) [.t 12, .t 13], .n 15 (.bin .mul) [.t 11, .t 14], .n 16 .mov [.t 0], .n 17 (.bin .leq) [.t 15, .t 16]])
   (.cond (.t 17) (.reg [.n 18 .mov [.t 3], .n 19 .mov [.t 4], .n 20 (.bin .add) [.t 18, .t 19], .n 3 .mov [.t 20]]) .skip)))
   (.reg [.n 7 .mov [.t 4], .n 8 (.bin .quo) [.t 7, .i 2], .n 4 .mov [.t 8]]))))))
   (.seq (.reg [.n 21 .mov [.t 3], .n 2 .mov [.t 21]])
   .ret))))
theorem chk.region_root : chkF Tryz.prog 121 = some (22, ir.region_root, [.tmp 2]) := by kernel_rfl

/-- slices.IndexFunc[[][]int,[]int] -/
abbrev F.slices_IndexFunc_int_int_122 : Nat := 122
def ir.slices_IndexFunc_int_int_122 : IC :=
 (.seq (.reg [.n 4 .mov [.i 0]])
   (.seq (.seq (.reg [.n 6 .mov [.t 0], .n 7 (.len false) [.t 6], .n 8 .mov [.i 0]])
   (.block 0 (.loop (.seq (.reg [.n 9 (.bin .lss) [.t 8, .t 7]])
   (.seq (.cond (.t 9) .skip (.exit 0))
   (.seq (.block 1 (.seq (.reg [.n 10 .mov [.t 8], .n 5 .mov [.t 10]])
   (.seq (.reg [.n 11 .mov [.t 1], .n 12 .mov [.t 0], .n 13 .mov [.t 5], .n 14 (.iaddrS 1) [.t 12, .t 13], .n 15 (.load 1 false) [.t 14], .n 16 .callv [.t 11, .t 15]])
   (.cond (.t 16) (.seq (.reg [.n 17 .mov [.t 5], .n 4 .mov [.t 17]])
   .ret) .skip))))
   (.reg [.n 18 (.bin .add) [.t 8, .i 1], .n 8 .mov [.t 18]])))))))
   (.seq (.reg [.n 4 .mov [.i (-1)]])
   .ret)))
theorem chk.slices_IndexFunc_int_int_122 : chkF Tryz.prog 122 = some (19, ir.slices_IndexFunc_int_int_122, [.tmp 4]) := by kernel_rfl

/-- slices.insertionSortCmpFunc[paravane/tape.key] -/
abbrev F.slices_insertionSortCmpFunc_tape_key : Nat := 123
def ir.slices_insertionSortCmpFunc_tape_key : IC :=
 (.seq (.reg [.n 10 .mov [.t 1], .n 11 (.bin .add) [.t 10, .i 1], .n 8 .mov [.t 11]])
   (.block 0 (.loop (.seq (.seq (.reg [.n 12 .mov [.t 8], .n 13 .mov [.t 2], .n 14 (.bin .lss) [.t 12, .t 13]])
   (.cond (.t 14) .skip (.exit 0)))
   (.seq (.block 1 (.seq (.reg [.n 17 .mov [.t 8], .n 9 .mov [.t 17]])
   (.block 2 (.loop (.seq (.seq (.draw [0, 0, 3, 7, 15, 15, 15, 111, 239, 15, 15, 1039, 3599, 7695, 16383, 32767, 65535] [.n 18 .mov [.t 9], .n 19 .mov [.t 1], .n 20 (.bin .gtr) [.t 18, .t 19], .n 21 .mov [.t 20], .w 22 .mov [.t 3] 21 true, .w 23 .mov [.t 0] 21 true, .w 24 .mov [.t 9] 21 true, .w 25 (.iaddrS 2) [.t 23, .t 24] 21 true, .w 26 (.load 2 true) [.t 25] 21 true, .w 27 .mov [.t 0] 21 true, .w 28 .mov [.t 9] 21 true, .w 29 (.bin .sub) [.t 28, .i 1] 21 true, .w 30 (.iaddrS 2) [.t 27, .t 29] 21 true, .w 31 (.load 2 true) [.t 30] 21 true, .w 32 .callv [.t 22, .t 26, .t 31] 21 true, .w 33 (.bin .lss) [.t 32, .i 0] 21 true, .n 34 .pick [.t 21, .t 33, .c (.bool false)]])
   (.cond (.t 34) .skip (.exit 2)))
   (.seq (.block 3 (.draw [0, 0, 0, 0, 8, 0, 0, 64, 224, 480, 0, 0, 3072, 7168, 16355, 32739, 65535, 131071] [.n 37 .mov [.t 0], .n 38 .mov [.t 9], .n 39 .mov [.t 0], .n 40 .mov [.t 9], .n 41 (.bin .sub) [.t 40, .i 1], .n 42 .mov [.t 0], .n 43 .mov [.t 9], .n 44 (.bin .sub) [.t 43, .i 1], .n 45 (.iaddrS 2) [.t 42, .t 44], .n 46 (.load 2 true) [.t 45], .n 47 .mov [.t 0], .n 48 .mov [.t 9], .n 49 (.iaddrS 2) [.t 47, .t 48], .n 50 (.load 2 true) [.t 49], .n 51 (.iaddrS 2) [.t 37, .t 38], .s (.store 2) [.t 51, .t 46], .n 52 (.iaddrS 2) [.t 39, .t 41], .s (.store 2) [.t 52, .t 50]]))
   (.reg [.n 35 .mov [.t 9], .n 36 (.bin .sub) [.t 35, .i 1], .n 9 .mov [.t 36]])))))))
   (.reg [.n 15 .mov [.t 8], .n 16 (.bin .add) [.t 15, .i 1], .n 8 .mov [.t 16]]))))))
theorem chk.slices_insertionSortCmpFunc_tape_key : chkF Tryz.prog 123 = some (53, ir.slices_insertionSortCmpFunc_tape_key, []) := by kernel_rfl

/-- math/bits.Len64 -/
abbrev F.math_bits_Len64 : Nat := 132
def ir.math_bits_Len64 : IC :=
 (.seq (.reg [.n 2 .mov [.i 0]])
   (.seq (.seq (.reg [.n 3 .mov [.t 0], .n 4 (.bin .geq) [.t 3, .c (.int .u64 4294967296)]])
   (.cond (.t 4) (.seq (.reg [.n 5 .mov [.t 0], .n 6 (.bin .shr) [.t 5, .c (.int .u64 32)], .n 0 .mov [.t 6]])
   (.reg [.n 2 .mov [.i 32]])) .skip))
   (.seq (.seq (.reg [.n 7 .mov [.t 0], .n 8 (.bin .geq) [.t 7, .c (.int .u64 65536)]])
   (.cond (.t 8) (.seq (.reg [.n 9 .mov [.t 0], .n 10 (.bin .shr) [.t 9, .c (.int .u64 16)], .n 0 .mov [.t 10]])
   (.reg [.n 11 .mov [.t 2], .n 12 (.bin .add) [.t 11, .i 16], .n 2 .mov [.t 12]])) .skip))
   (.seq (.seq (.reg [.n 13 .mov [.t 0], .n 14 (.bin .geq) [.t 13, .c (.int .u64 256)]])
   (.cond (.t 14) (.seq (.reg [.n 15 .mov [.t 0], .n 16 (.bin .shr) [.t 15, .c (.int .u64 8)], .n 0 .mov [.t 16]])
   (.reg [.n 17 .mov [.t 2], .n 18 (.bin .add) [.t 17, .i 8], .n 2 .mov [.t 18]])) .skip))
   (.seq (.reg [.n 19 .mov [.t 2], .n 20 .mov [.t 0], .n 21 (.conv .u8) [.t 20], ⟨(some 22), .raw 9 9 0, [.c (.str ⟨#[0, 1, 2, 2, 3, 3, 3, 3, 4, 4, 4, 4, 4, 4, 4, 4, 5, 5, 5, 5, 5, 5, 5, 5, 5, 5, 5, 5, 5, 5, 5, 5, 6, 6, 6, 6, 6, 6, 6, 6, 6, 6, 6, 6, 6, 6, 6, 6, 6, 6, 6, 6, 6, 6, 6, 6, 6, 6, 6, 6, 6, 6, 6, 6, 7, 7, 7, 7, 7, 7, 7, 7, 7, 7, 7, 7, 7, 7, 7, 7, 7, 7, 7, 7, 7, 7, 7, 7, 7, 7, 7, 7, 7, 7, 7, 7, 7, 7, 7, 7, 7, 7, 7, 7, 7, 7, 7, 7, 7, 7, 7, 7, 7, 7, 7, 7, 7, 7, 7, 7, 7, 7, 7, 7, 7, 7, 7, 7, 8, 8, 8, 8, 8, 8, 8, 8, 8, 8, 8, 8, 8, 8, 8, 8, 8, 8, 8, 8, 8, 8, 8, 8, 8, 8, 8, 8, 8, 8, 8, 8, 8, 8, 8, 8, 8, 8, 8, 8, 8, 8, 8, 8, 8, 8, 8, 8, 8, 8, 8, 8, 8, 8, 8, 8, 8, 8, 8, 8, 8, 8, 8, 8, 8, 8, 8, 8, 8, 8, 8, 8, 8, 8, 8, 8, 8, 8, 8, 8, 8, 8, 8, 8, 8, 8, 8, 8, 8, 8, 8, 8, 8, 8, 8, 8, 8, 8, 8, 8, 8, 8, 8, 8, 8, 8, 8, 8, 8, 8, 8, 8, 8, 8, 8, 8, 8, 8, 8, 8, 8, 8, 8, 8, 8, 8, 8, 8]⟩), .t 21], none⟩, .n 23 (.conv .i64) [.t 22], .n 24 (.bin .add) [.t 19, .t 23], .n 2 .mov [.t 24]])
   .ret)))))
theorem chk.math_bits_Len64 : chkF Tryz.prog 132 = some (25, ir.math_bits_Len64, [.tmp 2]) := by kernel_rfl

end Go.Proofs.YtggifklgpdladaaGreat

/-! Contracts: plain numbers. -/
set_option linter.unusedVariables false
set_option linter.unusedSimpArgs false
set_option maxRecDepth 20000
namespace Go.Proofs.YtggifklgpdladaaGreat
open Go.Am

abbrev I (n : Int) : V := .int .i64 n

def btw (n lo hi : Int) : Bool := decide (n ≥ lo) && decide (n ≤ hi)

theorem w64 {n : Int} (h1 : -9223372036854775808 ≤ n) (h2 : n < 9223372036854775808) : IntKind.wrap .i64 n = n := by
  have e : ∀ m : Int, m = n % 18446744073709551616 → (if (true && decide (m ≥ 9223372036854775808)) = true then m - 18446744073709551616 else m) = n := by
    intro m hm
    by_cases h : m ≥ 9223372036854775808
    · simp only [h, decide_true, Bool.and_self, if_true]; omega
    · simp only [h, decide_false, Bool.and_false, Bool.false_eq_true, if_false]; omega
  exact e _ rfl

theorem VLe.i {k : IntKind} {a b : Int} (h : a = b) : VLe (.int k a) (.int k b) := h ▸ .refl _

theorem c_within (n lo hi : Int) : C Tryz.prog F.volume_within [I n, I lo, I hi] (.bool (btw n lo hi)) := by
  refine C_of mixed chk.volume_within (by simp) fun S ok => ?_
  refine Tr.seqR rfl (by simp) ?_
  refine Tr.seqR rfl (by simp) ?_
  refine Tr.retQ rfl rfl ?_ trivial
  simp [packR, btw]

theorem c_rwithin (n lo hi : Int) : C Tryz.prog F.region_within [I n, I lo, I hi] (.bool (btw n lo hi)) := by
  refine C_of mixed chk.region_within (by simp) fun S ok => ?_
  refine Tr.seqR rfl (by simp) ?_
  refine Tr.seqR rfl (by simp) ?_
  refine Tr.retQ rfl rfl ?_ trivial
  simp [packR, btw]

/-- The first k bits of a root. -/
def isqL (n : Int) : Nat → Int
  | 0 => 0
  | k + 1 => if (isqL n k + 2 ^ (20 - k)) * (isqL n k + 2 ^ (20 - k)) ≤ n then isqL n k + 2 ^ (20 - k) else isqL n k

def isq (n : Int) : Int := isqL n 21

theorem isqL_le (n : Int) : ∀ k, k ≤ 21 → 0 ≤ isqL n k ∧ isqL n k ≤ 2 ^ 21 - 2 ^ (21 - k)
  | 0, _ => by simp [isqL]
  | k + 1, h => by
    have ih := isqL_le n k (by omega)
    have e1 : (2 : Int) ^ (21 - k) = 2 * 2 ^ (20 - k) := by
      rw [show 21 - k = (20 - k) + 1 by omega, Int.pow_succ]; omega
    have e2 : 21 - (k + 1) = 20 - k := by omega
    have e3 : (0 : Int) < 2 ^ (20 - k) := Int.pow_pos (by omega)
    rw [e2]
    simp only [isqL]
    split <;> omega

def bitAt (k : Nat) : Int := if k ≤ 20 then 2 ^ (20 - k) else 0

theorem c_root (n : Int) : C Tryz.prog F.region_root [I n] (I (isq n)) := by
  refine C_of mixed chk.region_root (by simp) fun S ok => ?_
  refine Tr.seqR rfl (by simp) ?_
  refine Tr.seqR rfl (by simp) ?_
  refine Tr.seq (Tr.seqR rfl (by simp) (Tr.block ?_))
  refine Tr.loop (fun k s => k ≤ 21 ∧ s = { env := [(0, I n), (3, I (isqL n k)), (4, I (bitAt k))], bx := [], rw := [], log := [], stp := false }) (fun k => 21 - k) 0
    (Wk.le (.cons rfl (.refl _) (.cons rfl (.refl _) (.cons rfl (.of_eq (by rfl)) .nil))) .nil .nil rfl rfl) ⟨by omega, rfl⟩ ?_
  rintro k s ⟨hk, rfl⟩
  have hb := isqL_le n k hk
  refine Tr.seq (Tr.seqR rfl (by simp) (Tr.cond rfl rfl (fun h1 => ?_) (fun h1 => ?_)))
  · have hk20 : k ≤ 20 := by
      rcases Nat.lt_or_ge 20 k with h | h
      · simp [bitAt, show ¬ k ≤ 20 by omega] at h1
      · exact h
    have eb : bitAt k = 2 ^ (20 - k) := by simp [bitAt, hk20]
    have ebn : (bitAt k).tdiv 2 = bitAt (k + 1) := by
      rw [eb]
      unfold bitAt
      by_cases h : k + 1 ≤ 20
      · rw [if_pos h, show 20 - k = (20 - (k + 1)) + 1 by omega, Int.pow_succ]; exact Int.mul_tdiv_cancel _ (by decide)
      · rw [if_neg h, show 20 - k = 0 by omega]; rfl
    have ep : (1 : Int) ≤ bitAt k ∧ bitAt k ≤ 1048576 := by
      rw [eb]
      have h1 : (0 : Int) < 2 ^ (20 - k) := Int.pow_pos (by omega)
      have h2 : (2 : Nat) ^ (20 - k) ≤ 2 ^ 20 := Nat.pow_le_pow_right (by omega) (by omega)
      have h3 : ((2 ^ (20 - k) : Nat) : Int) ≤ ((2 ^ 20 : Nat) : Int) := by exact_mod_cast h2
      simp at h3
      omega
    have e21 : (2 : Int) ^ (21 - k) = 2 * bitAt k := by
      rw [eb, show 21 - k = (20 - k) + 1 by omega, Int.pow_succ]; omega
    have hr : 0 ≤ isqL n k ∧ isqL n k + bitAt k ≤ 2097152 := by
      rw [e21] at hb
      have : (2 : Int) ^ 21 = 2097152 := by rfl
      omega
    have ew : IntKind.wrap .i64 (isqL n k + bitAt k) = isqL n k + bitAt k := w64 (by omega) (by omega)
    have ew2 : IntKind.wrap .i64 ((isqL n k + bitAt k) * (isqL n k + bitAt k)) = (isqL n k + bitAt k) * (isqL n k + bitAt k) := by
      have h1 : 0 ≤ (isqL n k + bitAt k) * (isqL n k + bitAt k) := Int.mul_nonneg (by omega) (by omega)
      have h2 : (isqL n k + bitAt k) * (isqL n k + bitAt k) ≤ 2097152 * 2097152 := Int.mul_le_mul (by omega) (by omega) (by omega) (by omega)
      exact w64 (by omega) (by omega)
    have ewb : IntKind.wrap .i64 ((bitAt k).tdiv 2) = bitAt (k + 1) := by
      have h0 : (bitAt k).tdiv 2 = bitAt k / 2 := Int.tdiv_eq_ediv_of_nonneg (by omega)
      rw [← ebn, h0]; exact w64 (by omega) (by omega)
    have es : isqL n (k + 1) = if (isqL n k + bitAt k) * (isqL n k + bitAt k) ≤ n then isqL n k + bitAt k else isqL n k := by rw [eb]; rfl
    refine Tr.skipT (Tr.seq (Tr.block (Tr.seqR rfl (by simp) (Tr.cond rfl rfl (fun h2 => ?_) (fun h2 => ?_)))))
    · rw [ew, ew2] at h2
      refine Tr.regR rfl (by simp) ?_
      refine Tr.regR rfl (by simp) ?_
      refine ⟨k + 1, _, ?_, ⟨by omega, rfl⟩, by omega⟩
      refine Wk.le (.cons rfl (.refl _) (.cons rfl (VLe.i ?_) (.cons rfl (VLe.i ?_) .nil))) .nil .nil rfl rfl
      · rw [ew, es, if_pos (by simpa using h2)]
      · exact ewb
    · rw [ew, ew2] at h2
      refine Tr.skip ?_
      refine Tr.regR rfl (by simp) ?_
      refine ⟨k + 1, _, ?_, ⟨by omega, rfl⟩, by omega⟩
      refine Wk.le (.cons rfl (.refl _) (.cons rfl (VLe.i ?_) (.cons rfl (VLe.i ?_) .nil))) .nil .nil rfl rfl
      · rw [es, if_neg (by simpa using h2)]
      · exact ewb
  · have hk21 : k = 21 := by
      rcases Nat.lt_or_ge 20 k with h | h
      · omega
      · have h1' : (0 : Int) < 2 ^ (20 - k) := Int.pow_pos (by omega)
        simp [bitAt, h] at h1
        omega
    subst hk21
    refine Tr.exit ?_
    refine Tr.seqR rfl (by simp) ?_
    exact Tr.retQ rfl rfl rfl trivial

end Go.Proofs.YtggifklgpdladaaGreat


/-! AM, part Y: loops walked round by round. -/
set_option linter.unusedVariables false
set_option linter.unusedSimpArgs false
namespace Go.Am
open Go.RowKit

/-- At most so many rounds. -/
def TrN (E : Env) (ro : Option Nat) (x : IC) (Q : Exit → St → Prop) : Nat → St → Prop
  | 0, _ => False
  | m + 1, s => Tr E ro x (qThen (TrN E ro x Q m) Q) s

theorem Tr.rounds {E : Env} {ro : Option Nat} {x : IC} {Q : Exit → St → Prop} {s : St} (m : Nat) (ht : TrN E ro x Q m s) : Tr E ro (.loop x) Q s := fun c hc n a w g R Q' hq => by
  obtain ⟨ca, rfl, h1⟩ := compC_inv hc
  refine wpIn_loop_rounds m ?_
  have key : ∀ m s a w h, TrN E ro x Q m s → E.rel s a w h → h.y = g.y → Code.roundsIn (wideR ro) n E.P ca Q' m a w := by
    intro m
    induction m with
    | zero => intro s a w h hT _ _; exact hT.elim
    | succ m ih =>
      intro s a w h hT R hy
      rw [roundsIn_succ]
      refine hT ca h1 n a w h R _ fun e s' a' w' h' kk R' ey' => ?_
      cases e with
      | normal => exact ih s' a' w' h' kk R' (ey'.trans hy)
      | _ => exact hq _ s' a' w' h' kk R' (ey'.trans hy)
  exact key m s a w g ht R rfl

/-- Weakening, with the log spelt otherwise. -/
theorem Wk.leL {E : Env} {s : St} {env : List (Nat × V)} {bx : List (Nat × Box)} {rw : List (Nat × Nat × Nat × Nat)} {log : List (List V)} (he : EnvLe s env) (hb : BxLe s bx) (hr : RwLe s rw) (ho : okRefs env bx rw = true) (hpin : E.pin.all (hasKey bx) = true) (hl : s.log = log) :
    Wk E s { env := env, bx := bx, rw := rw, log := log, stp := s.stp } := by
  subst hl; exact Wk.le he hb hr ho hpin

/-- Two ways that meet. -/
theorem Tr.meet {E : Env} {ro : Option Nat} {Q : Exit → St → Prop} {s : St} {x y : IC} (st : St) (h : Tr E ro x (qThen (fun s' => Wk E s' st) Q) s) (k : Tr E ro y Q st) : Tr E ro (.seq x y) Q s :=
  Tr.seq (h.mono fun e s' hq => by
    cases e with
    | normal => exact ⟨st, hq, k⟩
    | _ => exact ⟨s', Wk.refl _, hq⟩)

/-- A condition that is known. -/
theorem Tr.condT {E : Env} {ro : Option Nat} {Q : Exit → St → Prop} {s : St} {z : X} {a b : IC} (hz : evX s.fs z = some (.bool true)) (h : Tr E ro a Q s) : Tr E ro (.cond z a b) Q s :=
  Tr.cond hz rfl (fun _ => h) (fun e => (by cases e))
theorem Tr.condF {E : Env} {ro : Option Nat} {Q : Exit → St → Prop} {s : St} {z : X} {a b : IC} (hz : evX s.fs z = some (.bool false)) (h : Tr E ro b Q s) : Tr E ro (.cond z a b) Q s :=
  Tr.cond hz rfl (fun e => (by cases e)) (fun _ => h)

/-- A return, from wherever. -/
theorem Tr.retX {E : Env} {ro : Option Nat} {Q : Exit → St → Prop} {s : St} {P : Program} {rs : List ResultVar} {r : V} {K : St → Prop} {vs us : List V} {ids : List Nat} (hQ : Q .ret = qRet P rs r K .ret) (h : resVs P s rs = some vs) (hd : toDs s.fs.b vs = some (us, ids)) (hr : r = packR us) (hk : K s) : Tr E ro .ret Q s :=
  Tr.ret (by rw [hQ]; exact ⟨hk, vs, us, ids, resVs_ok h, hd, hr⟩)

theorem TrN.succ {E : Env} {ro : Option Nat} {x : IC} {Q : Exit → St → Prop} {m : Nat} {s : St} (h : Tr E ro x (qThen (TrN E ro x Q m) Q) s) : TrN E ro x Q (m + 1) s := h

end Go.Am


/-! AM, part Z: a map of pairs of numbers that lies in a block: what is looked up, what is put. -/
set_option linter.unusedVariables false
set_option linter.unusedSimpArgs false
namespace Go.Am
open Go.RowKit

def inI (n : Int) : Prop := -9223372036854775808 ≤ n ∧ n < 9223372036854775808

def putF (f : Int → Int → Option Int) (a b v : Int) : Int → Int → Option Int := fun x y => if x = a ∧ y = b then some v else f x y

/-- A block is a map that reads as the function; its keys are among these. -/
def MapW (w : World) (mb : Nat) (g : List (Int × Int)) (f : Int → Int → Option Int) : Prop :=
  ∃ es clock, w.heap[mb]? = some (.map es clock) ∧ MapKept.Stamped es clock ∧ es.size ≤ g.countP (fun p => (f p.1 p.2).isSome) ∧ g.length ≤ 100000 ∧ MapIs es f ∧ ∀ a b n, f a b = some n → inI n

theorem MapW.block {w w' : World} {mb : Nat} {g : List (Int × Int)} {f : Int → Int → Option Int} (h : MapW w mb g f) (e : w'.heap[mb]? = w.heap[mb]?) : MapW w' mb g f := by
  obtain ⟨es, c, h1, h2⟩ := h
  exact ⟨es, c, e.trans h1, h2⟩

theorem MapW.made {w : World} {mb : Nat} {g : List (Int × Int)} (hg : g.length ≤ 100000) (h : w.heap[mb]? = some (.map #[] 0)) : MapW w mb g (fun _ _ => none) :=
  ⟨#[], 0, h, MapKept.stamped_empty 0, by simp, hg, ⟨fun e he => by simp at he, fun _ _ _ h => by cases h⟩, fun _ _ _ h => by cases h⟩

theorem countP_lt {α : Type} {p q : α → Bool} : ∀ {l : List α} {x : α}, x ∈ l → p x = false → q x = true → (∀ y, p y = true → q y = true) → l.countP p + 1 ≤ l.countP q
  | a :: r, x, hx, h1, h2, h => by
    simp only [List.countP_cons]
    have hle : r.countP p ≤ r.countP q := List.countP_mono_left fun y _ => h y
    rcases List.mem_cons.1 hx with rfl | hx
    · simp [h1, h2]; omega
    · have := countP_lt hx h1 h2 h
      by_cases ha : p a = true
      · simp [ha, h a ha]; omega
      · simp [ha]; omega

section
variable {P : Program} {kt e t : TypeId}

theorem mapW_fit {w : World} {mb : Nat} {g : List (Int × Int)} {f : Int → Int → Option Int} (hm : mapOk P kt e = true) (h : MapW w mb g f) :
    ∃ es clock, w.heap[mb]? = some (.map es clock) ∧ WideElems.Fit (H := Unit) P kt (Go.plainElem P e) es clock ∧ es.size ≤ g.countP (fun p => (f p.1 p.2).isSome) ∧ g.length ≤ 100000 ∧ MapIs es f ∧ ∀ a b n, f a b = some n → inI n := by
  obtain ⟨es, c, h1, h2, h3, h4, h5, h6⟩ := h
  obtain ⟨K, hu, hz, hkey⟩ := mapOk_law hm
  have hle : g.countP (fun p => (f p.1 p.2).isSome) ≤ g.length := List.countP_le_length
  refine ⟨es, c, h1, ⟨by unfold maxLen; omega, h2, fun x hx => ?_⟩, h3, h4, h5, h6⟩
  obtain ⟨a, b, n, k1, k2, k3, k4, k5⟩ := h5.1 x hx
  obtain ⟨kl, hkl⟩ := hkey a b k4 k5
  have hw : (Lit.int .i64 n).wf = true := WalkArith.wf_i64 ⟨(h6 a b n k3).1, by have := (h6 a b n k3).2; omega⟩
  unfold WideElems.rd
  rw [k1, hkl, k2, Go.plainElem_int hu hw]
  exact ⟨_, rfl⟩

theorem mapW_lookup {w : World} {mb : Nat} {g : List (Int × Int)} {f : Int → Int → Option Int} (hm : mapOk P kt e = true) (ht : P.underlying t = some (.map kt e)) (h : MapW w mb g f) {a b : Int} (ha : inI a) (hb : inI b) (c : Bool) :
    (Instr.lookup t (.map (some mb)) (.agg #[.int .i64 a, .int .i64 b]) c).run P w = .ok (if c then .tuple #[.int .i64 ((f a b).getD 0), .bool (f a b).isSome] else .int .i64 ((f a b).getD 0)) w := by
  obtain ⟨es, clock, h1, F, _, _, h5, h6⟩ := mapW_fit hm h
  obtain ⟨K, hu, hz, hkey⟩ := mapOk_law hm
  obtain ⟨kl, hkl⟩ := hkey a b ha hb
  rcases Maps.fit_look c K ht (hz w) h1 F hkl with ⟨hrun, hno, _⟩ | ⟨e0, y, he0, hk, hrun, _⟩
  · have hn : f a b = none := by
      cases hf : f a b with
      | none => rfl
      | some n =>
        obtain ⟨x, hx, hxk⟩ := h5.2 a b n hf
        exact absurd hxk (hno x hx)
    rw [hrun, hn]; rfl
  · obtain ⟨a', b', n, k1, k2, k3, _⟩ := h5.1 e0 he0
    rw [hk] at k1
    simp only [Value.agg.injEq, Array.mk.injEq, List.cons.injEq, Value.int.injEq, true_and, and_true] at k1
    obtain ⟨rfl, rfl⟩ := k1
    rw [hrun, k2, k3]; rfl

theorem mapW_put {w : World} {mb : Nat} {g : List (Int × Int)} {f : Int → Int → Option Int} (hm : mapOk P kt e = true) (ht : P.underlying t = some (.map kt e)) (h : MapW w mb g f) {a b v : Int} (ha : inI a) (hb : inI b) (hv : inI v) (hg : (a, b) ∈ g) (hf : f a b = none) :
    ∃ w', (Instr.mapUpdate t (.map (some mb)) (.agg #[.int .i64 a, .int .i64 b]) (.int .i64 v)).run P w = .ok () w' ∧ MapW w' mb g (putF f a b v) ∧ (∀ k, k ≠ mb → w'.heap[k]? = w.heap[k]?) ∧ w'.heap.size = w.heap.size ∧ w'.os = w.os ∧ w'.tape = w.tape ∧ w'.output = w.output := by
  obtain ⟨es, clock, h1, F, h3, h4, h5, h6⟩ := mapW_fit hm h
  obtain ⟨K, hu, hz, hkey⟩ := mapOk_law hm
  obtain ⟨kl, hkl⟩ := hkey a b ha hb
  have hle : g.countP (fun p => (f p.1 p.2).isSome) ≤ g.length := List.countP_le_length
  have hw : (Lit.int .i64 v).wf = true := WalkArith.wf_i64 ⟨hv.1, by have := hv.2; omega⟩
  obtain ⟨es', clock', hrun, F', hput, _, _, hall⟩ := Maps.fit_store (R' := Go.plainElem (H := Unit) P e) K ht h1 F (by unfold maxLen; omega) (fun _ _ _ _ hz => hz) hkl (Go.plainElem_int hu hw)
  have hsz : es'.size ≤ es.size + 1 := by
    have e1 : es'.size = ((es'.toList.map (WideElems.rg P kt (Go.plainElem (H := Unit) P e))).foldr DataW.insert []).length := by rw [Go.length_sorted]; simp
    rw [e1, hput]
    unfold ChangeMaps.putKey
    rw [Go.length_insert]
    have e2 := List.length_filter_le (ChangeMaps.notKey kl) ((es.toList.map (WideElems.rg P kt (Go.plainElem (H := Unit) P e))).foldr DataW.insert [])
    rw [Go.length_sorted] at e2
    simp at e2
    omega
  refine ⟨_, hrun, ⟨es', clock', ChangeMaps.heap_setBlock_same h1 _, F'.stamped, ?_, h4, ⟨fun x hx => ?_, fun x y n hn => ?_⟩, fun x y n hn => ?_⟩, fun k hk => ChangeMaps.heap_setBlock_other h1 _ hk, by simp [ChangeMaps.setBlock], rfl, rfl, rfl⟩
  · have := countP_lt (p := fun p : Int × Int => (f p.1 p.2).isSome) (q := fun p => (putF f a b v p.1 p.2).isSome) hg (by simp [hf]) (by simp [putF]) (fun y hy => by
      unfold putF; split
      · rfl
      · exact hy)
    omega
  · rcases hall x hx with ⟨hx1, hx2⟩ | ⟨hx1, hx2⟩
    · obtain ⟨a', b', n, k1, k2, k3, k4⟩ := h5.1 x hx1
      refine ⟨a', b', n, k1, k2, ?_, k4⟩
      unfold putF
      rw [if_neg]
      · exact k3
      · rintro ⟨rfl, rfl⟩; exact hx2 k1
    · exact ⟨a, b, v, hx1, hx2, by simp [putF], ha, hb⟩
  · -- what is there is found
    have hmem : ∀ q, q ∈ es'.toList.map (WideElems.rg P kt (Go.plainElem (H := Unit) P e)) ↔ q ∈ ChangeMaps.putKey kl (.lit (.int .i64 v)) ((es.toList.map (WideElems.rg P kt (Go.plainElem (H := Unit) P e))).foldr DataW.insert []) := fun q => by
      rw [← hput, (WideShapes.sorted_perm _).mem_iff]
    have key_of : ∀ x ∈ es'.toList, ∀ l d, WideElems.rg P kt (Go.plainElem (H := Unit) P e) x = (l, d) → keyOf P kt x.key = some l := fun x hx l d hxe => by
      obtain ⟨y, hy⟩ := F'.reads x hx
      have := WideElems.rd_key hy
      rw [WideElems.rg_of hy] at hxe
      rw [this, hxe]
    unfold putF at hn
    split at hn
    · rename_i hxy
      obtain ⟨rfl, rfl⟩ := hxy
      have : (kl, DataW.lit (.int .i64 v)) ∈ es'.toList.map (WideElems.rg P kt (Go.plainElem (H := Unit) P e)) := by
        rw [hmem]; unfold ChangeMaps.putKey; rw [ChangeMaps.mem_insert_iff]; exact .inl rfl
      obtain ⟨x, hx, hxe⟩ := List.mem_map.1 this
      exact ⟨x, hx, K.inj (key_of x hx _ _ hxe) hkl⟩
    · rename_i hxy
      obtain ⟨x0, hx0, hk0⟩ := h5.2 x y n hn
      obtain ⟨y0, hy0⟩ := F.reads x0 hx0
      have hk1 := WideElems.rd_key hy0
      have hne : y0.1 ≠ kl := fun he => by
        rw [he] at hk1
        have := K.inj hk1 hkl
        rw [hk0] at this
        simp only [Value.agg.injEq, Array.mk.injEq, List.cons.injEq, Value.int.injEq, true_and, and_true] at this
        exact hxy this
      have : y0 ∈ es'.toList.map (WideElems.rg P kt (Go.plainElem (H := Unit) P e)) := by
        rw [hmem]; unfold ChangeMaps.putKey; rw [ChangeMaps.mem_insert_iff]
        refine .inr (List.mem_filter.2 ⟨?_, ?_⟩)
        · rw [(WideShapes.sorted_perm _).mem_iff]
          exact List.mem_map.2 ⟨x0, hx0, WideElems.rg_of hy0⟩
        · exact (Maps.notKey_iff (K.key hkl)).2 hne
      obtain ⟨x1, hx1, hxe⟩ := List.mem_map.1 this
      refine ⟨x1, hx1, ?_⟩
      have := K.inj (key_of x1 hx1 y0.1 y0.2 hxe) hk1
      rw [this, hk0]
  · unfold putF at hn
    split at hn
    · cases hn; exact hv
    · exact h6 x y n hn

end
end Go.Am


/-! AM, part Zb: slices over boxes become data. -/
set_option linter.unusedVariables false
set_option linter.unusedSimpArgs false
namespace Go.Am
open Go.RowKit

/-- What stands for data alone. -/
def isD : V → Bool
  | .int _ _ => true
  | .bool _ => true
  | .str _ => true
  | .nils => true
  | .nilp => true
  | .nilf => true
  | .nilm => true
  | .mp _ => true
  | .mpd _ _ => true
  | .sref _ _ _ _ => true
  | .rptr _ _ => true
  | .rmap _ => true
  | .nili => true
  | .iface _ _ => true
  | .vptr _ _ => true
  | .slice 0 _ _ => true
  | _ => false

theorem rep_isD {w : World} {φ : Nat → Nat} {β : Nat → Option Nat} {y : Option Nat} {v : V} {x : Value} (hd : isD v = true) (r : Rep w φ β y v x) : RepD w φ v x := by
  cases r with
  | data r => exact r
  | named => simp [isD] at hd
  | ptr => simp [isD] at hd
  | func => simp [isD] at hd
  | agg => simp [isD] at hd
  | tuple => simp [isD] at hd
  | cond => simp [isD] at hd
  | yld => simp [isD] at hd
  | tok => simp [isD] at hd
  | bsl => simp [isD] at hd
  | link => simp [isD] at hd

theorem put_self {a : Act} {t : Nat} (ht : t < a.tmps.size) : a.put (some t) (a.tmps.getD t undef) = a := by
  obtain ⟨tm, df⟩ := a
  simp only [Act.put]
  have : tm.setIfInBounds t (tm.getD t undef) = tm := by
    apply Array.ext
    · simp
    · intro i h1 h2
      by_cases e : t = i
      · subst e; simp at h1; simp [h1]
      · rw [Array.getElem_setIfInBounds]
        · simp [e]
        · exact h2
  rw [this]

section
variable {E : Env} {s : St} {a : Act} {w : World} {h : Gh}

/-- What a slice over a box holds. -/
structure Holds (cs : List V) (off sz n : Nat) (xs : List V) : Prop where
  h0 : 0 < sz
  hl : xs.length = n
  hs : ∀ x ∈ xs, (cells x).length = sz
  hx : (cs.drop off).take (n * sz) = xs.flatMap cells
  hd : ∀ x ∈ xs, (cells x).all isD = true

theorem Holds.flat {cs : List V} {off sz n : Nat} {xs : List V} (H : Holds cs off sz n xs) {j : Nat} {v : V} (hj : (xs.flatMap cells)[j]? = some v) : cs[off + j]? = some v ∧ isD v = true := by
  refine ⟨?_, ?_⟩
  · rw [← H.hx, List.getElem?_take] at hj
    split at hj
    · rw [List.getElem?_drop] at hj; exact hj
    · cases hj
  · obtain ⟨x, hx, hv⟩ := List.mem_flatMap.1 (List.mem_of_getElem? hj)
    have := H.hd x hx
    rw [List.all_eq_true] at this
    exact this v hv

theorem repD_bsl {nt : Nat} {S : Sur} {log : List (List V)} {stp : Bool} {σ : FSt} (R : Rel nt S log stp σ a w h) {i off sz n : Nat} {cs xs : List V} {x : Value} (hb : σ.b i = some ⟨cs, true⟩) (H : Holds cs off sz n xs) (r : Rep w h.φ h.β h.y.l (.bsl i off sz n) x) : RepD w h.φ (.slice 0 sz xs) x := by
  cases r with
  | data r => cases r
  | bsl _ _ _ _ cap blk hβ hc =>
    obtain ⟨blk', wcs, e, b1, b2, b3, b4, b5, b6⟩ := R.bx i _ hb
    rw [hβ] at b1; cases b1
    simp only at b4 b5 b6
    have key : ∀ (j : Nat) v, (xs.flatMap cells)[j]? = some v → ∃ hj : off + j < wcs.size, RepD w h.φ v wcs[off + j] ∧ scalar v = true := fun j v hj => by
      obtain ⟨h1, h2⟩ := H.flat hj
      have h3 : off + j < wcs.size := by have := (List.getElem?_eq_some_iff.1 h1).1; omega
      obtain ⟨r1, _, r3⟩ := b5 (off + j) v _ h1 (Array.getElem?_eq_getElem h3)
      exact ⟨h3, rep_isD h2 r1, r3⟩
    refine .slice sz xs blk off n cap (fun j => wcs.getD (off + j) undef) H.h0 H.hl.symm hc H.hs (fun j v hj => ?_) (fun j v hj => ?_)
    · obtain ⟨h3, _, h4⟩ := key j v hj
      have h5 := (List.getElem?_eq_some_iff.1 (H.flat hj).1).1
      refine ⟨by rw [b6]; simpa using h5, ?_, h4⟩
      rw [cell_of_row w blk (off + j) wcs e (0, 0) b3]
      simp [h3]
    · obtain ⟨h3, h4, _⟩ := key j v hj
      simpa [h3] using h4

/-- A slice over a box, in a slot, becomes data; the box is shut for good. -/
theorem Wk.bsl {t i off sz n : Nat} {cs xs : List V} {fz : Bool} (ht : get s.env t = some (.bsl i off sz n)) (hb : get s.bx i = some ⟨cs, fz⟩) (H : Holds cs off sz n xs) : Wk E s ((s.setB i ⟨cs, true⟩).put (some t) (.slice 0 sz xs)) := by
  intro a w h R
  have hb' : s.fs.b i = some ⟨cs, fz⟩ := by rw [fs_b]; exact hb
  obtain ⟨blk, _, _, hβ, _⟩ := R.1.bx i _ hb'
  obtain ⟨R1, ext⟩ := R.1.freeze1 E.ok hb' hβ
  have e : (s.setB i ⟨cs, true⟩).fs = s.fs.set (.bx i) (.b ⟨cs, true⟩) := fs_setB _ _ _
  rw [← e] at R1
  have htt : (s.setB i ⟨cs, true⟩).fs.g t = some (.bsl i off sz n) := by rw [fs_g]; exact ht
  obtain ⟨q1, q2, _⟩ := R1.env t _ htt
  have rd := repD_bsl R1 (by rw [e]; simp) H q2
  have R2 := R1.put (d := t) q1 (.data rd) (GrowV.of_data rd)
  rw [put_self (by rw [R1.size]; exact q1), ← fs_put] at R2
  exact ⟨_, ⟨R2, R.2⟩, rfl⟩

end
end Go.Am


/-! AM, part Zd: slices that are a frame's own, and are written to: made by an append to nothing, or returned by a call. -/
set_option linter.unusedVariables false
set_option linter.unusedSimpArgs false
namespace Go.Am
open Go.RowKit

section
variable {P : Program} {nt : Nat} {S : Sur} {log : List (List V)} {stp : Bool} {σ : FSt} {a : Act} {w : World} {h : Gh} {o : Oper}

theorem done_appendBox {t e sz bytes d : Nat} {p q : Operand} {c : Call} {ie : TypeInfo} {z : Value} {ys : List V} {y : Value} (R : Rel nt S log stp σ a w h) (hS : S.ok) (ho : o.op = .call c) (hc : c.callee = .builtin .append) (hca : c.args.toList = [p, q]) (hct : c.argTypes.toList = [t, t])
    (ht : P.underlying t = some (.slice e)) (hi : P.info? e = some ie) (hz : ie.zero = some z) (hzs : z.cells.size = ie.size) (hsz : ie.size = sz) (hby : ie.bytes = bytes) (hx : a.eval p = .slice none 0 0) (hy : a.eval q = y)
    (ry : RepD w h.φ (.slice 0 sz ys) y) (hd : σ.b d = none) (h0 : 0 < sz) (hb : ys.length * bytes ≤ 2 ^ 47) (hm : ys.length ≤ 2 ^ 47) (hne : ys ≠ []) {pre : Prop} {rb : List Nat} :
    Done P nt S log stp σ a w h o { pre := pre, v := .bsl d 0 sz ys.length, wb := [(d, ⟨ys.flatMap cells, false⟩)], rb := rb } := by
  subst hsz hby
  have ea : c.args = #[p, q] := by rw [← Array.toList_inj]; simpa using hca
  have et : c.argTypes = #[t, t] := by rw [← Array.toList_inj]; simpa using hct
  have hexec : ∀ v w', (Builtin.append_ #[t, t] o.type #[.slice none 0 0, y]).run P w = .ok v w' → (execOp a.eval o).run P w = .ok (.value v) w' := fun v w' hr => by
    simp only [execOp, ho, resolve, hc, ea, et, Sem.run_bind, Sem.run_pure, Result.andThen_ok, invoke, builtin]
    simp [hx, hy, hr]
  have hml : ys.length ≤ maxLen := by unfold maxLen; omega
  have hpos : 0 < ys.length := List.length_pos_iff.2 hne
  rcases slice_at ry with ⟨_, e0⟩ | ⟨yb, yo, ycap, cvy, rfl, _, _, hys, ay⟩
  · exact absurd e0 hne
  have ylen := flat_len hys
  obtain ⟨news, hnews⟩ : ∃ news, news = (List.range (ys.length * ie.size)).map cvy := ⟨_, rfl⟩
  have nl : news.length = ys.length * ie.size := by rw [hnews]; simp
  have nget : ∀ j, j < ys.length * ie.size → news[j]? = some (cvy j) := fun j hj => by rw [hnews]; simp [hj]
  have ncell : ∀ j u, news[j]? = some u → w.cell? ((⟨yb, yo, none⟩ : Addr).add j) = some u := fun j u hu => by
    have hj : j < ys.length * ie.size := by have := (List.getElem?_eq_some_iff.1 hu).1; omega
    rw [nget j hj] at hu
    cases hu
    rw [Addr.add_lit]
    exact (ay j _ (List.getElem?_eq_getElem (by omega))).2.1
  have hrun := run_append_nil (P := P) w t o.type e ie z ht hi hz ⟨yb, yo, none⟩ ys.length ycap news nl ncell hpos (by omega) (by omega)
  have hge := grownCap_ge w ys.length 0 e
  have R1 := (R.drew hS).newBox (e := e) (cs := news.toArray ++ Builtin.zeroCells z.cells (grownCap w ys.length 0 e - ys.length)) (zs := ys.flatMap cells) hS hd
    (by rw [Array.size_append]; simp only [List.size_toArray, nl]; omega) (fun j v x hv hx => by
      have hlt := (List.getElem?_eq_some_iff.1 hv).1
      rw [Array.getElem?_append_left (by simp [nl]; omega)] at hx
      simp only [List.getElem?_toArray] at hx
      rw [nget j (by omega)] at hx
      cases hx
      obtain ⟨_, _, k3, k4⟩ := ay j v hv
      have r1 : RepD w.drew h.φ v (cvy j) := k3.mono (fun _ _ ho => ⟨ho, rfl, rfl⟩)
      exact ⟨.data r1, Grow.of_data r1, k4⟩)
  refine ⟨_, _, _, .inl (hexec _ _ hrun), R1, ⟨.bsl d 0 _ ys.length (grownCap w ys.length 0 e) w.heap.size (by simp) (by simpa using hge), fun j u zz hu hzz => ?_⟩, rfl⟩
  cases j with
  | zero => simp [cells] at hu; subst hu; intro r sz xs e; cases e
  | succ j => simp [cells] at hu

theorem opK_append {os : List Operand} {sz bytes e : Nat} (hk : opK P o.op = some (.append sz bytes e, os)) : ∃ c p q t ie z, o.op = .call c ∧ c.callee = .builtin .append ∧ c.args.toList = [p, q] ∧ c.argTypes.toList = [t, t] ∧ P.underlying t = some (.slice e) ∧ P.info? e = some ie ∧ ie.zero = some z ∧ z.cells.size = ie.size ∧ ie.size = sz ∧ ie.bytes = bytes ∧ os = [p, q] := by
  replace hk := opK0_of hk (by simp [tagOf])
  cases ho : o.op <;> rw [ho] at hk <;> simp only [opK0] at hk <;> (try (cases hk; done)) <;> (try (repeat' (split at hk <;> (try (cases hk; done)))))
  all_goals first
    | (simp only [Option.map_eq_some_iff, Prod.mk.injEq] at hk; obtain ⟨_, _, h1, _⟩ := hk; cases h1; done)
    | (rename_i c x6 hc x5 x4 p q t u h1 h2 htu x2 e' ht x1 ie hi x0 z hz hzs
       cases hk
       simp only [beq_iff_eq] at htu hzs
       subst htu
       exact ⟨c, p, q, t, ie, z, rfl, hc, h1, h2, ht, hi, hz, hzs, rfl, rfl, rfl⟩)
    | (exfalso; simp only [eqKind] at hk; repeat' (split at hk <;> (try (cases hk; done))))

end

section
variable {E : Env} {σ : FSt}

/-- An append to nothing makes a box. -/
theorem does_appendBox {d : Nat} {x y : X} {sz bytes e r : Nat} {ys : List V} (hx : [x, y].mapM (evX σ) = some [.nils, .slice r sz ys]) (hd : σ.b d = none) (h0 : 0 < sz) (hb : ys.length * bytes ≤ 2 ^ 47) (hm : ys.length ≤ 2 ^ 47) (hne : ys ≠ []) :
    Does E σ ⟨some d, .append sz bytes e, [x, y], none⟩ { v := .bsl d 0 sz ys.length, wb := [(d, ⟨ys.flatMap cells, false⟩)], rb := [d] } (xslots [x, y] ++ [.bx d]) := by
  refine .sem fun τ hτ slots ops i o ro n log stp a w h hc hs hi R Q next hn => ?_
  have hd' : τ.b d = none := by rw [b_eq (hτ (.bx d) (by simp))]; exact hd
  have hx' : [x, y].mapM (evX τ) = some [.nils, .slice r sz ys] := evX_reads hx fun l hl => hτ l (by simp [hl])
  obtain ⟨os, cc⟩ := comp_of hc
  have hdf := opK_defer cc.op
  have hgo : o.guard = none := by
    rcases cc.guard with ⟨_, e⟩ | ⟨_, _, _, _, _, e⟩
    · exact e
    · cases e
  have hO := opds_of R.1 cc.xs hx'
  obtain ⟨c, p, q, t, ie, z, ho, hcal, hca, hct, ht, hie, hz, hzs, hsz, hby, rfl⟩ := opK_append cc.op
  obtain ⟨u, v, huv, hu, hv'⟩ := hO.two
  cases huv
  obtain ⟨x1, w', h', hr', R', ok, hy⟩ := done_appendBox (d := d) (pre := True) (rb := [d]) R.1 E.ok ho hcal hca hct ht hie hz hzs hsz hby (ok_nils hu) rfl (ok_slice hv') hd' h0 hb hm hne
  exact wpOp_done hi (wanted_none hgo) hdf hr' (hn _ _ h' (rel_after cc R R' ok hy) hy)

theorem Steps.appendBox {s : St} {K : St → Prop} {d : Nat} {x y : X} {sz bytes e r : Nat} {ys : List V} {rest : List Ins} (hx : evXs s.env [x, y] = some [.nils, .slice r sz ys]) (hd : get s.bx d = none) (h0 : 0 < sz) (hb : ys.length * bytes ≤ 2 ^ 47) (hm : ys.length ≤ 2 ^ 47) (hne : ys ≠ [])
    (hk : Steps E rest K ((s.setB d ⟨ys.flatMap cells, false⟩).put (some d) (.bsl d 0 sz ys.length))) : Steps E (⟨some d, .append sz bytes e, [x, y], none⟩ :: rest) K s :=
  Step1.does (ins := ⟨some d, .append sz bytes e, [x, y], none⟩) (does_appendBox (evXs_ok hx) (by rw [fs_b]; exact hd) h0 hb hm hne) hk

/-! ### What a call returns as the caller's own -/
/-- **A CONTRACT WITH A SLICE OF ITS OWN**: called with these data it returns a slice of these, in a block that nothing else refers to. -/
def CO (P : Program) (f : FuncId) (args : List V) (sz : Nat) (xs : List V) : Prop :=
  callable P f = true ∧ ∀ (w : World) (φ : Nat → Nat) (vs : Array Value), (∀ b, w.heap.size ≤ b → φ b = 0) → Gl w φ → RepL w φ args vs →
    Calls P f vs w fun e w' => ∃ φ' blk cap cs et, e = .returned (.slice (some ⟨blk, 0, none⟩) xs.length cap) ∧ xs.length ≤ cap ∧ w.heap.size ≤ blk ∧ blk < w'.heap.size ∧ w'.heap[blk]? = some (.cells cs et (0, 0)) ∧ (xs.flatMap cells).length ≤ cs.size ∧
      (∀ (j : Nat) v x, (xs.flatMap cells)[j]? = some v → cs[j]? = some x → RepD w' φ' v x ∧ scalar v = true) ∧ φ' blk = 0 ∧
      Below w.heap.size w w' ∧ (∀ b, b < w.heap.size → φ' b = φ b) ∧ (∀ b, w'.heap.size ≤ b → φ' b = 0)

def qOwn (t sz : Nat) (xs : List V) : Exit → St → Prop
  | .ret, s | .normal, s => ∃ i, get s.env t = some (.bsl i 0 sz xs.length) ∧ get s.bx i = some ⟨xs.flatMap cells, false⟩ ∧ (xs.flatMap cells).all isD = true
  | _, _ => False

theorem CO_of {P : Program} {f nt t sz : Nat} {ic : IC} (hmix : P.follows .mixedOrders = true) (hch : chkF P f = some (nt, ic, [.tmp t])) {args xs : List V} (hlen : args.length ≤ nt)
    (hT : ∀ (S : Sur) (ok : S.ok), Tr (env0 P hmix nt S ok) none ic (qOwn t sz xs) (entry args)) : CO P f args sz xs := by
  obtain ⟨fn, c, hf, hb, hnt, hc, hres, hcall⟩ := chkF_ok hch
  refine ⟨hcall, fun w φ vs htop hgl hrep => ?_⟩
  have hT := hT (S0 w φ) (S0_ok w φ hgl)
  rw [← callsIn_wide (n := 0)]
  refine callsIn_of_wp_marks hf hb trivial ?_
  have R0 : (env0 P hmix nt (S0 w φ) (S0_ok w φ hgl)).rel (entry args) { tmps := vs ++ Array.replicate (fn.ntmps - vs.size) undef, defers := [] } w { φ := φ, β := fun _ => none, γ := fun _ => none, M := fun _ => False, y := ⟨none, fun _ => none⟩ } := by
    have hl := hrep.1
    refine ⟨{ size := by simp; omega, env := fun t v hv => ?_, bx := fun i bo hb => ?_, dom := fun _ _ h => ((by cases h)), inj := fun _ _ _ h => ((by cases h)), rows := fun r n sz e hr => ?_, rdom := fun _ _ h => ((by cases h)), rinj := fun _ _ _ h => ((by cases h)), apart := fun _ _ _ h => ((by cases h)), pins := fun _ _ h => ((by cases h)), mine := fun _ h => ((by cases h)), top := htop, marks := trivial, sur := Moved.refl _ htop }, fun _ h => ((by cases h)), fun _ h => ((by cases h))⟩
    · rw [fs_g] at hv
      obtain ⟨_, h1⟩ := get_entryL 0 args t v hv
      simp only [Nat.sub_zero] at h1
      have ht : t < args.length := (List.getElem?_eq_some_iff.1 h1).1
      have ht' : t < vs.size := by omega
      have e : (vs ++ Array.replicate (fn.ntmps - vs.size) undef).getD t undef = vs[t] := by
        simp [Array.getElem?_append_left ht', ht']
      rw [e]
      have h2 := hrep.2 t v _ h1 (Array.getElem?_eq_getElem ht')
      exact ⟨by show t < nt; omega, .data h2, GrowV.of_data h2⟩
    · rw [fs_b] at hb; simp [entry, get] at hb
    · rw [fs_r] at hr; simp [entry, get] at hr
  refine hT c hc 0 _ w _ R0 _ fun e s' a' w' h' k R' ey => ?_
  have fin : (∃ i, get s'.env t = some (.bsl i 0 sz xs.length) ∧ get s'.bx i = some ⟨xs.flatMap cells, false⟩ ∧ (xs.flatMap cells).all isD = true) → LeavesInM Fence.wide 0 P fn a'.tmps
      (fun e w' => ∃ φ' blk cap cs et, e = .returned (.slice (some ⟨blk, 0, none⟩) xs.length cap) ∧ xs.length ≤ cap ∧ w.heap.size ≤ blk ∧ blk < w'.heap.size ∧ w'.heap[blk]? = some (.cells cs et (0, 0)) ∧ (xs.flatMap cells).length ≤ cs.size ∧
        (∀ (j : Nat) v x, (xs.flatMap cells)[j]? = some v → cs[j]? = some x → RepD w' φ' v x ∧ scalar v = true) ∧ φ' blk = 0 ∧
        Below w.heap.size w w' ∧ (∀ b, b < w.heap.size → φ' b = φ b) ∧ (∀ b, w'.heap.size ≤ b → φ' b = 0)) a'.defers .returning w' := by
    rintro ⟨i, hti, hbi, hiD⟩
    refine leave (E := env0 P hmix nt (S0 w φ) (S0_ok w φ hgl)) a'.defers a' w' rfl R' fun a2 w2 ht R2 => ?_
    obtain ⟨g1, g2, _⟩ := R2.1.env t _ (by rw [fs_g]; exact hti)
    obtain ⟨blk', cs, et, b1, b2, b3, b4, b5, b6⟩ := R2.1.bx i _ (by rw [fs_b]; exact hbi)
    simp only at b4 b5 b6
    obtain ⟨x, hx⟩ : ∃ x, a2.tmps.getD t undef = x := ⟨_, rfl⟩
    rw [hx] at g2
    cases g2 with
    | data r => cases r
    | bsl _ _ _ _ cap blk hβ hcap =>
      rw [hβ] at b1; cases b1
      have hrun := run_results (P := P) (w := w2) (fn := fn) (tmps := a2.tmps) (xs := [.slice (some ⟨blk', 0, none⟩) xs.length cap]) (by rw [hres]; rfl) (fun j r z h1 h2 => by
        rw [hres] at h1
        cases j with
        | zero => simp at h1 h2; subst h1 h2; simp only [hx]; rfl
        | succ j => simp at h1)
      have hS : Moved (fun _ => False) w φ h'.M w2 h'.φ := R2.1.sur
      rw [List.all_eq_true] at hiD
      rw [ht] at hrun
      refine ⟨_, hrun, h'.φ, blk', cap, cs, et, rfl, hcap, (hS.mine _ b2).elim (fun h => h.elim) id, R2.1.mine _ b2, b3, b4, fun j v z hv hz => ?_, by simpa using b6, ⟨hS.os, hS.tape, hS.output, hS.size, fun k hk => (hS.old k hk (fun h => h)).1⟩, fun b hb => (hS.old b hb (fun h => h)).2, R2.1.top⟩
      obtain ⟨r1, _, r3⟩ := b5 j v z hv hz
      exact ⟨rep_isD (hiD v (List.mem_of_getElem? hv)) r1, r3⟩
  cases e with
  | normal => exact fin k
  | ret => exact fin k
  | _ => exact k.elim

/-- Such a call: the slice lies in a box of the caller's. -/
theorem does_callO {d : Nat} {f : FuncId} {xs : List X} {vs us : List V} {sz : Nat} {ys : List V} (hx : xs.mapM (evX σ) = some vs) (hd : ∀ b, toDs b vs = some (us, [])) (hC : CO E.P f us sz ys) (hbd : σ.b d = none) :
    Does E σ ⟨some d, .call f, xs, none⟩ { v := .bsl d 0 sz ys.length, wb := [(d, ⟨ys.flatMap cells, false⟩)], rb := [d] } (xslots xs ++ [.bx d]) := by
  refine .sem fun τ hτ slots ops i o ro n log stp a w h hc hs hi R Q next hn => ?_
  have hbd' : τ.b d = none := by rw [b_eq (hτ (.bx d) (by simp))]; exact hbd
  have hx' : xs.mapM (evX τ) = some vs := evX_reads hx fun l hl => hτ l (by simp [hl])
  obtain ⟨os, cc⟩ := comp_of hc
  have hdf := opK_defer cc.op
  have hgo : o.guard = none := by
    rcases cc.guard with ⟨_, e⟩ | ⟨_, _, _, _, _, e⟩
    · exact e
    · cases e
  obtain ⟨c, e1, e2, e3⟩ := opK_call cc.op
  have hO := opds_of R.1 cc.xs hx'
  obtain ⟨q1, q2⟩ := hO.get
  subst e3
  have hw := wanted_none (ops := ops) (a := a) hgo
  have hrun := run_call (E := E) (a := a) (w := w) hC.1 e2 e1
  unfold wpOpIn
  simp only [hi, hw, if_true, Oper.wpIn]
  refine ⟨fun _ _ => trivial, ?_⟩
  rw [Oper.semAt_eq _ _ _ hdf, hrun]
  simp only [Oper.uponIn]
  refine ⟨fun e => by simp [wideR, Fence.wide] at e, ?_⟩
  obtain ⟨h1, R1, ext1, p1, p2, p3, hrep⟩ := args_data R.1 (hd τ.b)
  have hRL : RepL w h1.φ us (c.args.map a.eval) := hrep _ (by simpa using q1) (fun i v x hv hx => by
    simp only [Array.getElem?_map, Option.map_eq_some_iff] at hx
    obtain ⟨p, hp, rfl⟩ := hx
    exact (q2 i v p hv (by simpa using hp)).1)
  refine (callsIn_wideR (hC.2 w h1.φ _ R1.top (E.ok.gl _ _ _ _ _ R1.sur) hRL)).mono ?_
  rintro e w' ⟨φ', blk, cap, cs, et, rfl, hcap, hge, hlt, hheap, hlen, hcells, hφ0, hbel, hφ, htop⟩
  have R1 : Rel E.nt E.S log stp τ a w h1 := R1
  have ex : Ext w h1.φ w' φ' := fun b o ho => by
    have hlt : b < w.heap.size := by
      rcases Nat.lt_or_ge b w.heap.size with h1 | h1
      · exact h1
      · rw [R1.top b h1] at ho; omega
    exact ⟨by rw [hφ b hlt]; exact ho, hbel.cell (p := ⟨b, o, none⟩) hlt, mapAt_of_block (hbel.block b hlt)⟩
  have R2 := R1.move E.ok (w' := w') (h' := { h1 with φ := φ', M := fun b => h1.M b ∨ b = blk }) rfl rfl rfl (fun _ h => .inl h)
    ⟨ex, fun b hlt _ => ⟨hbel.block b hlt, hφ b hlt⟩, hbel.size, hbel.os, hbel.tape, hbel.output, fun b hb => hb.elim .inl (fun e => .inr (e ▸ hge)), htop⟩
    (fun b hM => ⟨hbel.block b (R1.mine b hM), hφ b (R1.mine b hM)⟩) (fun b hb => hb.elim (fun hM => Nat.lt_of_lt_of_le (R1.mine b hM) hbel.size) (fun e => e ▸ hlt)) htop
  have R3 := R2.addBox (d := d) (blk := blk) (zs := ys.flatMap cells) (cs := cs) (e := et) hbd' (.inr rfl) hheap hlen (fun j v x hv hx => by
    obtain ⟨r, s⟩ := hcells j v x hv hx
    exact ⟨.data r, Grow.of_data r, s⟩) hφ0 (fun i hb => by have := R1.mine _ (R1.boxM hb); omega) (fun r hb => by have := R1.mine _ (R1.rowM hb); omega)
  refine hn _ _ _ (rel_after (eff := { v := .bsl d 0 sz ys.length, wb := [(d, ⟨ys.flatMap cells, false⟩)], rb := [d] }) cc R R3 ⟨.bsl d 0 sz _ cap blk (by simp) hcap, fun j u z hu hz => ?_⟩ (by simpa using p3)) (by simpa using p3)
  cases j with
  | zero => simp [cells] at hu; subst hu; intro r' sz xs' e; cases e
  | succ j => simp [cells] at hu

theorem Steps.callO {s : St} {K : St → Prop} {d : Nat} {f : FuncId} {xs : List X} {vs us : List V} {sz : Nat} {ys : List V} {rest : List Ins} (hx : evXs s.env xs = some vs) (hd : ∀ b, toDs b vs = some (us, [])) (hC : CO E.P f us sz ys) (hbd : get s.bx d = none)
    (hk : Steps E rest K ((s.setB d ⟨ys.flatMap cells, false⟩).put (some d) (.bsl d 0 sz ys.length))) : Steps E (⟨some d, .call f, xs, none⟩ :: rest) K s :=
  Step1.does (ins := ⟨some d, .call f, xs, none⟩) (does_callO (evXs_ok hx) hd hC (by rw [fs_b]; exact hbd)) hk

theorem TraceK.callO {s : St} {K : List (List Loc × List Loc) → St → List Ins → Prop} {d : Nat} {f : FuncId} {xs : List X} {vs us : List V} {sz : Nat} {ys : List V} {rest : List Ins} (hx : evXs s.env xs = some vs) (hd : ∀ b, toDs b vs = some (us, [])) (hC : CO E.P f us sz ys) (hbd : get s.bx d = none)
    (tr : TraceK E ((s.setB d ⟨ys.flatMap cells, false⟩).put (some d) (.bsl d 0 sz ys.length)) rest fun fp s' r' => K ((wrOf ⟨some d, .call f, xs, none⟩ { v := .bsl d 0 sz ys.length, wb := [(d, ⟨ys.flatMap cells, false⟩)], rb := [d] }, xslots xs ++ [.bx d]) :: fp) s' r') : TraceK E s (⟨some d, .call f, xs, none⟩ :: rest) K :=
  .step (ins := ⟨some d, .call f, xs, none⟩) (does_callO (evXs_ok hx) hd hC (by rw [fs_b]; exact hbd)) tr

end
end Go.Am


/-! AM, part Zf: an arena: blocks beside the frame's own boxes, known by their exact addresses; what lies in them is told by the log. -/
set_option linter.unusedVariables false
set_option linter.unusedSimpArgs false
namespace Go.Am
open Go.RowKit

/-- What lies in a block: cells of data, or an object that is known exactly. -/
inductive Ob where
  | cells (cs : List V)
  | raw (o : Obj)
  | mapd (ks : List (Int × Int)) (vs : List V)

def encOb : Nat × Ob → V
  | (b, .cells cs) => .agg (.rptr b 0 :: cs)
  | (b, .raw o) => .tuple [.rptr b 0, .obj o]
  | (b, .mapd ks vs) => .tuple [.rptr b 0, .mpd ks vs]

theorem encOb_inj : ∀ {p q : Nat × Ob}, encOb p = encOb q → p = q
  | (b, .cells cs), (c, .cells ds), h => by simp [encOb] at h; simp [h]
  | (b, .raw o), (c, .raw u), h => by simp [encOb] at h; simp [h]
  | (b, .cells cs), (c, .raw u), h => by simp [encOb] at h
  | (b, .raw o), (c, .cells ds), h => by simp [encOb] at h
  | (b, .mapd ks vs), (c, .mapd ks' vs'), h => by simp [encOb] at h; simp [h]
  | (b, .mapd ks vs), (c, .cells ds), h => by simp [encOb] at h
  | (b, .mapd ks vs), (c, .raw o), h => by simp [encOb] at h
  | (b, .cells cs), (c, .mapd ks vs), h => by simp [encOb] at h
  | (b, .raw o), (c, .mapd ks vs), h => by simp [encOb] at h

abbrev Arena := List (Nat × Ob)

def encA (A : Arena) : List (List V) := [A.map encOb]

theorem encA_inj {A B : Arena} (h : encA A = encA B) : A = B := by
  simp only [encA, List.cons.injEq, and_true] at h
  revert B
  induction A with
  | nil => intro B h; cases B with
    | nil => rfl
    | cons => simp at h
  | cons p A ih => intro B h; cases B with
    | nil => simp at h
    | cons q B =>
      simp only [List.map_cons, List.cons.injEq] at h
      rw [encOb_inj h.1, ih h.2]

def ObOk (w : World) (φ : Nat → Nat) (b : Nat) : Ob → Prop
  | .cells cs => ∃ vs e, w.heap[b]? = some (.cells vs e (0, 0)) ∧ cs.length ≤ vs.size ∧ ∀ (j : Nat) v x, cs[j]? = some v → vs[j]? = some x → RepD w φ v x ∧ scalar v = true
  | .raw o => w.heap[b]? = some o
  | .mapd ks vs => ∃ xs : List Value, vs.length = ks.length ∧ xs.length = ks.length ∧ w.heap[b]? = some (.map (mesD 0 ks xs).toArray ks.length) ∧ ∀ (i : Nat) v x, vs[i]? = some v → xs[i]? = some x → RepD w φ v x

theorem ObOk.mono {w w' : World} {φ φ' : Nat → Nat} {b : Nat} {o : Ob} (h : ObOk w φ b o) (hb : w'.heap[b]? = w.heap[b]?) (e : Ext w φ w' φ') : ObOk w' φ' b o := by
  cases o with
  | cells cs =>
    obtain ⟨vs, et, h1, h2, h3⟩ := h
    exact ⟨vs, et, hb.trans h1, h2, fun j v x hv hx => ⟨(h3 j v x hv hx).1.mono e, (h3 j v x hv hx).2⟩⟩
  | raw o => exact hb.trans h
  | mapd ks vs =>
    obtain ⟨xs, h1, h2, h3, h4⟩ := h
    exact ⟨xs, h1, h2, hb.trans h3, fun i v x hv hx => (h4 i v x hv hx).mono e⟩

structure Ar (w : World) (φ : Nat → Nat) (M : Nat → Prop) (A : Arena) : Prop where
  nd : (A.map (·.1)).Nodup
  ok : ∀ p ∈ A, ObOk w φ p.1 p.2
  fr : ∀ p ∈ A, ¬ M p.1
  lt : ∀ p ∈ A, p.1 < w.heap.size
  z : ∀ p ∈ A, φ p.1 = 0

/-- The surroundings with an arena in them. -/
def SA (S0 : Sur) (l0 : List (List V)) (s0 : Bool) : Sur := fun log stp M w φ =>
  ∃ A, log = encA A ∧ stp = s0 ∧ Ar w φ M A ∧ S0 l0 s0 (fun b => M b ∨ b ∈ A.map (·.1)) w φ

theorem SA_ok {S0 : Sur} (h0 : S0.ok) (l0 : List (List V)) (s0 : Bool) : (SA S0 l0 s0).ok := by
  refine ⟨?_, fun _ _ _ _ _ ⟨_, _, _, _, h4⟩ => h0.gl _ _ _ _ _ h4⟩
  intro log s M w φ M' w' φ' ⟨A, h1, h2, h3, h4⟩ mv
  have old : ∀ p ∈ A, w'.heap[p.1]? = w.heap[p.1]? ∧ φ' p.1 = φ p.1 := fun p hp => mv.old _ (h3.lt p hp) (h3.fr p hp)
  refine ⟨A, h1, h2, ⟨h3.nd, fun p hp => (h3.ok p hp).mono (old p hp).1 mv.ext, fun p hp hM => ?_, fun p hp => Nat.lt_of_lt_of_le (h3.lt p hp) mv.size, fun p hp => (old p hp).2.trans (h3.z p hp)⟩, h0 _ _ _ _ _ _ _ _ h4 ⟨mv.ext, fun b hb hn => mv.old b hb fun hM => hn (.inl hM), mv.size, mv.os, mv.tape, mv.output, fun b hb => ?_, mv.top⟩⟩
  · rcases mv.mine _ hM with h | h
    · exact h3.fr p hp h
    · have := h3.lt p hp; omega
  · rcases hb with hb | hb
    · exact (mv.mine b hb).imp .inl id
    · exact .inl (.inr hb)

/-- More blocks are the frame's own. -/
theorem Rel.grow {nt : Nat} {S S' : Sur} {log log' : List (List V)} {stp stp' : Bool} {σ : FSt} {a : Act} {w : World} {h : Gh} (R : Rel nt S log stp σ a w h) (M' : Nat → Prop) (hM : ∀ b, h.M b → M' b) (hlt : ∀ b, M' b → b < w.heap.size) (sur : S' log' stp' M' w h.φ) : Rel nt S' log' stp' σ a w { h with M := M' } where
  size := R.size
  env := fun t v hv => R.env t v hv
  bx := fun i bo hb => by
    obtain ⟨blk, cs, e, h1, h2, h3, h4, h5, h6⟩ := R.bx i bo hb
    exact ⟨blk, cs, e, h1, hM _ h2, h3, h4, h5, h6⟩
  dom := R.dom
  inj := R.inj
  rows := fun r n sz et hr => by
    rcases R.rows r n sz et hr with ⟨e, e'⟩ | ⟨b, cs, hb', hMb, hh, hp, hn⟩
    · exact .inl ⟨e, e'⟩
    · exact .inr ⟨b, cs, hb', hM _ hMb, hh, hp, hn⟩
  rdom := R.rdom
  rinj := R.rinj
  apart := R.apart
  pins := R.pins
  mine := hlt
  top := R.top
  marks := R.marks.congr fun r hMr hh => ⟨hM _ hMr, hh⟩
  sur := sur

abbrev Env.withA (E : Env) (l0 : List (List V)) (s0 : Bool) : Env := { E with S := SA E.S l0 s0, ys := noYs, ok := SA_ok E.ok l0 s0, lk := fun _ => True }

/-- **A FRAME WITH AN ARENA.** -/
theorem Tr.arena {E : Env} {ro : Option Nat} {ic : IC} {Q : Exit → St → Prop} {s : St} (hys : E.ys = noYs) (hlk : E.lk = fun _ => True)
    (h : Tr (E.withA s.log s.stp) ro ic (fun e t => Q e { t with log := s.log, stp := s.stp }) { s with log := encA [] }) : Tr E ro ic Q s := fun c hc n a w g R Q' hq => by
  have R1 : (E.withA s.log s.stp).rel { s with log := encA [] } a w g := by
    refine ⟨?_, ?_⟩
    · have e : (fun b => g.M b ∨ b ∈ (([] : Arena).map (·.1))) = g.M := by funext b; simp
      exact { R.1 with sur := ⟨[], rfl, rfl, ⟨by simp, by simp, by simp, by simp, by simp⟩, by rw [e]; exact R.1.sur⟩ }
    · refine ⟨fun l hl => ⟨?_, trivial⟩, R.2.2⟩
      intro log x M w φ xs hp
      exact False.elim hp
  refine h c hc n a w g R1 Q' fun e t a' w' h' hQ R' hy => ?_
  obtain ⟨A, h1, h2, h3, h4⟩ := R'.1.sur
  refine hq e _ a' w' { h' with M := fun b => h'.M b ∨ b ∈ A.map (·.1) } hQ ⟨?_, ?_⟩ hy
  · exact R'.1.grow _ (fun b hb => .inl hb) (fun b hb => by
      rcases hb with hb | hb
      · exact R'.1.mine b hb
      · obtain ⟨p, hp, rfl⟩ := List.mem_map.1 hb
        exact h3.lt p hp) h4
  · refine ⟨fun l hl => ⟨?_, by rw [hlk]; trivial⟩, R'.2.2⟩
    intro log x M w φ xs hp
    rw [hys] at hp
    exact False.elim hp

/-- A frame in which an arena is at hand. -/
structure InA (E : Env) (S0 : Sur) (l0 : List (List V)) (s0 : Bool) : Prop where
  sub : Sub E.S (SA S0 l0 s0)
  ok : S0.ok

theorem InA.main {E : Env} (l0 : List (List V)) (s0 : Bool) : InA (E.withA l0 s0) E.S l0 s0 := ⟨Sub.refl _, E.ok⟩

section
variable {E : Env} {S0 : Sur} {l0 : List (List V)} {s0 : Bool} {A : Arena} {stp : Bool} {σ : FSt} {a : Act} {w : World} {h : Gh}

/-- What is known of the arena. -/
theorem InA.ar (hE : InA E S0 l0 s0) (R : E.relF (encA A) stp σ a w h) : Ar w h.φ h.M A := by
  obtain ⟨M1, hM1, hlt, ⟨A0, e, hs, hA, hS⟩, back⟩ := hE.sub _ _ _ _ _ R.1.sur R.1.mine
  obtain rfl := encA_inj e
  exact ⟨hA.nd, hA.ok, fun p hp hM => hA.fr p hp (hM1 _ hM), hA.lt, hA.z⟩

/-- The arena is turned, or grows. -/
theorem InA.step (hE : InA E S0 l0 s0) (R : E.relF (encA A) stp σ a w h) {w' : World} {B : Arena} (hold : ∀ b, b < w.heap.size → b ∉ A.map (·.1) → w'.heap[b]? = w.heap[b]?) (hsz : w.heap.size ≤ w'.heap.size) (hos : w'.os = w.os) (htp : w'.tape = w.tape) (hou : w'.output = w.output)
    (hnew : ∀ p ∈ B, p.1 ∈ A.map (·.1) ∨ w.heap.size ≤ p.1) (hkeep : ∀ p ∈ A, p.1 ∈ B.map (·.1)) (hnd : (B.map (·.1)).Nodup) (hok : Ext w h.φ w' h.φ → ∀ p ∈ B, ObOk w' h.φ p.1 p.2) (hlt : ∀ p ∈ B, p.1 < w'.heap.size) : E.relF (encA B) stp σ a w' h := by
  obtain ⟨M1, hM1, hlt1, ⟨A0, e, hs, hA, hS⟩, back⟩ := hE.sub _ _ _ _ _ R.1.sur R.1.mine
  obtain rfl := encA_inj e
  have notA : ∀ b o, o < h.φ b → b < w.heap.size ∧ b ∉ A.map (·.1) := fun b o ho => by
    refine ⟨?_, fun hb => ?_⟩
    · rcases Nat.lt_or_ge b w.heap.size with h1 | h1
      · exact h1
      · rw [R.1.top b h1] at ho; omega
    · obtain ⟨p, hp, rfl⟩ := List.mem_map.1 hb
      rw [hA.z p hp] at ho; omega
  have ext : Ext w h.φ w' h.φ := fun b o ho => by
    obtain ⟨h1, h2⟩ := notA b o ho
    exact ⟨ho, World.cell?_of_block (hold b h1 h2), mapAt_of_block (hold b h1 h2)⟩
  have top' : ∀ b, w'.heap.size ≤ b → h.φ b = 0 := fun b hb => R.1.top b (by omega)
  have own : ∀ b, M1 b → w'.heap[b]? = w.heap[b]? ∧ h.φ b = h.φ b := fun b hb => ⟨hold b (hlt1 b hb) fun hm => by
    obtain ⟨p, hp, rfl⟩ := List.mem_map.1 hm
    exact hA.fr p hp hb, rfl⟩
  have sa : SA S0 l0 s0 (encA B) stp M1 w' h.φ := by
    refine ⟨B, rfl, hs, ⟨hnd, hok ext, fun p hp hM => ?_, hlt, fun p hp => ?_⟩, hE.ok _ _ _ _ _ _ _ _ hS ⟨ext, fun b hb hn => ⟨hold b hb fun hm => hn (.inr hm), rfl⟩, hsz, hos, htp, hou, fun b hb => ?_, top'⟩⟩
    · rcases hnew p hp with h1 | h1
      · obtain ⟨q, hq, e⟩ := List.mem_map.1 h1
        exact hA.fr q hq (e ▸ hM)
      · have := hlt1 _ hM; omega
    · rcases hnew p hp with h1 | h1
      · obtain ⟨q, hq, e⟩ := List.mem_map.1 h1
        rw [← e]; exact hA.z q hq
      · exact R.1.top _ h1
    · rcases hb with hb | hb
      · exact .inl (.inl hb)
      · obtain ⟨p, hp, rfl⟩ := List.mem_map.1 hb
        exact (hnew p hp).imp .inr id
  have sur' := back (encA B) stp w' h.φ sa ext own hsz top' hos htp hou
  exact ⟨rel_round R.1 ext (fun b hb => own b (hM1 b hb)) hsz top' sur', R.2⟩

end

/-! ### What lies in an arena is read, and written -/
/-- The arena with another object in a block. -/
def setA (A : Arena) (b : Nat) (o : Ob) : Arena := A.map fun p => if p.1 = b then (b, o) else p

theorem setA_keys (A : Arena) (b : Nat) (o : Ob) : (setA A b o).map (·.1) = A.map (·.1) := by
  unfold setA
  rw [List.map_map]
  congr 1
  funext p
  simp only [Function.comp]
  split
  · rename_i h; exact h.symm
  · rfl

theorem setA_mem {A : Arena} {b : Nat} {o : Ob} {p : Nat × Ob} (h : p ∈ setA A b o) : (p.1 = b ∧ p.2 = o) ∨ (p.1 ≠ b ∧ p ∈ A) := by
  obtain ⟨q, hq, e⟩ := List.mem_map.1 h
  split at e
  · subst e; exact .inl ⟨rfl, rfl⟩
  · subst e; rename_i h1; exact .inr ⟨h1, hq⟩

section
variable {E : Env} {S0 : Sur} {l0 : List (List V)} {s0 : Bool} {A : Arena}

theorem opK_load1 {P : Program} {o : Oper} {os : List Operand} (hk : opK P o.op = some (.load 1 false, os)) : ∃ t p d, o.op = .load t p ∧ szOf P t = some 1 ∧ P.underlying t = some d ∧ aggB P t = false ∧ os = [p] := by
  replace hk := opK0_of hk (by simp [tagOf])
  cases ho : o.op <;> rw [ho] at hk <;> simp only [opK0] at hk <;> (try (cases hk; done)) <;> (try (repeat' (split at hk <;> (try (cases hk; done)))))
  all_goals first
    | (simp only [Option.map_eq_some_iff, Prod.mk.injEq] at hk; obtain ⟨_, _, h1, _⟩ := hk; cases h1; done)
    | (simp only [eqKind] at hk; repeat' (split at hk <;> (try (cases hk; done))))
    | (rename_i h1 h2 h3 h4; subst h4; cases hk; exact ⟨_, _, _, rfl, by assumption, by assumption, Bool.eq_false_iff.2 h3, rfl⟩)

theorem opK_store1 {P : Program} {o : Oper} {os : List Operand} {n : Nat} (hk : opK P o.op = some (.store n, os)) : ∃ t p q, o.op = .store t p q ∧ szOf P t = some n ∧ os = [p, q] := by
  replace hk := opK0_of hk (by simp [tagOf])
  cases ho : o.op <;> rw [ho] at hk <;> simp only [opK0] at hk <;> (try (cases hk; done)) <;> (try (repeat' (split at hk <;> (try (cases hk; done)))))
  all_goals first
    | (simp only [Option.map_eq_some_iff, Prod.mk.injEq, K.store.injEq] at hk; obtain ⟨m, hm, rfl, rfl⟩ := hk; exact ⟨_, _, _, rfl, hm, rfl⟩)
    | (simp only [Option.map_eq_some_iff, Prod.mk.injEq] at hk; obtain ⟨_, _, h1, _⟩ := hk; cases h1; done)
    | (simp only [eqKind] at hk; repeat' (split at hk <;> (try (cases hk; done))))

theorem ok_rptr {σ : FSt} {h : Gh} {w : World} {blk off : Nat} {x : Value} (o : Ok σ h w (.rptr blk off) x) : x = .pointer (some ⟨blk, off, none⟩) := by
  obtain ⟨r, _⟩ := o
  cases r with
  | data r => cases r; rfl

theorem ok_sref {σ : FSt} {h : Gh} {w : World} {blk off len cap : Nat} {x : Value} (o : Ok σ h w (.sref blk off len cap) x) : x = .slice (some ⟨blk, off, none⟩) len cap := by
  obtain ⟨r, _⟩ := o
  cases r with
  | data r => cases r; rfl

theorem guard_none {slots : List (Option Nat)} {P : Program} {nt : Nat} {o : Oper} {ins : Ins} {os : List Operand} (cc : Comp P nt slots o ins os) (hg : ins.g = none) : o.guard = none := by
  rcases cc.guard with ⟨_, e⟩ | ⟨j, want, t, _, _, e⟩
  · exact e
  · rw [hg] at e; cases e

/-- A cell of an arena's block is read. -/
theorem Steps.aload (hE : InA E S0 l0 s0) {K : St → Prop} {s : St} {d : Nat} {x : X} {rest : List Ins} {blk off : Nat} {cs : List V} {v : V} (hx : evXs s.env [x] = some [.rptr blk off]) (hl : s.log = encA A) (hA : (blk, .cells cs) ∈ A) (hv : cs[off]? = some v)
    (hk : Steps E rest K (s.put (some d) v)) : Steps E (⟨some d, .load 1 false, [x], none⟩ :: rest) K s := by
  refine Step1.raw fun slots ops o i ro n a w h hc hs hi R Q next hn => ?_
  obtain ⟨os, cc⟩ := comp_of hc
  have hgo := guard_none cc rfl
  have hdf := opK_defer cc.op
  obtain ⟨t, p, dd, e1, e2, e3, e4, rfl⟩ := opK_load1 cc.op
  obtain ⟨u, hu, o1⟩ := (opds_of R.1 cc.xs (evXs_ok hx)).one
  simp only [List.cons.injEq, and_true] at hu
  subst hu
  have ep := ok_rptr o1
  have R' : E.relF (encA A) s.stp s.fs a w h := by rw [← hl]; exact R
  obtain ⟨vs, et, h1, h2, h3⟩ := (hE.ar R').ok _ hA
  have hlt : off < vs.size := by have := (List.getElem?_eq_some_iff.1 hv).1; omega
  obtain ⟨r, sc⟩ := h3 off v _ hv (Array.getElem?_eq_getElem hlt)
  have hcell : w.cell? ⟨blk, off, none⟩ = some vs[off] := by rw [cell_of_row w blk off vs et (0, 0) h1]; simp [hlt]
  have hex : (execOp a.eval o).run E.P w = .ok (.value vs[off]) w := by
    simp only [execOp, e1, ep, Sem.run_bind]
    rw [run_loadAt (cs := [vs[off]]) e2 e3 rfl (fun j v hv => by
      cases j with
      | zero => cases hv; exact hcell
      | succ j => cases hv) (by rw [e4]; rfl)]
    rfl
  refine wpOp_done hi (wanted_none hgo) hdf (.inl hex) (hn _ _ _ h hk ?_ rfl)
  have ok : Ok s.fs h w v vs[off] := ⟨.data r, GrowV.of_data r⟩
  show E.relF _ _ _ _ _ _
  rw [(put_log _ _ _).1, (put_log _ _ _).2, fs_put]
  exact rel_after (eff := { v := _ }) cc R R.1 ok rfl

/-- A cell of an arena's block is written. -/
theorem Steps.astore (hE : InA E S0 l0 s0) {K : St → Prop} {s : St} {x y : X} {rest : List Ins} {blk off : Nat} {cs : List V} {v : V} (hx : evXs s.env [x, y] = some [.rptr blk off, v]) (hl : s.log = encA A) (hA : (blk, .cells cs) ∈ A) (hoff : off < cs.length) (hv : isD v = true) (hsc : scalar v = true)
    (hk : Steps E rest K { s with log := encA (setA A blk (.cells (cs.set off v))) }) : Steps E (⟨none, .store 1, [x, y], none⟩ :: rest) K s := by
  refine Step1.raw fun slots ops o i ro n a w h hc hs hi R Q next hn => ?_
  obtain ⟨os, cc⟩ := comp_of hc
  have hgo := guard_none cc rfl
  have hdf := opK_defer cc.op
  obtain ⟨t, p, q, e1, e2, rfl⟩ := opK_store1 cc.op
  obtain ⟨u, u', hu, o1, o2⟩ := (opds_of R.1 cc.xs (evXs_ok hx)).two
  simp only [List.cons.injEq, and_true] at hu
  obtain ⟨hu1, rfl⟩ := hu
  subst hu1
  have ep := ok_rptr o1
  have R' : E.relF (encA A) s.stp s.fs a w h := by rw [← hl]; exact R
  have hAr := hE.ar R'
  obtain ⟨vs, et, h1, h2, h3⟩ := hAr.ok _ hA
  have rv : RepD w h.φ v (a.eval q) := rep_isD hv o2.1
  have hc1 : (a.eval q).cells = #[a.eval q] := (scalar_value o2.1 hsc).2
  have hone : ∀ z ∈ [a.eval q], z.oneCell' = true := fun z hz => by
    obtain rfl : z = a.eval q := by simpa using hz
    exact (scalar_value o2.1 hsc).1
  have hrun := run_storeCells_at E.P blk off et [a.eval q] 0 vs w h1 (by simp; omega) hone
  simp only [Nat.add_zero] at hrun
  have R2 := hE.step R' (B := setA A blk (.cells (cs.set off v)))
    (fun b hb hn => setRow_other w blk b (vs.toList.take off ++ [a.eval q] ++ vs.toList.drop (off + [a.eval q].length)).toArray (fun e => hn (e ▸ List.mem_map.2 ⟨_, hA, rfl⟩))) (by simp) rfl rfl rfl
    (fun p hp => .inl (by rw [← setA_keys A blk (.cells (cs.set off v))]; exact List.mem_map.2 ⟨p, hp, rfl⟩)) (fun p hp => by rw [setA_keys]; exact List.mem_map.2 ⟨p, hp, rfl⟩) (by rw [setA_keys]; exact hAr.nd)
    (fun ext p hp => by
      rcases setA_mem hp with ⟨e, e'⟩ | ⟨hne, hp⟩
      · rw [e, e']
        refine ⟨_, et, setRow_heap w blk vs _ et (0, 0) h1, by simp; omega, fun j u z hu hz => ?_⟩
        rw [List.getElem?_toArray, splice_get (by simp; omega)] at hz
        by_cases ej : j = off
        · subst ej
          rw [List.getElem?_set_self hoff] at hu
          rw [if_neg (by omega), if_pos (by simp)] at hz
          cases hu
          simp at hz
          subst hz
          exact ⟨rv.mono ext, hsc⟩
        · rw [List.getElem?_set_ne (fun h => ej h.symm)] at hu
          have hz' : vs[j]? = some z := by
            by_cases h5 : j < off
            · rw [if_pos h5] at hz; simpa using hz
            · rw [if_neg h5, if_neg (by simp; omega)] at hz; simpa using hz
          exact ⟨(h3 j u z hu hz').1.mono ext, (h3 j u z hu hz').2⟩
      · exact (hAr.ok p hp).mono (setRow_other w blk p.1 _ hne) ext) (fun p hp => by
      have hk : p.1 ∈ A.map (·.1) := by rw [← setA_keys A blk (.cells (cs.set off v))]; exact List.mem_map.2 ⟨p, hp, rfl⟩
      obtain ⟨q', hq', e⟩ := List.mem_map.1 hk
      have := hAr.lt q' hq'
      rw [← e]; simpa using this)
  have hd : o.dst = none := cc.d.symm
  have R3 : E.rel { s with log := encA (setA A blk (.cells (cs.set off v))) } (a.put o.dst undef) (w.setRow blk (vs.toList.take off ++ [a.eval q] ++ vs.toList.drop (off + [a.eval q].length)).toArray) h := by rw [hd]; exact R2
  refine wpOp_done (x := undef) hi (wanted_none hgo) hdf (.inr ⟨?_, rfl⟩) (hn _ _ _ h hk R3 rfl)
  simp only [execOp, e1, ep, Instr.storeAt, Instr.sureAddr, Sem.run_bind, Sem.run_pure, Result.andThen_ok, storeVar, run_szOf e2]
  rw [if_neg (by rw [hc1]; simp), hc1]
  rw [hrun]
  rfl

end
end Go.Am


/-! AM, part Zg: sets of pairs of numbers in an arena: made, filled, gone through in whatever order. -/
set_option linter.unusedVariables false
set_option linter.unusedSimpArgs false
namespace Go.Am
open Go.RowKit

theorem setOk_law {P : Program} {kt e : TypeId} (hm : setOk P kt e = true) : Maps.Keyed P kt ∧ P.underlying e = some .bool ∧
    ∀ a b : Int, (-9223372036854775808 ≤ a ∧ a < 9223372036854775808) → (-9223372036854775808 ≤ b ∧ b < 9223372036854775808) → ∃ l, keyOf P kt (.agg #[.int .i64 a, .int .i64 b]) = some l := by
  unfold setOk at hm
  simp only [Bool.and_eq_true, decide_eq_true_eq, beq_iff_eq] at hm
  obtain ⟨⟨⟨⟨⟨⟨⟨h1, h2⟩, h3⟩, h4⟩, h5⟩, h6⟩, h7⟩, h8⟩ := hm
  have i64 : ∀ {t : TypeId}, isI64 P t = true → P.underlying t = some (.int .i64) := by
    intro t h
    unfold isI64 at h
    split at h
    · assumption
    · cases h
  refine ⟨Maps.Keyed.of_law (deep_law_laid h1 (m := 2) (by omega) h2 h3 ?_), ?_, ?_⟩
  · split at h8
    · rename_i fs hfs; rw [hfs]
    · cases h8
  · split at h5
    · assumption
    · cases h5
  · intro a b ha hb
    split at h8
    · rename_i fs hfs
      split at h8
      · rename_i f g hfg
        simp only [Bool.and_eq_true, beq_iff_eq, bne_iff_ne, ne_eq] at h8
        obtain ⟨⟨⟨⟨⟨⟨⟨g1, g2⟩, g3⟩, g4⟩, g5⟩, g6⟩, g7⟩, g8⟩ := h8
        have wf : ∀ n : Int, (-9223372036854775808 ≤ n ∧ n < 9223372036854775808) → (Lit.int .i64 n).wf = true := fun n hn => WalkArith.wf_i64 ⟨hn.1, by omega⟩
        obtain ⟨n, hn⟩ : ∃ n, P.types.size = n + 1 := by
          cases hs : P.types.size with
          | zero => rw [hs] at h2; exact absurd h2 (Nat.not_lt_zero _)
          | succ n => exact ⟨n, rfl⟩
        have hall : fs.all (fun f => f.name != "_") = true := by
          rw [← Array.all_toList, hfg]; simp [g1, g2]
        refine ⟨_, by
          unfold keyOf
          rw [hfs]
          simp only [h4, Value.formed, hfs, h7, Bool.true_and]
          rw [if_pos (by simp)]
          rw [hn]
          simp only [Program.keyLits, hfs, Value.cells]
          rw [if_pos ⟨by simp [h7], hall⟩, hfg]
          simp [g3, g4, g7, g8, i64 g5, i64 g6, wf a ha, wf b hb]
          rfl⟩
      · cases h8
    · cases h8

theorem setB_same {w : World} {b : Nat} {x : Obj} (h : w.heap[b]? = some x) (o : Obj) : (ChangeMaps.setBlock w b o).heap[b]? = some o := by
  have := (Array.getElem?_eq_some_iff.1 h).1
  simp [ChangeMaps.setBlock, this]

theorem setB_other {w : World} {b k : Nat} (o : Obj) (h : k ≠ b) : (ChangeMaps.setBlock w b o).heap[k]? = w.heap[k]? := by
  simp only [ChangeMaps.setBlock]
  rw [Array.getElem?_setIfInBounds_ne (fun e => h e.symm)]

theorem keyV_inj {a b : Int × Int} (h : keyV a = keyV b) : a = b := by
  unfold keyV at h
  simp only [Value.agg.injEq, Array.mk.injEq, List.cons.injEq, Value.int.injEq, true_and, and_true] at h
  exact Prod.ext h.1 h.2

/-- A map that holds just these keys, each with 'true'. -/
structure SetIs (es : Array MapEntry) (clock : Nat) (ks : List (Int × Int)) : Prop where
  st : MapKept.Stamped es clock
  max : es.size ≤ 100000
  ent : ∀ e ∈ es.toList, ∃ k ∈ ks, e.key = keyV k ∧ e.val = .bool true
  all : ∀ k ∈ ks, (inI k.1 ∧ inI k.2) ∧ ∃ e ∈ es.toList, e.key = keyV k
  nd : es.toList.Pairwise fun x y => x.key ≠ y.key

theorem SetIs.made : SetIs #[] 0 [] := ⟨MapKept.stamped_empty 0, by simp, by simp, by simp, by simp⟩

theorem SetIs.fit {P : Program} {kt e : TypeId} {es : Array MapEntry} {clock : Nat} {ks : List (Int × Int)} (hm : setOk P kt e = true) (h : SetIs es clock ks) : WideElems.Fit (H := Unit) P kt (Go.plainElem P e) es clock := by
  obtain ⟨K, hu, hkey⟩ := setOk_law hm
  refine ⟨by have := h.max; unfold maxLen; omega, h.st, fun x hx => ?_⟩
  obtain ⟨k, hk, k1, k2⟩ := h.ent x hx
  obtain ⟨⟨i1, i2⟩, _⟩ := h.all k hk
  obtain ⟨kl, hkl⟩ := hkey k.1 k.2 i1 i2
  unfold WideElems.rd
  rw [k1, keyV, hkl, k2, Go.plainElem_bool hu]
  exact ⟨_, rfl⟩

/-- A key is put. -/
theorem SetIs.put {P : Program} {t kt e : TypeId} {w : World} {mb : Nat} {es : Array MapEntry} {clock : Nat} {ks : List (Int × Int)} (hm : setOk P kt e = true) (ht : P.underlying t = some (.map kt e)) (hb : w.heap[mb]? = some (.map es clock)) (h : SetIs es clock ks) {k : Int × Int} (hk : inI k.1 ∧ inI k.2) (hroom : es.size < 100000) :
    ∃ es' clock', (Instr.mapUpdate t (.map (some mb)) (keyV k) (.bool true)).run P w = .ok () (ChangeMaps.setBlock w mb (.map es' clock')) ∧ SetIs es' clock' (ks ++ [k]) ∧ es'.size ≤ es.size + 1 := by
  obtain ⟨K, hu, hkey⟩ := setOk_law hm
  obtain ⟨kl, hkl⟩ := hkey k.1 k.2 hk.1 hk.2
  have F := h.fit hm
  obtain ⟨es', clock', hrun, F', hput, _, _, hall⟩ := Maps.fit_store (R' := Go.plainElem (H := Unit) P e) K ht hb F (by have := h.max; unfold maxLen; omega) (fun _ _ _ _ hz => hz) hkl (Go.plainElem_bool hu true)
  have hsz : es'.size ≤ es.size + 1 := by
    have e1 : es'.size = ((es'.toList.map (WideElems.rg P kt (Go.plainElem (H := Unit) P e))).foldr DataW.insert []).length := by rw [Go.length_sorted]; simp
    rw [e1, hput]
    unfold ChangeMaps.putKey
    rw [Go.length_insert]
    have e2 := List.length_filter_le (ChangeMaps.notKey kl) ((es.toList.map (WideElems.rg P kt (Go.plainElem (H := Unit) P e))).foldr DataW.insert [])
    rw [Go.length_sorted] at e2
    simp at e2
    omega
  have hnd' : es'.toList.Pairwise fun x y => x.key ≠ y.key := by
    have key1 : ∀ x ∈ es.toList, keyOf P kt x.key = some (WideElems.rg P kt (Go.plainElem (H := Unit) P e) x).1 := fun x hx => by
      obtain ⟨y, hy⟩ := F.reads x hx
      rw [WideElems.rg_of hy]; exact WideElems.rd_key hy
    have key2 : ∀ x ∈ es'.toList, keyOf P kt x.key = some (WideElems.rg P kt (Go.plainElem (H := Unit) P e) x).1 := fun x hx => by
      obtain ⟨y, hy⟩ := F'.reads x hx
      rw [WideElems.rg_of hy]; exact WideElems.rd_key hy
    have n1 : ((es.toList.map (WideElems.rg P kt (Go.plainElem (H := Unit) P e))).map (·.1)).Nodup := by
      rw [List.map_map]
      unfold List.Nodup
      rw [List.pairwise_map]
      refine h.nd.imp_of_mem fun {x y} hx hy hne e => hne ?_
      exact K.inj (key1 x hx) (by rw [key1 y hy]; exact congrArg some e.symm)
    have n2 : (((es.toList.map (WideElems.rg P kt (Go.plainElem (H := Unit) P e))).foldr DataW.insert []).map (·.1)).Nodup := (((WideShapes.sorted_perm _).map _).nodup_iff).2 n1
    have n3 : (((es'.toList.map (WideElems.rg P kt (Go.plainElem (H := Unit) P e))).foldr DataW.insert []).map (·.1)).Nodup := by
      rw [hput]
      unfold ChangeMaps.putKey
      refine (((WideShapes.insert_perm _ _).map _).nodup_iff).2 ?_
      rw [List.map_cons, List.nodup_cons]
      refine ⟨fun hm => ?_, n2.sublist (List.Sublist.map _ List.filter_sublist)⟩
      obtain ⟨q, hq, e⟩ := List.mem_map.1 hm
      exact (Maps.notKey_iff (K.key hkl)).1 (List.mem_filter.1 hq).2 e
    have n4 : ((es'.toList.map (WideElems.rg P kt (Go.plainElem (H := Unit) P e))).map (·.1)).Nodup := (((WideShapes.sorted_perm _).map _).nodup_iff).1 n3
    rw [List.map_map] at n4
    unfold List.Nodup at n4
    rw [List.pairwise_map] at n4
    refine n4.imp_of_mem fun {x y} hx hy hne e => hne ?_
    have e1 := key2 x hx
    rw [e, key2 y hy] at e1
    exact (Option.some.inj e1).symm
  refine ⟨es', clock', hrun, ⟨F'.stamped, by omega, fun x hx => ?_, fun j hj => ?_, hnd'⟩, hsz⟩
  · rcases hall x hx with ⟨hx1, _⟩ | ⟨hx1, hx2⟩
    · obtain ⟨j, hj, j1, j2⟩ := h.ent x hx1
      exact ⟨j, by simp [hj], j1, j2⟩
    · exact ⟨k, by simp, hx1, hx2⟩
  · have hmem : ∀ q, q ∈ es'.toList.map (WideElems.rg P kt (Go.plainElem (H := Unit) P e)) ↔ q ∈ ChangeMaps.putKey kl (.lit (.bool true)) ((es.toList.map (WideElems.rg P kt (Go.plainElem (H := Unit) P e))).foldr DataW.insert []) := fun q => by
      rw [← hput, (WideShapes.sorted_perm _).mem_iff]
    have key_of : ∀ x ∈ es'.toList, ∀ l d, WideElems.rg P kt (Go.plainElem (H := Unit) P e) x = (l, d) → keyOf P kt x.key = some l := fun x hx l d hxe => by
      obtain ⟨y, hy⟩ := F'.reads x hx
      have := WideElems.rd_key hy
      rw [WideElems.rg_of hy] at hxe
      rw [this, hxe]
    have last : ∃ x ∈ es'.toList, x.key = keyV k := by
      have : (kl, DataW.lit (.bool true)) ∈ es'.toList.map (WideElems.rg P kt (Go.plainElem (H := Unit) P e)) := by
        rw [hmem]; unfold ChangeMaps.putKey; rw [ChangeMaps.mem_insert_iff]; exact .inl rfl
      obtain ⟨x, hx, hxe⟩ := List.mem_map.1 this
      exact ⟨x, hx, K.inj (key_of x hx _ _ hxe) hkl⟩
    rcases List.mem_append.1 hj with hj | hj
    · obtain ⟨hi, x0, hx0, hk0⟩ := h.all j hj
      refine ⟨hi, ?_⟩
      by_cases ejk : j = k
      · subst ejk; exact last
      obtain ⟨y0, hy0⟩ := F.reads x0 hx0
      have hk1 := WideElems.rd_key hy0
      have hne : y0.1 ≠ kl := fun he => by
        rw [he] at hk1
        have := K.inj hk1 hkl
        rw [hk0] at this
        exact ejk (keyV_inj this)
      have : y0 ∈ es'.toList.map (WideElems.rg P kt (Go.plainElem (H := Unit) P e)) := by
        rw [hmem]; unfold ChangeMaps.putKey; rw [ChangeMaps.mem_insert_iff]
        refine .inr (List.mem_filter.2 ⟨?_, ?_⟩)
        · rw [(WideShapes.sorted_perm _).mem_iff]
          exact List.mem_map.2 ⟨x0, hx0, WideElems.rg_of hy0⟩
        · exact (Maps.notKey_iff (K.key hkl)).2 hne
      obtain ⟨x1, hx1, hxe⟩ := List.mem_map.1 this
      refine ⟨x1, hx1, ?_⟩
      have := K.inj (key_of x1 hx1 y0.1 y0.2 hxe) hk1
      rw [this, hk0]
    · obtain rfl : j = k := by simpa using hj
      exact ⟨hk, last⟩

theorem opK_raw3 {P : Program} {o : Oper} {os : List Operand} {t u : Nat} (hk : opK P o.op = some (.raw 3 t u, os)) : ∃ p, o.op = .next p false ∧ os = [p] := by
  replace hk := opK0_of hk (by simp [tagOf])
  cases ho : o.op <;> rw [ho] at hk <;> simp only [opK0] at hk <;> (try (cases hk; done)) <;> (try (repeat' (split at hk <;> (try (cases hk; done)))))
  all_goals first
    | (simp only [Option.map_eq_some_iff, Prod.mk.injEq] at hk; obtain ⟨_, _, h1, _⟩ := hk; cases h1; done)
    | (simp only [eqKind] at hk; repeat' (split at hk <;> (try (cases hk; done))))
    | (cases hk; exact ⟨_, by simp_all, rfl⟩)

theorem opK_raw4 {P : Program} {o : Oper} {os : List Operand} {t u : Nat} (hk : opK P o.op = some (.raw 4 t u, os)) : ∃ p, o.op = .entry p ∧ os = [p] := by
  replace hk := opK0_of hk (by simp [tagOf])
  cases ho : o.op <;> rw [ho] at hk <;> simp only [opK0] at hk <;> (try (cases hk; done)) <;> (try (repeat' (split at hk <;> (try (cases hk; done)))))
  all_goals first
    | (simp only [Option.map_eq_some_iff, Prod.mk.injEq] at hk; obtain ⟨_, _, h1, _⟩ := hk; cases h1; done)
    | (simp only [eqKind] at hk; repeat' (split at hk <;> (try (cases hk; done))))
    | (cases hk; exact ⟨_, rfl, rfl⟩)

section
variable {E : Env} {S0 : Sur} {l0 : List (List V)} {s0 : Bool} {A : Arena}

theorem ok_rmap {σ : FSt} {h : Gh} {w : World} {blk : Nat} {x : Value} (o : Ok σ h w (.rmap blk) x) : x = .map (some blk) := by
  obtain ⟨r, _⟩ := o
  cases r with
  | data r => cases r; rfl

theorem ok_pair {σ : FSt} {h : Gh} {w : World} {a b : Int} {x : Value} (o : Ok σ h w (.agg [.int .i64 a, .int .i64 b]) x) : x = keyV (a, b) := by
  obtain ⟨ws, hw, hlen, hh⟩ := ok_agg o
  rw [hw]
  obtain ⟨ws⟩ := ws
  match ws, hlen with
  | [y, z], _ => rw [rep_int (hh 0 _ y rfl rfl).1, rep_int (hh 1 _ z rfl rfl).1]; rfl

theorem rel_putA {B : Arena} {s : St} {a : Act} {w' : World} {h : Gh} {o : Oper} {os : List Operand} {slots : List (Option Nat)} {ins : Ins} {v : V} {x : Value} (cc : Comp E.P E.nt slots o ins os) (R2 : E.relF (encA B) s.stp s.fs a w' h) (ok : Ok s.fs h w' v x) {d : Nat} (hd : ins.d = some d) : E.rel { s.put (some d) v with log := encA B } (a.put o.dst x) w' h := by
  have R3 := rel_after (eff := { v := v }) cc R2 R2.1 ok rfl
  rw [hd] at R3
  show E.relF (encA B) s.stp (s.put (some d) v).fs _ _ _
  rw [fs_put]
  exact R3

/-- A new object in the arena. -/
theorem InA.fresh (hE : InA E S0 l0 s0) {stp : Bool} {σ : FSt} {a : Act} {w : World} {h : Gh} (R : E.relF (encA A) stp σ a w h) (ob : Obj) (o : Ob) (ho : Ext w h.φ (w.alloc ob) h.φ → ObOk (w.alloc ob) h.φ w.heap.size o) : E.relF (encA ((w.heap.size, o) :: A)) stp σ a (w.alloc ob) h ∧ w.heap.size ∉ A.map (·.1) := by
  have hAr := hE.ar R
  have hn : w.heap.size ∉ A.map (·.1) := fun hm => by
    obtain ⟨p, hp, e⟩ := List.mem_map.1 hm
    have := hAr.lt p hp; omega
  have hsz : (w.alloc ob).heap.size = w.heap.size + 1 := by
    show (w.heap.push ob).size = _
    rw [Array.size_push]
  refine ⟨hE.step R (fun b hb _ => heap_alloc_old w ob hb) (by omega) rfl rfl rfl (fun p hp => ?_) (fun p hp => by simp; exact .inr ⟨p.2, hp⟩) (by simp only [List.map_cons, List.nodup_cons]; exact ⟨hn, hAr.nd⟩) (fun ext p hp => ?_) (fun p hp => ?_), hn⟩
  · rcases List.mem_cons.1 hp with rfl | hp
    · exact .inr (Nat.le_refl _)
    · exact .inl (List.mem_map.2 ⟨p, hp, rfl⟩)
  · rcases List.mem_cons.1 hp with rfl | hp
    · exact ho ext
    · exact (hAr.ok p hp).mono (heap_alloc_old w ob (hAr.lt p hp)) ext
  · rcases List.mem_cons.1 hp with rfl | hp
    · simp only; omega
    · have := hAr.lt p hp; omega

/-- One object is turned. -/
theorem InA.turn (hE : InA E S0 l0 s0) {stp : Bool} {σ : FSt} {a : Act} {w w' : World} {h : Gh} (R : E.relF (encA A) stp σ a w h) {b : Nat} {o1 : Ob} (hA : (b, o1) ∈ A) (o : Ob) (hold : ∀ k, k ≠ b → w'.heap[k]? = w.heap[k]?) (hsz : w'.heap.size = w.heap.size) (hos : w'.os = w.os) (htp : w'.tape = w.tape) (hou : w'.output = w.output)
    (ho : Ext w h.φ w' h.φ → ObOk w' h.φ b o) : E.relF (encA (setA A b o)) stp σ a w' h := by
  have hAr := hE.ar R
  have key : ∀ p ∈ setA A b o, p.1 ∈ A.map (·.1) := fun p hp => by rw [← setA_keys A b o]; exact List.mem_map.2 ⟨p, hp, rfl⟩
  refine hE.step R (fun k hk hn => hold k fun e => hn (e ▸ List.mem_map.2 ⟨_, hA, rfl⟩)) (by omega) hos htp hou (fun p hp => .inl (key p hp)) (fun p hp => by rw [setA_keys]; exact List.mem_map.2 ⟨p, hp, rfl⟩) (by rw [setA_keys]; exact hAr.nd) (fun ext p hp => ?_) (fun p hp => ?_)
  · rcases setA_mem hp with ⟨e, e'⟩ | ⟨hne, hp⟩
    · rw [e, e']; exact ho ext
    · exact (hAr.ok p hp).mono (hold _ hne) ext
  · obtain ⟨q, hq, e⟩ := List.mem_map.1 (key p hp)
    have := hAr.lt q hq
    rw [← e]; omega

theorem relF_drew {σ : FSt} {a : Act} {w : World} {h : Gh} (R : E.relF l0 s0 σ a w h) : E.relF l0 s0 σ a w.drew h := ⟨R.1.drew E.ok, R.2⟩

end

end Go.Am


/-! AM, part Zj: calls that read and write an arena; constants beside it. -/
set_option linter.unusedVariables false
set_option linter.unusedSimpArgs false
namespace Go.Am
open Go.RowKit

/-- Blocks that keep what they hold. -/
def Kons (w : World) (φ : Nat → Nat) (K : List (Nat × List V)) : Prop := ∀ p ∈ K, ObOk w φ p.1 (.cells p.2) ∧ p.1 < w.heap.size

/-- **A CONTRACT OVER AN ARENA**: called with these data while the arena is A, it returns r and leaves B. -/
def CA (P : Program) (f : FuncId) (A : Arena) (K : List (Nat × List V)) (args : List V) (r : V) (B : Arena) : Prop :=
  callable P f = true ∧ ∀ (w : World) (φ : Nat → Nat) (xs : Array Value), (∀ b, w.heap.size ≤ b → φ b = 0) → Gl w φ → Ar w φ (fun _ => False) A → Kons w φ K → (∀ p ∈ K, p.1 ∉ A.map (·.1)) → RepL w φ args xs →
    Calls P f xs w fun e w' => ∃ φ' x, e = .returned x ∧ RepR w' φ' r x ∧ Ar w' φ' (fun _ => False) B ∧ Moved (fun b => b ∈ A.map (·.1)) w φ (fun b => b ∈ B.map (·.1)) w' φ'

/-- The surroundings of a call over an arena. -/
def SQ (w0 : World) (φ0 : Nat → Nat) (A : Arena) : Sur := fun _ _ M w φ => Moved (fun b => b ∈ A.map (·.1)) w0 φ0 M w φ

theorem SQ_ok (w0 : World) (φ0 : Nat → Nat) (A : Arena) (hg : Gl w0 φ0) : (SQ w0 φ0 A).ok := ⟨fun _ _ _ _ _ _ _ _ h k => Moved.trans h k, fun _ _ _ _ _ h => hg.mono h.ext⟩

/-- The same, with the arena that was there at the start. -/
def SQ1 (w0 : World) (φ0 : Nat → Nat) (A : Arena) : Sur := fun log stp M w φ =>
  ∃ B, (log = [] ∧ B = A ∨ log = encA B) ∧ stp = false ∧ Ar w φ M B ∧ SQ w0 φ0 A [] false (fun b => M b ∨ b ∈ B.map (·.1)) w φ

theorem SQ1_ok (w0 : World) (φ0 : Nat → Nat) (A : Arena) (hg : Gl w0 φ0) : (SQ1 w0 φ0 A).ok := by
  refine ⟨?_, fun _ _ _ _ _ ⟨_, _, _, _, h4⟩ => (SQ_ok w0 φ0 A hg).gl _ _ _ _ _ h4⟩
  intro log s M w φ M' w' φ' ⟨B, h1, h2, h3, h4⟩ mv
  have := (SA_ok (SQ_ok w0 φ0 A hg) [] false).move (encA B) s M w φ M' w' φ' ⟨B, rfl, h2, h3, h4⟩ mv
  obtain ⟨B', e1, e2, e3, e4⟩ := this
  obtain rfl := encA_inj e1
  exact ⟨B, h1, e2, e3, e4⟩

/-- Constants are at hand. -/
def InK (E : Env) (K : List (Nat × List V)) : Prop := ∀ log stp M w φ, E.S log stp M w φ → Kons w φ K

theorem encA_ne (A : Arena) : encA A ≠ [] := by simp [encA]

theorem CA_of {P : Program} {f nt : Nat} {ic : IC} {rs : List ResultVar} (hmix : P.follows .mixedOrders = true) (hch : chkF P f = some (nt, ic, rs)) {A B : Arena} {K : List (Nat × List V)} {args : List V} {r : V} (hlen : args.length ≤ nt)
    (hT : ∀ (S : Sur) (ok : S.ok) (S1 : Sur), InA (env0 P hmix nt S ok) S1 [] false → InK (env0 P hmix nt S ok) K → Tr (env0 P hmix nt S ok) none ic (qRet P rs r fun s => s.log = encA B) { entry args with log := encA A }) : CA P f A K args r B := by
  obtain ⟨fn, c, hf, hb, hnt, hc, rfl, hcall⟩ := chkF_ok hch
  refine ⟨hcall, fun w φ xs htop hgl hA hK hKA hrep => ?_⟩
  have okI := SQ_ok w φ A hgl
  have hInK : InK (env0 P hmix nt (SA (SQ w φ A) [] false) (SA_ok okI [] false)) K := by
    rintro log stp M w' φ' ⟨B', _, _, _, hm⟩ p hp
    obtain ⟨h1, h2⟩ := hK p hp
    have := hm.old p.1 h2 (hKA p hp)
    exact ⟨h1.mono this.1 hm.ext, Nat.lt_of_lt_of_le h2 hm.size⟩
  have hT1 := hT (SA (SQ w φ A) [] false) (SA_ok okI [] false) (SQ w φ A) (⟨Sub.refl _, okI⟩) hInK
  have e0 : (fun b => False ∨ b ∈ A.map (·.1)) = fun b => b ∈ A.map (·.1) := by funext b; simp
  have hT2 : Tr (env0 P hmix nt (SQ1 w φ A) (SQ1_ok w φ A hgl)) none ic (qRet P fn.results.toList r fun s => s.log = encA B) (entry args) := by
    intro c hc n a w1 g R Q' hq
    obtain ⟨B0, h1, h2, h3, h4⟩ := R.1.sur
    have hB0 : B0 = A := by
      rcases h1 with ⟨_, h⟩ | h
      · exact h
      · exact absurd h.symm (encA_ne _)
    subst hB0
    have R1 : (env0 P hmix nt (SA (SQ w φ B0) [] false) (SA_ok okI [] false)).rel { entry args with log := encA B0 } a w1 g := by
      refine ⟨{ R.1 with sur := ⟨B0, rfl, rfl, h3, h4⟩ }, fun l hl => ⟨?_, trivial⟩, R.2.2⟩
      intro log x M w φ xs hp
      exact False.elim hp
    refine hT1 c hc n a w1 g R1 Q' fun e t a' w' h' hQ R' hy => ?_
    refine hq e t a' w' h' hQ ?_ hy
    obtain ⟨B', k1, k2, k3, k4⟩ := R'.1.sur
    refine ⟨{ R'.1 with sur := ⟨B', .inr k1, k2, k3, k4⟩ }, fun l hl => ⟨?_, trivial⟩, R'.2.2⟩
    intro log x M w φ xs hp
    exact False.elim hp
  refine (calls_body (E := env0 P hmix nt (SQ1 w φ A) (SQ1_ok w φ A hgl)) (φ := φ) (y := none) hf hb hc hnt hlen hrep.1 (fun i v x h1 h2 => ⟨.data (hrep.2 i v x h1 h2), fun σ h => GrowV.of_data (hrep.2 i v x h1 h2)⟩)
    ⟨A, .inl ⟨rfl, rfl⟩, rfl, hA, by rw [e0]; exact Moved.refl _ htop⟩ htop (fun _ h => ((by cases h))) hT2).mono ?_
  rintro e w' ⟨s', h', x, rfl, hr, ⟨B', k1, k2, k3, k4⟩, ht, hk⟩
  have hB : B' = B := by
    rw [hk] at k1
    rcases k1 with ⟨h, _⟩ | h
    · exact absurd h (encA_ne _)
    · exact (encA_inj h).symm
  subst hB
  exact ⟨h'.φ, x, rfl, hr, ⟨k3.nd, k3.ok, fun _ _ h => h, k3.lt, k3.z⟩, ⟨k4.ext, k4.old, k4.size, k4.os, k4.tape, k4.output, fun b hb => k4.mine b (.inr hb), k4.top⟩⟩

section
variable {E : Env} {S0 : Sur} {l0 : List (List V)} {s0 : Bool} {A : Arena} {stp : Bool} {σ : FSt} {a : Act} {w : World} {h : Gh}

/-- A part of the arena is turned by a call. -/
theorem InA.moved {F A1 B : Arena} (hE : InA E S0 l0 s0) (R : E.relF (encA (F ++ A1)) stp σ a w h) {w' : World} {φ' : Nat → Nat} (m : Moved (fun b => b ∈ A1.map (·.1)) w h.φ (fun b => b ∈ B.map (·.1)) w' φ') (hB : Ar w' φ' (fun _ => False) B) : E.relF (encA (F ++ B)) stp σ a w' { h with φ := φ' } := by
  obtain ⟨M1, hM1, hlt1, ⟨A0, e, hs, hA, hS⟩, back⟩ := hE.sub _ _ _ _ _ R.1.sur R.1.mine
  obtain rfl := encA_inj e
  have hnd := hA.nd
  rw [List.map_append, List.nodup_append] at hnd
  have inA1 : ∀ b, b ∈ A1.map (·.1) → b ∈ (F ++ A1).map (·.1) := fun b hb => by rw [List.map_append]; exact List.mem_append.2 (.inr hb)
  have own : ∀ b, M1 b → w'.heap[b]? = w.heap[b]? ∧ φ' b = h.φ b := fun b hb => m.old b (hlt1 b hb) fun hm => by
    obtain ⟨p, hp, rfl⟩ := List.mem_map.1 (inA1 _ hm)
    exact hA.fr p hp hb
  have oldF : ∀ p ∈ F, p.1 < w.heap.size ∧ p.1 ∉ A1.map (·.1) ∧ (w'.heap[p.1]? = w.heap[p.1]? ∧ φ' p.1 = h.φ p.1) := fun p hp => by
    have h1 := hA.lt p (List.mem_append.2 (.inl hp))
    have h2 : p.1 ∉ A1.map (·.1) := fun h => hnd.2.2 _ (List.mem_map.2 ⟨p, hp, rfl⟩) _ h rfl
    exact ⟨h1, h2, m.old _ h1 h2⟩
  have ar : Ar w' φ' M1 (F ++ B) := by
    refine ⟨?_, fun p hp => ?_, fun p hp hM => ?_, fun p hp => ?_, fun p hp => ?_⟩
    · rw [List.map_append, List.nodup_append]
      refine ⟨hnd.1, hB.nd, fun x hx y hy e => ?_⟩
      subst e
      obtain ⟨p, hp, rfl⟩ := List.mem_map.1 hx
      obtain ⟨h1, h2, _⟩ := oldF p hp
      rcases m.mine _ hy with h3 | h3
      · exact h2 h3
      · omega
    · rcases List.mem_append.1 hp with hp | hp
      · exact (hA.ok p (List.mem_append.2 (.inl hp))).mono (oldF p hp).2.2.1 m.ext
      · exact hB.ok p hp
    · rcases List.mem_append.1 hp with hp | hp
      · exact hA.fr p (List.mem_append.2 (.inl hp)) hM
      · rcases m.mine p.1 (List.mem_map.2 ⟨p, hp, rfl⟩) with h3 | h3
        · obtain ⟨q, hq, e⟩ := List.mem_map.1 (inA1 _ h3)
          exact hA.fr q hq (e ▸ hM)
        · have := hlt1 _ hM; omega
    · rcases List.mem_append.1 hp with hp | hp
      · exact Nat.lt_of_lt_of_le (oldF p hp).1 m.size
      · exact hB.lt p hp
    · rcases List.mem_append.1 hp with hp | hp
      · exact (oldF p hp).2.2.2.trans (hA.z p (List.mem_append.2 (.inl hp)))
      · exact hB.z p hp
  have sa : SA S0 l0 s0 (encA (F ++ B)) stp M1 w' φ' := by
    refine ⟨F ++ B, rfl, hs, ar, hE.ok _ _ _ _ _ _ _ _ hS ⟨m.ext, fun b hb hn => m.old b hb fun hm => hn (.inr (inA1 b hm)), m.size, m.os, m.tape, m.output, fun b hb => ?_, m.top⟩⟩
    rcases hb with hb | hb
    · exact .inl (.inl hb)
    · rw [List.map_append] at hb
      rcases List.mem_append.1 hb with hb | hb
      · exact .inl (.inr (by rw [List.map_append]; exact List.mem_append.2 (.inl hb)))
      · rcases m.mine b hb with h3 | h3
        · exact .inl (.inr (inA1 b h3))
        · exact .inr h3
  have sur' := back (encA (F ++ B)) stp w' φ' sa m.ext own m.size m.top m.os m.tape m.output
  exact ⟨rel_round R.1 m.ext (fun b hb => own b (hM1 b hb)) m.size m.top sur', R.2⟩

/-- A call over an arena. -/
theorem wp_callA (hE : InA E S0 l0 s0) {F A1 B : Arena} {K : List (Nat × List V)} {ro : Option Nat} {n i : Nat} {ops : Array Oper} {slots : List (Option Nat)} {o : Oper} {ins : Ins} (R : E.relF (encA (F ++ A1)) stp σ a w h) {f : FuncId} {vs us : List V} {ids : List Nat} {r : V} {os : List Operand} (cc : Comp E.P E.nt slots o ins os) (hd : toDs σ.b vs = some (us, ids)) (hC : CA E.P f A1 K us r B)
    (hK : ∀ h', E.relF (encA (F ++ A1)) stp ((freeze σ.b ids).foldl (fun τ p => τ.set (.bx p.1) (.b p.2)) σ) a w h' → Kons w h'.φ K) (hKA : ∀ p ∈ K, p.1 ∉ A1.map (·.1)) (xs : Array Value) (hl : vs.length = xs.size)
    (hr : ∀ (i : Nat) v x, vs[i]? = some v → xs[i]? = some x → Rep w h.φ h.β h.y.l v x) (hi : ops[i]? = some o) (hw : Region.wanted o (yielded ops a.tmps) = true) (hrun : (execOp a.eval o).run E.P w = .ok (.enter f xs) w)
    {Q : Exit → Act → World → Prop} {next : Act → World → Prop} (hn : ∀ a' w' h', E.relF (encA (F ++ B)) stp ((σ.eff { v := r, wb := freeze σ.b ids }).put ins.d r) a' w' h' → h'.y = h.y → next a' w') : wpOpIn (wideR ro) n E.P ops Q i next a w := by
  unfold wpOpIn
  simp only [hi, hw, if_true, Oper.wpIn]
  refine ⟨fun _ _ => trivial, ?_⟩
  rw [Oper.semAt_eq _ _ _ (opK_defer cc.op), hrun]
  simp only [Oper.uponIn]
  refine ⟨fun e => by simp [wideR, Fence.wide] at e, ?_⟩
  obtain ⟨h1, R1, ext1, q1, q2, q3, hrep⟩ := args_data R.1 hd
  have R1' : E.relF (encA (F ++ A1)) stp ((freeze σ.b ids).foldl (fun τ p => τ.set (.bx p.1) (.b p.2)) σ) a w h1 := ⟨R1, by rw [q3]; exact R.2⟩
  have hAr := hE.ar R1'
  have hnd := hAr.nd
  rw [List.map_append, List.nodup_append] at hnd
  have arA : Ar w h1.φ (fun _ => False) A1 := ⟨hnd.2.1, fun p hp => hAr.ok p (List.mem_append.2 (.inr hp)), fun _ _ h => h, fun p hp => hAr.lt p (List.mem_append.2 (.inr hp)), fun p hp => hAr.z p (List.mem_append.2 (.inr hp))⟩
  refine (callsIn_wideR (hC.2 w h1.φ xs R1.top (E.ok.gl _ _ _ _ _ R1.sur) arA (hK h1 R1') hKA (hrep xs hl hr))).mono ?_
  rintro e w' ⟨φ', x, rfl, hres, hB, hm⟩
  have R2 := hE.moved R1' hm hB
  have hx : Rep w' φ' h1.β h1.y.l r x ∧ ∀ σ h w0, GrowV σ h w0 r x := by
    cases hres with
    | data hh => exact ⟨.data hh, fun σ h w0 => GrowV.of_data hh⟩
    | tuple vs xs hl hh =>
      refine ⟨.tuple vs xs hl hh, fun σ h w0 j u z hu hz => ?_⟩
      cases j with
      | zero => simp [cells] at hu; subst hu; intro r' sz xs' e; cases e
      | succ j => simp [cells] at hu
  have fin : Ok (σ.eff { v := r, wb := freeze σ.b ids }) { h1 with φ := φ' } w' r x := ⟨hx.1, hx.2 _ _ _⟩
  have R0 : E.relF (encA (F ++ B)) stp σ a w h → True := fun _ => trivial
  refine hn _ _ { h1 with φ := φ' } ⟨?_, ?_⟩ (by simpa using q3)
  · rw [cc.d]
    cases hd : o.dst with
    | none => exact R2.1
    | some d => exact R2.1.put (cc.dst d hd) fin.1 fin.2
  · exact R2.2

theorem Steps.callvA (hE : InA E S0 l0 s0) {K : St → Prop} {Ks : List (Nat × List V)} {s : St} {d : Option Nat} {f : FuncId} {xs : List X} {rest : List Ins} {vs first cap us : List V} {ids : List Nat} {r : V} {F A1 B : Arena} (hx : evXs s.env xs = some (.func (.func f) first cap :: vs)) (hd : toDs s.fs.b (first ++ vs ++ cap) = some (us, ids)) (hl : s.log = encA (F ++ A1))
    (hC : CA E.P f A1 Ks us r B) (hKs : (∀ p ∈ Ks, (p.1, Ob.cells p.2) ∈ F) ∨ InK E Ks ∧ ∀ p ∈ Ks, p.1 ∉ A1.map (·.1))
    (hk : Steps E rest K { (s.eff { v := r, wb := freeze s.fs.b ids }).put d r with log := encA (F ++ B) }) : Steps E (⟨d, .callv, xs, none⟩ :: rest) K s := by
  refine Step1.raw fun slots ops o i ro n a w h hc hs hi R Q next hn => ?_
  obtain ⟨os, cc⟩ := comp_of hc
  have hgo := guard_none cc rfl
  obtain ⟨c, t, e1, e2, rfl⟩ := opK_callv cc.op
  have hO := opds_of R.1 cc.xs (evXs_ok hx)
  have R' : E.relF (encA (F ++ A1)) s.stp s.fs a w h := by rw [← hl]; exact R
  have hAr := hE.ar R'
  have hnd := hAr.nd
  rw [List.map_append, List.nodup_append] at hnd
  cases hO with
  | cons o1 o2 =>
    obtain ⟨f', c', ef, hf, hc', h1, h2⟩ := ok_func o1
    obtain ⟨l1, l2⟩ := opds_args o2
    obtain ⟨m1, m2⟩ := arr3 hf hc' l1 h1 h2 l2
    refine wp_callA hE R' cc hd hC (fun h' R1 => ?_) (fun p hp => ?_) _ m1 m2 hi (wanted_none hgo) (run_callv hC.1 e2 e1 ef) fun a' w' h' R2 hy => hn _ a' w' h' hk ?_ hy
    · rcases hKs with hKs | hKs
      · intro p hp
        have := (hE.ar R1)
        exact ⟨this.ok _ (List.mem_append.2 (.inl (hKs p hp))), this.lt _ (List.mem_append.2 (.inl (hKs p hp)))⟩
      · exact hKs.1 _ _ _ _ _ R1.1.sur
    · rcases hKs with hKs | hKs
      · exact fun h => hnd.2.2 _ (List.mem_map.2 ⟨_, hKs p hp, rfl⟩) _ h rfl
      · exact hKs.2 p hp
    · show E.relF _ _ _ _ _ _
      have e : ({ (s.eff { v := r, wb := freeze s.fs.b ids }).put d r with log := encA (F ++ B) } : St).fs = ((s.fs.eff { v := r, wb := freeze s.fs.b ids }).put d r) := by
        cases d with
        | none => exact fs_eff s _
        | some d => show ((s.eff _).put (some d) r).fs = _; rw [fs_put, fs_eff]; rfl
      have e2 : ({ (s.eff { v := r, wb := freeze s.fs.b ids }).put d r with log := encA (F ++ B) } : St).stp = s.stp := by
        show ((s.eff _).put d r).stp = _
        rw [(put_log _ _ _).2, (eff_log _ _).2]
      rw [e, e2]
      exact R2

end
end Go.Am


/-! AM, part Zk: variables that lie in an arena; loads under guards, and of constants. -/
set_option linter.unusedVariables false
set_option linter.unusedSimpArgs false
namespace Go.Am
open Go.RowKit

theorem opK_alloc {P : Program} {o : Oper} {os : List Operand} {zs : List V} (hk : opK P o.op = some (.alloc zs, os)) : ∃ e i z, o.op = .alloc e ∧ P.info? e = some i ∧ i.zero = some z ∧ ofScs z.cells.toList = some zs ∧ os = [] := by
  replace hk := opK0_of hk (by simp [tagOf])
  cases ho : o.op <;> rw [ho] at hk <;> simp only [opK0] at hk <;> (try (cases hk; done)) <;> (try (repeat' (split at hk <;> (try (cases hk; done)))))
  all_goals first
    | (simp only [Option.map_eq_some_iff, Prod.mk.injEq, K.alloc.injEq] at hk; obtain ⟨m, hm, rfl, rfl⟩ := hk; exact ⟨_, _, _, rfl, by assumption, by assumption, hm, rfl⟩)
    | (simp only [Option.map_eq_some_iff, Prod.mk.injEq] at hk; obtain ⟨_, _, h1, _⟩ := hk; cases h1; done)
    | (simp only [eqKind] at hk; repeat' (split at hk <;> (try (cases hk; done))))

section
variable {E : Env} {S0 : Sur} {l0 : List (List V)} {s0 : Bool} {A : Arena}

/-- A variable of an arena. -/
theorem Steps.aalloc (hE : InA E S0 l0 s0) {K : St → Prop} {s : St} {d : Nat} {zs : List V} {rest : List Ins} (hl : s.log = encA A)
    (hk : ∀ b, b ∉ A.map (·.1) → Steps E rest K { s.put (some d) (.rptr b 0) with log := encA ((b, .cells zs) :: A) }) : Steps E (⟨some d, .alloc zs, [], none⟩ :: rest) K s := by
  refine Step1.raw fun slots ops o i ro n a w h hc hs hi R Q next hn => ?_
  obtain ⟨os, cc⟩ := comp_of hc
  obtain ⟨e, ie, z, ho, hie, hz, hzs, rfl⟩ := opK_alloc cc.op
  have R' : E.relF (encA A) s.stp s.fs a w h := by rw [← hl]; exact R
  have hq : ∀ φ, zs.length = z.cells.toList.length ∧ ∀ (j : Nat) v x, zs[j]? = some v → z.cells.toList[j]? = some x → RepD (w.alloc (.cells z.cells e)) φ v x ∧ scalar v = true := fun φ => ofScs_rep hzs
  obtain ⟨R2, hnm⟩ := hE.fresh R' (.cells z.cells e) (.cells zs) (fun _ => ⟨z.cells, e, heap_alloc_new w _, by have := (hq h.φ).1; simp at this; omega, fun j v x hv hx => (hq h.φ).2 j v x hv (by simpa using hx)⟩)
  refine wpOp_done hi (wanted_none (guard_none cc rfl)) (opK_defer cc.op) (.inl ?_) (hn _ _ _ h (hk _ hnm) (rel_putA cc R2 (.data (.rptr _ _)) rfl) rfl)
  simp [execOp, ho, Instr.alloc, zeroValue, typeInfo, hie, hz, newVar, newRow]

end

section
variable {E : Env} {K : List (Nat × List V)}

end
end Go.Am


/-! AM, part Zl: a scope that no jump leaves. -/
set_option linter.unusedVariables false
set_option linter.unusedSimpArgs false
set_option maxRecDepth 20000
namespace Go

theorem stepR_scope' {P : Program} {b : Frame} {a : Act} {k : List Item} {cs : List Frame} {w : World} {c : Code} : step P (lone (b.atR a (.code (.scope c) :: k)) cs w) = .next (lone (b.atR a (.code c :: .inScope c :: k)) cs w) :=
  step_lone_go (by simp [stepG, stepG.exec, Frame.atR])
theorem stepR_inScope' {P : Program} {b : Frame} {a : Act} {k : List Item} {cs : List Frame} {w : World} {c : Code} : step P (lone (b.atR a (.inScope c :: k)) cs w) = .next (lone (b.atR a k) cs w) :=
  step_lone_go (by simp [stepG, stepG.exec, Frame.atR])

theorem wpIn_scope_straight {F : Fence} {n : Nat} {P : Program} {Q : Exit → Act → World → Prop} {a : Act} {w : World} {c : Code} (h : c.wpIn F n P (Exit.noGoto Q) a w) : (Code.scope c).wpIn F n P Q a w := by
  intro b k cs hro hb hr
  have h0 : (lone (b.atR a (.code (.scope c) :: k)) cs w).fenced P F := fenced_calm hb hr rfl
  obtain ⟨e, a₁, w₁, hq, harr⟩ := h b (.inScope c :: k) cs hro hb hr
  cases e with
  | normal => exact ⟨.normal, a₁, w₁, hq, .head h0 stepR_scope' (StepsIn.trans harr (.one (fenced_calm hb hr rfl) stepR_inScope'))⟩
  | exit id =>
    have hx : exitTo id (.inScope c :: k) = exitTo id k := by simp [exitTo]
    exact ⟨.exit id, a₁, w₁, hq, fun k' hk => .head h0 stepR_scope' (harr.1 k' (by rw [hx]; exact hk)),
      fun hr' hk => let ⟨k₁, h1, h2⟩ := harr.2 hr' (by rw [hx]; exact hk); ⟨k₁, h1, .head h0 stepR_scope' h2⟩⟩
  | goto l => exact hq.elim
  | ret => exact ⟨_, a₁, w₁, hq, .of_steps (.one h0 stepR_scope') harr⟩
  | panic ch => exact ⟨_, a₁, w₁, hq, .of_steps (.one h0 stepR_scope') harr⟩
  | outgrown => exact ⟨_, a₁, w₁, hq, .of_steps (.one h0 stepR_scope') harr⟩
end Go

namespace Go.Am
/-- What does not jump to a label. -/
def qScope (Q : Exit → St → Prop) : Exit → St → Prop
  | .goto _, _ => False
  | e, s => Q e s

theorem Tr.scope {E : Env} {ro : Option Nat} {Q : Exit → St → Prop} {s : St} {x : IC} (h : Tr E ro x (qScope Q) s) : Tr E ro (.scope x) Q s := fun c hc n a w g R Q' hq => by
  obtain ⟨ca, rfl, h1⟩ := compC_inv hc
  refine wpIn_scope_straight (h ca h1 n a w g R _ fun e s' a' w' h' k R' ey => ?_)
  cases e with
  | goto l => exact k.elim
  | _ => exact hq _ s' a' w' h' k R' ey
end Go.Am


/-! AM, part Zm: bytes as a string. -/
set_option linter.unusedVariables false
set_option linter.unusedSimpArgs false
namespace Go.Am
open Go.RowKit

theorem opK_raw5 {P : Program} {o : Oper} {os : List Operand} {t u : Nat} (hk : opK P o.op = some (.raw 5 t u, os)) : ∃ p, o.op = .convert t u p ∧ os = [p] := by
  replace hk := opK0_of hk (by simp [tagOf])
  cases ho : o.op <;> rw [ho] at hk <;> simp only [opK0] at hk <;> (try (cases hk; done)) <;> (try (repeat' (split at hk <;> (try (cases hk; done)))))
  all_goals first
    | (simp only [Option.map_eq_some_iff, Prod.mk.injEq] at hk; obtain ⟨_, _, h1, _⟩ := hk; cases h1; done)
    | (simp only [eqKind] at hk; repeat' (split at hk <;> (try (cases hk; done))))
    | (cases hk; exact ⟨_, rfl, rfl⟩)

def byteV (b : UInt8) : V := .int .u8 (b.toNat : Int)

theorem flat_bytes (bs : List UInt8) : (bs.map byteV).flatMap cells = bs.map byteV := by
  induction bs with
  | nil => rfl
  | cons b bs ih => rw [List.map_cons, List.flatMap_cons, ih]; rfl

section
variable {E : Env}

/-- Bytes as a string. -/
theorem Steps.toStr {s : St} {K : St → Prop} {d t u e r : Nat} {x : X} {bs : List UInt8} {rest : List Ins} (h1 : E.P.underlying t = some (.slice e)) (h2 : E.P.underlying e = some (.int .u8)) (h3 : E.P.underlying u = some .string) (hx : evXs s.env [x] = some [.slice r 1 (bs.map byteV)])
    (hk : Steps E rest K (s.put (some d) (.str ⟨bs.toArray⟩))) : Steps E (⟨some d, .raw 5 t u, [x], none⟩ :: rest) K s := by
  refine Step1.raw fun slots ops o i ro n a w h hc hs hi R Q next hn => ?_
  obtain ⟨os, cc⟩ := comp_of hc
  obtain ⟨p, ho, rfl⟩ := opK_raw5 cc.op
  obtain ⟨v, hv, o1⟩ := (opds_of R.1 cc.xs (evXs_ok hx)).one
  simp only [List.cons.injEq, and_true] at hv
  subst hv
  have rr := ok_slice o1
  have key : (execOp a.eval o).run E.P w = .ok (.value (.string ⟨bs.toArray⟩)) w := by
    generalize hz : a.eval p = z at rr
    have hrun : (convert t u z).run E.P w = .ok (.string ⟨bs.toArray⟩) w := by
      rcases slice_at rr with ⟨⟨ad, cap, rfl⟩, e0⟩ | ⟨blk, off, cap, cv, rfl, hpos, _, hys, ay⟩
      · obtain rfl : bs = [] := by simpa using e0
        cases ad with
        | none => exact Go.Lib.run_convert_nil_bytes w t u e cap h1 h2 h3
        | some ad => exact run_convert_bytes_back (P := E.P) w t u e ad cap [] h1 h2 h3 (fun j hj => by simp at hj)
      · have hb := run_convert_bytes_back (P := E.P) w t u e ⟨blk, off, none⟩ cap bs h1 h2 h3 (fun j hj => by
          have hfl : ((bs.map byteV).flatMap cells)[j]? = some (byteV bs[j]) := by
            have e1 : (bs.map byteV).flatMap cells = bs.map byteV := by
              exact flat_bytes bs
            rw [e1]; simp [hj]
          obtain ⟨_, k2, k3, _⟩ := ay j _ hfl
          rw [Addr.add_lit, k2]
          have : cv j = .int .u8 (bs[j].toNat : Int) := by
            exact rep_int (.data k3 : Rep w h.φ h.β h.y.l _ _)
          rw [this])
        rw [List.length_map]
        exact hb
    simp only [execOp, ho, hz, Sem.run_bind, hrun]; rfl
  refine wpOp_done hi (wanted_none (guard_none cc rfl)) (opK_defer cc.op) (.inl key) (hn _ _ w h hk ?_ rfl)
  show E.relF _ _ _ _ _ _
  rw [(put_log _ _ _).1, (put_log _ _ _).2, fs_put]
  exact rel_after (eff := { v := _ }) cc R R.1 ⟨.data (.str _), GrowV.of_data (w0 := w) (φ0 := h.φ) (.str _)⟩ rfl

end
end Go.Am


/-! AM, part Zn: slices that grow in an arena. -/
set_option linter.unusedVariables false
set_option linter.unusedSimpArgs false
namespace Go.Am
open Go.RowKit

/-- A slice of an arena: it holds these, and there may be room behind them. -/
def OwnS (A : Arena) (sz : Nat) (xs : List V) (v : V) : Prop :=
  (xs = [] ∧ v = .nils) ∨ ∃ (blk cap : Nat) (cs : List V), v = .sref blk 0 xs.length cap ∧ (blk, Ob.cells cs) ∈ A ∧ cs.length = cap * sz ∧ xs.length ≤ cap ∧ cs.take (xs.length * sz) = xs.flatMap cells

/-- A block that is not this slice's. -/
def offS (v : V) (b : Nat) : Prop := ∀ blk off n cap, v = .sref blk off n cap → b ≠ blk

/-- A type's zero value, as data. -/
def zeroOf (P : Program) (e : Nat) : Option (List V) := match P.info? e with
  | some i => match i.zero with
    | some z => ofScs z.cells.toList
    | none => none
  | none => none

section
variable {E : Env} {S0 : Sur} {l0 : List (List V)} {s0 : Bool} {A : Arena}

theorem zero_rep {w : World} {φ : Nat → Nat} {z : Value} {zs : List V} (hz : ofScs z.cells.toList = some zs) (k : Nat) : (List.replicate k zs).flatten.length = (Builtin.zeroCells z.cells k).size ∧ ∀ (j : Nat) v x, (List.replicate k zs).flatten[j]? = some v → (Builtin.zeroCells z.cells k)[j]? = some x → RepD w φ v x ∧ scalar v = true := by
  obtain ⟨h1, h2⟩ := ofScs_rep (w := w) (φ := φ) hz
  have hl : zs.length = z.cells.size := by simpa using h1
  have hsz : (Builtin.zeroCells z.cells k).size = k * z.cells.size := by simp [Builtin.zeroCells]
  have hfl : ∀ k, (List.replicate k zs).flatten.length = k * zs.length := fun k => by simp
  refine ⟨by rw [hfl, hsz, hl], fun j v x hv hx => ?_⟩
  have hj : j < k * zs.length := by rw [← hfl]; exact (List.getElem?_eq_some_iff.1 hv).1
  have hpos : 0 < zs.length := by
    rcases Nat.eq_zero_or_pos zs.length with h | h
    · rw [h] at hj; simp at hj
    · exact h
  have key : ∀ (k j : Nat), j < k * zs.length → (List.replicate k zs).flatten[j]? = zs[j % zs.length]? := by
    intro k
    induction k with
    | zero => intro j hj; simp at hj
    | succ k ih =>
      intro j hj
      rw [List.replicate_succ, List.flatten_cons, List.getElem?_append]
      split
      · rename_i h; rw [Nat.mod_eq_of_lt h]
      · rename_i h
        rw [ih (j - zs.length) (by rw [Nat.add_mul] at hj; omega)]
        congr 1
        rw [← Nat.mod_eq_sub_mod (by omega)]
  rw [key k j hj] at hv
  have hx' : x = z.cells[j % z.cells.size]! := by
    unfold Builtin.zeroCells at hx
    rw [Array.getElem?_map] at hx
    rw [← hl] at hx ⊢
    simp [hj] at hx
    exact hx.symm
  have hm : j % zs.length < z.cells.size := by rw [← hl]; exact Nat.mod_lt _ hpos
  refine h2 (j % zs.length) v x hv ?_
  rw [hx', ← hl]
  simp [hm]

theorem opK_app {P : Program} {o : Oper} {os : List Operand} {sz bytes e : Nat} (hk : opK P o.op = some (.append sz bytes e, os)) : ∃ c p q t ie z, o.op = .call c ∧ c.callee = .builtin .append ∧ c.args.toList = [p, q] ∧ c.argTypes.toList = [t, t] ∧ P.underlying t = some (.slice e) ∧ P.info? e = some ie ∧ ie.zero = some z ∧ z.cells.size = ie.size ∧ ie.size = sz ∧ ie.bytes = bytes ∧ os = [p, q] := opK_append hk

/-- What is appended, as cells. -/
theorem app_news {σ : FSt} {h : Gh} {w : World} {sz : Nat} {ys : List V} {y : Value} {r : Nat} (hv : Ok σ h w (.slice r sz ys) y) (hne : ys ≠ []) :
    ∃ (a : Addr) (cap : Nat) (news : List Value), y = .slice (some a) ys.length cap ∧ news.length = ys.length * sz ∧ (ys.flatMap cells).length = ys.length * sz ∧ (∀ j u, news[j]? = some u → w.cell? (a.add j) = some u) ∧ (∀ u ∈ news, u.oneCell' = true) ∧ ∀ (j : Nat) v x, (ys.flatMap cells)[j]? = some v → news[j]? = some x → RepD w h.φ v x ∧ scalar v = true := by
  rcases slice_at (ok_slice hv) with ⟨_, e0⟩ | ⟨yb, yo, ycap, cvy, rfl, _, _, hys, ay⟩
  · exact absurd e0 hne
  have ylen := flat_len hys
  have nget : ∀ j, j < ys.length * sz → ((List.range (ys.length * sz)).map cvy)[j]? = some (cvy j) := fun j hj => by simp [hj]
  refine ⟨_, _, (List.range (ys.length * sz)).map cvy, rfl, by simp, ylen, fun j u hu => ?_, fun u hu => ?_, fun j v x hv hx => ?_⟩
  · have hj : j < ys.length * sz := by have := (List.getElem?_eq_some_iff.1 hu).1; simpa using this
    rw [nget j hj] at hu
    cases hu
    rw [Addr.add_lit]
    exact (ay j _ (List.getElem?_eq_getElem (by omega))).2.1
  · obtain ⟨j, hj⟩ := List.getElem?_of_mem hu
    have hlt : j < ys.length * sz := by have := (List.getElem?_eq_some_iff.1 hj).1; simpa using this
    rw [nget j hlt] at hj
    cases hj
    obtain ⟨_, _, k3, k4⟩ := ay j _ (List.getElem?_eq_getElem (by omega))
    exact (scalar_value (Rep.data (β := h.β) (y := h.y.l) k3) k4).1
  · have hlt : j < ys.length * sz := by have := (List.getElem?_eq_some_iff.1 hx).1; simpa using this
    rw [nget j hlt] at hx
    cases hx
    exact ⟨(ay j v hv).2.2.1, (ay j v hv).2.2.2⟩

/-- An append to nothing. -/
theorem Steps.appendA0 (hE : InA E S0 l0 s0) {K : St → Prop} {s : St} {d : Nat} {x y : X} {sz bytes e r : Nat} {ys zs : List V} {rest : List Ins} (hx : evXs s.env [x, y] = some [.nils, .slice r sz ys]) (hl : s.log = encA A) (hz0 : zeroOf E.P e = some zs) (h0 : 0 < sz) (hb : ys.length * bytes ≤ 2 ^ 47) (hm : ys.length ≤ 2 ^ 47) (hne : ys ≠ [])
    (hk : ∀ blk cap A', OwnS A' sz ys (.sref blk 0 ys.length cap) → (∀ p ∈ A, p ∈ A' ∧ p.1 ≠ blk) → Steps E rest K { s.put (some d) (.sref blk 0 ys.length cap) with log := encA A' }) : Steps E (⟨some d, .append sz bytes e, [x, y], none⟩ :: rest) K s := by
  refine Step1.raw fun slots ops o i ro n a w h hc hs hi R Q next hn => ?_
  obtain ⟨os, cc⟩ := comp_of hc
  obtain ⟨c, p, q, t, ie, z, ho, hcal, hca, hct, ht, hie, hz, hzs, rfl, rfl, rfl⟩ := opK_app cc.op
  obtain ⟨u, v, huv, hu, hv'⟩ := (opds_of R.1 cc.xs (evXs_ok hx)).two
  cases huv
  have hzs0 : ofScs z.cells.toList = some zs := by unfold zeroOf at hz0; rw [hie] at hz0; simp only [hz] at hz0; exact hz0
  obtain ⟨ad, cp, news, ey, nl, fl, ncell, none1, nrep⟩ := app_news hv' hne
  have hpos : 0 < ys.length := List.length_pos_iff.2 hne
  have ea : c.args = #[p, q] := by rw [← Array.toList_inj]; simpa using hca
  have et : c.argTypes = #[t, t] := by rw [← Array.toList_inj]; simpa using hct
  have hrun := run_append_nil (P := E.P) w t o.type e ie z ht hie hz ad ys.length cp news nl ncell hpos (by omega) (by omega)
  have hge := grownCap_ge w ys.length 0 e
  obtain ⟨g, hg⟩ : ∃ g, grownCap w ys.length 0 e = g := ⟨_, rfl⟩
  rw [hg] at hrun hge
  have hex : (execOp a.eval o).run E.P w = .ok (.value (.slice (some ⟨w.heap.size, 0, none⟩) ys.length g)) (w.drew.alloc (.cells (news.toArray ++ Builtin.zeroCells z.cells (g - ys.length)) e)) := by
    simp only [execOp, ho, resolve, hcal, ea, et, Sem.run_bind, Sem.run_pure, Result.andThen_ok, invoke, builtin]
    simp [ok_nils hu, ey, hrun]
  have R' : E.relF (encA A) s.stp s.fs a w h := by rw [← hl]; exact R
  have R1 := relF_drew R'
  have zr := zero_rep (w := w.drew.alloc (.cells (news.toArray ++ Builtin.zeroCells z.cells (g - ys.length)) e)) (φ := h.φ) hzs0 (g - ys.length)
  have hcl : (ys.flatMap cells ++ (List.replicate (g - ys.length) zs).flatten).length = g * ie.size := by
    have h1 : zs.length = ie.size := by have := (ofScs_rep (w := w) (φ := h.φ) hzs0).1; simp at this; omega
    rw [List.length_append, fl]
    simp only [List.length_flatten, List.map_replicate, List.sum_replicate_nat, h1]
    rw [← Nat.add_mul]; congr 1; omega
  obtain ⟨R2, hnm⟩ := hE.fresh R1 (.cells (news.toArray ++ Builtin.zeroCells z.cells (g - ys.length)) e) (.cells (ys.flatMap cells ++ (List.replicate (g - ys.length) zs).flatten)) (fun ext => ⟨_, e, heap_alloc_new w.drew _, by rw [Array.size_append, List.length_append, zr.1]; simp [nl, fl], fun j v x hv hx => by
    rw [List.getElem?_append] at hv
    rw [Array.getElem?_append] at hx
    simp only [List.size_toArray, nl] at hx
    rw [fl] at hv
    by_cases hj : j < ys.length * ie.size
    · rw [if_pos hj] at hv hx
      simp only [List.getElem?_toArray] at hx
      have := nrep j v x hv hx
      exact ⟨this.1.mono (Ext.trans (fun _ _ ho => ⟨ho, rfl, rfl⟩) ext), this.2⟩
    · rw [if_neg hj] at hv hx
      exact zr.2 _ v x hv hx⟩)
  refine wpOp_done hi (wanted_none (guard_none cc rfl)) (opK_defer cc.op) (.inl hex) (hn _ _ _ h (hk w.heap.size g _ (.inr ⟨w.heap.size, g, _, rfl, by simp, hcl, hge, ?_⟩) fun p hp => ⟨List.mem_cons_of_mem _ hp, fun e => hnm (List.mem_map.2 ⟨p, hp, e⟩)⟩) (rel_putA cc R2 (.data (.sref _ _ _ _)) rfl) rfl)
  rw [← fl, List.take_left]

/-- An append to a slice of the arena. -/
theorem Steps.appendA (hE : InA E S0 l0 s0) {K : St → Prop} {s : St} {d : Nat} {x y : X} {sz bytes e r blk cap : Nat} {xs ys zs : List V} {rest : List Ins} (hx : evXs s.env [x, y] = some [.sref blk 0 xs.length cap, .slice r sz ys]) (hl : s.log = encA A) (hO : OwnS A sz xs (.sref blk 0 xs.length cap)) (hz0 : zeroOf E.P e = some zs) (h0 : 0 < sz) (hb : (xs.length + ys.length) * bytes ≤ 2 ^ 47) (hm : xs.length + ys.length ≤ 2 ^ 47) (hne : ys ≠ [])
    (hk : ∀ blk' cap' A', OwnS A' sz (xs ++ ys) (.sref blk' 0 (xs ++ ys).length cap') → (∀ p ∈ A, p.1 ≠ blk → p ∈ A' ∧ p.1 ≠ blk') → Steps E rest K { s.put (some d) (.sref blk' 0 (xs ++ ys).length cap') with log := encA A' }) : Steps E (⟨some d, .append sz bytes e, [x, y], none⟩ :: rest) K s := by
  refine Step1.raw fun slots ops o i ro n a w h hc hs hi R Q next hn => ?_
  obtain ⟨os, cc⟩ := comp_of hc
  obtain ⟨c, p, q, t, ie, z, ho, hcal, hca, hct, ht, hie, hz, hzs, rfl, rfl, rfl⟩ := opK_app cc.op
  obtain ⟨u, v, huv, hu, hv'⟩ := (opds_of R.1 cc.xs (evXs_ok hx)).two
  cases huv
  obtain ⟨cs, hA, hcs, hcap, htk⟩ : ∃ cs, (blk, Ob.cells cs) ∈ A ∧ cs.length = cap * ie.size ∧ xs.length ≤ cap ∧ cs.take (xs.length * ie.size) = xs.flatMap cells := by
    rcases hO with ⟨_, h⟩ | ⟨b', c', cs, e1, e2, e3, e4, e5⟩
    · cases h
    · cases e1; exact ⟨cs, e2, e3, e4, e5⟩
  have hzs0 : ofScs z.cells.toList = some zs := by unfold zeroOf at hz0; rw [hie] at hz0; simp only [hz] at hz0; exact hz0
  obtain ⟨ad, cp, news, ey, nl, fl, ncell, none1, nrep⟩ := app_news hv' hne
  have hpos : 0 < ys.length := List.length_pos_iff.2 hne
  have ea : c.args = #[p, q] := by rw [← Array.toList_inj]; simpa using hca
  have et : c.argTypes = #[t, t] := by rw [← Array.toList_inj]; simpa using hct
  have ep := ok_sref hu
  have R' : E.relF (encA A) s.stp s.fs a w h := by rw [← hl]; exact R
  obtain ⟨vs, vt, w1, w2, w3⟩ := (hE.ar R').ok _ hA
  have hxl : xs.length * ie.size ≤ cs.length := by rw [hcs]; exact Nat.mul_le_mul_right _ hcap
  have fxl : (xs.flatMap cells).length = xs.length * ie.size := by rw [← htk, List.length_take]; omega
  have hfl2 : ((xs ++ ys).flatMap cells).length = (xs ++ ys).length * ie.size := by rw [List.flatMap_append, List.length_append, fxl, fl, List.length_append, Nat.add_mul]
  by_cases hroom : xs.length + ys.length ≤ cap
  · -- there is room
    have hin : 0 + xs.length * ie.size + news.length ≤ vs.size := by
      refine Nat.le_trans ?_ w2
      rw [hcs, nl, Nat.zero_add, ← Nat.add_mul]; exact Nat.mul_le_mul_right _ hroom
    have hst := run_storeCells_at E.P blk (0 + xs.length * ie.size) vt news 0 vs w w1 (by simpa using hin) none1
    simp only [Nat.add_zero] at hst
    have hfc := run_firstCells_some (P := E.P) w ie.size ys.length ad ys.length cp news nl ncell
    have hrun : (Builtin.append_ #[t, t] o.type #[.slice (some ⟨blk, 0, none⟩) xs.length cap, .slice (some ad) ys.length cp]).run E.P w = .ok (.slice (some ⟨blk, 0, none⟩) (xs.length + ys.length) cap) (w.setRow blk (vs.toList.take (0 + xs.length * ie.size) ++ news ++ vs.toList.drop (0 + xs.length * ie.size + news.length)).toArray) := by
      simp [Builtin.append_, run_underlying ht, sizeOf, typeInfo, hie, Builtin.lenOf, hroom, hfc, Addr.add_lit]
      simp only [Nat.zero_add] at hst
      rw [hst]
      simp
    have hex : (execOp a.eval o).run E.P w = .ok (.value (.slice (some ⟨blk, 0, none⟩) (xs.length + ys.length) cap)) (w.setRow blk (vs.toList.take (0 + xs.length * ie.size) ++ news ++ vs.toList.drop (0 + xs.length * ie.size + news.length)).toArray) := by
      simp only [execOp, ho, resolve, hcal, ea, et, Sem.run_bind, Sem.run_pure, Result.andThen_ok, invoke, builtin]
      simp only [List.map_toArray, List.map_cons, List.map_nil, ep, ey, hrun]
      rfl
    have hsl : (vs.toList.take (0 + xs.length * ie.size) ++ news ++ vs.toList.drop (0 + xs.length * ie.size + news.length)).length = vs.size := by simp; omega
    have R2 := hE.turn R' hA (.cells (cs.take (xs.length * ie.size) ++ ys.flatMap cells ++ cs.drop (xs.length * ie.size + ys.length * ie.size))) (w' := w.setRow blk (vs.toList.take (0 + xs.length * ie.size) ++ news ++ vs.toList.drop (0 + xs.length * ie.size + news.length)).toArray)
      (fun k hk => setRow_other w blk k _ hk) (by simp) rfl rfl rfl (fun ext => ⟨_, vt, setRow_heap w blk vs _ vt (0, 0) w1, by simp [fl, nl]; omega, fun j v x hv hx => by
        rw [List.getElem?_toArray] at hx
        rw [List.append_assoc, List.getElem?_append] at hv hx
        have l1 : (cs.take (xs.length * ie.size)).length = xs.length * ie.size := by rw [List.length_take]; omega
        have l2 : (vs.toList.take (0 + xs.length * ie.size)).length = xs.length * ie.size := by rw [List.length_take]; simp; omega
        rw [l1] at hv
        rw [l2] at hx
        by_cases hj : j < xs.length * ie.size
        · rw [if_pos hj, List.getElem?_take_of_lt hj] at hv
          rw [if_pos hj, List.getElem?_take_of_lt (by omega)] at hx
          have := w3 j v x hv (by simpa using hx)
          exact ⟨this.1.mono ext, this.2⟩
        · rw [if_neg hj, List.getElem?_append] at hv hx
          rw [fl] at hv
          rw [nl] at hx
          by_cases hj2 : j - xs.length * ie.size < ys.length * ie.size
          · rw [if_pos hj2] at hv hx
            have := nrep _ v x hv hx
            exact ⟨this.1.mono ext, this.2⟩
          · rw [if_neg hj2, List.getElem?_drop] at hv hx
            have := w3 _ v x hv (by rw [← hx]; simp [nl])
            exact ⟨this.1.mono ext, this.2⟩⟩)
    have own : OwnS (setA A blk (.cells (cs.take (xs.length * ie.size) ++ ys.flatMap cells ++ cs.drop (xs.length * ie.size + ys.length * ie.size)))) ie.size (xs ++ ys) (.sref blk 0 (xs ++ ys).length cap) := by
      refine .inr ⟨blk, cap, cs.take (xs.length * ie.size) ++ ys.flatMap cells ++ cs.drop (xs.length * ie.size + ys.length * ie.size), rfl, ?_, ?_, ?_, ?_⟩
      · exact List.mem_map.2 ⟨_, hA, by simp⟩
      · have : (xs.length + ys.length) * ie.size ≤ cap * ie.size := Nat.mul_le_mul_right _ hroom
        rw [Nat.add_mul] at this
        simp [fl]; omega
      · simpa using hroom
      · rw [List.length_append, Nat.add_mul, List.flatMap_append, ← htk]
        rw [List.take_append_of_le_length (by rw [List.length_append, List.length_take, fl]; omega), List.take_of_length_le (by rw [List.length_append, List.length_take, fl]; omega)]
    refine wpOp_done hi (wanted_none (guard_none cc rfl)) (opK_defer cc.op) (.inl hex) (hn _ _ _ h (hk blk cap _ own fun p hp hne => ⟨List.mem_map.2 ⟨p, hp, by rw [if_neg hne]⟩, hne⟩) (rel_putA cc R2 (by rw [List.length_append]; exact ⟨.data (.sref _ _ _ _), GrowV.of_data (w0 := w) (φ0 := h.φ) (.sref _ _ _ _)⟩) rfl) rfl)
  · -- it grows
    obtain ⟨olds, holds⟩ : ∃ olds, olds = vs.toList.take (xs.length * ie.size) := ⟨_, rfl⟩
    have ol : olds.length = xs.length * ie.size := by rw [holds, List.length_take]; simp; omega
    have ocell : ∀ j v, olds[j]? = some v → w.cell? ((⟨blk, 0, none⟩ : Addr).add j) = some v := fun j v hv => by
      have hj : j < xs.length * ie.size := by have := (List.getElem?_eq_some_iff.1 hv).1; omega
      rw [Addr.add_lit, Nat.zero_add, cell_of_row w blk j vs vt (0, 0) w1]
      rw [holds, List.getElem?_take_of_lt hj] at hv
      simpa using hv
    have hrun := run_append_grow (P := E.P) w t o.type e ie z ht hie hz ⟨blk, 0, none⟩ xs.length cap olds ol ocell ad ys.length cp news nl ncell (by omega) (by omega) (growslice_fits (by omega) (by omega))
    have hge := grownCap_ge w (xs.length + ys.length) cap e
    obtain ⟨g, hg⟩ : ∃ g, grownCap w (xs.length + ys.length) cap e = g := ⟨_, rfl⟩
    rw [hg] at hrun hge
    have hex : (execOp a.eval o).run E.P w = .ok (.value (.slice (some ⟨w.heap.size, 0, none⟩) (xs.length + ys.length) g)) (w.drew.alloc (.cells (olds.toArray ++ news.toArray ++ Builtin.zeroCells z.cells (g - (xs.length + ys.length))) e)) := by
      simp only [execOp, ho, resolve, hcal, ea, et, Sem.run_bind, Sem.run_pure, Result.andThen_ok, invoke, builtin]
      simp only [List.map_toArray, List.map_cons, List.map_nil, ep, ey, hrun]
      rfl
    have R1 := relF_drew R'
    have zr := zero_rep (w := w.drew.alloc (.cells (olds.toArray ++ news.toArray ++ Builtin.zeroCells z.cells (g - (xs.length + ys.length))) e)) (φ := h.φ) hzs0 (g - (xs.length + ys.length))
    have zl : zs.length = ie.size := by have := (ofScs_rep (w := w) (φ := h.φ) hzs0).1; simp at this; omega
    have hcl : ((xs ++ ys).flatMap cells ++ (List.replicate (g - (xs.length + ys.length)) zs).flatten).length = g * ie.size := by
      rw [List.length_append, hfl2]
      simp only [List.length_flatten, List.map_replicate, List.sum_replicate_nat, zl, List.length_append]
      rw [← Nat.add_mul]; congr 1; omega
    obtain ⟨R2, hnm⟩ := hE.fresh R1 (.cells (olds.toArray ++ news.toArray ++ Builtin.zeroCells z.cells (g - (xs.length + ys.length))) e) (.cells ((xs ++ ys).flatMap cells ++ (List.replicate (g - (xs.length + ys.length)) zs).flatten)) (fun ext => ⟨_, e, heap_alloc_new w.drew _, by rw [Array.size_append, List.length_append, zr.1, hfl2]; simp [nl, ol, Nat.add_mul], fun j v x hv hx => by
      have ext' : Ext w h.φ (w.drew.alloc (.cells (olds.toArray ++ news.toArray ++ Builtin.zeroCells z.cells (g - (xs.length + ys.length))) e)) h.φ := Ext.trans (fun _ _ ho => ⟨ho, rfl, rfl⟩) ext
      rw [List.flatMap_append, List.append_assoc, List.getElem?_append, fxl] at hv
      rw [Array.append_assoc, Array.getElem?_append] at hx
      simp only [List.size_toArray, ol] at hx
      by_cases hj : j < xs.length * ie.size
      · rw [if_pos hj] at hv hx
        simp only [List.getElem?_toArray] at hx
        rw [← htk, List.getElem?_take_of_lt hj] at hv
        rw [holds, List.getElem?_take_of_lt hj] at hx
        have := w3 j v x hv (by simpa using hx)
        exact ⟨this.1.mono ext', this.2⟩
      · rw [if_neg hj, List.getElem?_append, fl] at hv
        rw [if_neg hj, Array.getElem?_append] at hx
        simp only [List.size_toArray, nl] at hx
        by_cases hj2 : j - xs.length * ie.size < ys.length * ie.size
        · rw [if_pos hj2] at hv hx
          simp only [List.getElem?_toArray] at hx
          have := nrep _ v x hv hx
          exact ⟨this.1.mono ext', this.2⟩
        · rw [if_neg hj2] at hv hx
          exact zr.2 _ v x hv hx⟩)
    refine wpOp_done hi (wanted_none (guard_none cc rfl)) (opK_defer cc.op) (.inl hex) (hn _ _ _ h (hk w.heap.size g _ (.inr ⟨w.heap.size, g, _, rfl, by simp, hcl, by simpa using hge, ?_⟩) fun p hp _ => ⟨List.mem_cons_of_mem _ hp, fun e => hnm (List.mem_map.2 ⟨p, hp, e⟩)⟩) (rel_putA cc R2 (by rw [List.length_append]; exact ⟨.data (.sref _ _ _ _), GrowV.of_data (w0 := w) (φ0 := h.φ) (.sref _ _ _ _)⟩) rfl) rfl)
    rw [← hfl2, List.take_left]

end
end Go.Am

