/-
  Parts of the proof: the abstract machine, the compiled code, contracts of the functions, plain laws (spelled short by a program).
-/
import Derived.Test.YtabedohjkillfaaGreatDoorX3
import Derived.Test.YtabedohjkillfaaGreatDoorProg
set_option maxRecDepth 100000
set_option maxHeartbeats 4000000
set_option linter.unusedVariables false
set_option linter.unusedSimpArgs false
namespace Go.Proofs.YtabedohjkillfaaGreatDoor
section
open Go.Am
abbrev Re:Nat:=73
def A0t:CF 73:=⟨_,by cbv⟩
abbrev Nu:Nat:=74
def Nl:CF 74:=⟨_,by cbv⟩
abbrev B3:Nat:=75
def Oe:CF 75:=⟨_,by cbv⟩
abbrev Cq:Nat:=76
def Nk:CF 76:=⟨_,by cbv⟩
abbrev T8:Nat:=77
def S7:CF 77:=⟨_,by cbv⟩
abbrev Aic:Nat:=78
def Aes:CF 78:=⟨_,by cbv⟩
abbrev A8p:Nat:=79
def A6u:CF 79:=⟨_,by cbv⟩
abbrev G4:Nat:=80
abbrev Rj:Nat:=81
abbrev Eu:Nat:=82
def Et:CF 82:=⟨_,by cbv⟩
abbrev P2:Nat:=83
def Oa:CF 83:=⟨_,by cbv⟩
abbrev Nt:Nat:=84
def Nj:CF 84:=⟨_,by cbv⟩
abbrev A8c:Nat:=85
def A6e:CF 85:=⟨_,by cbv⟩
abbrev Jh:Nat:=86
def Pn:CF 86:=⟨_,by cbv⟩
abbrev Rb:Nat:=87
def Py:CF 87:=⟨_,by cbv⟩
abbrev Ra:Nat:=88
def Px:CF 88:=⟨_,by cbv⟩
abbrev A8q:Nat:=89
def A6v:CF 89:=⟨_,by cbv⟩
abbrev Dc:Nat:=90
def Ek:CF 90:=⟨_,by cbv⟩
abbrev Pb:Nat:=91
def Om:CF 91:=⟨_,by cbv⟩
abbrev A5s:Nat:=92
def A3j:CF 92:=⟨_,by cbv⟩
abbrev Kf:Nat:=93
def K5:CF 93:=⟨_,by cbv⟩
abbrev A2g:Nat:=94
def A0y:CF 94:=⟨_,by cbv⟩
abbrev Tv:Nat:=95
def A3k:CF 95:=⟨_,by cbv⟩
abbrev R4:Nat:=96
def Pp:CF 96:=⟨_,by cbv⟩
abbrev Ce:Nat:=97
def A0m:CF 97:=⟨_,by cbv⟩
abbrev Jw:Nat:=98
def Jo:CF 98:=⟨_,by cbv⟩
abbrev A8j:Nat:=99
def A6m:CF 99:=⟨_,by cbv⟩
abbrev A5c:Nat:=100
def A35:CF 100:=⟨_,by cbv⟩
abbrev A5d:Nat:=101
def A36:CF 101:=⟨_,by cbv⟩
abbrev D0:Nat:=102
def Rt:CF 102:=⟨_,by cbv⟩
abbrev Fk:Nat:=103
def Abb:CF 103:=⟨_,by cbv⟩
abbrev A2f:Nat:=104
def A0x:CF 104:=⟨_,by cbv⟩
abbrev Aib:Nat:=105
def Aer:CF 105:=⟨_,by cbv⟩
abbrev Adm:Nat:=106
def Ab6:CF 106:=⟨_,by cbv⟩
abbrev D8:Nat:=107
def D7:CF 107:=⟨_,by cbv⟩
abbrev R7:Nat:=108
def A0n:CF 108:=⟨_,by cbv⟩
abbrev A5r:Nat:=109
def A3i:CF 109:=⟨_,by cbv⟩
abbrev Lh:Nat:=110
def A0z:CF 110:=⟨_,by cbv⟩
abbrev Fj:Nat:=113
def Fe:CF 113:=⟨_,by cbv⟩
abbrev Hx:Nat:=114
def Nm:CF 114:=⟨_,by cbv⟩
abbrev Fm:Nat:=115
def Fl:CF 115:=⟨_,by cbv⟩
abbrev Pa:Nat:=116
def Vm:CF 116:=⟨_,by cbv⟩
abbrev O4:Nat:=117
def Xx:CF 117:=⟨_,by cbv⟩
abbrev T7:Nat:=118
def S5:CF 118:=⟨_,by cbv⟩
abbrev O3:Nat:=119
def Xw:CF 119:=⟨_,by cbv⟩
abbrev Fx:Nat:=120
def Xo:CF 120:=⟨_,by cbv⟩
abbrev Adq:Nat:=121
def Aba:CF 121:=⟨_,by cbv⟩
abbrev Sy:Nat:=122
def Ru:CF 122:=⟨_,by cbv⟩
abbrev Yg:Nat:=123
def Xn:CF 123:=⟨_,by cbv⟩
abbrev A2a:Nat:=124
def Kl:CF 124:=⟨_,by cbv⟩
abbrev Xb:Nat:=125
def Vj:CF 125:=⟨(15,(.seq (.reg [.n 1 .box [.t 0],.n 2 (.alloc [.nilp,.nilm]) [],.n 3 .mov [.i 0]])
  (.seq (.reg [.n 7 (.load 17 true) [.t 1],.n 8 (.call 154) [.t 7],.n 6 .mov [.t 8],.n 9 (.extract 0) [.t 6],.n 10 (.extract 1) [.t 6],.n 4 .mov [.t 9],.n 5 .mov [.t 10]])
  (.seq (.reg [.n 11 .mov [.t 4],.n 12 (.raw 13 226 0) [],.n 13 (.build [.nilp,.nilm] [(0,1),(1,1)]) [.t 11,.t 12],.n 14 .mov [.t 5],.s (.store 2) [.t 2,.t 13],.n 3 .mov [.t 14]])
  .ret))),[.cell 2 228,.tmp 3]),by kernel_rfl⟩
abbrev P7:Nat:=126
def Oi:CF 126:=⟨_,by cbv⟩
abbrev Nv:Nat:=127
def Nn:CF 127:=⟨_,by cbv⟩
abbrev J3:Nat:=128
def Ij:CF 128:=⟨_,by cbv⟩
abbrev J4:Nat:=129
def M7:CF 129:=⟨_,by cbv⟩
abbrev D9:Nat:=130
def J8:CF 130:=⟨(67,(.seq (.reg [.n 3 .box [.t 0],.n 4 .box [.t 1],.n 5 .box [.t 2],.n 6 (.alloc [(.int .i64 0),(.int .i64 0)]) [],.n 7 .mov [.c (.bool false)]])
  (.seq (.reg [.n 16 (.faddr 0) [.t 3],.n 17 (.load 1 false) [.t 16],.n 18 (.load 2 true) [.t 5],.n 19 (.call 159) [.t 17,.t 18],.n 15 .mov [.t 19],.n 20 (.extract 0) [.t 15],.n 21 (.extract 1) [.t 15],.n 8 (.alloc [(.int .i64 0),(.int .i64 0),(.int .i64 0)]) [],.n 9 (.alloc [(.int .i64 0),(.int .i64 0),(.int .i64 0)]) [],.s (.store 3) [.t 8,.t 20],.s (.store 3) [.t 9,.t 21]])
  (.seq (.reg [.n 22 (.faddr 0) [.t 4],.n 23 (.load 3 true) [.t 22],.n 24 (.load 3 true) [.t 8],.n 25 (.build [(.int .i64 0),(.int .i64 0),(.int .i64 0),(.int .i64 0),(.int .i64 0),(.int .i64 0)] [(0,3),(3,3)]) [.t 23,.t 24],.n 10 (.alloc [(.int .i64 0),(.int .i64 0),(.int .i64 0),(.int .i64 0),(.int .i64 0),(.int .i64 0)]) [],.s (.store 6) [.t 10,.t 25]])
  (.seq (.reg [.n 27 (.faddr 1) [.t 3],.n 28 (.load 1 false) [.t 27],.n 29 (.load 6 true) [.t 10],.n 30 (.raw 25 226 0) [.t 28,.t 29],.n 26 .mov [.t 30],.n 31 (.extract 0) [.t 26],.n 32 (.extract 1) [.t 26],.n 11 .mov [.t 31],.n 12 .mov [.t 32]])
  (.seq (.seq (.reg [.n 33 .mov [.t 12],.n 34 (.un .not) [.t 33]])
  (.cond (.t 34) (.seq (.reg [.n 11 .mov [.i (-1)]])
  (.seq (.seq (.reg [.n 35 (.faddr 0) [.t 4],.n 36 (.load 3 true) [.t 35],.n 37 (.call 160) [.t 36]])
  (.cond (.t 37) (.seq (.reg [.n 39 (.faddr 0) [.t 3],.n 40 (.load 1 false) [.t 39],.n 41 (.faddr 0) [.t 4],.n 42 (.load 3 true) [.t 41],.n 43 (.load 3 true) [.t 8],.n 44 (.call 161) [.t 40,.t 42,.t 43],.n 38 .mov [.t 44],.n 45 (.extract 0) [.t 38],.n 46 (.extract 1) [.t 38],.n 13 (.alloc [.nils,(.int .i64 0)]) [],.s (.store 2) [.t 13,.t 45],.n 14 .mov [.t 46]])
  (.seq (.reg [.n 47 .mov [.t 14]])
  (.cond (.t 47) (.reg [.n 48 (.faddr 1) [.t 13],.n 49 (.load 1 false) [.t 48],.n 11 .mov [.t 49]]) .skip))) .skip))
  (.reg [.n 50 (.faddr 1) [.t 3],.n 51 (.load 1 false) [.t 50],.n 52 (.load 6 true) [.t 10],.n 53 .mov [.t 11],.s (.raw 12 226 0) [.t 51,.t 52,.t 53]]))) .skip))
  (.seq (.seq (.reg [.n 54 .mov [.t 11],.n 55 (.bin .lss) [.t 54,.i 0]])
  (.cond (.t 55) (.seq (.reg [.n 56 (.build [(.int .i64 0),(.int .i64 0)] []) [],.s (.store 2) [.t 6,.t 56],.n 7 .mov [.c (.bool false)]])
  .ret) .skip))
  (.seq (.reg [.n 57 (.faddr 0) [.t 3],.n 58 (.load 1 false) [.t 57],.n 59 (.load 2 true) [.t 5],.n 60 (.faddr 3) [.t 4],.n 61 (.load 1 false) [.t 60],.n 62 .mov [.t 11],.n 63 (.bin .add) [.t 61,.t 62],.n 64 (.call 162) [.t 58,.t 59,.t 63],.n 65 (.extract 0) [.t 64],.n 66 (.extract 1) [.t 64],.s (.store 2) [.t 6,.t 65],.n 7 .mov [.t 66]])
  .ret))))))),[.cell 6 29,.tmp 7]),by kernel_rfl⟩
abbrev Gj:Nat:=131
def Gg:CF 131:=⟨_,by cbv⟩
abbrev P9:Nat:=132
def Ol:CF 132:=⟨_,by cbv⟩
abbrev P8:Nat:=133
def Oj:CF 133:=⟨_,by cbv⟩
abbrev A8o:Nat:=134
def A6s:CF 134:=⟨_,by cbv⟩
abbrev X9:Nat:=135
def Vh:CF 135:=⟨_,by cbv⟩
abbrev Qx:Nat:=136
def Pm:CF 136:=⟨_,by cbv⟩
abbrev Yf:Nat:=137
def Xm:CF 137:=⟨_,by cbv⟩
abbrev Tu:Nat:=138
def A33:CF 138:=⟨_,by cbv⟩
abbrev Ue:Nat:=139
def Tx:CF 139:=⟨_,by cbv⟩
abbrev Ev:Nat:=150
def Gz:CF 150:=⟨_,by cbv⟩
abbrev Xd:Nat:=151
def Vl:CF 151:=⟨_,by cbv⟩
abbrev Ug:Nat:=152
def U0:CF 152:=⟨_,by cbv⟩
abbrev Ln:Nat:=153
def Tz:CF 153:=⟨_,by cbv⟩
abbrev Uk:Nat:=154
def U6:CF 154:=⟨(14,(.seq (.reg [.n 1 .box [.t 0],.n 2 .mov [.c .nilp],.n 3 .mov [.i 0]])
  (.seq (.seq (.reg [.n 5 (.load 17 true) [.t 1],.n 6 (.call 180) [.t 5],.n 4 .mov [.t 6]])
  (.seq (.reg [.n 7 .mov [.t 4],.n 8 (.bin .neq) [.t 7,.i 0]])
  (.cond (.t 8) (.seq (.reg [.n 9 .mov [.t 4],.n 2 .mov [.c .nilp],.n 3 .mov [.t 9]])
  .ret) .skip)))
  (.seq (.reg [.n 10 (.load 17 true) [.t 1],.n 11 (.raw 13 231 0) [],.n 12 (.build [.nils,.nils,.nils,(.int .i64 0),(.int .i64 0),(.int .i64 0),(.int .i64 0),(.int .i64 0),(.int .i64 0),(.int .i64 0),(.int .i64 0),(.int .i64 0),(.int .i64 0),(.int .i64 0),(.int .i64 0),(.int .i64 0),.nils,.nilm] [(0,17),(17,1)]) [.t 10,.t 11],.n 13 .box [.t 12],.n 2 .mov [.t 13],.n 3 .mov [.i 0]])
  .ret))),[.tmp 2,.tmp 3]),by kernel_rfl⟩
abbrev Gv:Nat:=155
def Q0:CF 155:=⟨_,by cbv⟩
abbrev Lu:Nat:=156
def Lq:CF 156:=⟨_,by cbv⟩
end
end Go.Proofs.YtabedohjkillfaaGreatDoor
