/-
  Parts of the proof: the abstract machine, the compiled code, contracts of the functions, plain laws (spelled short by a program).
-/
import Derived.Test.YtabedohjkillfaaGreatDoorX4
import Derived.Test.YtabedohjkillfaaGreatDoorProg
set_option maxRecDepth 100000
set_option maxHeartbeats 4000000
set_option linter.unusedVariables false
set_option linter.unusedSimpArgs false
namespace Go.Proofs.YtabedohjkillfaaGreatDoor
section
open Go.Am
abbrev D6:Nat:=157
abbrev C3:Nat:=158
def H1:CF 158:=⟨_,by cbv⟩
abbrev G6:Nat:=159
def Il:CF 159:=⟨_,by cbv⟩
abbrev J2:Nat:=160
def Ii:CF 160:=⟨_,by cbv⟩
abbrev G8:Nat:=161
def Im:CF 161:=⟨_,by cbv⟩
abbrev Ei:Nat:=162
def Ik:CF 162:=⟨_,by cbv⟩
abbrev Hj:Nat:=163
def A3d:CF 163:=⟨_,by cbv⟩
abbrev Adr:Nat:=164
def Abc:CF 164:=⟨_,by cbv⟩
abbrev Ads:Nat:=165
def Abd:CF 165:=⟨_,by cbv⟩
abbrev Dl:Nat:=166
def Di:CF 166:=⟨_,by cbv⟩
abbrev A5n:Nat:=167
abbrev T0:Nat:=168
def Ry:CF 168:=⟨_,by cbv⟩
abbrev Ui:Nat:=169
def U3:CF 169:=⟨_,by cbv⟩
abbrev J1:Nat:=170
def Oh:CF 170:=⟨_,by cbv⟩
abbrev Jx:Nat:=171
def Jp:CF 171:=⟨_,by cbv⟩
abbrev J0:Nat:=172
def Og:CF 172:=⟨_,by cbv⟩
abbrev Hw:Nat:=173
def Ni:CF 173:=⟨_,by cbv⟩
abbrev Adk:Nat:=174
def Ab4:CF 174:=⟨_,by cbv⟩
abbrev Nx:Nat:=180
def Np:CF 180:=⟨_,by cbv⟩
abbrev Da:Nat:=181
def K6:CF 181:=⟨_,by cbv⟩
abbrev Nw:Nat:=182
def No:CF 182:=⟨_,by cbv⟩
abbrev Jk:Nat:=183
def J9:CF 183:=⟨_,by cbv⟩
abbrev Mt:Nat:=184
def M6:CF 184:=⟨_,by cbv⟩
abbrev F8:Nat:=185
def Vi:CF 185:=⟨_,by cbv⟩
abbrev Ho:Nat:=186
def Hk:CF 186:=⟨_,by cbv⟩
abbrev Lg:Nat:=187
def Kp:CF 187:=⟨_,by cbv⟩
abbrev Cj:Nat:=188
abbrev Fp:Nat:=189
def Hr:CF 189:=⟨(52,(.seq (.reg [.n 3 .box [.t 1],.n 4 .mov [.c (.bool false)]])
  (.seq (.draw [0,1,3,7,0,31,63,127,127,255,1023] [.n 10 .mov [.t 0],.n 11 .nilck [.t 10],.n 12 (.faddr 17) [.t 11],.n 13 (.load 1 false) [.t 12],.n 14 (.load 4 true) [.t 3],.n 15 (.raw 25 231 0) [.t 13,.t 14],.n 9 .mov [.t 15],.n 16 (.extract 0) [.t 9],.n 17 (.extract 1) [.t 9],.n 5 .mov [.t 16],.n 6 .mov [.t 17]])
  (.seq (.seq (.reg [.n 18 .mov [.t 6],.n 19 (.un .not) [.t 18]])
  (.cond (.t 19) (.seq (.draw [0,1,3,7,15,0,32,0,128,511,1023,2047,2047,0,12287,32767] [.n 21 .mov [.t 0],.n 22 .nilck [.t 21],.n 23 (.faddr 0) [.t 22],.n 24 (.faddr 3) [.t 23],.n 25 (.load 8 true) [.t 24],.n 26 (.faddr 0) [.t 3],.n 27 (.load 2 true) [.t 26],.n 28 (.faddr 2) [.t 3],.n 29 (.load 2 true) [.t 28],.n 30 (.call 206) [.t 25,.t 27,.t 29],.n 20 .mov [.t 30],.n 31 (.extract 0) [.t 20],.n 32 (.extract 1) [.t 20],.n 7 (.alloc [(.int .i64 0),(.int .i64 0),(.int .i64 0),(.int .i64 0),(.int .i64 0),(.int .i64 0),(.int .i64 0),(.int .i64 0)]) [],.s (.store 8) [.t 7,.t 31],.n 8 .mov [.t 32]])
  (.seq (.reg [.n 33 .mov [.t 8],.n 34 (.bin .eql) [.t 33,.i 0],.n 35 .mov [.t 34],.w 36 .mov [.t 0] 35 true,.w 37 .nilck [.t 36] 35 true,.w 38 (.faddr 0) [.t 37] 35 true,.w 39 (.faddr 1) [.t 38] 35 true,.w 40 (.load 1 false) [.t 39] 35 true,.w 41 (.mkfunc (.func 208) 0) [.t 7] 35 true,.w 42 (.call 207) [.t 40,.t 41] 35 true,.w 43 (.un .not) [.t 42] 35 true,.n 44 .pick [.t 35,.t 43,.c (.bool false)],.n 5 .mov [.t 44]])
  (.draw [0,1,3,7,0,0,63] [.n 45 .mov [.t 0],.n 46 .nilck [.t 45],.n 47 (.faddr 17) [.t 46],.n 48 (.load 1 false) [.t 47],.n 49 (.load 4 true) [.t 3],.n 50 .mov [.t 5],.s (.raw 12 231 0) [.t 48,.t 49,.t 50]]))) .skip))
  (.seq (.reg [.n 51 .mov [.t 5],.n 4 .mov [.t 51]])
  .ret)))),[.tmp 4]),by kernel_rfl⟩
abbrev Hy:Nat:=190
def Hq:CF 190:=⟨_,by cbv⟩
abbrev Jj:Nat:=192
def Pz:CF 192:=⟨_,by cbv⟩
abbrev Yl:Nat:=193
def Xv:CF 193:=⟨_,by cbv⟩
abbrev Dk:Nat:=194
def Fq:CF 194:=⟨_,by cbv⟩
abbrev Lt:Nat:=195
def Lo:CF 195:=⟨_,by cbv⟩
abbrev Xc:Nat:=197
def Vk:CF 197:=⟨_,by cbv⟩
abbrev Du:Nat:=198
def Lr:CF 198:=⟨_,by cbv⟩
abbrev Cc:Nat:=199
def Fs:CF 199:=⟨_,by cbv⟩
abbrev Cp:Nat:=200
def Dn:CF 200:=⟨_,by cbv⟩
abbrev G7:Nat:=201
def G1:CF 201:=⟨_,by cbv⟩
abbrev Cn:Nat:=202
def Cm:CF 202:=⟨_,by cbv⟩
abbrev Bb:Nat:=203
def F4:CF 203:=⟨_,by cbv⟩
abbrev O2:Nat:=206
def Hd:CF 206:=⟨_,by cbv⟩
abbrev Eb:Nat:=207
def E5:CF 207:=⟨_,by cbv⟩
abbrev H2:Nat:=208
def Ls:CF 208:=⟨_,by cbv⟩
abbrev A2e:Nat:=209
def A0v:CF 209:=⟨_,by cbv⟩
abbrev A5o:Nat:=210
def A3f:CF 210:=⟨_,by cbv⟩
abbrev A5m:Nat:=211
def A3e:CF 211:=⟨_,by cbv⟩
abbrev Adt:Nat:=212
def Abe:CF 212:=⟨_,by cbv⟩
abbrev Yk:Nat:=213
def Xu:CF 213:=⟨_,by cbv⟩
abbrev Uj:Nat:=214
def U5:CF 214:=⟨_,by cbv⟩
abbrev T6:Nat:=215
def S4:CF 215:=⟨_,by cbv⟩
abbrev P6:Nat:=216
def Of:CF 216:=⟨_,by cbv⟩
abbrev T5:Nat:=217
def Rz:CF 217:=⟨_,by cbv⟩
abbrev Ms:Nat:=218
def M5:CF 218:=⟨_,by cbv⟩
abbrev Rh:Nat:=219
def Ko:CF 219:=⟨_,by cbv⟩
abbrev Eo:Nat:=220
def Ej:CF 220:=⟨_,by cbv⟩
abbrev Yh:Nat:=221
def Xp:CF 221:=⟨_,by cbv⟩
abbrev A8l:Nat:=222
def A6o:CF 222:=⟨_,by cbv⟩
abbrev Le:Nat:=223
def A0r:CF 223:=⟨_,by cbv⟩
abbrev Rg:Nat:=224
def Kn:CF 224:=⟨_,by cbv⟩
abbrev A8n:Nat:=225
def A6r:CF 225:=⟨_,by cbv⟩
abbrev A5p:Nat:=226
def A3g:CF 226:=⟨_,by cbv⟩
abbrev A5i:Nat:=227
def Tc:CF 227:=⟨_,by cbv⟩
abbrev A2d:Nat:=228
def A0q:CF 228:=⟨_,by cbv⟩
abbrev Hn:Nat:=229
def U2:CF 229:=⟨_,by cbv⟩
abbrev A5f:Nat:=230
def A38:CF 230:=⟨_,by cbv⟩
abbrev Uh:Nat:=231
def U1:CF 231:=⟨_,by cbv⟩
abbrev O0:Nat:=232
def Xq:CF 232:=⟨_,by cbv⟩
abbrev Ji:Nat:=233
def Pu:CF 233:=⟨_,by cbv⟩
abbrev Lc:Nat:=234
def Km:CF 234:=⟨_,by cbv⟩
abbrev R6:Nat:=235
def Pt:CF 235:=⟨_,by cbv⟩
abbrev R5:Nat:=236
def Pq:CF 236:=⟨_,by cbv⟩
abbrev Ep:Nat:=254
def U4:CF 254:=⟨_,by cbv⟩
abbrev Ha:Nat:=256
def Rw:CF 256:=⟨_,by cbv⟩
end
end Go.Proofs.YtabedohjkillfaaGreatDoor
