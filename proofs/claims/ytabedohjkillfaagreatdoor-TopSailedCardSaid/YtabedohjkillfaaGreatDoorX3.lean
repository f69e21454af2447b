/-
  Parts of the proof: the abstract machine, the compiled code, contracts of the functions, plain laws (spelled short by a program).
-/
import Derived.Test.YtabedohjkillfaaGreatDoorX2
import Derived.Test.YtabedohjkillfaaGreatDoorProg
set_option maxRecDepth 100000
set_option maxHeartbeats 4000000
set_option linter.unusedVariables false
set_option linter.unusedSimpArgs false
namespace Go.Am
section
abbrev Ins.m (d t:Nat):Ins:=⟨some d,.mov,[.t t],none⟩
abbrev Ins.l (d t:Nat):Ins:=⟨some d,.load 1 false,[.t t],none⟩
abbrev Ins.v (d k t:Nat):Ins:=⟨some d,.load k true,[.t t],none⟩
abbrev Ins.f (d k t:Nat):Ins:=⟨some d,.faddr k,[.t t],none⟩
abbrev Ins.x (d k t:Nat):Ins:=⟨some d,.extract k,[.t t],none⟩
abbrev V.z:V:=.int .i64 0
abbrev Ins.n (d:Nat) (k:K) (xs:List X):Ins:=⟨some d,k,xs,none⟩
abbrev Ins.w (d:Nat) (k:K) (xs:List X) (t:Nat) (b:Bool):Ins:=⟨some d,k,xs,some (t,b)⟩
abbrev Ins.s (k:K) (xs:List X):Ins:=⟨none,k,xs,none⟩
abbrev X.i (n:Int):X:=.c (.int .i64 n)
end
end Go.Am
namespace Go.Proofs.YtabedohjkillfaaGreatDoor
section
open Go.Am
theorem mixed:Tryz.prog.follows .mixedOrders=true:=by kernel_rfl
abbrev CF (f:Nat):={r:Nat×IC×List ResultVar // chkF Tryz.prog f=some r}
abbrev X6:Nat:=3
def Vd:CF 3:=⟨_,by cbv⟩
abbrev Adp:Nat:=4
def Ab9:CF 4:=⟨_,by cbv⟩
abbrev A5k:Nat:=5
def A3c:CF 5:=⟨_,by cbv⟩
abbrev P3:Nat:=6
def Oc:CF 6:=⟨_,by cbv⟩
abbrev A29:Nat:=7
def A0l:CF 7:=⟨_,by cbv⟩
abbrev A5b:Nat:=8
def A34:CF 8:=⟨_,by cbv⟩
abbrev A5l:Nat:=9
def Td:CF 9:=⟨_,by cbv⟩
abbrev A8f:Nat:=10
def A6i:CF 10:=⟨_,by cbv⟩
abbrev Adn:Nat:=11
def Ab7:CF 11:=⟨_,by cbv⟩
abbrev Xe:Nat:=12
def Vo:CF 12:=⟨_,by cbv⟩
abbrev A8g:Nat:=13
def A6j:CF 13:=⟨_,by cbv⟩
abbrev A5h:Nat:=14
def A3a:CF 14:=⟨_,by cbv⟩
abbrev Yi:Nat:=15
def Xs:CF 15:=⟨_,by cbv⟩
abbrev Ado:Nat:=16
def Ab8:CF 16:=⟨_,by cbv⟩
abbrev Adx:Nat:=17
def Abi:CF 17:=⟨_,by cbv⟩
abbrev A8i:Nat:=18
def A6l:CF 18:=⟨_,by cbv⟩
abbrev Qy:Nat:=19
def Kk:CF 19:=⟨_,by cbv⟩
abbrev Iz:Nat:=20
def Ih:CF 20:=⟨_,by cbv⟩
abbrev Qz:Nat:=21
def Po:CF 21:=⟨_,by cbv⟩
abbrev Ud:Nat:=22
def Tw:CF 22:=⟨_,by cbv⟩
abbrev A5a:Nat:=23
def A32:CF 23:=⟨_,by cbv⟩
abbrev Lf:Nat:=24
def Gk:CF 24:=⟨_,by cbv⟩
abbrev A01:Nat:=25
def Abj:CF 25:=⟨_,by cbv⟩
abbrev A02:Nat:=26
def Abk:CF 26:=⟨_,by cbv⟩
abbrev Ri:Nat:=27
def A0w:CF 27:=⟨_,by cbv⟩
abbrev A8h:Nat:=28
def A6k:CF 28:=⟨_,by cbv⟩
abbrev Sz:Nat:=29
def Rv:CF 29:=⟨_,by cbv⟩
abbrev Rc:Nat:=30
def A0s:CF 30:=⟨_,by cbv⟩
abbrev A8m:Nat:=31
def A6q:CF 31:=⟨_,by cbv⟩
abbrev A5q:Nat:=32
def A3h:CF 32:=⟨_,by cbv⟩
abbrev Gu:Nat:=33
def Vg:CF 33:=⟨_,by cbv⟩
abbrev Jy:Nat:=34
def Xr:CF 34:=⟨_,by cbv⟩
abbrev Yj:Nat:=35
def Xt:CF 35:=⟨_,by cbv⟩
abbrev X8:Nat:=36
def Vf:CF 36:=⟨_,by cbv⟩
abbrev Ew:Nat:=37
def Lp:CF 37:=⟨_,by cbv⟩
abbrev P4:Nat:=38
def A6p:CF 38:=⟨_,by cbv⟩
abbrev A5g:Nat:=39
def A39:CF 39:=⟨_,by cbv⟩
abbrev R9:Nat:=40
def Pw:CF 40:=⟨_,by cbv⟩
abbrev A8r:Nat:=41
def A6w:CF 41:=⟨_,by cbv⟩
abbrev Kh:Nat:=42
def S6:CF 42:=⟨_,by cbv⟩
abbrev Mu:Nat:=43
def Vn:CF 43:=⟨(51,(.seq (.reg [.n 2 .box [.t 0],.n 4 .mov [.c .nils]])
  (.seq (.reg [.n 11 (.raw 0 162 0) [],.n 5 (.alloc [.nilm]) [],.s (.store 1) [.t 5,.t 11]])
  (.seq (.reg [.n 12 (.faddr 6) [.t 2],.n 13 (.load 1 false) [.t 12],.n 14 .mov [.t 1],.n 15 (.iaddrS 2) [.t 13,.t 14],.n 16 (.load 2 true) [.t 15],.n 6 (.alloc [(.int .i64 0),(.int .i64 0)]) [],.s (.store 2) [.t 6,.t 16]])
  (.seq (.seq (.draw [0,1,0,4,15,31,0,64,0,256,960,1984,4095] [.n 17 (.faddr 7) [.t 2],.n 18 (.load 1 false) [.t 17],.n 19 (.iaddrA 2 1) [.t 6,.i 0],.n 20 (.load 1 false) [.t 19],.n 21 (.iaddrS 1) [.t 18,.t 20],.n 22 (.load 1 false) [.t 21],.n 23 (.faddr 7) [.t 2],.n 24 (.load 1 false) [.t 23],.n 25 (.iaddrA 2 1) [.t 6,.i 1],.n 26 (.load 1 false) [.t 25],.n 27 (.iaddrS 1) [.t 24,.t 26],.n 28 (.load 1 false) [.t 27],.n 29 (.call 79) [.t 22,.t 28]])
  (.block 0 (.range (.t 29) [30,31] (.seq (.reg [.n 7 (.alloc [(.int .i64 0),(.int .i64 0)]) [],.s (.store 2) [.t 7,.t 30]])
  (.reg [.n 8 (.alloc [(.int .i64 0),(.int .i64 0)]) [],.s (.store 2) [.t 8,.t 31]])) (.block 1 (.draw [0,0,2,0,0,30,63] [.n 32 (.load 1 false) [.t 5],.n 33 (.faddr 0) [.t 2],.n 34 (.load 6 true) [.t 33],.n 35 (.load 2 true) [.t 7],.n 36 (.load 2 true) [.t 8],.n 37 (.call 60) [.t 34,.t 35,.t 36],.s (.raw 1 162 0) [.t 32,.t 37,.c (.bool true)]])))))
  (.seq (.reg [.n 9 .mov [.c .nils]])
  (.seq (.seq (.reg [.n 38 (.load 1 false) [.t 5],.n 39 (.raw 2 162 0) [.t 38]])
  (.block 2 (.loop (.seq (.reg [.n 40 (.raw 3 0 0) [.t 39],.n 41 (.extract 0) [.t 40]])
  (.seq (.cond (.t 41) .skip (.exit 2))
  (.block 3 (.seq (.reg [.n 42 (.raw 4 0 0) [.t 39],.n 43 (.extract 0) [.t 42],.n 10 (.alloc [(.int .i64 0),(.int .i64 0)]) [],.s (.store 2) [.t 10,.t 43]])
  (.reg [.n 44 .mov [.t 9],.n 45 (.load 2 true) [.t 10],.n 46 (.mkslice 2 85) [.t 45],.n 47 (.append 2 16 85) [.t 44,.t 46],.n 9 .mov [.t 47]]))))))))
  (.seq (.reg [.n 48 .mov [.t 9],.n 49 (.call 80) [.t 48,.c (.func (.func 81) [] [])]])
  (.seq (.reg [.n 50 .mov [.t 9],.n 4 .mov [.t 50]])
  .ret)))))))),[.tmp 4]),by kernel_rfl⟩
abbrev Hp:Nat:=44
def U7:CF 44:=⟨_,by cbv⟩
abbrev X5:Nat:=45
def A6h:CF 45:=⟨_,by cbv⟩
abbrev Sx:Nat:=46
def Rs:CF 46:=⟨_,by cbv⟩
abbrev P5:Nat:=47
def Od:CF 47:=⟨_,by cbv⟩
abbrev Jg:Nat:=48
def A31:CF 48:=⟨_,by cbv⟩
abbrev Uf:Nat:=49
def Ty:CF 49:=⟨_,by cbv⟩
abbrev Yd:Nat:=50
def Xk:CF 50:=⟨_,by cbv⟩
abbrev A5j:Nat:=51
def A3b:CF 51:=⟨_,by cbv⟩
abbrev O1:Nat:=52
def Jq:CF 52:=⟨_,by cbv⟩
abbrev Ye:Nat:=53
def Xl:CF 53:=⟨_,by cbv⟩
abbrev A8d:Nat:=54
def A6f:CF 54:=⟨_,by cbv⟩
abbrev Adl:Nat:=55
def Ab5:CF 55:=⟨_,by cbv⟩
abbrev A8e:Nat:=56
def A6g:CF 56:=⟨_,by cbv⟩
abbrev G5:Nat:=57
def Ig:CF 57:=⟨_,by cbv⟩
abbrev X7:Nat:=58
def Ve:CF 58:=⟨_,by cbv⟩
abbrev A2c:Nat:=59
def A0p:CF 59:=⟨_,by cbv⟩
abbrev Adv:Nat:=60
def Abg:CF 60:=⟨_,by cbv⟩
abbrev T9:Nat:=61
def S8:CF 61:=⟨_,by cbv⟩
abbrev Adw:Nat:=62
def Abh:CF 62:=⟨_,by cbv⟩
abbrev A5t:Nat:=63
def A3l:CF 63:=⟨_,by cbv⟩
abbrev Adu:Nat:=64
def Abf:CF 64:=⟨_,by cbv⟩
abbrev A8k:Nat:=65
def A6n:CF 65:=⟨_,by cbv⟩
abbrev A5e:Nat:=66
def A37:CF 66:=⟨(132,(.seq (.reg [.n 3 .box [.t 0],.n 6 .mov [.i 0],.n 7 .mov [.i 0]])
  (.seq (.seq (.reg [.n 27 (.load 4 true) [.t 3],.n 28 .mov [.t 1],.n 29 (.call 100) [.t 27,.t 28],.n 8 .mov [.t 29]])
  (.seq (.reg [.n 30 .mov [.t 8],.n 31 (.bin .neq) [.t 30,.i 0]])
  (.cond (.t 31) (.seq (.reg [.n 32 .mov [.t 8],.n 6 .mov [.i 0],.n 7 .mov [.t 32]])
  .ret) .skip)))
  (.seq (.seq (.reg [.n 33 .mov [.t 2],.n 34 (.call 97) [.t 33,.i 0,.i 64],.n 35 (.un .not) [.t 34]])
  (.cond (.t 35) (.seq (.reg [.n 6 .mov [.i 0],.n 7 .mov [.i 7]])
  .ret) .skip))
  (.seq (.seq (.reg [.n 37 (.load 4 true) [.t 3],.n 38 .mov [.t 1],.n 39 (.call 101) [.t 37,.t 38],.n 36 .mov [.t 39],.n 40 (.extract 0) [.t 36],.n 41 (.extract 1) [.t 36],.n 9 .mov [.t 40],.n 10 .mov [.t 41]])
  (.seq (.reg [.n 42 .mov [.t 10],.n 43 (.bin .neq) [.t 42,.i 0]])
  (.cond (.t 43) (.seq (.reg [.n 6 .mov [.i 0],.n 7 .mov [.i 4]])
  .ret) .skip)))
  (.seq (.reg [.n 11 (.alloc [(.int .i64 0)]) []])
  (.seq (.seq (.reg [.n 44 .mov [.t 1],.n 45 (.len false) [.t 44],.n 46 .mov [.i 0]])
  (.block 0 (.loop (.seq (.reg [.n 47 (.bin .lss) [.t 46,.t 45]])
  (.seq (.cond (.t 47) .skip (.exit 0))
  (.seq (.block 1 (.seq (.reg [.n 48 (.iaddrS 1) [.t 44,.t 46],.n 49 (.load 1 false) [.t 48],.n 13 .mov [.t 49]])
  (.reg [.n 51 (.load 1 true) [.t 11],.n 52 (.load 4 true) [.t 3],.n 53 .mov [.t 13],.n 54 (.call 102) [.t 51,.t 52,.t 53],.n 50 .mov [.t 54],.n 55 (.extract 0) [.t 50],.n 56 (.extract 1) [.t 50],.s (.store 1) [.t 11,.t 55]])))
  (.reg [.n 57 (.bin .add) [.t 46,.i 1],.n 46 .mov [.t 57]])))))))
  (.seq (.draw [0,1,3,0,0,16,56,127,255] [.n 58 (.faddr 3) [.t 3],.n 59 (.load 1 false) [.t 58],.n 60 (.bin .sub) [.t 59,.i 1],.n 61 .mov [.t 1],.n 62 .mov [.t 1],.n 63 (.len false) [.t 62],.n 64 (.call 103) [.t 61,.i 0,.t 63],.n 65 (.bin .sub) [.t 60,.t 64],.n 14 .mov [.t 65]])
  (.seq (.reg [.n 66 (.raw 13 190 0) [],.n 67 (.load 1 true) [.t 11],.s (.raw 12 190 0) [.t 66,.t 67,.i 0],.n 68 .mov [.t 66],.n 15 .mov [.t 68]])
  (.seq (.seq (.reg [.n 69 .mov [.t 2],.n 70 .mov [.i 0]])
  (.block 2 (.loop (.seq (.reg [.n 71 (.bin .lss) [.t 70,.t 69]])
  (.seq (.cond (.t 71) .skip (.exit 2))
  (.seq (.block 3 (.seq (.reg [.n 72 (.raw 13 190 0) [],.n 16 .mov [.t 72]])
  (.seq (.seq (.reg [.n 73 .mov [.t 15],.n 74 (.raw 15 190 0) [.t 73]])
  (.block 4 (.loop (.seq (.reg [.n 75 (.raw 3 0 0) [.t 74],.n 76 (.extract 0) [.t 75]])
  (.seq (.cond (.t 76) .skip (.exit 4))
  (.block 5 (.seq (.reg [.n 77 (.raw 4 0 0) [.t 74],.n 78 (.extract 0) [.t 77],.n 79 (.extract 1) [.t 77],.n 17 (.alloc [(.int .i64 0)]) [],.s (.store 1) [.t 17,.t 78],.n 18 .mov [.t 79]])
  (.seq (.reg [.n 80 .mov [.i 0]])
  (.block 6 (.loop (.seq (.reg [.n 81 (.bin .lss) [.t 80,.i 2]])
  (.seq (.cond (.t 81) .skip (.exit 6))
  (.seq (.block 7 (.seq (.reg [.n 82 .mov [.t 80],.n 19 .mov [.t 82]])
  (.seq (.reg [.n 84 (.load 1 true) [.t 17],.n 85 (.load 4 true) [.t 3],.n 86 .mov [.t 19],.n 87 (.call 102) [.t 84,.t 85,.t 86],.n 83 .mov [.t 87],.n 88 (.extract 0) [.t 83],.n 89 (.extract 1) [.t 83],.n 20 (.alloc [(.int .i64 0)]) [],.s (.store 1) [.t 20,.t 88],.n 21 .mov [.t 89]])
  (.seq (.seq (.reg [.n 90 .mov [.t 21],.n 91 (.un .not) [.t 90],.n 92 .mov [.t 91],.w 93 .mov [.t 18] 92 false,.w 94 .mov [.t 19] 92 false,.w 95 (.bin .add) [.t 93,.t 94] 92 false,.w 96 .mov [.t 14] 92 false,.w 97 (.bin .gtr) [.t 95,.t 96] 92 false,.n 98 .pick [.t 92,.c (.bool true),.t 97]])
  (.cond (.t 98) (.exit 7) .skip))
  (.seq (.reg [.n 100 .mov [.t 16],.n 101 (.load 1 true) [.t 20],.n 102 (.raw 25 190 0) [.t 100,.t 101],.n 99 .mov [.t 102],.n 103 (.extract 0) [.t 99],.n 104 (.extract 1) [.t 99],.n 22 .mov [.t 103],.n 23 .mov [.t 104]])
  (.seq (.reg [.n 105 .mov [.t 23],.n 106 (.un .not) [.t 105],.n 107 .mov [.t 106],.w 108 .mov [.t 18] 107 false,.w 109 .mov [.t 19] 107 false,.w 110 (.bin .add) [.t 108,.t 109] 107 false,.w 111 .mov [.t 22] 107 false,.w 112 (.bin .gtr) [.t 110,.t 111] 107 false,.n 113 .pick [.t 107,.c (.bool true),.t 112]])
  (.cond (.t 113) (.reg [.n 114 .mov [.t 16],.n 115 (.load 1 true) [.t 20],.n 116 .mov [.t 18],.n 117 .mov [.t 19],.n 118 (.bin .add) [.t 116,.t 117],.s (.raw 12 190 0) [.t 114,.t 115,.t 118]]) .skip)))))))
  (.reg [.n 119 (.bin .add) [.t 80,.i 1],.n 80 .mov [.t 119]]))))))))))))))
  (.reg [.n 120 .mov [.t 16],.n 15 .mov [.t 120]]))))
  (.reg [.n 121 (.bin .add) [.t 70,.i 1],.n 70 .mov [.t 121]])))))))
  (.seq (.reg [.n 24 .mov [.i 0]])
  (.seq (.seq (.reg [.n 122 .mov [.t 15],.n 123 (.raw 15 190 0) [.t 122]])
  (.block 8 (.loop (.seq (.reg [.n 124 (.raw 3 0 0) [.t 123],.n 125 (.extract 0) [.t 124]])
  (.seq (.cond (.t 125) .skip (.exit 8))
  (.block 9 (.seq (.reg [.n 126 (.raw 4 0 0) [.t 123],.n 127 (.extract 1) [.t 126],.n 26 .mov [.t 127]])
  (.reg [.n 128 .mov [.t 24],.n 129 .mov [.t 26],.n 130 (.minmax true) [.t 128,.t 129],.n 24 .mov [.t 130]]))))))))
  (.seq (.reg [.n 131 .mov [.t 24],.n 6 .mov [.t 131],.n 7 .mov [.i 0]])
  .ret)))))))))))),[.tmp 6,.tmp 7]),by kernel_rfl⟩
abbrev A28:Nat:=67
def A0k:CF 67:=⟨_,by cbv⟩
abbrev Mr:Nat:=68
def M4:CF 68:=⟨_,by cbv⟩
abbrev A2b:Nat:=69
def A0o:CF 69:=⟨_,by cbv⟩
abbrev Cy:Nat:=70
def Cv:CF 70:=⟨_,by cbv⟩
abbrev Rf:Nat:=71
def A0u:CF 71:=⟨_,by cbv⟩
abbrev R8:Nat:=72
def Pv:CF 72:=⟨_,by cbv⟩
end
end Go.Proofs.YtabedohjkillfaaGreatDoor
