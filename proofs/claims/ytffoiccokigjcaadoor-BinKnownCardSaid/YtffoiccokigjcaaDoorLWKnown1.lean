/-
  Parts of the proof, 1: the abstract machine, the compiled code, contracts of the functions, plain laws.
-/
import Derived.Test.YtffoiccokigjcaaDoorZ5


/-! The code of further functions, compiled. -/
set_option maxRecDepth 100000
namespace Go.Proofs.YtffoiccokigjcaaDoor
open Go.Am
/-- paravane/paravanelaw07.BinKnown -/
abbrev F.law07_BinKnown : Nat := 10
def ir.law07_BinKnown : IC :=
 (.seq (.reg [⟨(some 0), .mov, [.c (.bool false)], none⟩])
   (.seq (.reg [⟨(some 30), .build [(.int .i64 0), (.int .i64 0), (.int .i64 0), (.int .i64 0), (.int .i64 0), .nils] [], [], none⟩,
     ⟨(some 31), .call 33, [], none⟩,
     ⟨(some 32), .call 33, [], none⟩,
     ⟨(some 33), .call 33, [], none⟩,
     ⟨(some 34), .call 33, [], none⟩,
     ⟨(some 35), .mkslice 6 26, [.t 30, .t 31, .t 32, .t 33, .t 34], none⟩,
     ⟨(some 1), .mov, [.t 35], none⟩])
   (.seq (.reg [⟨(some 36), .mov, [.t 1], none⟩,
     ⟨(some 37), .iaddrS 6, [.t 36, .c (.int .i64 1)], none⟩,
     ⟨(some 38), .faddr 2, [.t 37], none⟩,
     ⟨none, .store 1, [.t 38, .c (.int .i64 1001)], none⟩])
   (.seq (.reg [⟨(some 39), .mov, [.t 1], none⟩,
     ⟨(some 40), .iaddrS 6, [.t 39, .c (.int .i64 2)], none⟩,
     ⟨(some 41), .faddr 3, [.t 40], none⟩,
     ⟨none, .store 1, [.t 41, .c (.int .i64 17)], none⟩])
   (.seq (.reg [⟨(some 42), .mov, [.t 1], none⟩,
     ⟨(some 43), .call 34, [.c (.int .i64 0), .c (.int .i64 25)], none⟩,
     ⟨(some 44), .call 34, [.c (.int .i64 25), .c (.int .i64 400)], none⟩,
     ⟨(some 45), .mkslice 2 82, [.t 43, .t 44], none⟩,
     ⟨(some 46), .iaddrS 6, [.t 42, .c (.int .i64 3)], none⟩,
     ⟨(some 47), .faddr 5, [.t 46], none⟩,
     ⟨none, .store 1, [.t 47, .t 45], none⟩])
   (.seq (.reg [⟨(some 48), .mov, [.t 1], none⟩,
     ⟨(some 49), .iaddrS 6, [.t 48, .c (.int .i64 4)], none⟩,
     ⟨(some 50), .faddr 5, [.t 49], none⟩,
     ⟨none, .store 1, [.t 50, .c .nils], none⟩])
   (.seq (.seq (.reg [⟨(some 2), .mov, [.c (.int .i64 0)], none⟩])
   (.block 0 (.loop (.seq (.seq (.reg [⟨(some 51), .mov, [.t 2], none⟩,
     ⟨(some 52), .mov, [.t 1], none⟩,
     ⟨(some 53), .len false, [.t 52], none⟩,
     ⟨(some 54), .bin .lss, [.t 51, .t 53], none⟩])
   (.cond (.t 54) .skip (.exit 0)))
   (.seq (.block 1 (.seq (.reg [⟨(some 57), .mov, [.t 1], none⟩,
     ⟨(some 58), .mov, [.t 2], none⟩,
     ⟨(some 59), .iaddrS 6, [.t 57, .t 58], none⟩,
     ⟨(some 60), .load 6 true, [.t 59], none⟩,
     ⟨(some 61), .call 35, [.t 60], none⟩,
     ⟨(some 62), .bin .neq, [.t 61, .c (.int .i64 70)], none⟩])
   (.cond (.t 62) (.seq (.reg [⟨(some 0), .mov, [.c (.bool false)], none⟩])
   .ret) .skip)))
   (.reg [⟨(some 55), .mov, [.t 2], none⟩,
     ⟨(some 56), .bin .add, [.t 55, .c (.int .i64 1)], none⟩,
     ⟨(some 2), .mov, [.t 56], none⟩]))))))
   (.seq (.reg [⟨(some 63), .call 36, [], none⟩,
     ⟨(some 64), .call 36, [], none⟩,
     ⟨(some 65), .call 34, [.c (.int .i64 0), .c (.int .i64 64)], none⟩,
     ⟨(some 66), .call 34, [.c (.int .i64 0), .c (.int .i64 64)], none⟩,
     ⟨(some 67), .call 34, [.c (.int .i64 0), .c (.int .i64 64)], none⟩,
     ⟨(some 68), .build [(.int .i64 0), (.int .i64 0), (.int .i64 0), (.int .i64 0), (.int .i64 0), (.int .i64 0), (.int .i64 0), (.int .i64 0)] [(0, 2), (4, 2), (6, 2)], [.t 65, .t 66, .t 67], none⟩,
     ⟨(some 69), .mkslice 8 87, [.t 68], none⟩,
     ⟨(some 70), .build [.nils, .nils] [(0, 1)], [.t 69], none⟩,
     ⟨(some 71), .call 34, [.c (.int .i64 1), .c (.int .i64 1)], none⟩,
     ⟨(some 72), .build [(.int .i64 0), (.int .i64 0), (.int .i64 0), (.int .i64 0), (.int .i64 0), (.int .i64 0), (.int .i64 0), (.int .i64 0)] [(4, 2)], [.t 71], none⟩,
     ⟨(some 73), .mkslice 8 87, [.t 72], none⟩,
     ⟨(some 74), .build [.nils, .nils] [(0, 1)], [.t 73], none⟩,
     ⟨(some 75), .mkslice 2 45, [.t 63, .t 64, .t 70, .t 74], none⟩,
     ⟨(some 3), .mov, [.t 75], none⟩])
   (.seq (.reg [⟨(some 76), .mov, [.t 3], none⟩,
     ⟨(some 77), .build [(.int .i64 0), (.int .i64 0)] [(0, 1), (1, 1)], [.c (.int .i64 0), .c (.int .i64 0)], none⟩,
     ⟨(some 78), .mkslice 2 70, [.t 77], none⟩,
     ⟨(some 79), .iaddrS 2, [.t 76, .c (.int .i64 0)], none⟩,
     ⟨(some 80), .faddr 1, [.t 79], none⟩,
     ⟨none, .store 1, [.t 80, .t 78], none⟩])
   (.seq (.reg [⟨(some 81), .mov, [.t 3], none⟩,
     ⟨(some 82), .build [(.int .i64 0), (.int .i64 0)] [(0, 1), (1, 1)], [.c (.int .i64 0), .c (.int .i64 3)], none⟩,
     ⟨(some 83), .mkslice 2 70, [.t 82], none⟩,
     ⟨(some 84), .iaddrS 2, [.t 81, .c (.int .i64 1)], none⟩,
     ⟨(some 85), .faddr 1, [.t 84], none⟩,
     ⟨none, .store 1, [.t 85, .t 83], none⟩])
   (.seq (.seq (.reg [⟨(some 4), .mov, [.c (.int .i64 0)], none⟩])
   (.block 2 (.loop (.seq (.seq (.reg [⟨(some 86), .mov, [.t 4], none⟩,
     ⟨(some 87), .mov, [.t 3], none⟩,
     ⟨(some 88), .len false, [.t 87], none⟩,
     ⟨(some 89), .bin .lss, [.t 86, .t 88], none⟩])
   (.cond (.t 89) .skip (.exit 2)))
   (.seq (.block 3 (.seq (.reg [⟨(some 92), .mov, [.t 3], none⟩,
     ⟨(some 93), .mov, [.t 4], none⟩,
     ⟨(some 94), .iaddrS 2, [.t 92, .t 93], none⟩,
     ⟨(some 95), .load 2 true, [.t 94], none⟩,
     ⟨(some 96), .call 37, [.t 95], none⟩,
     ⟨(some 97), .bin .neq, [.t 96, .c (.int .i64 71)], none⟩])
   (.cond (.t 97) (.seq (.reg [⟨(some 0), .mov, [.c (.bool false)], none⟩])
   .ret) .skip)))
   (.reg [⟨(some 90), .mov, [.t 4], none⟩,
     ⟨(some 91), .bin .add, [.t 90, .c (.int .i64 1)], none⟩,
     ⟨(some 4), .mov, [.t 91], none⟩]))))))
   (.seq (.reg [⟨(some 99), .call 33, [], none⟩,
     ⟨(some 100), .build [(.int .i64 0), (.int .i64 0)] [(0, 1), (1, 1)], [.c (.int .i64 1), .c (.int .i64 1)], none⟩,
     ⟨(some 101), .build [(.int .i64 0), (.int .i64 0)] [(0, 1), (1, 1)], [.c (.int .i64 3), .c (.int .i64 3)], none⟩,
     ⟨(some 102), .call 15, [.t 99, .t 100, .t 101], none⟩,
     ⟨(some 98), .mov, [.t 102], none⟩,
     ⟨(some 103), .extract 0, [.t 98], none⟩,
     ⟨(some 104), .extract 1, [.t 98], none⟩,
     ⟨(some 5), .alloc [(.int .i64 0), (.int .i64 0)], [], none⟩,
     ⟨none, .store 2, [.t 5, .t 103], none⟩,
     ⟨(some 6), .mov, [.t 104], none⟩])
   (.seq (.reg [⟨(some 106), .call 33, [], none⟩,
     ⟨(some 107), .build [(.int .i64 0), (.int .i64 0)] [(0, 1), (1, 1)], [.c (.int .i64 3), .c (.int .i64 3)], none⟩,
     ⟨(some 108), .build [(.int .i64 0), (.int .i64 0)] [(0, 1), (1, 1)], [.c (.int .i64 9), .c (.int .i64 3)], none⟩,
     ⟨(some 109), .call 15, [.t 106, .t 107, .t 108], none⟩,
     ⟨(some 105), .mov, [.t 109], none⟩,
     ⟨(some 110), .extract 0, [.t 105], none⟩,
     ⟨(some 111), .extract 1, [.t 105], none⟩,
     ⟨(some 7), .alloc [(.int .i64 0), (.int .i64 0)], [], none⟩,
     ⟨none, .store 2, [.t 7, .t 110], none⟩,
     ⟨(some 8), .mov, [.t 111], none⟩])
   (.seq (.reg [⟨(some 113), .call 33, [], none⟩,
     ⟨(some 114), .build [(.int .i64 0), (.int .i64 0)] [(0, 1)], [.c (.int .i64 (-1))], none⟩,
     ⟨(some 115), .build [(.int .i64 0), (.int .i64 0)] [], [], none⟩,
     ⟨(some 116), .call 15, [.t 113, .t 114, .t 115], none⟩,
     ⟨(some 112), .mov, [.t 116], none⟩,
     ⟨(some 117), .extract 0, [.t 112], none⟩,
     ⟨(some 118), .extract 1, [.t 112], none⟩,
     ⟨(some 9), .alloc [(.int .i64 0), (.int .i64 0)], [], none⟩,
     ⟨none, .store 2, [.t 9, .t 117], none⟩,
     ⟨(some 10), .mov, [.t 118], none⟩])
   (.seq (.reg [⟨(some 120), .call 33, [], none⟩,
     ⟨(some 121), .build [(.int .i64 0), (.int .i64 0)] [(0, 1)], [.c (.int .i64 32769)], none⟩,
     ⟨(some 122), .build [(.int .i64 0), (.int .i64 0)] [], [], none⟩,
     ⟨(some 123), .call 15, [.t 120, .t 121, .t 122], none⟩,
     ⟨(some 119), .mov, [.t 123], none⟩,
     ⟨(some 124), .extract 0, [.t 119], none⟩,
     ⟨(some 125), .extract 1, [.t 119], none⟩,
     ⟨(some 11), .alloc [(.int .i64 0), (.int .i64 0)], [], none⟩,
     ⟨none, .store 2, [.t 11, .t 124], none⟩,
     ⟨(some 12), .mov, [.t 125], none⟩])
   (.seq (.reg [⟨(some 127), .call 33, [], none⟩,
     ⟨(some 128), .call 36, [], none⟩,
     ⟨(some 129), .call 19, [.t 127, .t 128, .c (.int .i64 3)], none⟩,
     ⟨(some 126), .mov, [.t 129], none⟩,
     ⟨(some 130), .extract 0, [.t 126], none⟩,
     ⟨(some 131), .extract 1, [.t 126], none⟩,
     ⟨(some 13), .mov, [.t 130], none⟩,
     ⟨(some 14), .mov, [.t 131], none⟩])
   (.seq (.reg [⟨(some 133), .call 33, [], none⟩,
     ⟨(some 134), .call 36, [], none⟩,
     ⟨(some 135), .mkslice 1 3, [.c (.int .i64 1)], none⟩,
     ⟨(some 136), .call 38, [.t 133, .t 134, .t 135], none⟩,
     ⟨(some 132), .mov, [.t 136], none⟩,
     ⟨(some 137), .extract 0, [.t 132], none⟩,
     ⟨(some 138), .extract 1, [.t 132], none⟩,
     ⟨(some 15), .mov, [.t 137], none⟩,
     ⟨(some 16), .mov, [.t 138], none⟩])
   (.seq (.reg [⟨(some 140), .call 33, [], none⟩,
     ⟨(some 141), .call 36, [], none⟩,
     ⟨(some 142), .call 39, [.t 140, .t 141, .c (.int .i64 3)], none⟩,
     ⟨(some 139), .mov, [.t 142], none⟩,
     ⟨(some 143), .extract 0, [.t 139], none⟩,
     ⟨(some 144), .extract 1, [.t 139], none⟩,
     ⟨(some 17), .mov, [.t 143], none⟩,
     ⟨(some 18), .mov, [.t 144], none⟩])
   (.seq (.reg [⟨(some 146), .call 33, [], none⟩,
     ⟨(some 147), .call 12, [.t 146, .c .nils, .c (.int .i64 0)], none⟩,
     ⟨(some 145), .mov, [.t 147], none⟩,
     ⟨(some 148), .extract 0, [.t 145], none⟩,
     ⟨(some 149), .extract 1, [.t 145], none⟩,
     ⟨(some 19), .mov, [.t 148], none⟩,
     ⟨(some 20), .mov, [.t 149], none⟩])
   (.seq (.seq (.reg [⟨(some 150), .mov, [.t 6], none⟩,
     ⟨(some 151), .bin .neq, [.t 150, .c (.int .i64 0)], none⟩,
     ⟨(some 152), .mov, [.t 151], none⟩,
     ⟨(some 153), .mov, [.t 8], (some (152, false))⟩,
     ⟨(some 154), .bin .neq, [.t 153, .c (.int .i64 0)], (some (152, false))⟩,
     ⟨(some 155), .pick, [.t 152, .c (.bool true), .t 154], none⟩,
     ⟨(some 156), .mov, [.t 155], none⟩,
     ⟨(some 157), .mov, [.t 10], (some (156, false))⟩,
     ⟨(some 158), .bin .neq, [.t 157, .c (.int .i64 0)], (some (156, false))⟩,
     ⟨(some 159), .pick, [.t 156, .c (.bool true), .t 158], none⟩,
     ⟨(some 160), .mov, [.t 159], none⟩,
     ⟨(some 161), .mov, [.t 12], (some (160, false))⟩,
     ⟨(some 162), .bin .neq, [.t 161, .c (.int .i64 10)], (some (160, false))⟩,
     ⟨(some 163), .pick, [.t 160, .c (.bool true), .t 162], none⟩,
     ⟨(some 164), .mov, [.t 163], none⟩,
     ⟨(some 165), .mov, [.t 14], (some (164, false))⟩,
     ⟨(some 166), .bin .neq, [.t 165, .c (.int .i64 72)], (some (164, false))⟩,
     ⟨(some 167), .pick, [.t 164, .c (.bool true), .t 166], none⟩,
     ⟨(some 168), .mov, [.t 167], none⟩,
     ⟨(some 169), .mov, [.t 16], (some (168, false))⟩,
     ⟨(some 170), .bin .neq, [.t 169, .c (.int .i64 73)], (some (168, false))⟩,
     ⟨(some 171), .pick, [.t 168, .c (.bool true), .t 170], none⟩,
     ⟨(some 172), .mov, [.t 171], none⟩,
     ⟨(some 173), .mov, [.t 18], (some (172, false))⟩,
     ⟨(some 174), .bin .neq, [.t 173, .c (.int .i64 72)], (some (172, false))⟩,
     ⟨(some 175), .pick, [.t 172, .c (.bool true), .t 174], none⟩,
     ⟨(some 176), .mov, [.t 175], none⟩,
     ⟨(some 177), .mov, [.t 20], (some (176, false))⟩,
     ⟨(some 178), .bin .neq, [.t 177, .c (.int .i64 73)], (some (176, false))⟩,
     ⟨(some 179), .pick, [.t 176, .c (.bool true), .t 178], none⟩,
     ⟨(some 180), .mov, [.t 179], none⟩,
     ⟨(some 181), .load 2 true, [.t 5], (some (180, false))⟩,
     ⟨(some 182), .build [(.int .i64 0), (.int .i64 0)] [(0, 1)], [.c (.int .i64 4)], (some (180, false))⟩,
     ⟨(some 183), .eqs true [0, 0], [.t 181, .t 182], (some (180, false))⟩,
     ⟨(some 184), .pick, [.t 180, .c (.bool true), .t 183], none⟩,
     ⟨(some 185), .mov, [.t 184], none⟩,
     ⟨(some 186), .load 2 true, [.t 7], (some (185, false))⟩,
     ⟨(some 187), .build [(.int .i64 0), (.int .i64 0)] [(0, 1), (1, 1)], [.c (.int .i64 (-1)), .c (.int .i64 (-1))], (some (185, false))⟩,
     ⟨(some 188), .eqs true [0, 0], [.t 186, .t 187], (some (185, false))⟩,
     ⟨(some 189), .pick, [.t 185, .c (.bool true), .t 188], none⟩,
     ⟨(some 190), .mov, [.t 189], none⟩,
     ⟨(some 191), .load 2 true, [.t 9], (some (190, false))⟩,
     ⟨(some 192), .load 2 true, [.t 7], (some (190, false))⟩,
     ⟨(some 193), .eqs true [0, 0], [.t 191, .t 192], (some (190, false))⟩,
     ⟨(some 194), .pick, [.t 190, .c (.bool true), .t 193], none⟩])
   (.cond (.t 194) (.seq (.reg [⟨(some 0), .mov, [.c (.bool false)], none⟩])
   .ret) .skip))
   (.seq (.reg [⟨(some 196), .build [(.int .i64 0), (.int .i64 0)] [], [], none⟩,
     ⟨(some 197), .mkslice 2 82, [.t 196], none⟩,
     ⟨(some 198), .build [(.int .i64 0), (.int .i64 0), (.int .i64 0), (.int .i64 0), (.int .i64 0), .nils] [(2, 1), (3, 1), (4, 1), (5, 1)], [.c (.int .i64 1), .c (.int .i64 2), .c (.int .i64 1), .t 197], none⟩,
     ⟨(some 199), .mkslice 1 3, [.c (.int .i64 9)], none⟩,
     ⟨(some 200), .mkslice 1 3, [.c (.int .i64 10)], none⟩,
     ⟨(some 201), .mkslice 1 48, [.t 199, .t 200], none⟩,
     ⟨(some 202), .call 12, [.t 198, .t 201, .c (.int .i64 0)], none⟩,
     ⟨(some 195), .mov, [.t 202], none⟩,
     ⟨(some 203), .extract 0, [.t 195], none⟩,
     ⟨(some 204), .extract 1, [.t 195], none⟩,
     ⟨(some 21), .mov, [.t 203], none⟩,
     ⟨(some 6), .mov, [.t 204], none⟩])
   (.seq (.reg [⟨(some 206), .call 33, [], none⟩,
     ⟨(some 207), .call 36, [], none⟩,
     ⟨(some 208), .mkslice 1 3, [.c (.int .i64 1), .c (.int .i64 0)], none⟩,
     ⟨(some 209), .call 36, [], none⟩,
     ⟨(some 210), .mkslice 2 45, [.t 209], none⟩,
     ⟨(some 211), .mkslice 1 3, [.c (.int .i64 7)], none⟩,
     ⟨(some 212), .call 40, [.t 206, .t 207, .t 208, .t 210, .t 211], none⟩,
     ⟨(some 205), .mov, [.t 212], none⟩,
     ⟨(some 213), .extract 0, [.t 205], none⟩,
     ⟨(some 214), .extract 1, [.t 205], none⟩,
     ⟨(some 22), .alloc [.nils, .nils], [], none⟩,
     ⟨none, .store 2, [.t 22, .t 213], none⟩,
     ⟨(some 8), .mov, [.t 214], none⟩])
   (.seq (.reg [⟨(some 216), .call 33, [], none⟩,
     ⟨(some 217), .call 36, [], none⟩,
     ⟨(some 218), .mkslice 1 3, [.c (.int .i64 1), .c (.int .i64 0)], none⟩,
     ⟨(some 219), .call 36, [], none⟩,
     ⟨(some 220), .mkslice 2 45, [.t 219], none⟩,
     ⟨(some 221), .call 40, [.t 216, .t 217, .t 218, .t 220, .c .nils], none⟩,
     ⟨(some 215), .mov, [.t 221], none⟩,
     ⟨(some 222), .extract 0, [.t 215], none⟩,
     ⟨(some 223), .extract 1, [.t 215], none⟩,
     ⟨(some 10), .mov, [.t 223], none⟩])
   (.seq (.draw [0, 1, 0, 0, 8, 24, 56, 0, 255, 511, 1023, 1023, 4095] [⟨(some 225), .call 33, [], none⟩,
     ⟨(some 226), .call 36, [], none⟩,
     ⟨(some 227), .mkslice 1 3, [.c (.int .i64 1), .c (.int .i64 0)], none⟩,
     ⟨(some 228), .mov, [.t 3], none⟩,
     ⟨(some 229), .iaddrS 2, [.t 228, .c (.int .i64 0)], none⟩,
     ⟨(some 230), .load 2 true, [.t 229], none⟩,
     ⟨(some 231), .mkslice 2 45, [.t 230], none⟩,
     ⟨(some 232), .mkslice 1 3, [.c (.int .i64 7)], none⟩,
     ⟨(some 233), .call 40, [.t 225, .t 226, .t 227, .t 231, .t 232], none⟩,
     ⟨(some 224), .mov, [.t 233], none⟩,
     ⟨(some 234), .extract 0, [.t 224], none⟩,
     ⟨(some 235), .extract 1, [.t 224], none⟩,
     ⟨(some 12), .mov, [.t 235], none⟩])
   (.seq (.reg [⟨(some 236), .call 33, [], none⟩,
     ⟨(some 23), .alloc [(.int .i64 0), (.int .i64 0), (.int .i64 0), (.int .i64 0), (.int .i64 0), .nils], [], none⟩,
     ⟨none, .store 6, [.t 23, .t 236], none⟩])
   (.seq (.reg [⟨(some 237), .faddr 3, [.t 23], none⟩,
     ⟨none, .store 1, [.t 237, .c (.int .i64 16)], none⟩])
   (.seq (.draw [0, 0, 0, 7, 15, 31, 31, 127] [⟨(some 239), .load 6 true, [.t 23], none⟩,
     ⟨(some 240), .call 36, [], none⟩,
     ⟨(some 241), .mkslice 1 3, [.c (.int .i64 1), .c (.int .i64 1)], none⟩,
     ⟨(some 242), .call 40, [.t 239, .t 240, .t 241, .c .nils, .c .nils], none⟩,
     ⟨(some 238), .mov, [.t 242], none⟩,
     ⟨(some 243), .extract 0, [.t 238], none⟩,
     ⟨(some 244), .extract 1, [.t 238], none⟩,
     ⟨(some 14), .mov, [.t 244], none⟩])
   (.seq (.seq (.reg [⟨(some 245), .mov, [.t 6], none⟩,
     ⟨(some 246), .bin .neq, [.t 245, .c (.int .i64 0)], none⟩,
     ⟨(some 247), .mov, [.t 246], none⟩,
     ⟨(some 248), .mov, [.t 21], (some (247, false))⟩,
     ⟨(some 249), .bin .neq, [.t 248, .c (.str ⟨#[57, 43, 10]⟩)], (some (247, false))⟩,
     ⟨(some 250), .pick, [.t 247, .c (.bool true), .t 249], none⟩,
     ⟨(some 251), .mov, [.t 250], none⟩,
     ⟨(some 252), .mov, [.t 8], (some (251, false))⟩,
     ⟨(some 253), .bin .neq, [.t 252, .c (.int .i64 0)], (some (251, false))⟩,
     ⟨(some 254), .pick, [.t 251, .c (.bool true), .t 253], none⟩,
     ⟨(some 255), .mov, [.t 254], none⟩,
     ⟨(some 256), .mov, [.t 10], (some (255, false))⟩,
     ⟨(some 257), .bin .neq, [.t 256, .c (.int .i64 75)], (some (255, false))⟩,
     ⟨(some 258), .pick, [.t 255, .c (.bool true), .t 257], none⟩,
     ⟨(some 259), .mov, [.t 258], none⟩,
     ⟨(some 260), .mov, [.t 12], (some (259, false))⟩,
     ⟨(some 261), .bin .neq, [.t 260, .c (.int .i64 71)], (some (259, false))⟩,
     ⟨(some 262), .pick, [.t 259, .c (.bool true), .t 261], none⟩,
     ⟨(some 263), .mov, [.t 262], none⟩,
     ⟨(some 264), .mov, [.t 14], (some (263, false))⟩,
     ⟨(some 265), .bin .neq, [.t 264, .c (.int .i64 3)], (some (263, false))⟩,
     ⟨(some 266), .pick, [.t 263, .c (.bool true), .t 265], none⟩,
     ⟨(some 267), .mov, [.t 266], none⟩,
     ⟨(some 268), .load 2 true, [.t 22], (some (267, false))⟩,
     ⟨(some 269), .mkslice 1 3, [.c (.int .i64 1), .c (.int .i64 1), .c (.int .i64 1), .c (.int .i64 1), .c (.int .i64 1)], (some (267, false))⟩,
     ⟨(some 270), .mkslice 1 3, [.c (.int .i64 0), .c (.int .i64 0), .c (.int .i64 0), .c (.int .i64 0), .c (.int .i64 0)], (some (267, false))⟩,
     ⟨(some 271), .build [(.int .i64 0), .nils] [(0, 1), (1, 1)], [.c (.int .i64 7), .t 270], (some (267, false))⟩,
     ⟨(some 272), .mkslice 2 72, [.t 271], (some (267, false))⟩,
     ⟨(some 273), .build [.nils, .nils] [(0, 1), (1, 1)], [.t 269, .t 272], (some (267, false))⟩,
     ⟨(some 274), .call 41, [.t 268, .t 273], (some (267, false))⟩,
     ⟨(some 275), .un .not, [.t 274], (some (267, false))⟩,
     ⟨(some 276), .pick, [.t 267, .c (.bool true), .t 275], none⟩])
   (.cond (.t 276) (.seq (.reg [⟨(some 0), .mov, [.c (.bool false)], none⟩])
   .ret) .skip))
   (.seq (.reg [⟨(some 278), .call 42, [], none⟩,
     ⟨(some 279), .mkslice 1 3, [.c (.int .i64 0), .c (.int .i64 1)], none⟩,
     ⟨(some 280), .call 22, [.t 278, .t 279], none⟩,
     ⟨(some 277), .mov, [.t 280], none⟩,
     ⟨(some 281), .extract 0, [.t 277], none⟩,
     ⟨(some 282), .extract 1, [.t 277], none⟩,
     ⟨(some 24), .mov, [.t 281], none⟩,
     ⟨(some 6), .mov, [.t 282], none⟩])
   (.seq (.reg [⟨(some 284), .call 42, [], none⟩,
     ⟨(some 285), .mkslice 1 3, [.c (.int .i64 0), .c (.int .i64 2), .c (.int .i64 2)], none⟩,
     ⟨(some 286), .call 22, [.t 284, .t 285], none⟩,
     ⟨(some 283), .mov, [.t 286], none⟩,
     ⟨(some 287), .extract 0, [.t 283], none⟩,
     ⟨(some 288), .extract 1, [.t 283], none⟩,
     ⟨(some 25), .mov, [.t 287], none⟩,
     ⟨(some 8), .mov, [.t 288], none⟩])
   (.seq (.reg [⟨(some 290), .load 2 true, [.t 22], none⟩,
     ⟨(some 291), .call 26, [.t 290], none⟩,
     ⟨(some 289), .mov, [.t 291], none⟩,
     ⟨(some 292), .extract 0, [.t 289], none⟩,
     ⟨(some 293), .extract 1, [.t 289], none⟩,
     ⟨(some 294), .extract 2, [.t 289], none⟩,
     ⟨(some 10), .mov, [.t 294], none⟩])
   (.seq (.reg [⟨(some 296), .call 42, [], none⟩,
     ⟨(some 297), .call 29, [.t 296, .c (.int .i64 4)], none⟩,
     ⟨(some 295), .mov, [.t 297], none⟩,
     ⟨(some 298), .extract 0, [.t 295], none⟩,
     ⟨(some 299), .extract 1, [.t 295], none⟩,
     ⟨(some 12), .mov, [.t 299], none⟩])
   (.seq (.reg [⟨(some 301), .build [.nils, .nils] [], [], none⟩,
     ⟨(some 302), .call 26, [.t 301], none⟩,
     ⟨(some 300), .mov, [.t 302], none⟩,
     ⟨(some 303), .extract 0, [.t 300], none⟩,
     ⟨(some 304), .extract 1, [.t 300], none⟩,
     ⟨(some 305), .extract 2, [.t 300], none⟩,
     ⟨(some 26), .mov, [.t 303], none⟩,
     ⟨(some 27), .mov, [.t 304], none⟩,
     ⟨(some 14), .mov, [.t 305], none⟩])
   (.seq (.reg [⟨(some 307), .build [.nils, .nils] [], [], none⟩,
     ⟨(some 308), .build [(.int .i64 0), .nils] [(0, 1)], [.c (.int .i64 (-1))], none⟩,
     ⟨(some 309), .mkslice 2 60, [.t 308], none⟩,
     ⟨(some 310), .call 21, [.t 307, .t 309], none⟩,
     ⟨(some 306), .mov, [.t 310], none⟩,
     ⟨(some 311), .extract 0, [.t 306], none⟩,
     ⟨(some 312), .extract 1, [.t 306], none⟩,
     ⟨(some 28), .mov, [.t 311], none⟩,
     ⟨(some 16), .mov, [.t 312], none⟩])
   (.seq (.reg [⟨(some 314), .call 42, [], none⟩,
     ⟨(some 315), .call 21, [.t 314, .c .nils], none⟩,
     ⟨(some 313), .mov, [.t 315], none⟩,
     ⟨(some 316), .extract 0, [.t 313], none⟩,
     ⟨(some 317), .extract 1, [.t 313], none⟩,
     ⟨(some 18), .mov, [.t 317], none⟩])
   (.seq (.reg [⟨(some 319), .call 42, [], none⟩,
     ⟨(some 320), .build [(.int .i64 0), .nils] [(0, 1)], [.c (.int .i64 3)], none⟩,
     ⟨(some 321), .mkslice 1 3, [.c (.int .i64 0), .c (.int .i64 0)], none⟩,
     ⟨(some 322), .build [(.int .i64 0), .nils] [(0, 1), (1, 1)], [.c (.int .i64 (-1)), .t 321], none⟩,
     ⟨(some 323), .mkslice 1 3, [.c (.int .i64 2), .c (.int .i64 3)], none⟩,
     ⟨(some 324), .build [(.int .i64 0), .nils] [(0, 1), (1, 1)], [.c (.int .i64 (-1)), .t 323], none⟩,
     ⟨(some 325), .mkslice 2 60, [.t 320, .t 322, .t 324], none⟩,
     ⟨(some 326), .call 21, [.t 319, .t 325], none⟩,
     ⟨(some 318), .mov, [.t 326], none⟩,
     ⟨(some 327), .extract 0, [.t 318], none⟩,
     ⟨(some 328), .extract 1, [.t 318], none⟩,
     ⟨(some 29), .mov, [.t 327], none⟩,
     ⟨(some 20), .mov, [.t 328], none⟩])
   (.seq (.reg [⟨(some 329), .mov, [.t 6], none⟩,
     ⟨(some 330), .bin .eql, [.t 329, .c (.int .i64 0)], none⟩,
     ⟨(some 331), .mov, [.t 330], none⟩,
     ⟨(some 332), .mov, [.t 24], (some (331, true))⟩,
     ⟨(some 333), .pick, [.t 331, .t 332, .c (.bool false)], none⟩,
     ⟨(some 334), .mov, [.t 333], none⟩,
     ⟨(some 335), .mov, [.t 8], (some (334, true))⟩,
     ⟨(some 336), .bin .eql, [.t 335, .c (.int .i64 75)], (some (334, true))⟩,
     ⟨(some 337), .pick, [.t 334, .t 336, .c (.bool false)], none⟩,
     ⟨(some 338), .mov, [.t 337], none⟩,
     ⟨(some 339), .mov, [.t 25], (some (338, true))⟩,
     ⟨(some 340), .un .not, [.t 339], (some (338, true))⟩,
     ⟨(some 341), .pick, [.t 338, .t 340, .c (.bool false)], none⟩,
     ⟨(some 342), .mov, [.t 341], none⟩,
     ⟨(some 343), .mov, [.t 10], (some (342, true))⟩,
     ⟨(some 344), .bin .eql, [.t 343, .c (.int .i64 4)], (some (342, true))⟩,
     ⟨(some 345), .pick, [.t 342, .t 344, .c (.bool false)], none⟩,
     ⟨(some 346), .mov, [.t 345], none⟩,
     ⟨(some 347), .mov, [.t 12], (some (346, true))⟩,
     ⟨(some 348), .bin .eql, [.t 347, .c (.int .i64 75)], (some (346, true))⟩,
     ⟨(some 349), .pick, [.t 346, .t 348, .c (.bool false)], none⟩,
     ⟨(some 350), .mov, [.t 349], none⟩,
     ⟨(some 351), .mov, [.t 14], (some (350, true))⟩,
     ⟨(some 352), .bin .eql, [.t 351, .c (.int .i64 0)], (some (350, true))⟩,
     ⟨(some 353), .pick, [.t 350, .t 352, .c (.bool false)], none⟩,
     ⟨(some 354), .mov, [.t 353], none⟩,
     ⟨(some 355), .mov, [.t 26], (some (354, true))⟩,
     ⟨(some 356), .len false, [.t 355], (some (354, true))⟩,
     ⟨(some 357), .bin .eql, [.t 356, .c (.int .i64 0)], (some (354, true))⟩,
     ⟨(some 358), .pick, [.t 354, .t 357, .c (.bool false)], none⟩,
     ⟨(some 359), .mov, [.t 358], none⟩,
     ⟨(some 360), .mov, [.t 27], (some (359, true))⟩,
     ⟨(some 361), .bin .eql, [.t 360, .c (.int .i64 0)], (some (359, true))⟩,
     ⟨(some 362), .pick, [.t 359, .t 361, .c (.bool false)], none⟩,
     ⟨(some 363), .mov, [.t 362], none⟩,
     ⟨(some 364), .mov, [.t 16], (some (363, true))⟩,
     ⟨(some 365), .bin .eql, [.t 364, .c (.int .i64 0)], (some (363, true))⟩,
     ⟨(some 366), .pick, [.t 363, .t 365, .c (.bool false)], none⟩,
     ⟨(some 367), .mov, [.t 366], none⟩,
     ⟨(some 368), .mov, [.t 28], (some (367, true))⟩,
     ⟨(some 369), .bin .eql, [.t 368, .c (.int .i64 0)], (some (367, true))⟩,
     ⟨(some 370), .pick, [.t 367, .t 369, .c (.bool false)], none⟩,
     ⟨(some 371), .mov, [.t 370], none⟩,
     ⟨(some 372), .mov, [.t 18], (some (371, true))⟩,
     ⟨(some 373), .bin .eql, [.t 372, .c (.int .i64 76)], (some (371, true))⟩,
     ⟨(some 374), .pick, [.t 371, .t 373, .c (.bool false)], none⟩,
     ⟨(some 375), .mov, [.t 374], none⟩,
     ⟨(some 376), .mov, [.t 20], (some (375, true))⟩,
     ⟨(some 377), .bin .eql, [.t 376, .c (.int .i64 0)], (some (375, true))⟩,
     ⟨(some 378), .pick, [.t 375, .t 377, .c (.bool false)], none⟩,
     ⟨(some 379), .mov, [.t 378], none⟩,
     ⟨(some 380), .mov, [.t 29], (some (379, true))⟩,
     ⟨(some 381), .bin .eql, [.t 380, .c (.int .i64 6)], (some (379, true))⟩,
     ⟨(some 382), .pick, [.t 379, .t 381, .c (.bool false)], none⟩,
     ⟨(some 383), .mov, [.t 382], none⟩,
     ⟨(some 384), .pick, [.t 383, .c (.bool true), .c (.bool false)], none⟩,
     ⟨(some 385), .mov, [.t 384], none⟩,
     ⟨(some 386), .call 14, [], (some (385, true))⟩,
     ⟨(some 387), .pick, [.t 385, .t 386, .c (.bool false)], none⟩,
     ⟨(some 0), .mov, [.t 387], none⟩])
   .ret)))))))))))))))))))))))))))))))))))))
theorem chk.law07_BinKnown : chkF Tryd.prog 10 = some (388, ir.law07_BinKnown, [.tmp 0]) := by kernel_rfl

/-- paravane/bin.Covers -/
abbrev F.bin_Covers : Nat := 22
def ir.bin_Covers : IC :=
 (.seq (.reg [⟨(some 2), .box, [.t 0], none⟩,
     ⟨(some 4), .mov, [.c (.bool false)], none⟩,
     ⟨(some 5), .mov, [.c (.int .i64 0)], none⟩])
   (.seq (.seq (.reg [⟨(some 9), .load 2 true, [.t 2], none⟩,
     ⟨(some 10), .call 24, [.t 9], none⟩,
     ⟨(some 6), .mov, [.t 10], none⟩])
   (.seq (.reg [⟨(some 11), .mov, [.t 6], none⟩,
     ⟨(some 12), .bin .neq, [.t 11, .c (.int .i64 0)], none⟩])
   (.cond (.t 12) (.seq (.reg [⟨(some 13), .mov, [.t 6], none⟩,
     ⟨(some 4), .mov, [.c (.bool false)], none⟩,
     ⟨(some 5), .mov, [.t 13], none⟩])
   .ret) .skip)))
   (.seq (.reg [⟨(some 15), .load 2 true, [.t 2], none⟩,
     ⟨(some 16), .mov, [.t 1], none⟩,
     ⟨(some 17), .call 59, [.t 15, .t 16], none⟩,
     ⟨(some 14), .mov, [.t 17], none⟩,
     ⟨(some 18), .extract 0, [.t 14], none⟩,
     ⟨(some 19), .extract 1, [.t 14], none⟩,
     ⟨(some 7), .mov, [.t 18], none⟩,
     ⟨(some 8), .mov, [.t 19], none⟩])
   (.seq (.seq (.reg [⟨(some 20), .mov, [.t 8], none⟩,
     ⟨(some 21), .un .not, [.t 20], none⟩])
   (.cond (.t 21) (.seq (.reg [⟨(some 4), .mov, [.c (.bool false)], none⟩,
     ⟨(some 5), .mov, [.c (.int .i64 75)], none⟩])
   .ret) .skip))
   (.seq (.reg [⟨(some 22), .load 2 true, [.t 2], none⟩,
     ⟨(some 23), .mov, [.t 7], none⟩,
     ⟨(some 24), .call 60, [.t 22, .t 23], none⟩,
     ⟨(some 4), .mov, [.t 24], none⟩,
     ⟨(some 5), .mov, [.c (.int .i64 0)], none⟩])
   .ret)))))
theorem chk.bin_Covers : chkF Tryd.prog 22 = some (25, ir.bin_Covers, [.tmp 4, .tmp 5]) := by kernel_rfl

/-- paravane/paravaneref00.Own -/
abbrev F.ref00_Own : Nat := 31
def ir.ref00_Own : IC :=
 (.seq (.reg [⟨(some 2), .mov, [.c .nils], none⟩])
   (.seq (.reg [⟨(some 3), .mov, [.c .nils], none⟩])
   (.seq (.reg [⟨(some 4), .mov, [.t 3], none⟩,
     ⟨(some 5), .mov, [.t 0], none⟩,
     ⟨(some 6), .append 1 8 3, [.t 4, .t 5], none⟩,
     ⟨(some 2), .mov, [.t 6], none⟩])
   .ret)))
theorem chk.ref00_Own : chkF Tryd.prog 31 = some (7, ir.ref00_Own, [.tmp 2]) := by kernel_rfl

/-- paravane/bin.Build -/
abbrev F.bin_Build : Nat := 40
def ir.bin_Build : IC :=
 (.seq (.reg [⟨(some 5), .box, [.t 0], none⟩,
     ⟨(some 6), .box, [.t 1], none⟩,
     ⟨(some 10), .alloc [.nils, .nils], [], none⟩,
     ⟨(some 11), .mov, [.c (.int .i64 0)], none⟩])
   (.seq (.reg [⟨(some 29), .load 6 true, [.t 5], none⟩,
     ⟨(some 30), .load 2 true, [.t 6], none⟩,
     ⟨(some 31), .call 53, [.t 29, .t 30], none⟩,
     ⟨(some 28), .mov, [.t 31], none⟩,
     ⟨(some 32), .extract 0, [.t 28], none⟩,
     ⟨(some 33), .extract 1, [.t 28], none⟩,
     ⟨(some 12), .alloc [(.int .i64 0), (.int .i64 0), (.int .i64 0), (.int .i64 0), (.int .i64 0), .nils, .nils, .nils], [], none⟩,
     ⟨none, .store 8, [.t 12, .t 32], none⟩,
     ⟨(some 13), .mov, [.t 33], none⟩])
   (.seq (.seq (.reg [⟨(some 34), .mov, [.t 13], none⟩,
     ⟨(some 35), .bin .neq, [.t 34, .c (.int .i64 0)], none⟩])
   (.cond (.t 35) (.seq (.reg [⟨(some 36), .build [.nils, .nils] [], [], none⟩,
     ⟨(some 37), .mov, [.t 13], none⟩,
     ⟨none, .store 2, [.t 10, .t 36], none⟩,
     ⟨(some 11), .mov, [.t 37], none⟩])
   .ret) .skip))
   (.seq (.seq (.reg [⟨(some 38), .load 6 true, [.t 5], none⟩,
     ⟨(some 39), .mov, [.t 2], none⟩,
     ⟨(some 40), .call 71, [.t 38, .t 39], none⟩,
     ⟨(some 41), .un .not, [.t 40], none⟩])
   (.cond (.t 41) (.seq (.reg [⟨(some 42), .build [.nils, .nils] [], [], none⟩,
     ⟨none, .store 2, [.t 10, .t 42], none⟩,
     ⟨(some 11), .mov, [.c (.int .i64 73)], none⟩])
   .ret) .skip))
   (.seq (.seq (.reg [⟨(some 43), .mov, [.t 3], none⟩,
     ⟨(some 44), .len false, [.t 43], none⟩,
     ⟨(some 45), .mov, [.c (.int .i64 0)], none⟩])
   (.block 0 (.loop (.seq (.reg [⟨(some 46), .bin .lss, [.t 45, .t 44], none⟩])
   (.seq (.cond (.t 46) .skip (.exit 0))
   (.seq (.block 1 (.seq (.reg [⟨(some 47), .iaddrS 2, [.t 43, .t 45], none⟩,
     ⟨(some 48), .load 2 true, [.t 47], none⟩,
     ⟨(some 15), .alloc [.nils, .nils], [], none⟩,
     ⟨none, .store 2, [.t 15, .t 48], none⟩])
   (.seq (.reg [⟨(some 49), .load 2 true, [.t 15], none⟩,
     ⟨(some 50), .call 37, [.t 49], none⟩,
     ⟨(some 16), .mov, [.t 50], none⟩])
   (.seq (.reg [⟨(some 51), .mov, [.t 16], none⟩,
     ⟨(some 52), .bin .neq, [.t 51, .c (.int .i64 0)], none⟩])
   (.cond (.t 52) (.seq (.reg [⟨(some 53), .build [.nils, .nils] [], [], none⟩,
     ⟨(some 54), .mov, [.t 16], none⟩,
     ⟨none, .store 2, [.t 10, .t 53], none⟩,
     ⟨(some 11), .mov, [.t 54], none⟩])
   .ret) .skip)))))
   (.reg [⟨(some 55), .bin .add, [.t 45, .c (.int .i64 1)], none⟩,
     ⟨(some 45), .mov, [.t 55], none⟩])))))))
   (.seq (.seq (.reg [⟨(some 56), .mov, [.t 3], none⟩,
     ⟨(some 57), .len false, [.t 56], none⟩,
     ⟨(some 58), .bin .gtr, [.t 57, .c (.int .i64 10)], none⟩,
     ⟨(some 59), .mov, [.t 58], none⟩,
     ⟨(some 60), .mov, [.t 4], (some (59, false))⟩,
     ⟨(some 61), .len false, [.t 60], (some (59, false))⟩,
     ⟨(some 62), .mov, [.t 3], (some (59, false))⟩,
     ⟨(some 63), .len false, [.t 62], (some (59, false))⟩,
     ⟨(some 64), .bin .neq, [.t 61, .t 63], (some (59, false))⟩,
     ⟨(some 65), .pick, [.t 59, .c (.bool true), .t 64], none⟩,
     ⟨(some 66), .mov, [.t 65], none⟩,
     ⟨(some 67), .mov, [.t 4], (some (66, false))⟩,
     ⟨(some 68), .call 45, [.t 67, .c (.func (.func 75) [] [])], (some (66, false))⟩,
     ⟨(some 69), .pick, [.t 66, .c (.bool true), .t 68], none⟩])
   (.cond (.t 69) (.seq (.reg [⟨(some 70), .build [.nils, .nils] [], [], none⟩,
     ⟨none, .store 2, [.t 10, .t 70], none⟩,
     ⟨(some 11), .mov, [.c (.int .i64 75)], none⟩])
   .ret) .skip))
   (.seq (.reg [⟨(some 71), .load 8 true, [.t 12], none⟩,
     ⟨(some 72), .mov, [.t 2], none⟩,
     ⟨(some 73), .call 72, [.t 71, .t 72], none⟩,
     ⟨(some 17), .mov, [.t 73], none⟩])
   (.seq (.seq (.reg [⟨(some 74), .mov, [.t 17], none⟩,
     ⟨(some 75), .len false, [.t 74], none⟩,
     ⟨(some 76), .bin .gtr, [.t 75, .c (.int .i64 16)], none⟩])
   (.cond (.t 76) (.seq (.reg [⟨(some 77), .build [.nils, .nils] [], [], none⟩,
     ⟨none, .store 2, [.t 10, .t 77], none⟩,
     ⟨(some 11), .mov, [.c (.int .i64 3)], none⟩])
   .ret) .skip))
   (.seq (.reg [⟨(some 18), .alloc [.nils, .nils], [], none⟩])
   (.seq (.seq (.reg [⟨(some 78), .mov, [.t 17], none⟩,
     ⟨(some 79), .len false, [.t 78], none⟩,
     ⟨(some 80), .mov, [.c (.int .i64 0)], none⟩])
   (.block 2 (.loop (.seq (.reg [⟨(some 81), .bin .lss, [.t 80, .t 79], none⟩])
   (.seq (.cond (.t 81) .skip (.exit 2))
   (.seq (.block 3 (.seq (.reg [⟨(some 82), .iaddrS 3, [.t 78, .t 80], none⟩,
     ⟨(some 83), .load 3 true, [.t 82], none⟩,
     ⟨(some 20), .alloc [(.int .i64 0), (.int .i64 0), (.int .i64 0)], [], none⟩,
     ⟨none, .store 3, [.t 20, .t 83], none⟩])
   (.reg [⟨(some 84), .faddr 0, [.t 18], none⟩,
     ⟨(some 85), .load 1 false, [.t 84], none⟩,
     ⟨(some 86), .faddr 2, [.t 20], none⟩,
     ⟨(some 87), .load 1 false, [.t 86], none⟩,
     ⟨(some 88), .mkslice 1 3, [.t 87], none⟩,
     ⟨(some 89), .append 1 8 3, [.t 85, .t 88], none⟩,
     ⟨(some 90), .faddr 0, [.t 18], none⟩,
     ⟨none, .store 1, [.t 90, .t 89], none⟩])))
   (.reg [⟨(some 91), .bin .add, [.t 80, .c (.int .i64 1)], none⟩,
     ⟨(some 80), .mov, [.t 91], none⟩])))))))
   (.seq (.seq (.reg [⟨(some 92), .mov, [.t 3], none⟩,
     ⟨(some 93), .len false, [.t 92], none⟩,
     ⟨(some 94), .mov, [.c (.int .i64 0)], none⟩])
   (.block 4 (.loop (.seq (.reg [⟨(some 95), .bin .lss, [.t 94, .t 93], none⟩])
   (.seq (.cond (.t 95) .skip (.exit 4))
   (.seq (.block 5 (.seq (.reg [⟨(some 96), .mov, [.t 94], none⟩,
     ⟨(some 97), .iaddrS 2, [.t 92, .t 94], none⟩,
     ⟨(some 98), .load 2 true, [.t 97], none⟩,
     ⟨(some 22), .alloc [.nils, .nils], [], none⟩,
     ⟨(some 21), .mov, [.t 96], none⟩,
     ⟨none, .store 2, [.t 22, .t 98], none⟩])
   (.seq (.reg [⟨(some 99), .load 6 true, [.t 5], none⟩,
     ⟨(some 100), .load 2 true, [.t 22], none⟩,
     ⟨(some 101), .call 76, [.t 99, .t 100], none⟩,
     ⟨(some 23), .alloc [(.int .i64 0), (.int .i64 0), (.int .i64 0), (.int .i64 0), (.int .i64 0), .nils, .nils, .nils], [], none⟩,
     ⟨none, .store 8, [.t 23, .t 101], none⟩])
   (.seq (.reg [⟨(some 102), .load 8 true, [.t 23], none⟩,
     ⟨(some 103), .load 8 true, [.t 23], none⟩,
     ⟨(some 104), .mkfunc (.func 54) 1, [.t 103], none⟩,
     ⟨(some 105), .call 56, [.t 102, .t 104], none⟩,
     ⟨(some 24), .mov, [.t 105], none⟩])
   (.seq (.reg [⟨(some 106), .mov, [.t 4], none⟩,
     ⟨(some 107), .mov, [.t 21], none⟩,
     ⟨(some 108), .iaddrS 1, [.t 106, .t 107], none⟩,
     ⟨(some 109), .load 1 false, [.t 108], none⟩,
     ⟨(some 110), .build [(.int .i64 0), .nils] [(0, 1)], [.t 109], none⟩,
     ⟨(some 25), .alloc [(.int .i64 0), .nils], [], none⟩,
     ⟨none, .store 2, [.t 25, .t 110], none⟩])
   (.seq (.seq (.reg [⟨(some 111), .mov, [.t 17], none⟩,
     ⟨(some 112), .len false, [.t 111], none⟩,
     ⟨(some 113), .mov, [.c (.int .i64 0)], none⟩])
   (.block 6 (.loop (.seq (.reg [⟨(some 114), .bin .lss, [.t 113, .t 112], none⟩])
   (.seq (.cond (.t 114) .skip (.exit 6))
   (.seq (.block 7 (.seq (.reg [⟨(some 115), .iaddrS 3, [.t 111, .t 113], none⟩,
     ⟨(some 116), .load 3 true, [.t 115], none⟩,
     ⟨(some 27), .alloc [(.int .i64 0), (.int .i64 0), (.int .i64 0)], [], none⟩,
     ⟨none, .store 3, [.t 27, .t 116], none⟩])
   (.draw [0, 1, 0, 0, 8, 28, 60, 0, 128, 508, 1020, 2044, 4092, 8191, 16383, 32767] [⟨(some 117), .faddr 1, [.t 25], none⟩,
     ⟨(some 118), .load 1 false, [.t 117], none⟩,
     ⟨(some 119), .mov, [.t 24], none⟩,
     ⟨(some 120), .faddr 0, [.t 27], none⟩,
     ⟨(some 121), .load 1 false, [.t 120], none⟩,
     ⟨(some 122), .iaddrS 1, [.t 119, .t 121], none⟩,
     ⟨(some 123), .load 1 false, [.t 122], none⟩,
     ⟨(some 124), .faddr 1, [.t 27], none⟩,
     ⟨(some 125), .load 1 false, [.t 124], none⟩,
     ⟨(some 126), .iaddrS 1, [.t 123, .t 125], none⟩,
     ⟨(some 127), .load 1 false, [.t 126], none⟩,
     ⟨(some 128), .minmax false, [.c (.int .i64 100), .t 127], none⟩,
     ⟨(some 129), .mkslice 1 3, [.t 128], none⟩,
     ⟨(some 130), .append 1 8 3, [.t 118, .t 129], none⟩,
     ⟨(some 131), .faddr 1, [.t 25], none⟩,
     ⟨none, .store 1, [.t 131, .t 130], none⟩])))
   (.reg [⟨(some 132), .bin .add, [.t 113, .c (.int .i64 1)], none⟩,
     ⟨(some 113), .mov, [.t 132], none⟩])))))))
   (.reg [⟨(some 133), .faddr 1, [.t 18], none⟩,
     ⟨(some 134), .load 1 false, [.t 133], none⟩,
     ⟨(some 135), .load 2 true, [.t 25], none⟩,
     ⟨(some 136), .mkslice 2 72, [.t 135], none⟩,
     ⟨(some 137), .append 2 32 72, [.t 134, .t 136], none⟩,
     ⟨(some 138), .faddr 1, [.t 18], none⟩,
     ⟨none, .store 1, [.t 138, .t 137], none⟩])))))))
   (.reg [⟨(some 139), .bin .add, [.t 94, .c (.int .i64 1)], none⟩,
     ⟨(some 94), .mov, [.t 139], none⟩])))))))
   (.seq (.reg [⟨(some 140), .load 2 true, [.t 18], none⟩,
     ⟨none, .store 2, [.t 10, .t 140], none⟩,
     ⟨(some 11), .mov, [.c (.int .i64 0)], none⟩])
   .ret))))))))))))
theorem chk.bin_Build : chkF Tryd.prog 40 = some (141, ir.bin_Build, [.cell 10 56, .tmp 11]) := by kernel_rfl

/-- paravane/paravanelaw07.alike -/
abbrev F.law07_alike : Nat := 41
def ir.law07_alike : IC :=
 (.seq (.reg [⟨(some 2), .box, [.t 0], none⟩,
     ⟨(some 3), .box, [.t 1], none⟩,
     ⟨(some 4), .mov, [.c (.bool false)], none⟩])
   (.seq (.seq (.reg [⟨(some 6), .faddr 0, [.t 2], none⟩,
     ⟨(some 7), .load 1 false, [.t 6], none⟩,
     ⟨(some 8), .faddr 0, [.t 3], none⟩,
     ⟨(some 9), .load 1 false, [.t 8], none⟩,
     ⟨(some 10), .call 28, [.t 7, .t 9], none⟩,
     ⟨(some 11), .un .not, [.t 10], none⟩,
     ⟨(some 12), .mov, [.t 11], none⟩,
     ⟨(some 13), .faddr 1, [.t 2], (some (12, false))⟩,
     ⟨(some 14), .load 1 false, [.t 13], (some (12, false))⟩,
     ⟨(some 15), .len false, [.t 14], (some (12, false))⟩,
     ⟨(some 16), .faddr 1, [.t 3], (some (12, false))⟩,
     ⟨(some 17), .load 1 false, [.t 16], (some (12, false))⟩,
     ⟨(some 18), .len false, [.t 17], (some (12, false))⟩,
     ⟨(some 19), .bin .neq, [.t 15, .t 18], (some (12, false))⟩,
     ⟨(some 20), .pick, [.t 12, .c (.bool true), .t 19], none⟩])
   (.cond (.t 20) (.seq (.reg [⟨(some 4), .mov, [.c (.bool false)], none⟩])
   .ret) .skip))
   (.seq (.seq (.reg [⟨(some 5), .mov, [.c (.int .i64 0)], none⟩])
   (.block 0 (.loop (.seq (.seq (.reg [⟨(some 21), .mov, [.t 5], none⟩,
     ⟨(some 22), .faddr 1, [.t 2], none⟩,
     ⟨(some 23), .load 1 false, [.t 22], none⟩,
     ⟨(some 24), .len false, [.t 23], none⟩,
     ⟨(some 25), .bin .lss, [.t 21, .t 24], none⟩])
   (.cond (.t 25) .skip (.exit 0)))
   (.seq (.block 1 (.seq (.draw [0, 1, 0, 7, 15, 31, 0, 64, 0, 448, 960, 1984, 4095, 8191, 16383, 32767, 16383, 131071, 262143, 524287, 16383, 1064959, 16383, 7356415, 15745023, 32522239, 67108863, 134217727, 268435455] [⟨(some 28), .faddr 1, [.t 2], none⟩,
     ⟨(some 29), .load 1 false, [.t 28], none⟩,
     ⟨(some 30), .mov, [.t 5], none⟩,
     ⟨(some 31), .iaddrS 2, [.t 29, .t 30], none⟩,
     ⟨(some 32), .faddr 0, [.t 31], none⟩,
     ⟨(some 33), .load 1 false, [.t 32], none⟩,
     ⟨(some 34), .faddr 1, [.t 3], none⟩,
     ⟨(some 35), .load 1 false, [.t 34], none⟩,
     ⟨(some 36), .mov, [.t 5], none⟩,
     ⟨(some 37), .iaddrS 2, [.t 35, .t 36], none⟩,
     ⟨(some 38), .faddr 0, [.t 37], none⟩,
     ⟨(some 39), .load 1 false, [.t 38], none⟩,
     ⟨(some 40), .bin .neq, [.t 33, .t 39], none⟩,
     ⟨(some 41), .mov, [.t 40], none⟩,
     ⟨(some 42), .faddr 1, [.t 2], (some (41, false))⟩,
     ⟨(some 43), .load 1 false, [.t 42], (some (41, false))⟩,
     ⟨(some 44), .mov, [.t 5], (some (41, false))⟩,
     ⟨(some 45), .iaddrS 2, [.t 43, .t 44], (some (41, false))⟩,
     ⟨(some 46), .faddr 1, [.t 45], (some (41, false))⟩,
     ⟨(some 47), .load 1 false, [.t 46], (some (41, false))⟩,
     ⟨(some 48), .faddr 1, [.t 3], (some (41, false))⟩,
     ⟨(some 49), .load 1 false, [.t 48], (some (41, false))⟩,
     ⟨(some 50), .mov, [.t 5], (some (41, false))⟩,
     ⟨(some 51), .iaddrS 2, [.t 49, .t 50], (some (41, false))⟩,
     ⟨(some 52), .faddr 1, [.t 51], (some (41, false))⟩,
     ⟨(some 53), .load 1 false, [.t 52], (some (41, false))⟩,
     ⟨(some 54), .call 28, [.t 47, .t 53], (some (41, false))⟩,
     ⟨(some 55), .un .not, [.t 54], (some (41, false))⟩,
     ⟨(some 56), .pick, [.t 41, .c (.bool true), .t 55], none⟩])
   (.cond (.t 56) (.seq (.reg [⟨(some 4), .mov, [.c (.bool false)], none⟩])
   .ret) .skip)))
   (.reg [⟨(some 26), .mov, [.t 5], none⟩,
     ⟨(some 27), .bin .add, [.t 26, .c (.int .i64 1)], none⟩,
     ⟨(some 5), .mov, [.t 27], none⟩]))))))
   (.seq (.reg [⟨(some 4), .mov, [.c (.bool true)], none⟩])
   .ret))))
theorem chk.law07_alike : chkF Tryd.prog 41 = some (57, ir.law07_alike, [.tmp 4]) := by kernel_rfl

/-- paravane/bin.bits -/
abbrev F.bin_bits : Nat := 59
def ir.bin_bits : IC :=
 (.seq (.reg [⟨(some 2), .box, [.t 0], none⟩,
     ⟨(some 4), .mov, [.c (.int .i64 0)], none⟩,
     ⟨(some 5), .mov, [.c (.bool false)], none⟩])
   (.seq (.reg [⟨(some 6), .mov, [.c (.int .i64 0)], none⟩,
     ⟨(some 7), .mov, [.c (.int .i64 (-1))], none⟩])
   (.seq (.seq (.reg [⟨(some 10), .mov, [.t 1], none⟩,
     ⟨(some 11), .len false, [.t 10], none⟩,
     ⟨(some 12), .mov, [.c (.int .i64 0)], none⟩])
   (.block 0 (.loop (.seq (.reg [⟨(some 13), .bin .lss, [.t 12, .t 11], none⟩])
   (.seq (.cond (.t 13) .skip (.exit 0))
   (.seq (.block 1 (.seq (.reg [⟨(some 14), .iaddrS 1, [.t 10, .t 12], none⟩,
     ⟨(some 15), .load 1 false, [.t 14], none⟩,
     ⟨(some 9), .mov, [.t 15], none⟩])
   (.seq (.seq (.reg [⟨(some 16), .mov, [.t 9], none⟩,
     ⟨(some 17), .mov, [.t 7], none⟩,
     ⟨(some 18), .bin .add, [.t 17, .c (.int .i64 1)], none⟩,
     ⟨(some 19), .faddr 1, [.t 2], none⟩,
     ⟨(some 20), .load 1 false, [.t 19], none⟩,
     ⟨(some 21), .len false, [.t 20], none⟩,
     ⟨(some 22), .bin .sub, [.t 21, .c (.int .i64 1)], none⟩,
     ⟨(some 23), .call 47, [.t 16, .t 18, .t 22], none⟩,
     ⟨(some 24), .un .not, [.t 23], none⟩])
   (.cond (.t 24) (.seq (.reg [⟨(some 4), .mov, [.c (.int .i64 0)], none⟩,
     ⟨(some 5), .mov, [.c (.bool false)], none⟩])
   .ret) .skip))
   (.reg [⟨(some 25), .mov, [.t 6], none⟩,
     ⟨(some 26), .mov, [.t 9], none⟩,
     ⟨(some 27), .bin .shl, [.c (.int .i64 1), .t 26], none⟩,
     ⟨(some 28), .bin .or, [.t 25, .t 27], none⟩,
     ⟨(some 29), .mov, [.t 9], none⟩,
     ⟨(some 6), .mov, [.t 28], none⟩,
     ⟨(some 7), .mov, [.t 29], none⟩]))))
   (.reg [⟨(some 30), .bin .add, [.t 12, .c (.int .i64 1)], none⟩,
     ⟨(some 12), .mov, [.t 30], none⟩])))))))
   (.seq (.reg [⟨(some 31), .mov, [.t 6], none⟩,
     ⟨(some 4), .mov, [.t 31], none⟩,
     ⟨(some 5), .mov, [.c (.bool true)], none⟩])
   .ret))))
theorem chk.bin_bits : chkF Tryd.prog 59 = some (32, ir.bin_bits, [.tmp 4, .tmp 5]) := by kernel_rfl

/-- paravane/bin.Build$1 -/
abbrev F.bin_Build_1 : Nat := 75
def ir.bin_Build_1 : IC :=
 (.seq (.reg [⟨(some 2), .mov, [.c (.bool false)], none⟩])
   (.seq (.reg [⟨(some 3), .mov, [.t 0], none⟩,
     ⟨(some 4), .call 47, [.t 3, .c (.int .i64 1), .c (.int .i64 1000)], none⟩,
     ⟨(some 5), .un .not, [.t 4], none⟩,
     ⟨(some 2), .mov, [.t 5], none⟩])
   .ret))
theorem chk.bin_Build_1 : chkF Tryd.prog 75 = some (6, ir.bin_Build_1, [.tmp 2]) := by kernel_rfl

end Go.Proofs.YtffoiccokigjcaaDoor

/-! Weakening inside a region. -/
set_option linter.unusedVariables false
set_option linter.unusedSimpArgs false
namespace Go.Proofs.YtffoiccokigjcaaDoor
open Go.Am

theorem stepsWeak {E : Env} {s s' : St} {i : Ins} {r : List Ins} {K : St → Prop} (h : Wk E s s') (k : Am.Steps E (i :: r) K s') : Am.Steps E (i :: r) K s := by
  refine Step1.raw fun slots ops o j ro n a w hh hc hs hi R Q next hn => ?_
  obtain ⟨h', R', hy⟩ := h a w hh R
  exact step_ok (k : Step1 E i (Am.Steps E r K) s') hc hs hi R' fun s'' a' w' h'' k R ey => hn s'' a' w' h'' k R (ey.trans hy)

theorem VLe.agg2 {a b c d : V} (h : VLe a c) (k : VLe b d) : VLe (.agg [a, b]) (.agg [c, d]) := .agg rfl fun i v u h1 h2 => by
  match i with
  | 0 => cases h1; cases h2; exact h
  | 1 => cases h1; cases h2; exact k
  | i + 2 => simp at h1

end Go.Proofs.YtffoiccokigjcaaDoor

/-! Contracts: Build. -/
set_option linter.unusedVariables false
set_option linter.unusedSimpArgs false
set_option maxRecDepth 40000
set_option maxHeartbeats 4000000
namespace Go.Proofs.YtffoiccokigjcaaDoor
open Go.Am
attribute [local simp] cells scalar mkv splice under2 under dem dem1 eB gridC sB laidC fourC eF layC eQ nfC intsV foldV eL sL

def eY (s : Ly) : V := .agg (layC s)
attribute [local simp] eY
def lySane (s : Ly) : Prop := s.nodes.length ≤ 9223372036854775807 ∧ s.traces.length ≤ 9223372036854775807

def addK (F : List (List Int)) (k : Int × Int × Int) : Int := min 100 (at2 F k.1.toNat k.2.1.toNat)
def addsK (F : List (List Int)) (K : List (Int × Int × Int)) : List Int := K.map (addK F)
def foldS (g : Gd) (s : Ly) : List (List Int) := cntN (layD g s) (sureT (layD g s))
def passesK (g : Gd) (K : List (Int × Int × Int)) (lines : List Ly) (costs : List Int) : List Ps := List.zipWith (fun s c => ⟨c, addsK (foldS g s) K⟩) lines costs
def buildN (g : Gd) (K : List (Int × Int × Int)) (lines : List Ly) (costs : List Int) : Nf := ⟨K.map (·.2.2), passesK g K lines costs⟩
def nf0 : Nf := ⟨[], []⟩

theorem c_build1 (n : Int) : C Tryd.prog F.bin_Build_1 [I n] (.bool (!btw n 1 1000)) := by
  refine C_of mixed chk.bin_Build_1 (by simp) fun S ok => ?_
  exact Tr.seqR rfl (by simp) (Tr.seqC rfl (by simp) (Steps.call rfl rfl (c_within n 1 1000) (Steps.fin rfl (by simp) (Tr.retX rfl rfl rfl rfl trivial))))

def BuildR (g : Gd) (s : Ly) (ns : List Int) (lines : List Ly) (costs : List Int) : V :=
  if gridOk g then (if layOk s then (if needOk g ns then (if lines.all layOk then (if lines.length ≤ 10 ∧ costs.length = lines.length ∧ (costs.any fun n => !btw n 1 1000) = false then
    (if (lacksL (layD g s) ns).length ≤ 16 then .tuple [.agg (nfC (buildN g (lacksL (layD g s) ns) lines costs)), I 0] else .tuple [.agg (nfC nf0), I 3]) else .tuple [.agg (nfC nf0), I 75]) else .tuple [.agg (nfC nf0), I 71]) else .tuple [.agg (nfC nf0), I 73]) else .tuple [.agg (nfC nf0), I 71]) else .tuple [.agg (nfC nf0), I 70]

theorem lackAt_mem {ns : List Int} {f : List (List Int)} {i k : Nat} {x : Int × Int × Int} (h : x ∈ lackAt ns f i k) : x.1 = i ∧ x.2.1 = k := by
  unfold lackAt at h
  split at h
  · rw [List.mem_singleton.1 h]; exact ⟨rfl, rfl⟩
  · cases h

theorem lacks_mem {L : Ld} {ns : List Int} {x : Int × Int × Int} (h : x ∈ lacksL L ns) : ∃ b c : Nat, x.1 = b ∧ x.2.1 = c ∧ b < nBins L.g ∧ c < ns.length := by
  unfold lacksL lackN at h
  obtain ⟨i, hi, h⟩ := List.mem_flatMap.1 h
  unfold lackRow at h
  obtain ⟨k, hk, h⟩ := List.mem_flatMap.1 h
  obtain ⟨h1, h2⟩ := lackAt_mem h
  have hi := List.mem_range.1 hi
  rw [cntN_len] at hi
  exact ⟨i, k, h1, h2, hi, List.mem_range.1 hk⟩

theorem zip_take {α β γ : Type} {f : α → β → γ} {l : List α} {m : List β} {k : Nat} (h1 : k < l.length) (h2 : k < m.length) : (List.zipWith f l m).take (k + 1) = (List.zipWith f l m).take k ++ [f l[k] m[k]] := by
  rw [List.take_add_one, List.getElem?_zipWith, List.getElem?_eq_getElem h1, List.getElem?_eq_getElem h2]; rfl

theorem c_Build {g : Gd} {s : Ly} (hl : g.cls.length ≤ 9223372036854775807) (hs0 : lySane s) {ns : List Int} (hns : ns.length ≤ 9223372036854775807) {lines : List Ly} (hln : lines.length ≤ 9223372036854775807) (hls : ∀ y ∈ lines, lySane y) {costs : List Int} (hcs : costs.length ≤ 9223372036854775807) :
    C Tryd.prog F.bin_Build [.agg (gridC g), .agg (layC s), intsV ns, .slice 0 2 (lines.map eY), intsV costs] (BuildR g s ns lines costs) := by
  have kb := c_begun hl hs0.1 hs0.2
  have kn := c_needed (g := g) (l := ns) hns
  unfold BuildR
  refine C_of mixed chk.bin_Build (by simp) fun S ok => ?_
  refine Tr.seqR rfl (by simp) ?_
  by_cases hg : gridOk g = true
  rotate_left
  · rw [if_neg hg] at kb ⊢
    refine Tr.seqC rfl (by simp) (Steps.call rfl rfl kb (Steps.fin rfl (by simp) ?_))
    refine Tr.seq (Tr.seqR rfl (by simp) (Tr.condT rfl (Tr.seqR rfl (by simp) ?_)))
    exact Tr.weak (s' := { env := [(10, .ptr 10 0), (11, I 70)], bx := [(10, ⟨nfC nf0, false⟩)], rw := [], log := [], stp := false }) (Wk.le (.cons rfl (.refl _) (.cons rfl (.refl _) .nil)) (.cons rfl (.cons (.nil 0 1) (.cons (.nil 0 2) .nil)) .nil) .nil rfl rfl) (Tr.retX rfl rfl rfl rfl trivial)
  rw [if_pos hg] at kb ⊢
  by_cases hs : layOk s = true
  rotate_left
  · rw [if_neg hs] at kb ⊢
    refine Tr.seqC rfl (by simp) (Steps.call rfl rfl kb (Steps.fin rfl (by simp) ?_))
    refine Tr.seq (Tr.seqR rfl (by simp) (Tr.condT rfl (Tr.seqR rfl (by simp) ?_)))
    exact Tr.weak (s' := { env := [(10, .ptr 10 0), (11, I 71)], bx := [(10, ⟨nfC nf0, false⟩)], rw := [], log := [], stp := false }) (Wk.le (.cons rfl (.refl _) (.cons rfl (.refl _) .nil)) (.cons rfl (.cons (.nil 0 1) (.cons (.nil 0 2) .nil)) .nil) .nil rfl rfl) (Tr.retX rfl rfl rfl rfl trivial)
  rw [if_pos hs] at kb ⊢
  have hL := lay_ok hg hs
  have nb := (nBins_eq hg).2
  have hcl4 : g.cls.length ≤ 4 := by obtain ⟨_, _, _, _, h, _⟩ := gridOk_spec hg; exact h.2
  refine Tr.seqC rfl (by simp) (Steps.call rfl rfl kb (Steps.fin rfl (by simp [laidC]) ?_))
  refine Tr.seq (Tr.seqR rfl (by simp) (Tr.condF rfl (Tr.skip ?_)))
  by_cases hne : needOk g ns = true
  rotate_left
  · rw [if_neg hne]
    rw [show needOk g ns = false by simpa using hne] at kn
    refine Tr.seq (Tr.seqC rfl (by simp) (Steps.call rfl rfl kn (Steps.fin rfl (by simp) (Tr.condT rfl (Tr.seqR rfl (by simp) ?_)))))
    exact Tr.weak (s' := { env := [(10, .ptr 10 0), (11, I 73)], bx := [(10, ⟨nfC nf0, false⟩)], rw := [], log := [], stp := false }) (Wk.le (.cons rfl (.refl _) (.cons rfl (.refl _) .nil)) (.cons rfl (.cons (.nil 0 1) (.cons (.nil 0 2) .nil)) .nil) .nil rfl rfl) (Tr.retX rfl rfl rfl rfl trivial)
  rw [if_pos hne]
  rw [hne] at kn
  have hnl := (needOk_spec hne).1
  refine Tr.seq (Tr.seqC rfl (by simp) (Steps.call rfl rfl kn (Steps.fin rfl (by simp) (Tr.condF rfl (Tr.skip ?_)))))
  obtain ⟨L, eL0⟩ : ∃ L, layD g s = L := ⟨_, rfl⟩
  have eLg : L.g = g := by rw [← eL0]; rfl
  rw [eL0] at hL ⊢
  refine Tr.seq (Tr.seqR rfl (by simp) (Tr.block ?_))
  refine Tr.loop (fun (k : Nat) st => (k ≤ lines.length ∧ (lines.take k).all layOk = true) ∧ st = { env := [(2, intsV ns), (3, .slice 0 2 (lines.map eY)), (4, intsV costs), (5, .ptr 5 0), (10, .ptr 10 0), (12, .ptr 12 0), (43, .slice 0 2 (lines.map eY)), (44, I (lines.length : Nat)), (45, I (k : Nat))], bx := [(12, ⟨laidC L, false⟩), (10, ⟨[.nils, .nils], false⟩), (5, ⟨gridC g, false⟩)], rw := [], log := [], stp := false }) (fun k => lines.length - k) 0
    (Wk.le (.cons rfl (.refl _) (.cons rfl (.refl _) (.cons rfl (.refl _) (.cons rfl (.refl _) (.cons rfl (.refl _) (.cons rfl (.refl _) (.cons rfl (.refl _) (.cons rfl (VLe.i (by simp)) (.cons rfl (.refl _) .nil))))))))) (.cons rfl (LLe.refl _) (.cons rfl (LLe.refl _) (.cons rfl (LLe.refl _) .nil))) .nil rfl rfl) ⟨⟨by omega, by simp⟩, rfl⟩ ?_
  rintro k st ⟨⟨hk, hall⟩, rfl⟩
  refine Tr.seqR rfl (by simp) (Tr.seqI rfl (fun h1 => ?_) (fun h1 => ?_))
  · have h1 : k < lines.length := by simpa using h1
    have hlk := hls _ (List.getElem_mem h1)
    have ky := c_CheckLayout (s := lines[k]) hlk.1 hlk.2
    refine Tr.skipT (Tr.seq (Tr.block ?_))
    refine Tr.seqN 1 rfl (by simp; omega) ?_
    rw [getD_map h1]
    refine Steps.fin rfl (by simp) ?_
    by_cases hy : layOk lines[k] = true
    rotate_left
    · have hall2 : ¬ lines.all layOk = true := fun h => hy (List.all_eq_true.1 h _ (List.getElem_mem h1))
      rw [if_neg hall2]
      rw [if_neg hy] at ky
      refine Tr.seqC rfl (by simp) (Steps.call rfl rfl ky (Steps.fin rfl (by simp) ?_))
      refine Tr.seqR rfl (by simp) (Tr.condT rfl (Tr.seqR rfl (by simp) ?_))
      exact Tr.weak (s' := { env := [(10, .ptr 10 0), (11, I 71)], bx := [(10, ⟨nfC nf0, false⟩)], rw := [], log := [], stp := false }) (Wk.le (.cons rfl (.refl _) (.cons rfl (.refl _) .nil)) (.cons rfl (.cons (.nil 0 1) (.cons (.nil 0 2) .nil)) .nil) .nil rfl rfl) (Tr.retX rfl rfl rfl rfl trivial)
    · rw [if_pos hy] at ky
      refine Tr.seqC rfl (by simp) (Steps.call rfl rfl ky (Steps.fin rfl (by simp) ?_))
      refine Tr.seqR rfl (by simp) (Tr.condF rfl (Tr.skip (Tr.regR rfl (by simp) ?_)))
      refine ⟨k + 1, _, Wk.le (.cons rfl (.refl _) (.cons rfl (.refl _) (.cons rfl (.refl _) (.cons rfl (.refl _) (.cons rfl (.refl _) (.cons rfl (.refl _) (.cons rfl (.refl _) (.cons rfl (.refl _) (.cons rfl (VLe.i (w64 (by omega) (by omega))) .nil))))))))) (.cons rfl (LLe.refl _) (.cons rfl (LLe.refl _) (.cons rfl (LLe.refl _) .nil))) .nil rfl rfl, ⟨⟨h1, by rw [all_take_succ h1, hall, hy]; rfl⟩, rfl⟩, by omega⟩
  have h1 : k = lines.length := by simp at h1; omega
  subst h1
  rw [List.take_length] at hall
  rw [if_pos hall]
  refine Tr.exit ?_
  have kc := c_containsI (p := fun n => !btw n 1 1000) (f := F.bin_Build_1) hcs (fun b _ => c_build1 b)
  refine Tr.seq (Tr.seqC rfl (by simp) (Steps.gcall rfl rfl rfl rfl (by simp) (fun _ => kc) (Steps.fin rfl (by simp) ?_)))
  have hcond : (bif (bif decide (((lines.map eY).length : Int) > 10) then true else (((costs.map I).length : Int) != ((lines.map eY).length : Int))) then true else costs.any fun n => !btw n 1 1000) = !decide (lines.length ≤ 10 ∧ costs.length = lines.length ∧ (costs.any fun n => !btw n 1 1000) = false) := by
    rw [List.length_map, List.length_map]
    by_cases a1 : lines.length ≤ 10
    · rw [decide_eq_false (show ¬ ((lines.length : Int) > 10) by omega)]
      by_cases a2 : costs.length = lines.length
      · rw [a2]
        cases a3 : (costs.any fun n => !btw n 1 1000) <;> simp [a1]
      · have : (((costs.length : Int)) != (lines.length : Int)) = true := by simp; omega
        rw [this]; simp [a2]
    · rw [decide_eq_true (show ((lines.length : Int) > 10) by omega)]; simp [a1]
  refine Tr.cond rfl rfl (fun h2 => ?_) (fun h2 => Tr.skip ?_)
  · have h2 : (bif (bif decide (((lines.map eY).length : Int) > 10) then true else (((costs.map I).length : Int) != ((lines.map eY).length : Int))) then true else costs.any fun n => !btw n 1 1000) = true := h2
    rw [hcond] at h2
    rw [if_neg (by simpa only [Bool.not_eq_true', decide_eq_false_iff_not] using h2)]
    refine Tr.seqR rfl (by simp) ?_
    exact Tr.weak (s' := { env := [(10, .ptr 10 0), (11, I 75)], bx := [(10, ⟨nfC nf0, false⟩)], rw := [], log := [], stp := false }) (Wk.le (.cons rfl (.refl _) (.cons rfl (.refl _) .nil)) (.cons rfl (.cons (.nil 0 1) (.cons (.nil 0 2) .nil)) .nil) .nil rfl rfl) (Tr.retX rfl rfl rfl rfl trivial)
  have h2 : (bif (bif decide (((lines.map eY).length : Int) > 10) then true else (((costs.map I).length : Int) != ((lines.map eY).length : Int))) then true else costs.any fun n => !btw n 1 1000) = false := h2
  rw [hcond] at h2
  have h2 : lines.length ≤ 10 ∧ costs.length = lines.length ∧ (costs.any fun n => !btw n 1 1000) = false := by simpa using h2
  rw [if_pos h2]
  have kl := c_lacks hL (ns := ns) (by rw [eLg]; exact hne)
  refine Tr.seqC rfl (by simp [laidC]) (Steps.call rfl rfl kl (Steps.fin rfl (by simp) ?_))
  have hmem : ∀ x ∈ lacksL L ns, ∃ b c : Nat, x.1 = b ∧ x.2.1 = c ∧ b < nBins g ∧ c < g.cls.length := fun x hx => by
    obtain ⟨b, c, h1, h2, h3, h4⟩ := lacks_mem hx
    rw [eLg] at h3
    exact ⟨b, c, h1, h2, h3, by omega⟩
  obtain ⟨K, hK⟩ : ∃ K, lacksL L ns = K := ⟨_, rfl⟩
  rw [hK] at hmem ⊢
  refine Tr.seq (Tr.seqR rfl (by simp) (Tr.cond rfl rfl (fun h3 => ?_) (fun h3 => Tr.skip ?_)))
  · have h3 : decide (((K.map eL).length : Int) > 16) = true := h3
    rw [List.length_map] at h3
    rw [if_neg (by have := of_decide_eq_true h3; omega)]
    refine Tr.seqR rfl (by simp) ?_
    exact Tr.weak (s' := { env := [(10, .ptr 10 0), (11, I 3)], bx := [(10, ⟨nfC nf0, false⟩)], rw := [], log := [], stp := false }) (Wk.le (.cons rfl (.refl _) (.cons rfl (.refl _) .nil)) (.cons rfl (.cons (.nil 0 1) (.cons (.nil 0 2) .nil)) .nil) .nil rfl rfl) (Tr.retX rfl rfl rfl rfl trivial)
  have h3 : decide (((K.map eL).length : Int) > 16) = false := h3
  rw [List.length_map] at h3
  have hK16 : K.length ≤ 16 := by have := of_decide_eq_false h3; omega
  rw [if_pos hK16]
  refine Tr.seqR rfl (by simp) ?_
  refine Tr.seq (Tr.seqR rfl (by simp) (Tr.block ?_))
  refine Tr.loop (fun (k : Nat) st => k ≤ K.length ∧ st = { env := [(3, .slice 0 2 (lines.map eY)), (4, intsV costs), (5, .ptr 5 0), (10, .ptr 10 0), (17, sL K), (18, .ptr 18 0), (78, sL K), (79, I (K.length : Nat)), (80, I (k : Nat))], bx := [(18, ⟨[.slice 90 1 (((K.map (·.2.2)).take k).map I), .nils], false⟩), (10, ⟨[.nils, .nils], false⟩), (5, ⟨gridC g, false⟩)], rw := [(89, k, 1, 3)], log := [], stp := false }) (fun k => K.length - k) 0
    (Wk.le (.cons rfl (.refl _) (.cons rfl (.refl _) (.cons rfl (.refl _) (.cons rfl (.refl _) (.cons rfl (.refl _) (.cons rfl (.refl _) (.cons rfl (.refl _) (.cons rfl (VLe.i (by simp)) (.cons rfl (.refl _) .nil))))))))) (.cons rfl (.cons (.nil 90 1) (.cons (.refl _) .nil)) (.cons rfl (LLe.refl _) (.cons rfl (LLe.refl _) .nil))) (.new rfl .nil) rfl rfl) ⟨by omega, rfl⟩ ?_
  rintro k st ⟨hk, rfl⟩
  refine Tr.seqR rfl (by simp) (Tr.seqI rfl (fun h1 => ?_) (fun h1 => ?_))
  · have h1 : k < K.length := by simpa using h1
    refine Tr.skipT (Tr.seq (Tr.block ?_))
    refine Tr.seqN 1 rfl (by simp; omega) ?_
    rw [getD_map h1]
    refine Steps.fin rfl (by simp) ?_
    refine Tr.regR rfl (by simp; omega) (Tr.regR rfl (by simp) ?_)
    refine ⟨k + 1, _, Wk.le (.cons rfl (.refl _) (.cons rfl (.refl _) (.cons rfl (.refl _) (.cons rfl (.refl _) (.cons rfl (.refl _) (.cons rfl (.refl _) (.cons rfl (.refl _) (.cons rfl (.refl _) (.cons rfl (VLe.i (w64 (by omega) (by omega))) .nil))))))))) (.cons rfl (.cons (.of_eq ?_) (.cons (.refl _) .nil)) (.cons rfl (LLe.refl _) (.cons rfl (LLe.refl _) .nil))) (.cons ?_ .nil) rfl rfl, ⟨h1, rfl⟩, by omega⟩
    · rw [List.take_add_one, List.getElem?_map, List.getElem?_eq_getElem h1, List.map_append]; rfl
    · show some _ = some _
      simp; omega
  have h1 : k = K.length := by simp at h1; omega
  subst h1
  rw [List.take_of_length_le (by simp)]
  refine Tr.exit ?_
  obtain ⟨hl10, hcl, _⟩ := h2
  refine Tr.seq (Tr.seqR rfl (by simp) (Tr.block ?_))
  refine Tr.loop (fun (k : Nat) st => k ≤ lines.length ∧ st = { env := [(4, intsV costs), (5, .ptr 5 0), (10, .ptr 10 0), (17, sL K), (18, .ptr 18 0), (92, .slice 0 2 (lines.map eY)), (93, I (lines.length : Nat)), (94, I (k : Nat))], bx := [(18, ⟨[intsV (K.map (·.2.2)), .slice 138 2 (((passesK g K lines costs).take k).map eQ)], false⟩), (10, ⟨[.nils, .nils], false⟩), (5, ⟨gridC g, false⟩)], rw := [(137, k, 2, 72)], log := [], stp := false }) (fun k => lines.length - k) 0
    (Wk.le (.cons rfl (.refl _) (.cons rfl (.refl _) (.cons rfl (.refl _) (.cons rfl (.refl _) (.cons rfl (.refl _) (.cons rfl (.refl _) (.cons rfl (VLe.i (by show ((lines.map eY).length : Int) = _; rw [List.length_map])) (.cons rfl (.refl _) .nil)))))))) (.cons rfl (.cons (.dem _ _ _) (.cons (.nil 138 2) .nil)) (.cons rfl (LLe.refl _) (.cons rfl (LLe.refl _) .nil))) (.new rfl .nil) rfl rfl) ⟨by omega, rfl⟩ ?_
  rintro k st ⟨hk, rfl⟩
  have hpl : (passesK g K lines costs).length = lines.length := by simp [passesK, hcl]
  refine Tr.seqR rfl (by simp) (Tr.seqI rfl (fun h1 => ?_) (fun h1 => ?_))
  rotate_left
  · have h1 : k = lines.length := by simp at h1; omega
    subst h1
    rw [List.take_of_length_le (by omega)]
    refine Tr.exit (Tr.seqR rfl (by simp) ?_)
    exact Tr.weak (s' := { env := [(10, .ptr 10 0), (11, I 0)], bx := [(10, ⟨nfC (buildN g K lines costs), false⟩)], rw := [], log := [], stp := false }) (Wk.le (.cons rfl (.refl _) (.cons rfl (.refl _) .nil)) (.cons rfl (.cons (.refl _) (.cons (.dem _ _ _) .nil)) .nil) .nil rfl rfl) (Tr.retX rfl rfl rfl rfl trivial)
  have h1 : k < lines.length := by simpa using h1
  have h1c : k < costs.length := by omega
  have hyk : layOk lines[k] = true := List.all_eq_true.1 hall _ (List.getElem_mem h1)
  have hLk := lay_ok hg hyk
  have hFn := cntN_len (layD g lines[k]) (sureT (layD g lines[k]))
  have hFr : ∀ {i : Nat} (hi : i < (foldS g lines[k]).length), ((foldS g lines[k])[i]).length = g.cls.length := fun hi => cntN_row (L := layD g lines[k]) hi
  have kcount := c_countS hLk
  have hnx : (passesK g K lines costs).take (k + 1) = (passesK g K lines costs).take k ++ [⟨costs[k], addsK (foldS g lines[k]) K⟩] := zip_take h1 h1c
  have hFl : (foldS g lines[k]).length = nBins g := hFn
  have kcount2 : C Tryd.prog F.bin_laid_count [.agg (laidC (layD g lines[k])), .func (.func F.bin_laid_surely) [.agg (laidC (layD g lines[k]))] []] (foldV (foldS g lines[k])) := kcount
  obtain ⟨Fd, hFd⟩ : ∃ F, foldS g lines[k] = F := ⟨_, rfl⟩
  rw [hFd] at kcount2 hnx hFl
  have hFr2 : ∀ {i : Nat} (hi : i < Fd.length), (Fd[i]).length = g.cls.length := fun hi => by subst hFd; exact hFr hi
  refine Tr.skipT (Tr.seq (Tr.block ?_))
  refine Tr.seqN 2 rfl (by simp; omega) ?_
  rw [getD_map h1]
  refine Steps.fin rfl (by simp) ?_
  refine Tr.seqC rfl (by simp) (Steps.call rfl rfl (c_lay g hyk) (Steps.fin rfl (by simp [laidC]) ?_))
  refine Tr.seqC rfl (by simp [laidC]) (Steps.call rfl rfl kcount2 (Steps.fin rfl (by simp) ?_))
  refine Tr.seqN 3 rfl (by simp; omega) ?_
  rw [getD_map h1c]
  refine Steps.fin rfl (by simp) ?_
  refine Tr.seq (Tr.seqR rfl (by simp) (Tr.block ?_))
  refine Tr.loop (fun (j : Nat) st => j ≤ K.length ∧ st = { env := [(4, intsV costs), (5, .ptr 5 0), (10, .ptr 10 0), (17, sL K), (18, .ptr 18 0), (24, foldV Fd), (25, .ptr 25 0), (92, .slice 0 2 (lines.map eY)), (93, I (lines.length : Nat)), (94, I (k : Nat)), (111, sL K), (112, I (K.length : Nat)), (113, I (j : Nat))], bx := [(25, ⟨[I costs[k], .slice 131 1 (((addsK Fd K).take j).map I)], false⟩), (18, ⟨[intsV (K.map (·.2.2)), .slice 138 2 (((passesK g K lines costs).take k).map eQ)], false⟩), (10, ⟨[.nils, .nils], false⟩), (5, ⟨gridC g, false⟩)], rw := [(130, j, 1, 3), (137, k, 2, 72)], log := [], stp := false }) (fun j => K.length - j) 0
    (Wk.le (.cons rfl (.refl _) (.cons rfl (.refl _) (.cons rfl (.refl _) (.cons rfl (.refl _) (.cons rfl (.refl _) (.cons rfl (.refl _) (.cons rfl (.refl _) (.cons rfl (.refl _) (.cons rfl (.refl _) (.cons rfl (.refl _) (.cons rfl (.refl _) (.cons rfl (VLe.i (by show ((K.map eL).length : Int) = _; rw [List.length_map])) (.cons rfl (.refl _) .nil))))))))))))) (.cons rfl (.cons (.refl _) (.cons (.nil 131 1) .nil)) (.cons rfl (LLe.refl _) (.cons rfl (LLe.refl _) (.cons rfl (LLe.refl _) .nil)))) (.new rfl (.cons rfl .nil)) rfl rfl) ⟨by omega, rfl⟩ ?_
  rintro j st ⟨hj, rfl⟩
  have hal : (addsK Fd K).length = K.length := by simp [addsK]
  refine Tr.seqR rfl (by simp) (Tr.seqI rfl (fun h4 => ?_) (fun h4 => ?_))
  · have h4 : j < K.length := by simpa using h4
    obtain ⟨b, c, e1, e2, hb, hc⟩ := hmem _ (List.getElem_mem h4)
    have hbF : b < Fd.length := by omega
    have hcF : c < Fd[b].length := by rw [hFr2 hbF]; exact hc
    have hadd : (addsK Fd K).take (j + 1) = (addsK Fd K).take j ++ [min 100 Fd[b][c]] := by
      unfold addsK
      rw [List.take_add_one, List.getElem?_map, List.getElem?_eq_getElem h4]
      simp only [Option.map_some, Option.toList_some]
      congr 2
      unfold addK
      rw [e1, e2, Int.toNat_natCast, Int.toNat_natCast, at2_get hbF hcF]
    have eKj : eL K[j] = .agg [I (b : Nat), I (c : Nat), I K[j].2.2] := by unfold eL; rw [e1, e2]
    refine Tr.skipT (Tr.seq (Tr.block ?_))
    refine Tr.seqN 1 rfl (by simp; omega) ?_
    rw [getD_map h4, eKj]
    refine Steps.fin rfl (by simp) ?_
    refine Tr.drawK (TraceK.runN 6 rfl (by simp; omega) ?_)
    rw [getD_map hbF]
    refine TraceK.runN 4 rfl (by simp; omega) ?_
    rw [getD_map hcF]
    refine TraceK.run rfl (by simp; omega) (.done ⟨by kernel_rfl, by kernel_rfl, ?_⟩)
    refine Tr.regR rfl (by simp) ?_
    refine ⟨j + 1, _, Wk.le (.cons rfl (.refl _) (.cons rfl (.refl _) (.cons rfl (.refl _) (.cons rfl (.refl _) (.cons rfl (.refl _) (.cons rfl (.refl _) (.cons rfl (.refl _) (.cons rfl (.refl _) (.cons rfl (.refl _) (.cons rfl (.refl _) (.cons rfl (.refl _) (.cons rfl (.refl _) (.cons rfl (VLe.i (w64 (by omega) (by omega))) .nil))))))))))))) (.cons rfl (.cons (.refl _) (.cons (.of_eq ?_) .nil)) (.cons rfl (LLe.refl _) (.cons rfl (LLe.refl _) (.cons rfl (LLe.refl _) .nil)))) (.cons ?_ (.cons rfl .nil)) rfl rfl, ⟨h4, rfl⟩, by omega⟩
    · rw [hadd, List.map_append]
      show V.slice 131 1 (((addsK Fd K).take j).map I ++ [I (bif false then _ else (if Fd[b][c] < 100 then Fd[b][c] else 100))]) = _
      rw [cond_false, ifMin]; rfl
    · show some _ = some _
      simp [hal]; omega
  have h4 : j = K.length := by simp at h4; omega
  subst h4
  rw [show (addsK Fd K).take K.length = addsK Fd K from List.take_of_length_le (by omega)]
  refine Tr.exit ?_
  refine Tr.weak (s' := { env := [(4, intsV costs), (5, .ptr 5 0), (10, .ptr 10 0), (17, sL K), (18, .ptr 18 0), (25, .ptr 25 0), (92, .slice 0 2 (lines.map eY)), (93, I (lines.length : Nat)), (94, I (k : Nat))], bx := [(25, ⟨[I costs[k], intsV (addsK Fd K)], false⟩), (18, ⟨[intsV (K.map (·.2.2)), .slice 138 2 (((passesK g K lines costs).take k).map eQ)], false⟩), (10, ⟨[.nils, .nils], false⟩), (5, ⟨gridC g, false⟩)], rw := [(137, k, 2, 72)], log := [], stp := false })
    (Wk.le (.cons rfl (.refl _) (.cons rfl (.refl _) (.cons rfl (.refl _) (.cons rfl (.refl _) (.cons rfl (.refl _) (.cons rfl (.refl _) (.cons rfl (.refl _) (.cons rfl (.refl _) (.cons rfl (.refl _) .nil))))))))) (.cons rfl (.cons (.refl _) (.cons (.dem _ _ _) .nil)) (.cons rfl (LLe.refl _) (.cons rfl (LLe.refl _) (.cons rfl (LLe.refl _) .nil)))) (.cons rfl .nil) rfl rfl) ?_
  refine Tr.regR rfl (by simp; omega) (Tr.regR rfl (by simp) ?_)
  refine ⟨k + 1, _, Wk.le (.cons rfl (.refl _) (.cons rfl (.refl _) (.cons rfl (.refl _) (.cons rfl (.refl _) (.cons rfl (.refl _) (.cons rfl (.refl _) (.cons rfl (.refl _) (.cons rfl (VLe.i (w64 (by omega) (by omega))) .nil)))))))) (.cons rfl (.cons (.refl _) (.cons (.of_eq ?_) .nil)) (.cons rfl (LLe.refl _) (.cons rfl (LLe.refl _) .nil))) (.cons ?_ .nil) rfl rfl, ⟨h1, rfl⟩, by omega⟩
  · rw [hnx, List.map_append]; rfl
  · show some _ = some _
    simp [hpl]; omega

end Go.Proofs.YtffoiccokigjcaaDoor

/-! A slice literal that is a frame's own; contracts with nil slices; two infills alike. -/
set_option linter.unusedVariables false
set_option linter.unusedSimpArgs false
namespace Go.Am
open Go.RowKit

section
variable {P : Program} {nt : Nat} {S : Sur} {log : List (List V)} {stp : Bool} {σ : FSt} {a : Act} {w : World} {h : Gh} {o : Oper}

theorem done_mkOwn {t e len sz d : Nat} {parts : Array (Nat × Operand)} {ie : TypeInfo} {z : Value} {vs us : List V} (R : Rel nt S log stp σ a w h) (hS : S.ok) (ho : o.op = .buildSlice t len parts) (ht : P.underlying t = some (.slice e)) (hi : P.info? e = some ie)
    (hz : ie.zero = some z) (hzs : z.cells.size = ie.size) (hsz : ie.size = sz) (hidx : parts.toList.map (·.1) = List.range len) (hv : Opds σ h w a (parts.toList.map (·.2)) vs) (hu : toDs σ.b vs = some (us, [])) (hd : σ.b d = none)
    (h0 : 0 < sz) (hall : us.all (fun u => (cells u).length.beq sz && (cells u).all scalar) = true) (hcap : us.length * sz ≤ 2 ^ 24) (hpos : 0 < us.length) {pre : Prop} {rb : List Nat} :
    Done P nt S log stp σ a w h o { pre := pre, v := .bsl d 0 sz us.length, wb := [(d, ⟨us.flatMap cells, false⟩)], rb := rb } := by
  subst hsz
  obtain ⟨q1, q2⟩ := hv.get
  obtain ⟨u1, u2⟩ := toDs_nil hu
  have hlen : us.length = len := by
    have := congrArg List.length hidx
    simp at this q1
    omega
  subst hlen
  rw [List.all_eq_true] at hall
  have hus : ∀ u ∈ us, (cells u).length = ie.size ∧ ∀ v ∈ cells u, scalar v = true := fun u hu => by
    have := hall u hu
    rw [Bool.and_eq_true, List.all_eq_true] at this
    exact ⟨by simpa using this.1, this.2⟩
  have rep : ∀ (i : Nat) u x, us[i]? = some u → ((parts.toList.map (·.2)).map a.eval)[i]? = some x → RepD w h.φ u x := fun i u x hui hxi => by
    have hlt : i < vs.length := by have := (List.getElem?_eq_some_iff.1 hui).1; omega
    rw [List.getElem?_map, Option.map_eq_some_iff] at hxi
    obtain ⟨p, hp, rfl⟩ := hxi
    exact (toD_rep R 6 _ u _ [] (u2 i _ u (List.getElem?_eq_getElem hlt) hui) (fun i hi => by cases hi) (q2 i _ p (List.getElem?_eq_getElem hlt) hp).1).1
  obtain ⟨xs, hxs⟩ : ∃ xs, xs = (parts.toList.map (·.2)).map a.eval := ⟨_, rfl⟩
  rw [← hxs] at rep
  have hxl : us.length = xs.length := by rw [hxs]; simp at q1 ⊢; omega
  obtain ⟨cs', g1, g2, g3, g4⟩ := fill_dense h0 us xs 0 ((Array.range (us.length * ie.size)).map (z.cells[· % z.cells.size]!)) hxl (fun i u x hui hxi => by rw [← (repD_cells (rep i u x hui hxi)).1]; exact (hus u (List.mem_of_getElem? hui)).1) (by simp; rw [← hxl]; exact Nat.le_refl _)
  have hzip : (parts.map fun (i, x) => (i, a.eval x)).toList = (List.range' 0 xs.length).zip xs := by
    rw [← zip_parts, hidx, ← hxs, ← hxl, List.range_eq_range']
  have hrun := run_buildSlice (P := P) w t e us.length (parts.map fun (i, x) => (i, a.eval x)) cs' ie z ht hi hz (by omega) (by have := Nat.mul_pos hpos h0; omega) (by rw [hzip]; exact g1)
  have flen := flat_len fun u hu => (hus u hu).1
  have R1 := R.newBox (e := e) (cs := cs') (zs := us.flatMap cells) hS hd (by rw [g2, flen]; simp) (fun j v x hv hx => by
      obtain ⟨i, u, k, h1, h2, h3⟩ := flat_split h0 (fun u hu => (hus u hu).1) j v hv
      have hlt : i < xs.length := by have := (List.getElem?_eq_some_iff.1 h1).1; omega
      obtain ⟨c1, c2⟩ := repD_cells (rep i u _ h1 (List.getElem?_eq_getElem hlt))
      have hk : k < xs[i].cells.size := by have := (List.getElem?_eq_some_iff.1 h2).1; omega
      have hz' := g4 i _ k _ (List.getElem?_eq_getElem hlt) (Array.getElem?_eq_getElem hk)
      rw [Nat.zero_add, ← h3, hx] at hz'
      cases hz'
      have r1 := c2 k v _ h2 (Array.getElem?_eq_getElem hk)
      exact ⟨.data r1, Grow.of_data r1, (hus u (List.mem_of_getElem? h1)).2 v (List.mem_of_getElem? h2)⟩)
  refine ⟨.slice (some ⟨w.heap.size, 0, none⟩) us.length us.length, _, _, .inl ?_, R1, ⟨.bsl d 0 _ us.length us.length w.heap.size (by simp) (Nat.le_refl _), fun j u zz hu hzz => ?_⟩, rfl⟩
  · simp only [execOp, ho, Sem.run_bind, hrun]; rfl
  · cases j with
    | zero => simp [cells] at hu; subst hu; intro r sz xs e; cases e
    | succ j => simp [cells] at hu

theorem opK_mkslice {os : List Operand} {sz e : Nat} (hk : opK P o.op = some (.mkslice sz e, os)) : ∃ t len parts ie z, o.op = .buildSlice t len parts ∧ P.underlying t = some (.slice e) ∧ P.info? e = some ie ∧ ie.zero = some z ∧ z.cells.size = ie.size ∧ ie.size = sz ∧ parts.toList.map (·.1) = List.range len ∧ os = parts.toList.map (·.2) := by
  cases ho : o.op <;> rw [ho] at hk <;> simp only [opK] at hk <;> (try (cases hk; done)) <;> (try (repeat' (split at hk <;> (try (cases hk; done)))))
  all_goals first
    | (simp only [Option.map_eq_some_iff, Prod.mk.injEq] at hk; obtain ⟨_, _, h1, _⟩ := hk; cases h1; done)
    | (rename_i hz hc; rw [hz] at hc; simp at hc; done)
    | (rename_i t len parts x5 e' ht x4 ie hi x3 z hz hc
       cases hk
       simp only [hz, Option.isSome_some, Bool.true_and, Bool.and_eq_true, beq_iff_eq] at hc
       exact ⟨t, len, parts, ie, z, rfl, ht, hi, hz, hc.1, rfl, hc.2, rfl⟩)
    | (exfalso; simp only [eqKind] at hk; repeat' (split at hk <;> (try (cases hk; done))))

end

section
variable {E : Env} {σ : FSt}

theorem does_mkOwn {d : Nat} {xs : List X} {sz e : Nat} {vs us : List V} (hx : xs.mapM (evX σ) = some vs) (hu : ∀ b, toDs b vs = some (us, [])) (hd : σ.b d = none) (h0 : 0 < sz) (hall : us.all (fun u => (cells u).length.beq sz && (cells u).all scalar) = true) (hcap : us.length * sz ≤ 2 ^ 24) (hpos : 0 < us.length) :
    Does E σ ⟨some d, .mkslice sz e, xs, none⟩ { v := .bsl d 0 sz us.length, wb := [(d, ⟨us.flatMap cells, false⟩)], rb := [d] } (xslots xs ++ [.bx d]) := by
  refine .sem fun τ hτ slots ops i o ro n log stp a w h hc hs hi R Q next hn => ?_
  have hd' : τ.b d = none := by rw [b_eq (hτ (.bx d) (by simp))]; exact hd
  have hx' : xs.mapM (evX τ) = some vs := evX_reads hx fun l hl => hτ l (by simp [hl])
  obtain ⟨os, cc⟩ := comp_of hc
  have hdf := opK_defer cc.op
  have hgo : o.guard = none := by
    rcases cc.guard with ⟨_, e⟩ | ⟨_, _, _, _, _, e⟩
    · exact e
    · cases e
  have hO := opds_of R.1 cc.xs hx'
  obtain ⟨t, len, parts, ie, z, ho, ht, hie, hz, hzs, hsz, hidx, rfl⟩ := opK_mkslice cc.op
  obtain ⟨x1, w', h', hr', R', ok, hy⟩ := done_mkOwn (d := d) (pre := True) (rb := [d]) R.1 E.ok ho ht hie hz hzs hsz hidx hO (hu τ.b) hd' h0 hall hcap hpos
  exact wpOp_done hi (wanted_none hgo) hdf hr' (hn _ _ h' (rel_after cc R R' ok hy) hy)

theorem Steps.mkOwn {s : St} {K : St → Prop} {d : Nat} {xs : List X} {sz e : Nat} {vs us : List V} {rest : List Ins} (hx : evXs s.env xs = some vs) (hu : ∀ b, toDs b vs = some (us, [])) (hd : get s.bx d = none) (h0 : 0 < sz) (hall : us.all (fun u => (cells u).length.beq sz && (cells u).all scalar) = true) (hcap : us.length * sz ≤ 2 ^ 24) (hpos : 0 < us.length)
    (hk : Steps E rest K ((s.setB d ⟨us.flatMap cells, false⟩).put (some d) (.bsl d 0 sz us.length))) : Steps E (⟨some d, .mkslice sz e, xs, none⟩ :: rest) K s :=
  Step1.does (ins := ⟨some d, .mkslice sz e, xs, none⟩) (does_mkOwn (evXs_ok hx) hu (by rw [fs_b]; exact hd) h0 hall hcap hpos) hk

end
end Go.Am

namespace Go.Proofs.YtffoiccokigjcaaDoor
open Go.Am
set_option maxRecDepth 40000
set_option maxHeartbeats 4000000
attribute [local simp] cells scalar mkv splice under2 under dem dem1 eQ nfC intsV

/-! ### Nil slices where empty ones are taken -/
def all2 (f : V → V → Bool) : List V → List V → Bool
  | [], [] => true
  | a :: l, b :: m => f a b && all2 f l m
  | _, _ => false

theorem all2_len {f : V → V → Bool} : ∀ {l m : List V}, all2 f l m = true → l.length = m.length
  | [], [], _ => rfl
  | a :: l, b :: m, h => by
    simp only [all2, Bool.and_eq_true] at h
    simp [all2_len h.2]
theorem all2_get {f : V → V → Bool} : ∀ {l m : List V} (_ : all2 f l m = true) (i : Nat) (a b : V), l[i]? = some a → m[i]? = some b → f a b = true
  | a :: l, b :: m, h, 0, x, y, h1, h2 => by
    simp only [all2, Bool.and_eq_true] at h
    cases h1; cases h2; exact h.1
  | a :: l, b :: m, h, i + 1, x, y, h1, h2 => by
    simp only [all2, Bool.and_eq_true] at h
    exact all2_get h.2 i x y h1 h2
  | [], [], _, i, x, y, h1, _ => by simp at h1

def rleB : Nat → V → V → Bool
  | 0, _, _ => false
  | n + 1, v, u => match v, u with
    | .int k a, .int k' b => decide (k = k') && decide (a = b)
    | .bool a, .bool b => a == b
    | .nils, .nils => true
    | .nils, .slice 0 _ ys => ys.isEmpty
    | .agg cs, .agg ds => all2 (rleB n) cs ds
    | .slice 0 sz xs, .slice 0 sz' ys => decide (sz = sz') && decide (xs.length = ys.length) && ys.all (fun y => decide ((cells y).length = sz)) && all2 (fun v u => rleB n v u && scalar u) (xs.flatMap cells) (ys.flatMap cells)
    | _, _ => false

theorem rle_ok : ∀ (n : Nat) (v u : V), rleB n v u = true → ∀ (w : World) (φ : Nat → Nat) (x : Value), RepD w φ v x → RepD w φ u x
  | 0, v, u, h, _, _, _, _ => by cases h
  | n + 1, v, u, h, w, φ, x, r => by
    unfold rleB at h
    split at h
    · simp only [Bool.and_eq_true, decide_eq_true_eq] at h
      rw [← h.1, ← h.2]; exact r
    · rw [← eq_of_beq h]; exact r
    · exact r
    · rename_i sz ys
      cases ys with
      | nil => cases r; exact .slice0 _ _ _
      | cons => cases h
    · rename_i cs ds
      cases r with
      | agg _ vs hl hh =>
        refine .agg _ _ (by rw [← all2_len h]; exact hl) fun i u z hu hz => ?_
        have hi : i < cs.length := by rw [all2_len h]; exact (List.getElem?_eq_some_iff.1 hu).1
        exact rle_ok n _ _ (all2_get h i _ u (List.getElem?_eq_getElem hi) hu) w φ z (hh i _ z (List.getElem?_eq_getElem hi) hz)
    · rename_i sz xs sz' ys
      simp only [Bool.and_eq_true, decide_eq_true_eq, List.all_eq_true] at h
      obtain ⟨⟨⟨rfl, h2⟩, h3⟩, h4⟩ := h
      cases r with
      | slice0 =>
        obtain rfl : ys = [] := List.eq_nil_of_length_eq_zero (by simpa using h2.symm)
        exact .slice0 _ _ _
      | slice _ _ blk off len cap cv h0 hl hc hs hm hr =>
        have old : ∀ j u, (ys.flatMap cells)[j]? = some u → ∃ v, (xs.flatMap cells)[j]? = some v ∧ rleB n v u = true ∧ scalar u = true := fun j u hu => by
          have hj : j < (xs.flatMap cells).length := by rw [all2_len h4]; exact (List.getElem?_eq_some_iff.1 hu).1
          have := all2_get h4 j _ u (List.getElem?_eq_getElem hj) hu
          rw [Bool.and_eq_true] at this
          exact ⟨_, List.getElem?_eq_getElem hj, this.1, this.2⟩
        refine .slice sz ys blk off len cap cv h0 (by rw [hl, h2]) hc h3 (fun j u hu => ?_) fun j u hu => ?_
        · obtain ⟨v, e1, e2, e3⟩ := old j u hu
          obtain ⟨a, b, _⟩ := hm j v e1
          exact ⟨a, b, e3⟩
        · obtain ⟨v, e1, e2, e3⟩ := old j u hu
          exact rle_ok n v u e2 w φ _ (hr j v e1)
    · cases h

/-- A contract takes nil slices where it takes empty ones. -/
theorem argsB {P : Program} {f : FuncId} {us vs : List V} {r : V} (h : C P f us r) (hb : all2 (rleB 9) vs us = true) : C P f vs r :=
  ⟨h.1, fun w φ xs ht hg hr => h.2 w φ xs ht hg ⟨by rw [← all2_len hb]; exact hr.1, fun i u x hu hx => by
    have hi : i < vs.length := by rw [all2_len hb]; exact (List.getElem?_eq_some_iff.1 hu).1
    exact rle_ok 9 _ _ (all2_get hb i _ u (List.getElem?_eq_getElem hi) hu) w φ x (hr.2 i _ x (List.getElem?_eq_getElem hi) hx)⟩⟩

theorem c_alike {x : Nf} (hx : nfSane x) : C Tryd.prog F.law07_alike [.agg (nfC x), .agg (nfC x)] (.bool true) := by
  have hAl : ∀ l : List Int, l.length ≤ 9223372036854775807 → C Tryd.prog F.ref00_Alike [intsV l, intsV l] (.bool true) := fun l hl => by
    have := c_Alike l l hl
    rwa [decide_eq_true rfl] at this
  refine C_of mixed chk.law07_alike (by simp) fun S ok => ?_
  refine Tr.seqR rfl (by simp) ?_
  refine Tr.seq (Tr.seqC rfl (by simp) (Steps.call rfl rfl (hAl x.lacks hx.1.1) (Steps.fin rfl (by simp) (Tr.condF ?_ (Tr.skip ?_)))))
  · show some (V.bool (((x.passes.map eQ).length : Int) != ((x.passes.map eQ).length : Int))) = _
    simp
  refine Tr.seq (Tr.seqR rfl (by simp) (Tr.block ?_))
  have hpl := hx.1.2
  refine Tr.loop (fun (k : Nat) st => k ≤ x.passes.length ∧ st = { env := [(2, .ptr 2 0), (3, .ptr 3 0), (5, I (k : Nat))], bx := [(3, ⟨nfC x, false⟩), (2, ⟨nfC x, false⟩)], rw := [], log := [], stp := false }) (fun k => x.passes.length - k) 0
    (Wk.le (.cons rfl (.refl _) (.cons rfl (.refl _) (.cons rfl (.refl _) .nil))) (.cons rfl (LLe.refl _) (.cons rfl (LLe.refl _) .nil)) .nil rfl rfl) ⟨by omega, rfl⟩ ?_
  rintro k st ⟨hk, rfl⟩
  refine Tr.seq (Tr.seqR rfl (by simp) (Tr.cond rfl rfl (fun h1 => Tr.skip ?_) (fun h1 => Tr.exit ?_)))
  · have h1 : k < x.passes.length := by simpa using h1
    refine Tr.seq (Tr.block (Tr.seq (Tr.drawK (TraceK.runN 4 rfl (by simp; omega) ?_))))
    rw [getD_map h1]
    refine TraceK.runN 6 rfl (by simp; omega) ?_
    rw [getD_map h1]
    refine TraceK.runN 8 rfl (by simp; omega) ?_
    rw [getD_map h1]
    refine TraceK.runN 6 rfl (by simp; omega) ?_
    rw [getD_map h1]
    refine TraceK.run rfl (by simp) (TraceK.gcall rfl rfl rfl rfl (by simp) (fun _ => hAl x.passes[k].adds (hx.2 _ (List.getElem_mem h1))) (TraceK.run rfl (by simp) (.done ⟨by kernel_rfl, by kernel_rfl, ?_⟩)))
    refine Tr.condF ?_ (Tr.skip (Tr.regR rfl (by simp) ?_))
    · show some (V.bool (bif x.passes[k].cost != x.passes[k].cost then true else !true)) = _
      simp
    · exact ⟨k + 1, _, Wk.le (.cons rfl (.refl _) (.cons rfl (.refl _) (.cons rfl (VLe.i (w64 (by omega) (by omega))) .nil))) (.cons rfl (LLe.refl _) (.cons rfl (LLe.refl _) .nil)) .nil rfl rfl, ⟨h1, rfl⟩, by omega⟩
  · exact Tr.seqR rfl (by simp) (Tr.retX rfl rfl rfl rfl trivial)

end Go.Proofs.YtffoiccokigjcaaDoor

/-! Plain laws of choices: the best one; a lack less, a pass more; choices as numbers. -/
set_option linter.unusedVariables false
set_option linter.unusedSimpArgs false
set_option maxRecDepth 40000
set_option maxHeartbeats 4000000
namespace Go.Proofs.YtffoiccokigjcaaDoor
open Go.Am

/-! ### The best choice -/
def bestTo (x : Nf) (wo k : Nat) : Nat × Bool := (List.range k).foldl (bestStep x wo) (0, false)

theorem bestTo_spec (x : Nf) (wo : Nat) : ∀ k, ((bestTo x wo k).2 = true → (bestTo x wo k).1 < k ∧ skips x wo (bestTo x wo k).1 = false) ∧ ∀ b < k, skips x wo b = false → (bestTo x wo k).2 = true ∧ costB x (bestTo x wo k).1 ≤ costB x b
  | 0 => ⟨fun h => by simp [bestTo] at h, fun b h => by omega⟩
  | k + 1 => by
    obtain ⟨h1, h2⟩ := bestTo_spec x wo k
    have e : bestTo x wo (k + 1) = bestStep x wo (bestTo x wo k) k := by unfold bestTo; rw [List.range_succ, List.foldl_append]; rfl
    rw [e]
    obtain ⟨⟨o, so⟩, hos⟩ : ∃ p, bestTo x wo k = p := ⟨_, rfl⟩
    rw [hos] at h1 h2 ⊢
    unfold bestStep
    by_cases hk : skips x wo k = true
    · rw [if_pos hk]
      refine ⟨fun h => ⟨by have := (h1 h).1; omega, (h1 h).2⟩, fun b hb hs => ?_⟩
      rcases Nat.lt_succ_iff_lt_or_eq.1 hb with hb | rfl
      · exact h2 b hb hs
      · rw [hk] at hs; cases hs
    have hk : skips x wo k = false := by simpa using hk
    rw [hk, if_neg (by simp)]
    cases so with
    | false =>
      rw [if_pos (show (!(o, false).2) = true from rfl)]
      refine ⟨fun _ => ⟨by simp, hk⟩, fun b hb hs => ?_⟩
      rcases Nat.lt_succ_iff_lt_or_eq.1 hb with hb | rfl
      · have := (h2 b hb hs).1; cases this
      · exact ⟨rfl, Int.le_refl _⟩
    | true =>
      rw [if_neg (by simp)]
      obtain ⟨a1, a2⟩ := h1 rfl
      by_cases hb : better x k o = true
      · rw [if_pos hb]
        have hle : costB x k ≤ costB x o := by
          unfold better at hb
          split at hb
          · have := of_decide_eq_true hb; omega
          · rename_i h; have := Classical.not_not.1 h; omega
        refine ⟨fun _ => ⟨by simp, hk⟩, fun b hb hs => ?_⟩
        rcases Nat.lt_succ_iff_lt_or_eq.1 hb with hb | rfl
        · exact ⟨rfl, Int.le_trans hle (h2 b hb hs).2⟩
        · exact ⟨rfl, Int.le_refl _⟩
      · rw [if_neg hb]
        have hle : costB x o ≤ costB x k := by
          have hb : better x k o = false := by simpa using hb
          unfold better at hb
          split at hb
          · have := of_decide_eq_false hb; omega
          · rename_i h; have := Classical.not_not.1 h; omega
        refine ⟨fun _ => ⟨by simp only at a1 ⊢; omega, a2⟩, fun b hb hs => ?_⟩
        rcases Nat.lt_succ_iff_lt_or_eq.1 hb with hb | rfl
        · exact h2 b hb hs
        · exact ⟨rfl, hle⟩

theorem skips0 (x : Nf) (b : Nat) : skips x 0 b = !coversB x b := by simp [skips]

theorem best_some {x : Nf} (h : (bestN x 0).2 = true) : (bestN x 0).1 < 2 ^ x.passes.length ∧ coversB x (bestN x 0).1 = true := by
  have := (bestTo_spec x 0 (2 ^ x.passes.length)).1 h
  rw [skips0] at this
  exact ⟨this.1, (Bool.not_eq_eq_eq_not.1 this.2)⟩
theorem best_least {x : Nf} {b : Nat} (hb : b < 2 ^ x.passes.length) (hc : coversB x b = true) : (bestN x 0).2 = true ∧ costB x (bestN x 0).1 ≤ costB x b :=
  (bestTo_spec x 0 (2 ^ x.passes.length)).2 b hb (by rw [skips0, hc]; rfl)

/-! ### A lack less -/
def LeI : List Int → List Int → Prop
  | [], [] => True
  | a :: l, b :: m => a ≤ b ∧ LeI l m
  | _, _ => False

theorem LeI.refl : ∀ l, LeI l l
  | [] => trivial
  | a :: l => ⟨Int.le_refl a, LeI.refl l⟩
theorem LeI.rest : ∀ {c d : List Int} (a : List Int), LeI c d → LeI (restN c a) (restN d a)
  | [], [], a, _ => by simp [restN, LeI]
  | x :: c, y :: d, [], _ => trivial
  | x :: c, y :: d, z :: a, h => by
    have := LeI.rest a h.2
    have h1 := h.1
    have e : max 0 (x - z) ≤ max 0 (y - z) := by omega
    exact ⟨e, this⟩
  | [], _ :: _, _, h => h.elim
  | _ :: _, [], _, h => h.elim
theorem LeI.rests {p : Nat → List Int} : ∀ (l : List Nat) {c d : List Int}, LeI c d → LeI (l.foldl (fun c i => restN c (p i)) c) (l.foldl (fun c i => restN c (p i)) d)
  | [], c, d, h => h
  | i :: l, c, d, h => LeI.rests l (h.rest (p i))
theorem LeI.sum : ∀ {c d : List Int} (z w : Int), LeI c d → z ≤ w → c.foldl (· + ·) z ≤ d.foldl (· + ·) w
  | [], [], _, _, _, h => h
  | x :: c, y :: d, z, w, h, h2 => LeI.sum (z + x) (w + y) h.2 (by have := h.1; omega)
  | [], _ :: _, _, _, h, _ => h.elim
  | _ :: _, [], _, _, h, _ => h.elim
theorem sum_nonneg : ∀ (l : List Int) (z : Int), 0 ≤ z → (∀ n ∈ l, 0 ≤ n) → 0 ≤ l.foldl (· + ·) z
  | [], z, h, _ => h
  | a :: l, z, h, k => sum_nonneg l (z + a) (by have := k a (by simp); omega) fun n hn => k n (by simp [hn])
theorem restN_nonneg {n : Int} : ∀ (c a : List Int), n ∈ restN c a → 0 ≤ n
  | [], a, h => by simp [restN] at h
  | x :: c, [], h => by simp [restN] at h
  | x :: c, y :: a, h => by
    have e : restN (x :: c) (y :: a) = max 0 (x - y) :: restN c a := rfl
    rw [e] at h
    rcases List.mem_cons.1 h with rfl | h
    · omega
    · exact restN_nonneg c a h
theorem rests_nonneg {p : Nat → List Int} : ∀ (l : List Nat) {c : List Int}, (∀ n ∈ c, 0 ≤ n) → ∀ n ∈ l.foldl (fun c i => restN c (p i)) c, 0 ≤ n
  | [], c, h => h
  | i :: l, c, h => rests_nonneg l (c := restN c (p i)) fun n hn => restN_nonneg _ _ hn

theorem covers_mono {x y : Nf} (hp : x.passes = y.passes) (hl : LeI y.lacks x.lacks) (hn : ∀ n ∈ y.lacks, 0 ≤ n) {b : Nat} (h : coversB x b = true) : coversB y b = true := by
  unfold coversB at h ⊢
  have h := of_decide_eq_true h
  refine decide_eq_true ?_
  have e : ∀ z : Nf, restsL z (choiceN b) = (choiceN b).foldl (fun c i => restN c (addsOf z i)) z.lacks := fun z => rfl
  have ea : addsOf y = addsOf x := by unfold addsOf; rw [hp]
  have h1 := (LeI.rests (p := addsOf x) (choiceN b) hl).sum 0 0 (Int.le_refl 0)
  have h2 := sum_nonneg _ 0 (Int.le_refl 0) (rests_nonneg (p := addsOf x) (choiceN b) hn)
  unfold sumF at h ⊢
  rw [List.map_id] at h ⊢
  rw [e] at h ⊢
  rw [ea]
  omega

theorem less_best {x y : Nf} (hp : x.passes = y.passes) (hl : LeI y.lacks x.lacks) (hn : ∀ n ∈ y.lacks, 0 ≤ n) (h : (bestN x 0).2 = true) : (bestN y 0).2 = true ∧ costB y (bestN y 0).1 ≤ costB x (bestN x 0).1 := by
  obtain ⟨h1, h2⟩ := best_some h
  have := best_least (x := y) (by rw [← hp]; exact h1) (covers_mono hp hl hn h2)
  have ec : costB y (bestN x 0).1 = costB x (bestN x 0).1 := by unfold costB costOf; rw [hp]
  rw [ec] at this
  exact this

/-! ### A pass more -/
theorem mem_choiceN {b i : Nat} (h : i ∈ choiceN b) : b.testBit i = true := (List.mem_filter.1 h).2
theorem rests_app {x y : Nf} (hl : y.lacks = x.lacks) {p : Ps} (hp : y.passes = x.passes ++ [p]) {b : Nat} (hb : b < 2 ^ x.passes.length) : restsL y (choiceN b) = restsL x (choiceN b) ∧ costB y b = costB x b := by
  have hlt : ∀ i ∈ choiceN b, i < x.passes.length := fun i hi => by
    have := mem_choiceN hi
    by_cases h : i < x.passes.length
    · exact h
    · have h2 := Nat.testBit_lt_two_pow (x := b) (i := i) (Nat.lt_of_lt_of_le hb (Nat.pow_le_pow_right (by omega) (by omega)))
      rw [h2] at this; cases this
  have hg : ∀ i ∈ choiceN b, y.passes.getD i p0 = x.passes.getD i p0 := fun i hi => by
    have := hlt i hi
    rw [hp, List.getD_eq_getElem?_getD, List.getElem?_append_left this, ← List.getD_eq_getElem?_getD]
  constructor
  · unfold restsL
    rw [hl]
    have : ∀ (l : List Nat) (c : List Int), (∀ i ∈ l, y.passes.getD i p0 = x.passes.getD i p0) → l.foldl (fun c i => restN c (addsOf y i)) c = l.foldl (fun c i => restN c (addsOf x i)) c := by
      intro l
      induction l with
      | nil => intros; rfl
      | cons i l ih =>
        intro c h
        rw [List.foldl_cons, List.foldl_cons, ih _ fun j hj => h j (by simp [hj])]
        unfold addsOf
        rw [h i (by simp)]
    exact this _ _ hg
  · unfold costB sumF choiceL castL
    congr 1
    rw [List.map_map, List.map_map]
    refine List.map_congr_left fun i hi => ?_
    simp only [Function.comp, Int.toNat_natCast]
    unfold costOf
    rw [hg i hi]

theorem more_best {x y : Nf} (hl : y.lacks = x.lacks) {p : Ps} (hp : y.passes = x.passes ++ [p]) (h : (bestN x 0).2 = true) : (bestN y 0).2 = true ∧ costB y (bestN y 0).1 ≤ costB x (bestN x 0).1 := by
  obtain ⟨h1, h2⟩ := best_some h
  obtain ⟨e1, e2⟩ := rests_app hl hp h1
  have hlt : (bestN x 0).1 < 2 ^ y.passes.length := by
    rw [hp, List.length_append]
    exact Nat.lt_of_lt_of_le h1 (Nat.pow_le_pow_right (by omega) (by omega))
  have := best_least (x := y) hlt (by unfold coversB at h2 ⊢; rw [e1]; exact h2)
  rw [e2] at this
  exact this

/-! ### A choice as a number -/
def bitsG (n : Nat) : List Int → Nat → Int → Option Nat
  | [], out, _ => some out
  | i :: l, out, last => if btw i (last + 1) ((n : Int) - 1) then bitsG n l (out ||| 2 ^ i.toNat) i else none

theorem choice_or : ∀ i < 10, ∀ b < 2 ^ i, choiceN (b ||| 2 ^ i) = choiceN b ++ [i] := by decide +kernel

theorem bitsG_spec {n : Nat} (hn : n ≤ 10) : ∀ (l : List Int) (out : Nat) (last : Nat) (r : Nat), last ≤ n → out < 2 ^ last → bitsG n l out ((last : Int) - 1) = some r → r < 2 ^ n ∧ choiceL r = choiceL out ++ l
  | [], out, last, r, hl, ho, h => by
    obtain rfl := Option.some.inj h
    exact ⟨Nat.lt_of_lt_of_le ho (Nat.pow_le_pow_right (by omega) hl), by simp⟩
  | i :: l, out, last, r, hl, ho, h => by
    simp only [bitsG] at h
    split at h
    · rename_i hb
      rw [btw_iff] at hb
      obtain ⟨k, rfl⟩ : ∃ k : Nat, i = k := ⟨i.toNat, by omega⟩
      rw [Int.toNat_natCast] at h
      have hk : k < n := by omega
      have hok : out < 2 ^ k := Nat.lt_of_lt_of_le ho (Nat.pow_le_pow_right (by omega) (by omega))
      have ho2 : out ||| 2 ^ k < 2 ^ (k + 1) := Nat.or_lt_two_pow (Nat.lt_of_lt_of_le hok (Nat.pow_le_pow_right (by omega) (by omega))) (Nat.pow_lt_pow_right (by omega) (by omega))
      obtain ⟨h1, h2⟩ := bitsG_spec hn l (out ||| 2 ^ k) (k + 1) r (by omega) ho2 (by rw [show ((k + 1 : Nat) : Int) - 1 = k by omega]; exact h)
      refine ⟨h1, ?_⟩
      rw [h2]
      unfold choiceL castL
      rw [choice_or k (by omega) out hok]
      simp
    · cases h

theorem bitsG_choice : ∀ n < 11, ∀ b < 2 ^ n, bitsG n (choiceL b) 0 (-1) = some b := by decide +kernel

end Go.Proofs.YtffoiccokigjcaaDoor

/-! Contracts: bits, Covers, Own. -/
set_option linter.unusedVariables false
set_option linter.unusedSimpArgs false
set_option maxRecDepth 40000
set_option maxHeartbeats 4000000
namespace Go.Proofs.YtffoiccokigjcaaDoor
open Go.Am
attribute [local simp] cells scalar mkv splice under2 under dem dem1 eQ nfC intsV

def bitsR : Option Nat → V
  | some b => .tuple [I (b : Nat), .bool true]
  | none => .tuple [I 0, .bool false]

theorem bitsG_drop {n : Nat} {l : List Int} {k : Nat} (h : k < l.length) (out : Nat) (last : Int) : bitsG n (l.drop k) out last = if btw l[k] (last + 1) ((n : Int) - 1) then bitsG n (l.drop (k + 1)) (out ||| 2 ^ l[k].toNat) l[k] else none := by
  rw [List.drop_eq_getElem_cons h]; rfl

theorem c_bits {x : Nf} (hx : nfOk x = true) {l : List Int} (hl : l.length ≤ 9223372036854775807) : C Tryd.prog F.bin_bits [.agg (nfC x), intsV l] (bitsR (bitsG x.passes.length l 0 (-1))) := by
  have h10 := (nfOk_spec hx).1.2
  refine C_of mixed chk.bin_bits (by simp) fun S ok => ?_
  refine Tr.seqR rfl (by simp) (Tr.seqR rfl (by simp) (Tr.seq (Tr.seqR rfl (by simp) (Tr.block ?_))))
  refine Tr.loop (α := Nat × Nat × Int) (fun p st => (p.1 ≤ l.length ∧ p.2.1 < 1024 ∧ (-1 ≤ p.2.2 ∧ p.2.2 ≤ 10) ∧ bitsG x.passes.length l 0 (-1) = bitsG x.passes.length (l.drop p.1) p.2.1 p.2.2) ∧ st = { env := [(2, .ptr 2 0), (6, I (p.2.1 : Nat)), (7, I p.2.2), (10, intsV l), (11, I (l.length : Nat)), (12, I (p.1 : Nat))], bx := [(2, ⟨nfC x, false⟩)], rw := [], log := [], stp := false }) (fun p => l.length - p.1) (0, 0, -1)
    (Wk.le (.cons rfl (.refl _) (.cons rfl (.refl _) (.cons rfl (.refl _) (.cons rfl (.refl _) (.cons rfl (VLe.i (by simp)) (.cons rfl (.refl _) .nil)))))) (.cons rfl (LLe.refl _) .nil) .nil rfl rfl) ⟨⟨by simp, by simp, by simp, rfl⟩, rfl⟩ ?_
  rintro ⟨k, out, last⟩ st ⟨⟨hk, ho, hla, hG⟩, rfl⟩
  simp only at hk ho hla hG
  refine Tr.seqR rfl (by simp) (Tr.seqI rfl (fun h1 => ?_) (fun h1 => ?_))
  · have h1 : k < l.length := by simpa using h1
    rw [bitsG_drop h1] at hG
    have hw1 : IntKind.wrap .i64 (last + 1) = last + 1 := w64 (by omega) (by omega)
    have hw2 : IntKind.wrap .i64 (((x.passes.map eQ).length : Int) - 1) = (x.passes.length : Int) - 1 := by rw [List.length_map, w64 (by omega) (by omega)]
    have kw := c_within l[k] (IntKind.wrap .i64 (last + 1)) (IntKind.wrap .i64 (((x.passes.map eQ).length : Int) - 1))
    refine Tr.skipT (Tr.seq (Tr.block ?_))
    refine Tr.seqN 1 rfl (by simp; omega) ?_
    rw [getD_map h1]
    refine Steps.fin rfl (by simp) ?_
    refine Tr.seq (Tr.seqC rfl (by simp) (Steps.call rfl rfl kw (Steps.fin rfl (by simp) ?_)))
    rw [hw1, hw2]
    refine Tr.cond rfl rfl (fun h2 => ?_) (fun h2 => Tr.skip ?_)
    · have h2 : (!btw l[k] (last + 1) ((x.passes.length : Int) - 1)) = true := h2
      have h2 : btw l[k] (last + 1) ((x.passes.length : Int) - 1) = false := by simpa using h2
      rw [h2] at hG
      refine Tr.seqR rfl (by simp) (Tr.retX rfl rfl rfl ?_ trivial)
      rw [hG]; rfl
    · have h2 : (!btw l[k] (last + 1) ((x.passes.length : Int) - 1)) = false := h2
      have h2 : btw l[k] (last + 1) ((x.passes.length : Int) - 1) = true := by simpa using h2
      rw [h2, if_pos rfl] at hG
      rw [btw_iff] at h2
      obtain ⟨q, hq⟩ : ∃ q : Nat, l[k] = (q : Int) := ⟨l[k].toNat, by omega⟩
      rw [hq] at h2 hG ⊢
      rw [Int.toNat_natCast] at hG
      have hq9 : q < 10 := by omega
      have hp : 2 ^ q < 1024 := Nat.lt_of_lt_of_le (Nat.pow_lt_pow_right (by omega) hq9) (Nat.le_refl _)
      have hor : out ||| 2 ^ q < 1024 := Nat.or_lt_two_pow (n := 10) ho hp
      refine Tr.reg (Steps.run rfl (by simp) ?_)
      refine Tr.regR rfl (by simp) ?_
      refine ⟨(k + 1, out ||| 2 ^ q, (q : Int)), _, Wk.le (.cons rfl (.refl _) (.cons rfl (VLe.i ?_) (.cons rfl (.refl _) (.cons rfl (.refl _) (.cons rfl (.refl _) (.cons rfl (VLe.i (w64 (by omega) (by omega))) .nil)))))) (.cons rfl (LLe.refl _) .nil) .nil rfl rfl, ⟨⟨by simp only; omega, hor, ⟨by simp only; omega, by simp only; omega⟩, hG⟩, rfl⟩, by simp only; omega⟩
      show bitsV .or .i64 (out : Int) (IntKind.wrap .i64 (1 * 2 ^ (min (q : Int).toNat 64))) = _
      rw [bit_shl q (by omega), bits_or out (2 ^ q) (by omega) (by omega)]
  · have h1 : k = l.length := by simp at h1; omega
    subst h1
    rw [List.drop_length] at hG
    refine Tr.exit (Tr.seqR rfl (by simp) (Tr.retX rfl rfl rfl ?_ trivial))
    rw [hG]; rfl

def CoversR (x : Nf) (l : List Int) : V := if nfOk x then (match bitsG x.passes.length l 0 (-1) with | some b => .tuple [.bool (coversB x b), I 0] | none => .tuple [.bool false, I 75]) else .tuple [.bool false, I 74]

theorem c_Covers {x : Nf} (hx : ∀ p ∈ x.passes, p.adds.length ≤ 9223372036854775807) {l : List Int} (hl : l.length ≤ 9223372036854775807) : C Tryd.prog F.bin_Covers [.agg (nfC x), intsV l] (CoversR x l) := by
  have kc := c_CheckInfill hx
  unfold CoversR
  refine C_of mixed chk.bin_Covers (by simp) fun S ok => ?_
  refine Tr.seqR rfl (by simp) ?_
  by_cases hk : nfOk x = true
  rotate_left
  · rw [if_neg hk] at kc ⊢
    refine Tr.seq (Tr.seqC rfl (by simp) (Steps.call rfl rfl kc (Steps.fin rfl (by simp) (Tr.seqR rfl (by simp) (Tr.condT rfl (Tr.seqR rfl (by simp) ?_))))))
    exact Tr.retX rfl rfl rfl rfl trivial
  rw [if_pos hk] at kc ⊢
  refine Tr.seq (Tr.seqC rfl (by simp) (Steps.call rfl rfl kc (Steps.fin rfl (by simp) (Tr.seqR rfl (by simp) (Tr.condF rfl (Tr.skip ?_))))))
  have kb := c_bits hk hl
  have h10 := (nfOk_spec hk).1.2
  cases hb : bitsG x.passes.length l 0 (-1) with
  | none =>
    rw [hb] at kb
    refine Tr.seqC rfl (by simp) (Steps.call rfl rfl kb (Steps.fin rfl (by simp) ?_))
    exact Tr.seq (Tr.seqR rfl (by simp) (Tr.condT rfl (Tr.seqR rfl (by simp) (Tr.retX rfl rfl rfl rfl trivial))))
  | some b =>
    rw [hb] at kb
    have hlt := (bitsG_spec h10 l 0 0 b (by omega) (by simp) hb).1
    refine Tr.seqC rfl (by simp) (Steps.call rfl rfl kb (Steps.fin rfl (by simp) ?_))
    refine Tr.seq (Tr.seqR rfl (by simp) (Tr.condF rfl (Tr.skip ?_)))
    exact Tr.seqC rfl (by simp) (Steps.call rfl rfl (c_covers hk hlt) (Steps.fin rfl (by simp) (Tr.retX rfl rfl rfl rfl trivial)))

theorem c_Own {l : List Int} (h0 : l ≠ []) (hl : l.length ≤ 1000000) : CO Tryd.prog F.ref00_Own [intsV l] 1 (l.map I) := by
  refine CO_of mixed chk.ref00_Own (by simp) fun S ok => ?_
  refine Tr.seqR rfl (by simp) (Tr.seqR rfl (by simp) ?_)
  refine Tr.seqN 2 rfl (by simp) ?_
  refine Steps.appendBox (r := 0) (ys := l.map I) rfl rfl (by omega) (by simp; omega) (by simp; omega) (by simpa using h0) ?_
  refine Steps.fin rfl (by simp) (Tr.ret ?_)
  exact ⟨6, rfl, rfl, by rw [flat_ints]; exact ints_isD l⟩

theorem c_Own0 : C Tryd.prog F.ref00_Own [intsV []] (intsV []) := by
  refine C_of mixed chk.ref00_Own (by simp) fun S ok => ?_
  refine Tr.seqR rfl (by simp) (Tr.seqR rfl (by simp) ?_)
  refine Tr.seqR rfl (by simp) ?_
  exact Tr.weak (s' := { env := [(2, intsV [])], bx := [], rw := [], log := [], stp := false }) (Wk.le (.cons rfl (.dem _ _ _) .nil) .nil .nil rfl rfl) (Tr.retX rfl rfl rfl rfl trivial)

end Go.Proofs.YtffoiccokigjcaaDoor

/-! The statement BinKnown. -/
set_option linter.unusedVariables false
set_option linter.unusedSimpArgs false
set_option maxRecDepth 40000
set_option maxHeartbeats 8000000
namespace Go.Am
theorem Steps.strNe {E : Env} {K : St → Prop} {s : St} {d : Nat} {x y : X} {a : ByteArray} {rest : List Ins} (hx : evXs s.env [x, y] = some [.str a, .str a]) (hk : Am.Steps E rest K (s.put (some d) (.bool false))) : Am.Steps E (⟨some d, .bin .neq, [x, y], none⟩ :: rest) K s := by
  refine Step1.does (ins := ⟨some d, .bin .neq, [x, y], none⟩) (eff := { v := .bool false }) (rd := xslots [x, y]) (stepP_ok (p := True) ?_ trivial) hk
  unfold stepP
  rw [hx]
  simp [evalK, nilOk]
end Go.Am
namespace Go.Proofs.YtffoiccokigjcaaDoor
open Go.Am
attribute [local simp] cells scalar mkv splice under2 under dem dem1 eB gridC sB fourC eF layC eQ nfC intsV foldV eL sL eC cutsV eY

/-! ### What is known -/
def wG1 : Gd := ⟨(0, 0), 1001, 3, 2, [(0, 25), (26, 400)]⟩
def wG2 : Gd := ⟨(0, 0), 2, 17, 2, [(0, 25), (26, 400)]⟩
def wG3 : Gd := ⟨(0, 0), 2, 3, 2, [(0, 25), (25, 400)]⟩
def wG4 : Gd := ⟨(0, 0), 2, 3, 2, []⟩
def wG0 : Gd := ⟨(0, 0), 0, 0, 0, []⟩
def wGs : List V := [.agg [I 0, I 0, I 0, I 0, I 0, .nils], .agg (gridC wG1), .agg (gridC wG2), .agg (gridC wG3), .agg [I 0, I 0, I 2, I 3, I 2, .nils]]
def largeG : Gd := ⟨(0, 0), 2, 16, 2, [(0, 25), (26, 400)]⟩
def mapG : Gd := ⟨(0, 0), 1, 2, 1, [(0, 0)]⟩

theorem k70 {g : Gd} (h : gridOk g = false) (hl : g.cls.length ≤ 9223372036854775807) : C Tryd.prog F.bin_CheckGrid [.agg (gridC g)] (I 70) := by
  have := c_CheckGrid hl
  rwa [h] at this

def bY0 : Ly := ⟨exY.nodes, [(0, 0)]⟩
def bY1 : Ly := ⟨exY.nodes, [(0, 3)]⟩
def bY2 : Ly := ⟨[⟨(0, 64), (0, 0), (0, 64), (0, 64)⟩], []⟩
def bY3 : Ly := ⟨[⟨(0, 0), (0, 0), (1, 1), (0, 0)⟩], []⟩
def bYs : List V := [.agg (layC bY0), .agg (layC bY1), .agg [.slice 0 8 (bY2.nodes.map eF), .nils], .agg [.slice 0 8 (bY3.nodes.map eF), .nils]]

theorem k71 {s : Ly} (h : layOk s = false) (hn : s.nodes.length ≤ 9223372036854775807) (ht : s.traces.length ≤ 9223372036854775807) : C Tryd.prog F.bin_CheckLayout [.agg (layC s)] (I 71) := by
  have := c_CheckLayout hn ht
  rwa [h] at this

theorem wG0_bad : gridOk wG0 = false := by kernel_rfl
theorem wG1_bad : gridOk wG1 = false := by kernel_rfl
theorem wG2_bad : gridOk wG2 = false := by kernel_rfl
theorem wG3_bad : gridOk wG3 = false := by kernel_rfl
theorem wG4_bad : gridOk wG4 = false := by kernel_rfl
theorem bY0_bad : layOk bY0 = false := by kernel_rfl
theorem bY1_bad : layOk bY1 = false := by kernel_rfl
theorem bY2_bad : layOk bY2 = false := by kernel_rfl
theorem bY3_bad : layOk bY3 = false := by kernel_rfl

def CellV (g : Gd) (a b : Int × Int) : V := if gridOk g then (if planeB a && planeB b then .tuple [eB (cellN g a b), I 0] else .tuple [.agg [I 0, I 0], I 10]) else .tuple [.agg [I 0, I 0], I 70]
theorem kc1 : CellV exG (1, 1) (3, 3) = .tuple [eB (4, 0), I 0] := by kernel_rfl
theorem kc2 : CellV exG (3, 3) (9, 3) = .tuple [eB (-1, -1), I 0] := by kernel_rfl
theorem kc3 : CellV exG (-1, 0) (0, 0) = .tuple [eB (-1, -1), I 0] := by kernel_rfl
theorem kc4 : CellV exG (32769, 0) (0, 0) = .tuple [.agg [I 0, I 0], I 10] := by kernel_rfl
theorem kC {a b : Int × Int} {r : V} (h : CellV exG a b = r) : C Tryd.prog F.bin_Cell [.agg (gridC exG), eB a, eB b] r := by
  have := c_Cell exG_l a b
  rw [← h]; exact this
theorem kh1 : HitsR exG exY 3 = .tuple [sB [], I 72] := by kernel_rfl
theorem kl1 : LacksR exG exY [1] = .tuple [sL [], I 73] := by kernel_rfl
theorem kg1 : GainR exG exY 3 = .tuple [I 0, I 72] := by kernel_rfl
theorem km1 : MapR exG [] 0 = .tuple [.str ⟨#[]⟩, I 73] := by kernel_rfl
theorem km2 : MapR mapG [[9], [10]] 0 = .tuple [.str ⟨#[57, 43, 10]⟩, I 0] := by kernel_rfl
def exX : Nf := ⟨[1, 1, 1, 1, 1], [⟨7, [0, 0, 0, 0, 0]⟩]⟩
theorem kb1 : BuildR exG exY [1, 0] [exY] [7] = .tuple [.agg (nfC exX), I 0] := by kernel_rfl
theorem kb2 : BuildR exG exY [1, 0] [exY] [] = .tuple [.agg (nfC nf0), I 75] := by kernel_rfl
theorem kb3 : BuildR exG exY [1, 0] [bY0] [7] = .tuple [.agg (nfC nf0), I 71] := by kernel_rfl
theorem kb4 : BuildR largeG exY [1, 1] [] [] = .tuple [.agg (nfC nf0), I 3] := by kernel_rfl
theorem kv1 : CoversR exN [0, 1] = .tuple [.bool true, I 0] := by kernel_rfl
theorem kv2 : CoversR exN [0, 2, 2] = .tuple [.bool false, I 75] := by kernel_rfl
theorem kt1 : BestR exX = .tuple [intsV [], I 0, I 4] := by kernel_rfl
theorem kt2 : BestR nf0 = .tuple [intsV [], I 0, I 0] := by kernel_rfl
theorem kw1 : WithoutR exN 4 = .tuple [I 0, I 75] := by kernel_rfl
theorem kd1 : BoundR nf0 [⟨-1, []⟩] = .tuple [I 0, I 0] := by kernel_rfl
theorem kd2 : BoundR exN [] = .tuple [I 0, I 76] := by kernel_rfl
theorem kd3 : BoundR exN [⟨3, []⟩, ⟨-1, [0, 0]⟩, ⟨-1, [2, 3]⟩] = .tuple [I 6, I 0] := by kernel_rfl

theorem exY_s : lySane exY := ⟨by decide, by decide⟩
theorem bY0_s : lySane bY0 := ⟨by decide, by decide⟩
theorem kB {g : Gd} {s : Ly} {ns costs : List Int} {lines : List Ly} {r : V} (h : BuildR g s ns lines costs = r) (hl : g.cls.length ≤ 9223372036854775807) (hs0 : lySane s) (hns : ns.length ≤ 9223372036854775807) (hln : lines.length ≤ 9223372036854775807) (hls : ∀ y ∈ lines, lySane y) (hcs : costs.length ≤ 9223372036854775807) :
    C Tryd.prog F.bin_Build [.agg (gridC g), .agg (layC s), intsV ns, .slice 0 2 (lines.map eY), intsV costs] r := by
  rw [← h]; exact c_Build hl hs0 hns hln hls hcs
theorem kT {x : Nf} {r : V} (h : BestR x = r) (hx : ∀ p ∈ x.passes, p.adds.length ≤ 9223372036854775807) : C Tryd.prog F.bin_Best [.agg (nfC x)] r := by
  rw [← h]; exact c_Best hx
theorem kD {x : Nf} {pf : List Ct} {r : V} (h : BoundR x pf = r) (hx : ∀ p ∈ x.passes, p.adds.length ≤ 9223372036854775807) (hp : ∀ k ∈ pf, k.prices.length ≤ 9223372036854775807) : C Tryd.prog F.bin_Bound [.agg (nfC x), cutsV pf] r := by
  rw [← h]; exact c_Bound hx hp
theorem exX_s : nfSane exX := ⟨⟨by decide, by decide⟩, by decide⟩

theorem wGs_holds : Holds (wGs.flatMap cells) 0 6 5 wGs := by
  refine ⟨by omega, rfl, fun x hx => ?_, rfl, fun x hx => ?_⟩
  · simp only [wGs, List.mem_cons, List.not_mem_nil, or_false] at hx
    rcases hx with rfl | rfl | rfl | rfl | rfl <;> rfl
  · simp only [wGs, List.mem_cons, List.not_mem_nil, or_false] at hx
    rcases hx with rfl | rfl | rfl | rfl | rfl <;> rfl

theorem bYs_holds : Holds (bYs.flatMap cells) 0 2 4 bYs := by
  refine ⟨by omega, rfl, fun x hx => ?_, rfl, fun x hx => ?_⟩
  · simp only [bYs, List.mem_cons, List.not_mem_nil, or_false] at hx
    rcases hx with rfl | rfl | rfl | rfl <;> rfl
  · simp only [bYs, List.mem_cons, List.not_mem_nil, or_false] at hx
    rcases hx with rfl | rfl | rfl | rfl <;> rfl

set_option maxRecDepth 100000 in
theorem c_BinKnown : C Tryd.prog F.law07_BinKnown [] (.bool true) := by
  refine C_of mixed chk.law07_BinKnown (by simp) fun S ok => ?_
  refine Tr.seqR rfl (by simp) ?_
  refine Tr.seqC rfl (by simp) (Steps.call rfl rfl c_grid (Steps.call rfl rfl c_grid (Steps.call rfl rfl c_grid (Steps.call rfl rfl c_grid ?_))))
  refine Steps.mkOwn (us := [.agg [I 0, I 0, I 0, I 0, I 0, .nils], .agg (gridC exG), .agg (gridC exG), .agg (gridC exG), .agg (gridC exG)]) rfl (fun _ => rfl) rfl (by omega) rfl (by simp) (by simp) ?_
  refine Steps.fin rfl (by simp) ?_
  refine Tr.seqR rfl (by simp [exG]) (Tr.seqR rfl (by simp [exG]) ?_)
  refine Tr.seqC rfl (by simp) (Steps.call rfl rfl (c_bound 0 25) (Steps.call rfl rfl (c_bound 25 400) (Steps.fin rfl (by simp [exG]) ?_)))
  refine Tr.seqR rfl (by simp [exG]) ?_
  refine Tr.weak (s' := { env := [(0, .bool false), (1, .bsl 35 0 6 5)], bx := [(35, ⟨wGs.flatMap cells, false⟩)], rw := [], log := [], stp := false })
    (Wk.le (.cons rfl (.refl _) (.cons rfl (.refl _) .nil)) (.cons rfl (LLe.set (.dem 46 2 [eB (0, 25), eB (25, 400)]) (wGs.flatMap cells) 23) .nil) .nil rfl rfl) ?_
  refine Tr.weak (Wk.bsl (t := 1) rfl rfl wGs_holds) ?_
  refine Tr.seq (Tr.seqR rfl (by simp) (Tr.block (Tr.rounds 6 (TrN.succ ?_))))
  refine Tr.seq (Tr.seqR rfl (by simp [wGs] <;> decide) (Tr.condT rfl (Tr.skip (Tr.seq (Tr.block (Tr.seqC rfl (by simp [wGs] <;> decide) (Steps.call rfl rfl (argsB (k70 wG0_bad (by decide)) rfl) (Steps.fin rfl (by simp) (Tr.condF rfl (Tr.skip (Tr.regR rfl (by simp) (TrN.succ ?_))))))))))))
  refine Tr.seq (Tr.seqR rfl (by simp [wGs] <;> decide) (Tr.condT rfl (Tr.skip (Tr.seq (Tr.block (Tr.seqC rfl (by simp [wGs] <;> decide) (Steps.call rfl rfl (argsB (k70 wG1_bad (by decide)) rfl) (Steps.fin rfl (by simp) (Tr.condF rfl (Tr.skip (Tr.regR rfl (by simp) (TrN.succ ?_))))))))))))
  refine Tr.seq (Tr.seqR rfl (by simp [wGs] <;> decide) (Tr.condT rfl (Tr.skip (Tr.seq (Tr.block (Tr.seqC rfl (by simp [wGs] <;> decide) (Steps.call rfl rfl (argsB (k70 wG2_bad (by decide)) rfl) (Steps.fin rfl (by simp) (Tr.condF rfl (Tr.skip (Tr.regR rfl (by simp) (TrN.succ ?_))))))))))))
  refine Tr.seq (Tr.seqR rfl (by simp [wGs] <;> decide) (Tr.condT rfl (Tr.skip (Tr.seq (Tr.block (Tr.seqC rfl (by simp [wGs] <;> decide) (Steps.call rfl rfl (argsB (k70 wG3_bad (by decide)) rfl) (Steps.fin rfl (by simp) (Tr.condF rfl (Tr.skip (Tr.regR rfl (by simp) (TrN.succ ?_))))))))))))
  refine Tr.seq (Tr.seqR rfl (by simp [wGs] <;> decide) (Tr.condT rfl (Tr.skip (Tr.seq (Tr.block (Tr.seqC rfl (by simp [wGs] <;> decide) (Steps.call rfl rfl (argsB (k70 wG4_bad (by decide)) rfl) (Steps.fin rfl (by simp) (Tr.condF rfl (Tr.skip (Tr.regR rfl (by simp) (TrN.succ ?_))))))))))))
  refine Tr.seq (Tr.seqR rfl (by simp [wGs] <;> decide) (Tr.condF rfl (Tr.exit ?_)))
  refine Tr.weak (s' := { env := [(0, .bool false)], bx := [], rw := [], log := [], stp := false }) (Wk.le (.cons rfl (.refl _) .nil) .nil .nil rfl rfl) ?_
  refine Tr.seqC rfl (by simp) (Steps.call rfl rfl c_lines (Steps.call rfl rfl c_lines ?_))
  refine Steps.call rfl rfl (c_bound 0 64) (Steps.call rfl rfl (c_bound 0 64) (Steps.call rfl rfl (c_bound 0 64) (Steps.run rfl (by simp) ?_)))
  refine Steps.call rfl rfl (c_bound 1 1) (Steps.runN 3 rfl (by simp) ?_)
  refine Steps.mkOwn (us := [.agg (layC exY), .agg (layC exY), .agg [.slice 0 8 (bY2.nodes.map eF), .nils], .agg [.slice 0 8 (bY3.nodes.map eF), .nils]]) rfl (fun _ => rfl) rfl (by omega) rfl (by simp) (by simp) ?_
  refine Steps.fin rfl (by simp) ?_
  refine Tr.seqR rfl (by simp [exY]) (Tr.seqR rfl (by simp [exY]) ?_)
  refine Tr.weak (s' := { env := [(3, .bsl 75 0 2 4)], bx := [(75, ⟨bYs.flatMap cells, false⟩)], rw := [], log := [], stp := false })
    (Wk.le (.cons rfl (.refl _) .nil) (.cons rfl (.cons (.refl _) (.cons (.dem 79 2 [eB (0, 0)]) (.cons (.refl _) (.cons (.dem 84 2 [eB (0, 3)]) (.cons (.refl _) (.cons (.refl _) (.cons (.refl _) (.cons (.refl _) .nil)))))))) .nil) .nil rfl rfl) ?_
  refine Tr.weak (Wk.bsl (t := 3) rfl rfl bYs_holds) ?_
  refine Tr.seq (Tr.seqR rfl (by simp) (Tr.block (Tr.rounds 5 (TrN.succ ?_))))
  refine Tr.seq (Tr.seqR rfl (by simp [bYs] <;> decide) (Tr.condT rfl (Tr.skip (Tr.seq (Tr.block (Tr.seqC rfl (by simp [bYs] <;> decide) (Steps.call rfl rfl (argsB (k71 bY0_bad (by decide) (by decide)) rfl) (Steps.fin rfl (by simp) (Tr.condF rfl (Tr.skip (Tr.regR rfl (by simp) (TrN.succ ?_))))))))))))
  refine Tr.seq (Tr.seqR rfl (by simp [bYs] <;> decide) (Tr.condT rfl (Tr.skip (Tr.seq (Tr.block (Tr.seqC rfl (by simp [bYs] <;> decide) (Steps.call rfl rfl (argsB (k71 bY1_bad (by decide) (by decide)) rfl) (Steps.fin rfl (by simp) (Tr.condF rfl (Tr.skip (Tr.regR rfl (by simp) (TrN.succ ?_))))))))))))
  refine Tr.seq (Tr.seqR rfl (by simp [bYs] <;> decide) (Tr.condT rfl (Tr.skip (Tr.seq (Tr.block (Tr.seqC rfl (by simp [bYs] <;> decide) (Steps.call rfl rfl (argsB (k71 bY2_bad (by decide) (by decide)) rfl) (Steps.fin rfl (by simp) (Tr.condF rfl (Tr.skip (Tr.regR rfl (by simp) (TrN.succ ?_))))))))))))
  refine Tr.seq (Tr.seqR rfl (by simp [bYs] <;> decide) (Tr.condT rfl (Tr.skip (Tr.seq (Tr.block (Tr.seqC rfl (by simp [bYs] <;> decide) (Steps.call rfl rfl (argsB (k71 bY3_bad (by decide) (by decide)) rfl) (Steps.fin rfl (by simp) (Tr.condF rfl (Tr.skip (Tr.regR rfl (by simp) (TrN.succ ?_))))))))))))
  refine Tr.seq (Tr.seqR rfl (by simp [bYs] <;> decide) (Tr.condF rfl (Tr.exit ?_)))
  refine Tr.weak (s' := { env := [(3, .slice 0 2 bYs)], bx := [], rw := [], log := [], stp := false }) (Wk.le (.cons rfl (.refl _) .nil) .nil .nil rfl rfl) ?_
  refine Tr.seqC rfl (by simp) (Steps.call rfl rfl c_grid (Steps.run rfl (by simp) (Steps.call rfl rfl (kC kc1) (Steps.fin rfl (by simp) ?_))))
  refine Tr.seqC rfl (by simp) (Steps.call rfl rfl c_grid (Steps.run rfl (by simp) (Steps.call rfl rfl (kC kc2) (Steps.fin rfl (by simp) ?_))))
  refine Tr.seqC rfl (by simp) (Steps.call rfl rfl c_grid (Steps.run rfl (by simp) (Steps.call rfl rfl (kC kc3) (Steps.fin rfl (by simp) ?_))))
  refine Tr.seqC rfl (by simp) (Steps.call rfl rfl c_grid (Steps.run rfl (by simp) (Steps.call rfl rfl (kC kc4) (Steps.fin rfl (by simp) ?_))))
  refine Tr.seqC rfl (by simp) (Steps.call rfl rfl c_grid (Steps.call rfl rfl c_lines (Steps.call rfl rfl (kh1 ▸ c_Hits exG_l exY_n exY_t 3) (Steps.fin rfl (by simp) ?_))))
  refine Tr.seqC rfl (by simp) (Steps.call rfl rfl c_grid (Steps.call rfl rfl c_lines (Steps.run rfl (by simp) (Steps.call rfl rfl (kl1 ▸ c_Lacks exG_l exY_n exY_t (ns := [1]) (by decide)) (Steps.fin rfl (by simp) ?_)))))
  refine Tr.seqC rfl (by simp) (Steps.call rfl rfl c_grid (Steps.call rfl rfl c_lines (Steps.call rfl rfl (kg1 ▸ c_Gain exG_l exY_n exY_t 3) (Steps.fin rfl (by simp) ?_))))
  refine Tr.seqC rfl (by simp) (Steps.call rfl rfl c_grid (Steps.call rfl rfl (argsB (km1 ▸ c_Map exG_l (f := []) (by decide) (by decide) 0) rfl) (Steps.fin rfl (by simp) ?_)))
  refine Tr.seq (Tr.seq (Tr.reg (Steps.runG rfl (by simp) ?_)))
  refine Tr.condF (by kernel_rfl) (Tr.skip ?_)
  refine Tr.weak (s' := { env := [(3, .slice 0 2 bYs)], bx := [], rw := [], log := [], stp := false }) (Wk.le (.cons rfl (.refl _) .nil) .nil .nil rfl rfl) ?_
  refine Tr.seqC rfl (by simp) (Steps.call rfl rfl (km2 ▸ c_Map (g := mapG) (by decide) (f := [[9], [10]]) (by decide) (by decide) 0) (Steps.fin rfl (by simp) ?_))
  refine Tr.seqC rfl (by simp) (Steps.call rfl rfl c_grid (Steps.call rfl rfl c_lines (Steps.run rfl (by simp) (Steps.call rfl rfl c_lines (Steps.run rfl (by simp) ?_)))))
  refine Steps.call rfl rfl (kB kb1 exG_l exY_s (by decide) (by decide) (by simpa using exY_s) (by decide)) (Steps.fin rfl (by simp) ?_)
  refine Tr.seqC rfl (by simp) (Steps.call rfl rfl c_grid (Steps.call rfl rfl c_lines (Steps.run rfl (by simp) (Steps.call rfl rfl c_lines (Steps.run rfl (by simp) ?_)))))
  refine Steps.call rfl rfl (argsB (kB kb2 exG_l exY_s (by decide) (by decide) (by simpa using exY_s) (by decide)) rfl) (Steps.fin rfl (by simp) ?_)
  refine Tr.seq (Tr.drawK (TraceK.call rfl rfl c_grid (TraceK.call rfl rfl c_lines (TraceK.run rfl (by simp [bYs] <;> decide) ?_))))
  refine TraceK.call rfl rfl (argsB (kB kb3 exG_l exY_s (by decide) (by decide) (by simpa using bY0_s) (by decide)) rfl) (TraceK.run rfl (by simp) (.done ⟨by kernel_rfl, by kernel_rfl, ?_⟩))
  refine Tr.seqC rfl (by simp) (Steps.call rfl rfl c_grid (Steps.fin rfl (by simp) ?_))
  refine Tr.seqR rfl (by simp [exG]) ?_
  refine Tr.seq (Tr.drawK (TraceK.run rfl (by simp [exG]) (TraceK.call rfl rfl c_lines (TraceK.run rfl (by simp) ?_))))
  refine TraceK.call rfl rfl (argsB (kB kb4 (by decide) exY_s (by decide) (by decide) (by simp) (by decide)) rfl) (TraceK.run rfl (by simp) (.done ⟨by kernel_rfl, by kernel_rfl, ?_⟩))
  refine Tr.seq (Tr.seq (Tr.reg (Steps.runGN 4 rfl (by simp) ?_)))
  refine Steps.on rfl rfl (Steps.strNe rfl (Steps.runG rfl (by simp) ?_))
  refine Steps.on rfl rfl (Steps.call rfl rfl (c_alike exX_s) (Steps.runG rfl (by simp) ?_))
  refine Tr.condF (by kernel_rfl) (Tr.skip ?_)
  refine Tr.weak (s' := { env := [(22, .ptr 22 0)], bx := [(22, ⟨nfC exX, false⟩)], rw := [], log := [], stp := false }) (Wk.le (.cons rfl (.refl _) .nil) (.cons rfl (LLe.refl _) .nil) .nil rfl rfl) ?_
  refine Tr.seqC rfl (by simp) (Steps.call rfl rfl c_gaps (Steps.run rfl (by simp) (Steps.call rfl rfl (kv1 ▸ c_Covers exN_a (l := [0, 1]) (by decide)) (Steps.fin rfl (by simp) ?_))))
  refine Tr.seqC rfl (by simp) (Steps.call rfl rfl c_gaps (Steps.run rfl (by simp) (Steps.call rfl rfl (kv2 ▸ c_Covers exN_a (l := [0, 2, 2]) (by decide)) (Steps.fin rfl (by simp) ?_))))
  refine Tr.seqC rfl (by simp [exX]) (Steps.call rfl rfl (kT kt1 exX_s.2) (Steps.fin rfl (by simp) ?_))
  refine Tr.seqC rfl (by simp) (Steps.call rfl rfl c_gaps (Steps.call rfl rfl (kw1 ▸ c_Without exN_a 4) (Steps.fin rfl (by simp) ?_)))
  refine Tr.seqC rfl (by simp) (Steps.call rfl rfl (argsB (kT kt2 (by simp [nf0])) rfl) (Steps.fin rfl (by simp) ?_))
  refine Tr.seqC rfl (by simp) (Steps.call rfl rfl (argsB (kD kd1 (by simp [nf0]) (by decide)) rfl) (Steps.fin rfl (by simp) ?_))
  refine Tr.seqC rfl (by simp) (Steps.call rfl rfl c_gaps (Steps.call rfl rfl (argsB (kD kd2 exN_a (by simp)) rfl) (Steps.fin rfl (by simp) ?_)))
  refine Tr.seqC rfl (by simp) (Steps.call rfl rfl c_gaps (Steps.run rfl (by simp) (Steps.call rfl rfl (argsB (kD kd3 exN_a (by decide)) rfl) (Steps.fin rfl (by simp) ?_))))
  refine Tr.seq (Tr.reg (Steps.runG rfl (by simp) ?_))
  refine Steps.on rfl rfl (Steps.call rfl rfl c_works (Steps.runG rfl (by simp) ?_))
  exact Tr.retX rfl rfl rfl (by kernel_rfl) trivial

end Go.Proofs.YtffoiccokigjcaaDoor
