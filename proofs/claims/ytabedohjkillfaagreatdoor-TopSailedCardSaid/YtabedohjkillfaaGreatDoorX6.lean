/-
  Parts of the proof: the abstract machine, the compiled code, contracts of the functions, plain laws (spelled short by a program).
-/
import Derived.Test.YtabedohjkillfaaGreatDoorX5
import Derived.Test.YtabedohjkillfaaGreatDoorProg
import Derived.Maps.RangeRun
import Derived.Carry
import Derived.WalkSpells
import Derived.Laws.IdiomStrings
import Derived.Lib.BufferRead
import Derived.Shelf.SlSortCmp.WholeK
set_option maxRecDepth 100000
set_option maxHeartbeats 4000000
set_option linter.unusedVariables false
set_option linter.unusedSimpArgs false
namespace Go.Proofs.YtabedohjkillfaaGreatDoor
section
open Go.Am
abbrev Xa:Nat:=257
def A6t:CF 257:=⟨_,by cbv⟩
abbrev Kg:Nat:=259
abbrev Hb:Nat:=261
def Rx:CF 261:=⟨_,by cbv⟩
end
section
open Go.Am
abbrev I (n:Int):V:=.int .i64 n
def btw (n lo hi:Int):Bool:=decide (n≥lo)&&decide (n≤hi)
theorem w64 {n:Int} (h1:-9223372036854775808≤n) (h2:n<9223372036854775808):IntKind.wrap .i64 n=n:=by
 have e:∀m:Int,m=n%18446744073709551616→(if (true&&decide (m≥9223372036854775808))=true then m-18446744073709551616 else m)=n:=by
  intro m hm;by_cases h:m≥9223372036854775808
  ·simp only [h,decide_true,Bool.and_self,if_true];omega
  ·simp only [h,decide_false,Bool.and_false,Bool.false_eq_true,if_false];omega
 exact e _ rfl
theorem VLe.i {k:IntKind} {a b:Int} (h:a=b):VLe (.int k a) (.int k b):=h▸.refl _
abbrev w (n:Int):Int:=IntKind.wrap .i64 n
@[simp] theorem wr1:IntKind.i64.wrap 1=1:=by decide
@[simp] theorem wr2:IntKind.i64.wrap 2=2:=by decide
@[simp] theorem wr3:IntKind.i64.wrap 3=3:=by decide
theorem Bu (n lo hi:Int):btw n lo hi=true↔lo≤n∧n≤hi:=by
 simp only [btw,Bool.and_eq_true,decide_eq_true_eq,ge_iff_le]
theorem sq_lt {a b:Int} (ha:0≤a) (hb:0≤b) (h:a*a<b*b):a<b:=by
 rcases Int.lt_or_le a b with h1 | h1
 ·exact h1
 ·have:=Int.mul_le_mul h1 h1 hb ha;omega
def eB (b:Int×Int):V:=.agg [I b.1,I b.2]
def sB (l:List (Int×Int)):V:=.slice 0 2 (l.map eB)
theorem Aj {α:Type} {e:α→V} {l:List α} {k:Nat} (h:k<l.length):(l.map e).getD (Int.toNat (k:Int)) Cz=e l[k]:=by
 simp [h]
def Em {α:Type} (p:α→Bool):List α→Nat→Int
 | [],_=>-1
 | x::l,k=>if p x then k else Em p l (k+1)
theorem Iw {α:Type} (p:α→Bool):∀(l:List α) (k:Nat),decide (Em p l k≥0)=l.any p
 | [],k=>by simp [Em]
 | x::l,k=>by
   simp only [Em,List.any_cons];by_cases h:p x=true
   ·simp [h]
   ·simp only [h,if_false,Bool.false_eq_true];rw [Iw p l (k+1)];simp [h]
theorem Db {α:Type} (p:α→Bool) (l:List α) {k:Nat} (h:k<l.length):Em p (l.drop k) k=if p l[k] then (k:Int) else Em p (l.drop (k+1)) (k+1):=by
 rw [List.drop_eq_getElem_cons h];rfl
theorem Gp (a b:Int):(if b>a then b else a)=max a b:=by split<;>omega
theorem It (a b:Int):(if b<a then b else a)=min a b:=by split<;>omega
structure Plain (us:List V):Prop where
 d:∀b,toDs b us=some (us,[])
 r:∀B R,us.all (Bw B R 5)=true
theorem C7 {us:List V} (h:Plain us) {fn:Fn} {B:Nat→Bool} {R:Nat→Option (Nat×Nat×Nat)}:Bw B R 6 (.func fn [] us)=true:=by
 show (([]:List V).all (Bw B R 5)&&us.all (Bw B R 5))=true;rw [h.r];rfl
theorem take_ext {α:Type} {l l':List α} {k:Nat} (hk:k<l.length) (hk':k<l'.length) (h:l.take k=l'.take k) (e:l[k]=l'[k]):l.take (k+1)=l'.take (k+1):=by
 rw [List.take_add_one,List.take_add_one,h,List.getElem?_eq_getElem hk,List.getElem?_eq_getElem hk',e]
def As (l:List Int):V:=.slice 0 1 (l.map I)
theorem Wd (l:List Int):(l.map I).flatMap cells=l.map I:=by
 induction l with
 | nil=>rfl
 | cons a l ih=>rw [List.map_cons,List.flatMap_cons,ih];rfl
theorem ints_isD (l:List Int):(l.map I).all isD=true:=by
 rw [List.all_eq_true];intro x hx;obtain ⟨n,_,rfl⟩:=List.mem_map.1 hx;rfl
theorem Afs (l:List Int) (B:Nat→Bool) (R:Nat→Option (Nat×Nat×Nat)):(l.map I).all (Bw B R 6)=true:=by
 rw [List.all_eq_true];intro x hx;obtain ⟨n,_,rfl⟩:=List.mem_map.1 hx;rfl
theorem okI {k:Nat} {l:List Int} {env:List (Nat×V)} {bx:List (Nat×Box)} {rw:List (Nat×Nat×Nat×Nat)} (h:E4 env ((k,⟨[],false⟩)::bx) rw=true):E4 env ((k,⟨l.map I,false⟩)::bx) rw=true:=by
 have e:C6 ((k,(⟨l.map I,false⟩:Box))::bx)=C6 ((k,(⟨[],false⟩:Box))::bx):=rfl;unfold E4 at h ⊢;rw [e];rw [Bool.and_eq_true] at h ⊢;refine ⟨h.1,?_⟩;have h2:=h.2;rw [List.all_cons,Bool.and_eq_true] at h2 ⊢;exact ⟨Afs _ _ _,h2.2⟩
theorem Zc (l:List Int):Holds (l.map I) 0 1 l.length (l.map I):=by
 refine ⟨by omega,by simp,fun x hx=>?_,?_,fun x hx=>?_⟩
 ·obtain ⟨c,_,rfl⟩:=List.mem_map.1 hx;rfl
 ·rw [List.drop_zero,List.take_of_length_le (by simp),Wd]
 ·obtain ⟨c,_,rfl⟩:=List.mem_map.1 hx;rfl
theorem Fh (n lo hi:Int):C Tryz.prog A5q [I n,I lo,I hi] (.bool (btw n lo hi)):=by
 refine C_of mixed A3h.2 (by simp) fun S ok=>?_;refine TsR rfl (TsR rfl (Bs rfl rfl ?_ trivial));simp [D2,btw]
theorem Wz (n lo hi:Int):C Tryz.prog Gu [I n,I lo,I hi] (.bool (btw n lo hi)):=by
 refine C_of mixed Vg.2 (by simp) fun S ok=>?_;refine TsR rfl (TsR rfl (Bs rfl rfl ?_ trivial));simp [D2,btw]
theorem c_indexI {l:List Int} {p:Int→Bool} {f:FuncId} (hl:l.length≤9223372036854775807) (hp:∀b∈l,C Tryz.prog f [I b] (.bool (p b))) :
  C Tryz.prog Fm [As l,.func (.func f) [] []] (I (Em p l 0)):=by
 refine C_of mixed Fl.2 (by simp) fun S ok=>?_;refine TsR rfl ?_;refine A2 (TsR rfl (A4 ?_));refine Bc (fun k s=>(k≤l.length∧Em p l 0=Em p (l.drop k) k)∧s=⟨[(0,As l),(1,.func (.func f) [] []),(7,I l.length),(8,I k)],[],[],[],false⟩) (fun k=>l.length-k) 0 (Ad (.k rfl (.k rfl (.cons rfl (VLe.i (by simp)) (.k rfl .nil)))) .nil .nil rfl rfl) ⟨⟨by omega,by simp⟩,rfl⟩ ?_;rintro k s ⟨⟨hk,hf⟩,rfl⟩;refine TsR rfl (By rfl (fun h1=>?_) (fun h1=>?_))
 ·have h1:k<l.length:=by simpa using h1
  refine Bg (A2 (A4 (TsR rfl (Bj rfl ?_ ?_))))
  ·rw [Aj h1];simp [cells];omega
  ·rw [Aj h1];refine Dr rfl rfl (hp l[k] (List.getElem_mem h1)) (Sfn rfl ?_);refine An rfl rfl (fun h2=>?_) (fun h2=>?_)
   ·refine TsR rfl (Ea ?_);refine ⟨trivial,_,_,_,Ck rfl,rfl,?_⟩;rw [hf,Db p l h1,if_pos h2];rfl
   ·refine A5 (TrR rfl ?_);refine ⟨k+1,_,?_,⟨⟨by omega,?_⟩,rfl⟩,by omega⟩
    ·exact Ad (.k rfl (.k rfl (.k rfl (.cons rfl (VLe.i (w64 (by omega) (by omega))) .nil)))) .nil .nil rfl rfl
    ·rw [hf,Db p l h1,if_neg (by simp [h2])]
 ·have h1:k=l.length:=by simp at h1;omega
  subst h1;refine Ak (TsR rfl (Bs rfl rfl ?_ trivial));rw [hf,List.drop_length];rfl
theorem A7r {l:List Int} {p:Int→Bool} {f:FuncId} (hl:l.length≤9223372036854775807) (hp:∀b∈l,C Tryz.prog f [I b] (.bool (p b))) :
  C Tryz.prog Dc [As l,.func (.func f) [] []] (.bool (l.any p)):=by
 refine C_of mixed Ek.2 (by simp) fun S ok=>?_;refine TsR rfl ?_;refine TsC rfl (A3 rfl rfl (c_indexI hl hp) (Sfn rfl (Bs rfl rfl ?_ trivial)));rw [←Iw p l 0];rfl
attribute [local simp] cells Af mkv Aq B6 under dem dem1
theorem Ai3 (l l':List Int) (hl:l.length≤9223372036854775807):C Tryz.prog Ri [As l,As l'] (.bool (decide (l=l'))):=by
 refine C_of mixed A0w.2 (by simp) fun S ok=>?_;refine TsR rfl (A2 (TsR rfl ?_));refine An rfl rfl (fun h1=>TsR rfl (A8 rfl rfl rfl ?_ trivial)) (fun h1=>A5 ?_)
 ·have h1:(((l.map I).length:Int) != ((l'.map I).length:Int))=true:=h1;simp only [D2,V.bool.injEq];rw [decide_eq_false];rintro rfl;simp at h1
 ·have h1:(((l.map I).length:Int) != ((l'.map I).length:Int))=false:=h1;have hll:l.length=l'.length:=by simp at h1;omega
  refine A2 (TsR rfl (A4 ?_));refine Bc (fun k st=>(k≤l.length∧l.take k=l'.take k)∧st=⟨[(0,As l),(1,As l'),(5,I k)],[],[],[],false⟩) (fun k=>l.length-k) 0 (Ad (.k rfl (.k rfl (.k rfl .nil))) .nil .nil rfl rfl) ⟨⟨by omega,by simp⟩,rfl⟩ ?_;rintro k st ⟨⟨hk,he⟩,rfl⟩;refine A2 (TsR rfl (An rfl rfl (fun h3=>?_) (fun h3=>?_)))
  ·have h3:k<l.length:=by simpa using h3
   have h4:k<l'.length:=by omega
   refine A5 (A2 (A4 (A2 (Ab (Ah 3 rfl (by simp;omega) ?_)))));rw [Aj h3];refine Ah 4 rfl (by simp;omega) ?_;rw [Aj h4];refine Krn rfl (.done (KrT ?_));refine An rfl rfl (fun h5=>TsR rfl (A8 rfl rfl rfl ?_ trivial)) (fun h5=>A5 (TrR rfl ?_))
   ·have h5:(l[k] != l'[k])=true:=h5;simp only [D2,V.bool.injEq];rw [decide_eq_false];rintro rfl;simp at h5
   ·have h5:(l[k] != l'[k])=false:=h5;have h5:l[k]=l'[k]:=by simpa using h5
    exact ⟨k+1,_,Ad (.k rfl (.k rfl (.cons rfl (VLe.i (w64 (by omega) (by omega))) .nil))) .nil .nil rfl rfl,⟨⟨h3,take_ext h3 h4 he h5⟩,rfl⟩,by omega⟩
  ·have h3:k=l.length:=by simp at h3;omega
   subst h3;refine Ak (TsR rfl (A8 rfl rfl rfl ?_ trivial));rw [List.take_length,hll,List.take_length] at he;simp [D2,he]
end
section
open Go.Am
attribute [local simp] cells Af mkv Aq B6 under dem dem1 eB
structure Fr where
 x:Int×Int
 y:Int×Int
 s:Int×Int
 d:Int×Int
def Ac (f:Fr):List V:=[I f.x.1,I f.x.2,I f.y.1,I f.y.2,I f.s.1,I f.s.2,I f.d.1,I f.d.2]
attribute [local simp] Ac
def comb (g:Int×Int→Int×Int→Int×Int) (f h:Fr):Fr:=⟨g f.x h.x,g f.y h.y,g f.s h.s,g f.d h.d⟩
def A2o (a b:Int×Int):Int×Int:=(min a.1 b.1,max a.2 b.2)
def cutB (a b:Int×Int):Int×Int:=(max a.1 b.1,min a.2 b.2)
theorem ifMin (a b:Int):(if b<a then b else a)=min a b:=by split<;>omega
theorem ifMax (a b:Int):(if b>a then b else a)=max a b:=by split<;>omega
theorem c_span (a b:Int×Int):C Tryz.prog R7 [eB a,eB b] (eB (A2o a b)):=by
 refine C_of mixed A0n.2 (by simp) fun S ok=>?_;refine TsR rfl (TsR rfl (Bs rfl rfl ?_ trivial));simp only [D2,eB,A2o,←ifMin,←ifMax];rfl
theorem c_cut (a b:Int×Int):C Tryz.prog A5g [eB a,eB b] (eB (cutB a b)):=by
 refine C_of mixed A39.2 (by simp) fun S ok=>?_;refine TsR rfl (TsR rfl (Bs rfl rfl ?_ trivial));simp only [D2,eB,cutB,←ifMin,←ifMax];rfl
theorem Dh (f:Fr):C Tryz.prog X8 [.agg (Ac f)] (.agg (Ac f)):=by
 refine C_of mixed Vf.2 (by simp) fun S ok=>?_;exact TsR rfl (TsR rfl (Bs rfl rfl rfl trivial))
theorem Qi (f:Fr):C Tryz.prog Nu [.agg (Ac f)] (.agg (Ac f)):=by
 refine C_of mixed Nl.2 (by simp) fun S ok=>?_;exact TsR rfl (TsR rfl (Bs rfl rfl rfl trivial))
theorem Ge {op:FuncId} {g:Int×Int→Int×Int→Int×Int} (hg:∀a b,C Tryz.prog op [eB a,eB b] (eB (g a b))) (f h:Fr):C Tryz.prog Ew [.agg (Ac f),.agg (Ac h),.func (.func op) [] []] (.agg (Ac (comb g f h))):=by
 refine C_of mixed Lp.2 (by simp) fun S ok=>?_;refine TsR rfl (A2 (TsR rfl (A4 ?_)));refine Bd 5 (Ag ?_);refine Aa (s':=⟨[(2,.func (.func op) [] []),(3,.ptr 3 0),(4,.ptr 4 0),(6,.ptr 6 0),(8,I 0)],[(3,⟨[I f.x.1,I f.x.2,I f.y.1,I f.y.2,I f.s.1,I f.s.2,I f.d.1,I f.d.2],false⟩),(4,⟨Ac h,false⟩),(6,⟨[I 0,I 0,I 0,I 0,I 0,I 0,I 0,I 0],false⟩)],[],[],false⟩) (Ad (.k rfl (.k rfl (.k rfl (.k rfl (.cons rfl (VLe.i rfl) .nil))))) (.k rfl (.k rfl (.k rfl .nil))) .nil rfl rfl) ?_;refine TsR rfl (A2 (A9 rfl (A5 (A2 (A4 (TsR rfl ?_))))));refine Ab (Krn rfl (Ch rfl rfl (hg f.x h.x) (Krn rfl (.done (KrT ?_)))));refine TrR rfl (Ag ?_);refine Aa (s':=⟨[(2,.func (.func op) [] []),(3,.ptr 3 0),(4,.ptr 4 0),(6,.ptr 6 0),(8,I 1)],[(3,⟨[I (g f.x h.x).1,I (g f.x h.x).2,I f.y.1,I f.y.2,I f.s.1,I f.s.2,I f.d.1,I f.d.2],false⟩),(4,⟨Ac h,false⟩),(6,⟨[I 0,I 0,I 0,I 0,I 0,I 0,I 0,I 0],false⟩)],[],[],false⟩) (Ad (.k rfl (.k rfl (.k rfl (.k rfl (.cons rfl (VLe.i rfl) .nil))))) (.k rfl (.k rfl (.k rfl .nil))) .nil rfl rfl) ?_;refine TsR rfl (A2 (A9 rfl (A5 (A2 (A4 (TsR rfl ?_))))));refine Ab (Krn rfl (Ch rfl rfl (hg f.y h.y) (Krn rfl (.done (KrT ?_)))));refine TrR rfl (Ag ?_);refine Aa (s':=⟨[(2,.func (.func op) [] []),(3,.ptr 3 0),(4,.ptr 4 0),(6,.ptr 6 0),(8,I 2)],[(3,⟨[I (g f.x h.x).1,I (g f.x h.x).2,I (g f.y h.y).1,I (g f.y h.y).2,I f.s.1,I f.s.2,I f.d.1,I f.d.2],false⟩),(4,⟨Ac h,false⟩),(6,⟨[I 0,I 0,I 0,I 0,I 0,I 0,I 0,I 0],false⟩)],[],[],false⟩) (Ad (.k rfl (.k rfl (.k rfl (.k rfl (.cons rfl (VLe.i rfl) .nil))))) (.k rfl (.k rfl (.k rfl .nil))) .nil rfl rfl) ?_;refine TsR rfl (A2 (A9 rfl (A5 (A2 (A4 (TsR rfl ?_))))));refine Ab (Krn rfl (Ch rfl rfl (hg f.s h.s) (Krn rfl (.done (KrT ?_)))));refine TrR rfl (Ag ?_);refine Aa (s':=⟨[(2,.func (.func op) [] []),(3,.ptr 3 0),(4,.ptr 4 0),(6,.ptr 6 0),(8,I 3)],[(3,⟨[I (g f.x h.x).1,I (g f.x h.x).2,I (g f.y h.y).1,I (g f.y h.y).2,I (g f.s h.s).1,I (g f.s h.s).2,I f.d.1,I f.d.2],false⟩),(4,⟨Ac h,false⟩),(6,⟨[I 0,I 0,I 0,I 0,I 0,I 0,I 0,I 0],false⟩)],[],[],false⟩) (Ad (.k rfl (.k rfl (.k rfl (.k rfl (.cons rfl (VLe.i rfl) .nil))))) (.k rfl (.k rfl (.k rfl .nil))) .nil rfl rfl) ?_;refine TsR rfl (A2 (A9 rfl (A5 (A2 (A4 (TsR rfl ?_))))));refine Ab (Krn rfl (Ch rfl rfl (hg f.d h.d) (Krn rfl (.done (KrT ?_)))));refine TrR rfl (Ag ?_);refine TsR rfl (A2 (A7 rfl (Ak ?_)));exact TsR rfl (Bs rfl rfl rfl trivial)
def ofF (p:Int×Int):Fr:=⟨(p.1,p.1),(p.2,p.2),(w (p.1+p.2),w (p.1+p.2)),(w (p.1-p.2),w (p.1-p.2))⟩
theorem A4p (p:Int×Int):C Tryz.prog P4 [eB p] (.agg (Ac (ofF p))):=by
 refine C_of mixed A6p.2 (by simp) fun S ok=>?_;refine TsR rfl (TsR rfl (A2 (TsR rfl (A4 ?_))));refine Bd 5 (Ag ?_);refine Aa (s':=⟨[(2,.ptr 2 0),(3,.ptr 3 0),(20,.agg [I p.1,I p.2,I (w (p.1+p.2)),I (w (p.1-p.2))]),(21,I 0)],[(2,⟨[I 0,I 0,I 0,I 0,I 0,I 0,I 0,I 0],false⟩),(3,⟨[I 0,I 0,I 0,I 0,I 0,I 0,I 0,I 0],false⟩)],[],[],false⟩) (Ad (.k rfl (.k rfl (.k rfl (.cons rfl (VLe.i rfl) .nil)))) (.k rfl (.k rfl .nil)) .nil rfl rfl) ?_;refine TsR rfl (A2 (A9 rfl (A5 (A2 (A4 (TsR rfl (TrR rfl (TrR rfl (Ag ?_)))))))));refine Aa (s':=⟨[(2,.ptr 2 0),(3,.ptr 3 0),(20,.agg [I p.1,I p.2,I (w (p.1+p.2)),I (w (p.1-p.2))]),(21,I 1)],[(2,⟨[I 0,I 0,I 0,I 0,I 0,I 0,I 0,I 0],false⟩),(3,⟨[I (p.1),I (p.1),I 0,I 0,I 0,I 0,I 0,I 0],false⟩)],[],[],false⟩) (Ad (.k rfl (.k rfl (.k rfl (.cons rfl (VLe.i rfl) .nil)))) (.k rfl (.k rfl .nil)) .nil rfl rfl) ?_;refine TsR rfl (A2 (A9 rfl (A5 (A2 (A4 (TsR rfl (TrR rfl (TrR rfl (Ag ?_)))))))));refine Aa (s':=⟨[(2,.ptr 2 0),(3,.ptr 3 0),(20,.agg [I p.1,I p.2,I (w (p.1+p.2)),I (w (p.1-p.2))]),(21,I 2)],[(2,⟨[I 0,I 0,I 0,I 0,I 0,I 0,I 0,I 0],false⟩),(3,⟨[I (p.1),I (p.1),I (p.2),I (p.2),I 0,I 0,I 0,I 0],false⟩)],[],[],false⟩) (Ad (.k rfl (.k rfl (.k rfl (.cons rfl (VLe.i rfl) .nil)))) (.k rfl (.k rfl .nil)) .nil rfl rfl) ?_;refine TsR rfl (A2 (A9 rfl (A5 (A2 (A4 (TsR rfl (TrR rfl (TrR rfl (Ag ?_)))))))));refine Aa (s':=⟨[(2,.ptr 2 0),(3,.ptr 3 0),(20,.agg [I p.1,I p.2,I (w (p.1+p.2)),I (w (p.1-p.2))]),(21,I 3)],[(2,⟨[I 0,I 0,I 0,I 0,I 0,I 0,I 0,I 0],false⟩),(3,⟨[I (p.1),I (p.1),I (p.2),I (p.2),I (w (p.1+p.2)),I (w (p.1+p.2)),I 0,I 0],false⟩)],[],[],false⟩) (Ad (.k rfl (.k rfl (.k rfl (.cons rfl (VLe.i rfl) .nil)))) (.k rfl (.k rfl .nil)) .nil rfl rfl) ?_;refine TsR rfl (A2 (A9 rfl (A5 (A2 (A4 (TsR rfl (TrR rfl (TrR rfl (Ag ?_)))))))));refine TsR rfl (A2 (A7 rfl (Ak ?_)));exact TsR rfl (Bs rfl rfl rfl trivial)
def Nq (l n:Int):Int:=max (-l) (min n l)
theorem Ti {l:Int} (n:Int) (hl:0≤l∧l≤65536):C Tryz.prog P5 [I l,I n] (I (Nq l n)):=by
 refine C_of mixed Od.2 (by simp) fun S ok=>?_;refine TsR rfl (TsR rfl (Bs rfl rfl ?_ trivial));have e:IntKind.wrap .i64 (0-l)=-l:=by rw [w64 (by omega) (by omega)];omega
 simp only [D2,Nq,←ifMin,←ifMax,←e];rfl
def A1f (p:Int×Int):Prop:=(-32768≤p.1∧p.1≤32768)∧-32768≤p.2∧p.2≤32768
theorem Qc {l n:Int} (h:-l≤n∧n≤l):Nq l n=n:=by unfold Nq;omega
theorem Tk {p:Int×Int} (h:A1f p):C Tryz.prog Iz [eB p] (I 0):=by
 refine C_of mixed Ih.2 (by simp) fun S ok=>?_;have k1:=Ti (l:=32768) p.1 (by omega);have k2:=Ti (l:=32768) p.2 (by omega);rw [Qc (by have:=h.1;omega)] at k1;rw [Qc (by have:=h.2;omega)] at k2;refine TsR rfl (A2 (TsR rfl (A4 ?_)));refine Bd 3 (Ag ?_);refine TsR rfl (A2 (A9 rfl (A5 (A2 (A4 (TsR rfl ?_))))));refine TsC rfl (A3 rfl rfl k1 (Sfn rfl (An rfl rfl (fun h=>?_) (fun _=>A5 (TrR rfl (Ag ?_))))))
 ·simp at h
 refine TsR rfl (A2 (A9 rfl (A5 (A2 (A4 (TsR rfl ?_))))));refine TsC rfl (A3 rfl rfl k2 (Sfn rfl (An rfl rfl (fun h=>?_) (fun _=>A5 (TrR rfl (Ag ?_))))))
 ·simp at h
 refine TsR rfl (A2 (A7 rfl (Ak ?_)));exact TsR rfl (A8 rfl rfl rfl rfl trivial)
def fitB (l:Int) (b:Int×Int):Prop:=-l≤b.1∧b.1≤b.2∧b.2≤l
def fitF (f:Fr):Prop:=(fitB 32768 f.x∧fitB 32768 f.y)∧fitB 65536 f.s∧fitB 65536 f.d
theorem c_done (f:Fr):C Tryz.prog Rb [.agg (Ac f),I 0] (.tuple [.agg (Ac f),I 0]):=by
 refine C_of mixed Py.2 (by simp) fun S ok=>?_;refine TsR rfl (A2 (TsR rfl (A7 rfl (A5 ?_))));refine TsC rfl (A3 rfl rfl (Qi f) (Sfn rfl (A8 rfl rfl rfl rfl trivial)))
end
section
open Go.Am
attribute [local simp] cells Af mkv Aq B6 under dem dem1 eB Ac
def lowY (f:Fr) (x:Int):Int:=max (max f.y.1 (f.s.1-x)) (x-f.d.2)
def Dd (f:Fr) (x:Int):Int:=min (min f.y.2 (f.s.2-x)) (x-f.d.1)
def G0 (f:Fr):Nat→Int→List (Int×Int×Int)
 | 0,_=>[]
 | n+1,x=>if lowY f x≤Dd f x then (x,lowY f x,Dd f x)::G0 f n (x+1) else G0 f n (x+1)
def Bo (f:Fr):List (Int×Int×Int):=G0 f (f.x.2+1-f.x.1).toNat f.x.1
def eRow (r:Int×Int×Int):List V:=[.agg [I r.1,I r.2.1,I r.2.2]]
def midF (f:Fr):Prop:=((-1000000≤f.x.1∧f.x.1≤1000000)∧-1000000≤f.x.2∧f.x.2≤1000000)∧((-1000000≤f.y.1∧f.y.1≤1000000)∧-1000000≤f.y.2∧f.y.2≤1000000)∧((-1000000≤f.s.1∧f.s.1≤1000000)∧-1000000≤f.s.2∧f.s.2≤1000000)∧(-1000000≤f.d.1∧f.d.1≤1000000)∧-1000000≤f.d.2∧f.d.2≤1000000
theorem Aab (f:Fr):C Tryz.prog R9 [.agg (Ac f)] (.func (.func Cq) [] [.vptr (Ac f) 0]):=by
 refine C_of mixed Pw.2 (by simp) fun S ok=>?_;exact TsR rfl (TsR rfl (Bs rfl rfl rfl trivial))
theorem Zu (f:Fr):C Tryz.prog Ra [.agg (Ac f)] (.func (.func Hx) [] [.vptr (Ac f) 0]):=by
 refine C_of mixed Px.2 (by simp) fun S ok=>?_;exact TsR rfl (TsR rfl (Bs rfl rfl rfl trivial))
theorem A9s {f:Fr} (hf:midF f):Iter Tryz.prog Cq [.vptr (Ac f) 0] ((Bo f).map eRow):=by
 refine Lb mixed Nk.2 (by simp) fun S ok=>?_;obtain ⟨⟨⟨hx1,hx2⟩,hx3,hx4⟩,⟨⟨hy1,hy2⟩,hy3,hy4⟩,⟨⟨hs1,hs2⟩,hs3,hs4⟩,⟨hd1,hd2⟩,hd3,hd4⟩:=hf;refine TsR rfl (A4 ?_);refine Bc (α:=Nat×List (List V)) (fun p s=>(p.1≤(f.x.2+1-f.x.1).toNat∧p.2++(G0 f ((f.x.2+1-f.x.1).toNat-p.1) (f.x.1+p.1)).map eRow=(Bo f).map eRow) ∧
   s=⟨[(0,.yld),(1,.vptr (Ac f) 0),(3,I (f.x.1+p.1))],[],[],p.2,false⟩) (fun p=>(f.x.2+1-f.x.1).toNat-p.1) (0,[])
  (Ad (.k rfl (.k rfl (.cons rfl (VLe.i (by simp)) .nil))) .nil .nil rfl rfl) ⟨⟨by simp,by simp [Bo]⟩,rfl⟩ ?_
 rintro ⟨k,lg⟩ s ⟨⟨hk,hl⟩,rfl⟩;simp only at hk hl;refine A2 (TsR rfl (An rfl rfl (fun h1=>A5 ?_) (fun h1=>Ak ?_)))
 ·have h1:f.x.1+(k:Int)≤f.x.2:=by simpa using h1
  obtain ⟨x,hx⟩:∃x,f.x.1+(k:Int)=x:=⟨_,rfl⟩;obtain ⟨n,hn⟩:∃n,(f.x.2+1-f.x.1).toNat-k=n+1:=⟨(f.x.2+1-f.x.1).toNat-k-1,by omega⟩;have hn2:(f.x.2+1-f.x.1).toNat-(k+1)=n:=by omega
  have hx':f.x.1+((k+1:Nat):Int)=x+1:=by omega
  rw [hn,hx] at hl;rw [hx] at h1;rw [hx];refine A2 (A4 (TsR rfl ?_));refine Aa (s':=⟨[(0,.yld),(1,.vptr (Ac f) 0),(3,I x),(4,.ptr 4 0)],[(4,⟨[I x,I (lowY f x),I (Dd f x)],false⟩)],[],lg,false⟩) (Ad (.k rfl (.k rfl (.k rfl (.k rfl .nil)))) (.cons rfl (.cons (.refl _) (.cons (VLe.i ?_) (.cons (VLe.i ?_) .nil))) .nil) .nil rfl rfl) ?_
  ·simp (disch:=omega) only [cond_true,cond_false,Gp,It,w64,lowY]
  ·simp (disch:=omega) only [cond_true,cond_false,Gp,It,w64,Dd]
  refine TsC rfl ?_;by_cases hh:lowY f x≤Dd f x
  ·have hp:lg++[eRow (x,lowY f x,Dd f x)]++(G0 f n (x+1)).map eRow=(Bo f).map eRow:=by
    rw [←hl,G0,if_pos hh];simp
   refine Je (want:=true) rfl rfl ?_ rfl ?_ rfl ⟨_,hp⟩ rfl (fun b=>?_)
   ·show some (decide (lowY f x≤Dd f x)==true)=some true;simp [hh]
   ·simp [hh]
   refine Sfn rfl ?_;refine An rfl rfl (fun h2=>?_) (fun h2=>?_)
   ·refine Ea ⟨.inl ?_,[],[],[],rfl,rfl,rfl⟩;have h2:(bif decide (lowY f x≤Dd f x) then !b else false)=true:=h2;have hb:b=false:=by simpa [hh] using h2
    subst hb;rfl
   ·have h2:(bif decide (lowY f x≤Dd f x) then !b else false)=false:=h2;have hb:b=true:=by simpa [hh] using h2
    subst hb;refine A5 (TrR rfl ?_);refine ⟨(k+1,lg++[eRow (x,lowY f x,Dd f x)]),_,Ad (.k rfl (.k rfl (.cons rfl (VLe.i ?_) .nil))) .nil .nil rfl rfl,⟨⟨by simp;omega,?_⟩,rfl⟩,by simp;omega⟩
    ·show IntKind.wrap .i64 (x+1)=f.x.1+((k+1:Nat):Int);rw [w64 (by omega) (by omega)];exact hx'.symm
    ·simp only;rw [hn2,hx'];exact hp
  ·have hl2:lg++(G0 f n (x+1)).map eRow=(Bo f).map eRow:=by
    rw [←hl,G0,if_neg hh]
   refine Cx (want:=true) (.bool true) rfl rfl ?_ ?_
   ·show some (decide (lowY f x≤Dd f x)==true)=some false;simp [hh]
   refine Al rfl (by simp;omega) ?_;refine An rfl rfl (fun h2=>?_) (fun h2=>?_)
   ·have h2:(bif decide (lowY f x≤Dd f x) then !true else false)=true:=h2;simp [hh] at h2
   ·refine A5 (TrR rfl ?_);refine ⟨(k+1,lg),_,Ad (.k rfl (.k rfl (.cons rfl (VLe.i ?_) .nil))) .nil .nil rfl rfl,⟨⟨by simp;omega,?_⟩,rfl⟩,by simp;omega⟩
    ·show IntKind.wrap .i64 (x+1)=f.x.1+((k+1:Nat):Int);rw [w64 (by omega) (by omega)];exact hx'.symm
    ·simp only;rw [hn2,hx'];exact hl2
 ·have h1:¬f.x.1+(k:Int)≤f.x.2:=by simpa using h1
  refine ⟨.inr ?_,[],[],[],rfl,rfl,rfl⟩;rw [show (f.x.2+1-f.x.1).toNat-k=0 by omega] at hl;have e:lg=(Bo f).map eRow:=by simpa [G0] using hl
  exact e
def L4 (r:Int×Int×Int):List (Int×Int):=if r.2.1=r.2.2 then [(r.1,r.2.1)] else [(r.1,r.2.1),(r.1,r.2.2)]
def F0 (f:Fr):List (Int×Int):=(Bo f).flatMap L4
def eEnd (p:Int×Int):List V:=[eB p]
theorem Kq (f:Fr):Plain [.vptr (Ac f) 0]:=⟨fun b=>rfl,fun B R=>rfl⟩
theorem Agd {L:List (Int×Int×Int)} {m:Nat} {r:Int×Int×Int} (h:L[m]?=some r):∃T,L.flatMap L4=(L.take m).flatMap L4++(L4 r++T)∧(L.take (m+1)).flatMap L4=(L.take m).flatMap L4++L4 r:=by
 have hm:=(List.getElem?_eq_some_iff.1 h).1;have hr:L[m]=r:=(List.getElem?_eq_some_iff.1 h).2;refine ⟨(L.drop (m+1)).flatMap L4,?_,?_⟩
 ·have e:L=L.take m++(r::L.drop (m+1)):=by
   rw [←hr,←List.drop_eq_getElem_cons hm,List.take_append_drop]
  have e2:=congrArg (List.flatMap L4) e;rw [List.flatMap_append,List.flatMap_cons] at e2;exact e2
 ·rw [List.take_add_one,h,List.flatMap_append];simp
theorem Za {f:Fr} (hf:midF f):Iter Tryz.prog Hx [.vptr (Ac f) 0] ((F0 f).map eEnd):=by
 refine Lb mixed Nm.2 (by simp) fun S ok=>?_;refine TsR rfl ?_;refine TsC rfl (A3 rfl rfl (Aab f) (Sfn rfl (A4 ?_)));refine Aa (s':=⟨[(7,.func (.func Cq) [] [.vptr (Ac f) 0]),(2,.ptr 2 0)],[(2,⟨[.yld],false⟩)],[],[],false⟩) (Ad (.k rfl (.k rfl .nil)) (.k rfl .nil) .nil rfl rfl) ?_;refine Fz rfl rfl (A9s hf) rfl rfl rfl (by intro x hx;obtain ⟨b,_,rfl⟩:=List.mem_map.1 hx;rfl) (fun pre t=>∃m,m≤(Bo f).length∧pre=((Bo f).take m).map eRow∧t.bx=[(2,⟨[.yld],false⟩)]∧t.rw=[]∧t.log=(((Bo f).take m).flatMap L4).map eEnd) (fun e t=>e=.ret∧t.stp=true) ⟨0,by omega,rfl,rfl,rfl,rfl⟩ ?_ ?_ ?_
 ·rintro a0 L0 rc0 h0 S1 S2 ok1 ok2 pre q t lp hpre ⟨m,hm,rfl,hbx,hrw,hlog⟩ henv hstp;obtain ⟨env,bx,rw,log,stp⟩:=t;simp only at hbx hrw hlog henv hstp;subst hbx hrw hlog henv hstp;have hmx:m<(Bo f).length∧∃b,(Bo f)[m]?=some b∧q=eRow b:=by
   have h1:(((Bo f).take m).map eRow).length=m:=by simp;omega
   have h2:=hpre.length_le;simp at h2;have hml:m<(Bo f).length:=by omega
   refine ⟨hml,_,List.getElem?_eq_getElem hml,?_⟩;have h3:=List.IsPrefix.getElem hpre (i:=m) (by simp;omega);simp only [List.getElem_map] at h3;rw [List.getElem_append_right (by omega)] at h3;simpa using h3
  obtain ⟨hml,⟨x,a,b⟩,hb,rfl⟩:=hmx;obtain ⟨T,eT,eN⟩:=Agd hb;obtain ⟨lg,hlg⟩:∃lg,(((Bo f).take m).flatMap L4).map eEnd=lg:=⟨_,rfl⟩;have hp1:List.IsPrefix (lg++[eEnd (x,a)]) ((F0 f).map eEnd):=by
   refine ⟨((L4 (x,a,b)).drop 1++T).map eEnd,?_⟩;rw [←hlg];unfold F0;rw [eT];unfold L4;split<;>simp
  rw [hlg];refine TrR rfl ?_;refine A4 (Jv rfl (by simp) (by kernel_rfl) ?_);refine Aa (s':=⟨[(2,.ptr 2 0),(4,.ptr 4 0),(5,.ptr 5 0)],[(2,⟨[.yld],false⟩),(4,⟨[I x,I a],false⟩),(5,⟨[I x,I b],false⟩)],[],lg,false⟩) (Ad (.k rfl (.k rfl (.k rfl .nil))) (.k rfl (.k rfl (.k rfl .nil))) .nil rfl rfl) ?_;refine TsC rfl ?_;refine H8 rfl (by simp) rfl hp1 rfl (fun c=>?_);cases c with
  | false =>
    refine Srn rfl ?_;refine Cx (want:=true) (.bool true) rfl rfl ?_ (Sfn rfl (A9 rfl ?_))
    ·rfl
    exact Ea ⟨⟨[],[(2,⟨[.yld],false⟩)],[],_,true⟩,Ad .nil (.k rfl .nil) .nil rfl rfl,rfl,rfl⟩
  | true =>
    refine Srn rfl ?_;by_cases hab:a=b
    ·subst hab;refine Cx (want:=true) (.bool true) rfl rfl ?_ ?_
     ·show some (((!true)==false)&&((!(x==x&&(a==a&&true)))==true))=some false;simp
     refine SrN 1 rfl (L9 rfl rfl rfl (fun _=>rfl) rfl rfl (by simp) (Sfn rfl ?_));refine An rfl rfl (fun h2=>?_) (fun h2=>?_)
     ·have h2:(bif (!true) then true else (bif (!(x==x&&(a==a&&true))) then !true else false))=true:=h2;simp at h2
     refine A5 ⟨⟨[],[(2,⟨[.yld],false⟩)],[],lg++[eEnd (x,a)],false⟩,Ad .nil (.k rfl .nil) .nil rfl rfl,⟨m+1,by omega,?_,rfl,rfl,?_⟩,rfl⟩
     ·rw [List.take_add_one,hb];simp
     ·rw [eN,List.map_append,hlg];unfold L4;simp
    ·have hp2:List.IsPrefix (lg++[eEnd (x,a)]++[eEnd (x,b)]) ((F0 f).map eEnd):=by
      refine ⟨T.map eEnd,?_⟩;rw [←hlg];unfold F0;rw [eT];unfold L4;rw [if_neg hab];simp
     refine Je (want:=true) rfl rfl ?_ rfl ?_ rfl hp2 rfl (fun c=>?_)
     ·show some (((!true)==false)&&((!(x==x&&(a==b&&true)))==true))=some true;simp [hab]
     ·simp [hab]
     refine Al rfl (by simp [hab]) ?_;refine An rfl rfl (fun h2=>?_) (fun h2=>?_)
     ·have h2:(bif (!true) then true else (bif (!(x==x&&(a==b&&true))) then !c else false))=true:=h2;have hc:c=false:=by simpa [hab] using h2
      subst hc;exact Ea ⟨⟨[],[(2,⟨[.yld],false⟩)],[],_,true⟩,Ad .nil (.k rfl .nil) .nil rfl rfl,rfl,rfl⟩
     ·have h2:(bif (!true) then true else (bif (!(x==x&&(a==b&&true))) then !c else false))=false:=h2;have hc:c=true:=by simpa [hab] using h2
      subst hc;refine A5 ⟨⟨[],[(2,⟨[.yld],false⟩)],[],lg++[eEnd (x,a)]++[eEnd (x,b)],false⟩,Ad .nil (.k rfl .nil) .nil rfl rfl,⟨m+1,by omega,?_,rfl,rfl,?_⟩,rfl⟩
      ·rw [List.take_add_one,hb];simp
      ·rw [eN,List.map_append,hlg];unfold L4;rw [if_neg hab];simp
 ·rintro ⟨env,bx,rw,log,stp⟩ henv hstp ⟨m,hm,hpre,hbx,hrw,hlog⟩;simp only at hbx hrw hlog henv hstp;subst hbx hrw hlog henv hstp;have hml:m=(Bo f).length:=by
   have:=congrArg List.length hpre;simp at this;omega
  subst hml;refine ⟨.inr ?_,[],[],[],rfl,rfl,rfl⟩;simp only [List.take_length];rfl
 ·rintro e t _ ⟨rfl,h⟩;exact ⟨.inl h,[],[],[],rfl,rfl,rfl⟩
end
section
open Go.Am
attribute [local simp] cells Af mkv Aq B6 under dem dem1 eB Ac
def I4 (a:Fr×Bool) (p:Int×Int):Fr×Bool:=(comb A2o (if a.2 then a.1 else ofF p) (ofF p),true)
def Ec (l:List (Int×Int)):Fr×Bool:=l.foldl I4 (⟨(0,0),(0,0),(0,0),(0,0)⟩,false)
theorem Afx {l:List (Int×Int)} {m:Nat} {p:Int×Int} (h:l[m]?=some p):Ec (l.take (m+1))=I4 (Ec (l.take m)) p:=by
 unfold Ec;rw [List.take_add_one,h,List.foldl_append];rfl
theorem Ahr {it:FuncId} {us:List V} {l:List (Int×Int)} (hus:Plain us) (hit:Iter Tryz.prog it us (l.map eEnd)) :
  C Tryz.prog R8 [.slice 0 1 [.func (.func it) [] us]] (.tuple [.agg (Ac (Ec l).1),.bool (Ec l).2]):=by
 refine C_of mixed Pv.2 (by simp) fun S ok=>?_;refine TsR rfl (A2 (TsR rfl (A4 ?_)));refine Bd 2 (Ag ?_);refine TsR rfl (A2 (A9 rfl (A5 (A2 (A4 (TsR rfl (TsR rfl (A4 ?_))))))));refine Aa (s':=⟨[(13,.func (.func it) [] us),(2,.ptr 2 0),(3,.ptr 3 0),(7,.slice 0 1 [.func (.func it) [] us]),(8,I 1),(9,I 0)],[(2,⟨Ac (Ec []).1,false⟩),(3,⟨[.bool (Ec []).2],false⟩)],[],[],false⟩) (Ad (.k rfl (.k rfl (.k rfl (.k rfl (.cons rfl (VLe.i rfl) (.k rfl .nil)))))) (.k rfl (.k rfl .nil)) .nil (by simp only [E4,List.all_cons,C7 hus];rfl) rfl) ?_;refine Fz rfl (hus.d _) hit rfl (by simp only [List.all_cons,C7 hus];rfl) rfl (by intro x hx;obtain ⟨b,_,rfl⟩:=List.mem_map.1 hx;rfl) (fun pre t=>∃m,m≤l.length∧pre=(l.take m).map eEnd∧t.bx=[(2,⟨Ac (Ec (l.take m)).1,false⟩),(3,⟨[.bool (Ec (l.take m)).2],false⟩)]∧t.rw=[]∧t.log=[]) (fun _ _=>False) ⟨0,by omega,rfl,rfl,rfl,rfl⟩ ?_ ?_ ?_
 ·rintro a0 L0 rc0 h0 S1 S2 ok1 ok2 pre q t lp hpre ⟨m,hm,rfl,hbx,hrw,hlog⟩ henv hstp;obtain ⟨env,bx,rw,log,stp⟩:=t;simp only at hbx hrw hlog henv hstp;subst hbx hrw hlog henv hstp;have hmx:m<l.length∧∃b,l[m]?=some b∧q=eEnd b:=by
   have h1:((l.take m).map eEnd).length=m:=by simp;omega
   have h2:=hpre.length_le;simp at h2;have hml:m<l.length:=by omega
   refine ⟨hml,_,List.getElem?_eq_getElem hml,?_⟩;have h3:=List.IsPrefix.getElem hpre (i:=m) (by simp;omega);simp only [List.getElem_map] at h3;rw [List.getElem_append_right (by omega)] at h3;simpa using h3
  obtain ⟨hml,p,hb,rfl⟩:=hmx;have eH:=Afx hb;obtain ⟨⟨f,b⟩,hH⟩:∃H,Ec (l.take m)=H:=⟨_,rfl⟩;rw [hH] at eH ⊢;refine TrR rfl ?_;refine Aa (s':=⟨[(2,.ptr 2 0),(3,.ptr 3 0),(6,.ptr 6 0)],[(2,⟨Ac f,false⟩),(3,⟨[.bool b],false⟩),(6,⟨[I p.1,I p.2],false⟩)],[],[],false⟩) (Ad (.k rfl (.k rfl (.k rfl .nil))) (.k rfl (.k rfl (.k rfl .nil))) .nil rfl rfl) ?_;refine A4 (Mm ⟨[(2,.ptr 2 0),(3,.ptr 3 0),(6,.ptr 6 0)],[(2,⟨Ac (if b then f else ofF p),false⟩),(3,⟨[.bool true],false⟩),(6,⟨[I p.1,I p.2],false⟩)],[],[],false⟩ ?_ ?_)
  ·cases b with
   | true =>
     refine TsR rfl (A7 rfl (A5 ?_));exact Ad (.k rfl (.k rfl (.k rfl .nil))) (.k rfl (.k rfl (.k rfl .nil))) .nil rfl rfl
   | false =>
     refine TsR rfl (A9 rfl ?_);refine Ae (Srn rfl (A3 rfl rfl (A4p p) (Sfn rfl ?_)));exact Ad (.k rfl (.k rfl (.k rfl .nil))) (.k rfl (.k rfl (.k rfl .nil))) .nil rfl rfl
  refine Ab (Krn rfl (A6 rfl rfl (A4p p) (A6 rfl rfl (Ge c_span (if b then f else ofF p) (ofF p)) (Krn rfl (.done (KrT ?_))))));refine ⟨⟨[],[(2,⟨Ac (Ec (l.take (m+1))).1,false⟩),(3,⟨[.bool (Ec (l.take (m+1))).2],false⟩)],[],[],false⟩,?_,⟨m+1,by omega,?_,rfl,rfl,rfl⟩,rfl⟩
  ·rw [eH];exact Ad .nil (.k rfl (.k rfl .nil)) .nil rfl rfl
  ·rw [List.take_add_one,hb];simp
 ·rintro ⟨env,bx,rw,log,stp⟩ henv hstp ⟨m,hm,hpre,hbx,hrw,hlog⟩;simp only at hbx hrw hlog henv hstp;subst hbx hrw hlog henv hstp;have hml:m=l.length:=by
   have:=congrArg List.length hpre;simp at this;omega
  subst hml;rw [List.take_length];refine TrR rfl (Ag ?_);refine TsR rfl (A2 (A7 rfl (Ak ?_)));exact Jv rfl (by simp) (by kernel_rfl) (A8 rfl rfl rfl rfl trivial)
 ·intro e t _ h;exact h.elim
theorem Wv {f:Fr} (hf:midF f) (h:(Ec (F0 f)).2=true):C Tryz.prog G5 [.agg (Ac f)] (.tuple [.agg (Ac (Ec (F0 f)).1),I 0]):=by
 have kh:=Ahr (Kq f) (Za hf);rw [h] at kh;refine C_of mixed Ig.2 (by simp) fun S ok=>?_;refine TsR rfl (TsC rfl (A3 rfl rfl (Zu f) (Srn rfl (A3 rfl rfl kh (Sfn rfl ?_)))));refine A2 (TsR rfl (A7 rfl (A5 ?_)));exact TsR rfl (A8 rfl rfl rfl rfl trivial)
end
section
open Go.Am
attribute [local simp] cells Af mkv Aq B6 under dem dem1 eB
def B7 (p:Int×Int):Bool:=btw p.1 (-32768) 32768&&btw p.2 (-32768) 32768
theorem Aft {l n:Int} (h:¬(-l≤n∧n≤l)) (hl:0≤l):Nq l n≠n:=by unfold Nq;omega
theorem D4 (p:Int×Int):C Tryz.prog Iz [eB p] (I (if B7 p then 0 else 10)):=by
 by_cases h:B7 p=true
 ·rw [if_pos h];simp only [B7,Bool.and_eq_true,Bu] at h;exact Tk (by unfold A1f;omega)
 rw [if_neg h];have h:B7 p=false:=by simpa using h
 refine C_of mixed Ih.2 (by simp) fun S ok=>?_;have k1:=Ti (l:=32768) p.1 (by omega);have k2:=Ti (l:=32768) p.2 (by omega);refine TsR rfl (A2 (TsR rfl (A4 ?_)));refine Bd 3 (Ag ?_);refine TsR rfl (A2 (A9 rfl (A5 (A2 (A4 (TsR rfl ?_))))));refine TsC rfl (A3 rfl rfl k1 (Sfn rfl (An rfl rfl (fun _=>TsR rfl (A8 rfl rfl rfl rfl trivial)) (fun h1=>A5 (TrR rfl (Ag ?_))))));refine TsR rfl (A2 (A9 rfl (A5 (A2 (A4 (TsR rfl ?_))))));refine TsC rfl (A3 rfl rfl k2 (Sfn rfl (An rfl rfl (fun _=>TsR rfl (A8 rfl rfl rfl rfl trivial)) (fun h2=>?_))));exfalso;have h1:(Nq 32768 p.1 != p.1)=false:=h1;have h2:(Nq 32768 p.2 != p.2)=false:=h2;simp at h1 h2;have g1:-32768≤p.1∧p.1≤32768:=by
  by_cases g:-32768≤p.1∧p.1≤32768
  ·exact g
  ·exact absurd h1 (Aft g (by omega))
 have g2:-32768≤p.2∧p.2≤32768:=by
  by_cases g:-32768≤p.2∧p.2≤32768
  ·exact g
  ·exact absurd h2 (Aft g (by omega))
 have:B7 p=true:=by simp only [B7,Bool.and_eq_true,Bu];omega
 rw [h] at this;cases this
structure Gd where
 o:Int×Int
 size:Int
 a:Int
 d:Int
 cls:List (Int×Int)
def Ed (g:Gd):List V:=[I g.o.1,I g.o.2,I g.size,I g.a,I g.d,sB g.cls]
attribute [local simp] Ed sB
def A1l:Int→List (Int×Int)→Bool
 | _,[]=>true
 | last,c::r=>decide (last<c.1)&&decide (c.1≤c.2)&&decide (c.2≤17179869184)&&A1l c.2 r
def El (g:Gd):Bool:=B7 g.o&&btw g.size 1 1000&&btw g.a 1 16&&btw g.d 1 16&&btw g.cls.length 1 4&&A1l (-1) g.cls
theorem cls_drop {l:List (Int×Int)} {k:Nat} (h:k<l.length) (last:Int):A1l last (l.drop k)=(decide (last<l[k].1)&&decide (l[k].1≤l[k].2)&&decide (l[k].2≤17179869184)&&A1l l[k].2 (l.drop (k+1))):=by
 rw [List.drop_eq_getElem_cons h];rfl
theorem Oz {g:Gd} (hl:g.cls.length≤9223372036854775807):C Tryz.prog Xe [.agg (Ed g)] (I (if El g then 0 else 70)):=by
 refine C_of mixed Vo.2 (by simp) fun S ok=>?_;refine TsR rfl ?_;refine A2 (TsC rfl (A3 rfl rfl (D4 g.o) (Srn rfl ?_)));refine Ao rfl rfl rfl rfl (by simp) (fun _=>Fh g.size 1 1000) (Srn rfl ?_);refine Ao rfl rfl rfl rfl (by simp) (fun _=>Fh g.a 1 16) (Srn rfl ?_);refine Ao rfl rfl rfl rfl (by simp) (fun _=>Fh g.d 1 16) (Srn rfl ?_);refine Ao rfl rfl rfl rfl (by simp) (fun _=>Fh ((g.cls.map eB).length:Int) 1 4) (Sfn rfl ?_);have hlen:(((g.cls.map eB).length:Int))=(g.cls.length:Int):=by simp
 refine An rfl rfl (fun h1=>?_) (fun h1=>A5 ?_)
 ·refine TsR rfl (A8 rfl rfl rfl ?_ trivial);have:El g=false:=by
   revert h1;simp only [El,hlen];cases B7 g.o<;>cases btw g.size 1 1000<;>cases btw g.a 1 16<;>cases btw g.d 1 16<;>cases btw (g.cls.length:Int) 1 4<;>first | (intro _;rfl) | (intro h;cases h)
  rw [this];rfl
 have hok:El g=A1l (-1) g.cls:=by
  revert h1;simp only [El,hlen];cases B7 g.o<;>cases btw g.size 1 1000<;>cases btw g.a 1 16<;>cases btw g.d 1 16<;>cases btw (g.cls.length:Int) 1 4<;>first | (intro _;rfl) | (intro h;cases h)
 rw [hok];refine TsR rfl (A2 (TsR rfl (A4 ?_)));refine Bc (α:=Nat×Int) (fun p s=>(p.1≤g.cls.length∧A1l (-1) g.cls=A1l p.2 (g.cls.drop p.1))∧s=⟨[(3,I p.2),(36,sB g.cls),(37,I (g.cls.length:Nat)),(38,I (p.1:Nat))],[],[],[],false⟩) (fun p=>g.cls.length-p.1) (0,-1) (Ad (.k rfl (.k rfl (.cons rfl (VLe.i hlen) (.k rfl .nil)))) .nil .nil rfl rfl) ⟨⟨by simp,by simp⟩,rfl⟩ ?_;rintro ⟨k,last⟩ s ⟨⟨hk,hf⟩,rfl⟩;simp only at hk hf;refine TsR rfl (By rfl (fun h2=>?_) (fun h2=>?_))
 ·have h2:k<g.cls.length:=by simpa using h2
  rw [cls_drop h2] at hf;refine Bg (A2 (A4 (A2 (Ae (Az 1 rfl (by simp;omega) ?_)))));rw [Aj h2];refine Sfn rfl (A2 (TsR rfl (An rfl rfl (fun h3=>?_) (fun h3=>A5 ?_))))
  ·refine TsR rfl (A8 rfl rfl rfl ?_ trivial);have:A1l (-1) g.cls=false:=by
    rw [hf];have h3:(bif (bif decide (g.cls[k].1≤last) then true else decide (g.cls[k].1>g.cls[k].2)) then true else decide (g.cls[k].2>17179869184))=true:=h3;by_cases a1:g.cls[k].1≤last
    ·rw [decide_eq_false (by omega:¬last<g.cls[k].1)];rfl
    ·by_cases a2:g.cls[k].1>g.cls[k].2
     ·rw [decide_eq_false (by omega:¬g.cls[k].1≤g.cls[k].2)];simp
     ·rw [decide_eq_false a1,decide_eq_false a2] at h3;simp only [cond_false,decide_eq_true_eq] at h3;rw [decide_eq_false (by omega:¬g.cls[k].2≤17179869184)];simp
   rw [this];rfl
  ·have h3:(bif (bif decide (g.cls[k].1≤last) then true else decide (g.cls[k].1>g.cls[k].2)) then true else decide (g.cls[k].2>17179869184))=false:=h3;have h3':(last<g.cls[k].1∧g.cls[k].1≤g.cls[k].2)∧g.cls[k].2≤17179869184:=by
    by_cases a1:g.cls[k].1≤last
    ·rw [decide_eq_true a1] at h3;cases h3
    ·by_cases a2:g.cls[k].1>g.cls[k].2
     ·rw [decide_eq_false a1,decide_eq_true a2] at h3;cases h3
     ·rw [decide_eq_false a1,decide_eq_false a2] at h3;simp only [cond_false,decide_eq_false_iff_not] at h3;omega
   rw [decide_eq_true h3'.1.1,decide_eq_true h3'.1.2,decide_eq_true h3'.2] at hf;refine TrR rfl (TrR rfl ?_);exact ⟨(k+1,g.cls[k].2),_,Ad (.k rfl (.k rfl (.k rfl (.cons rfl (VLe.i (w64 (by omega) (by omega))) .nil)))) .nil .nil rfl rfl,⟨⟨by simp;omega,by simpa using hf⟩,rfl⟩,by simp;omega⟩
 ·have h2:k=g.cls.length:=by simp at h2;omega
  subst h2;rw [List.drop_length] at hf;refine Ak (TsR rfl (A8 rfl rfl rfl ?_ trivial));rw [hf];rfl
end
section
open Go.Am
attribute [local simp] cells Af mkv Aq B6 under dem dem1 eB Ed sB
theorem A1i {a b:Int} (hb:0<b):(if a.tmod b<0 then a.tdiv b-1 else a.tdiv b)=a/b:=by
 have h1:=Int.mul_tdiv_add_tmod a b;have h2:=Int.tmod_lt_of_pos a hb;have h3:=Int.lt_tmod_of_pos a hb;split
 ·rename_i h;refine ((Int.ediv_emod_unique hb (r:=a.tmod b+b) (q:=a.tdiv b-1)).2 ⟨?_,by omega,by omega⟩).1.symm;rw [Int.mul_sub];omega
 ·refine ((Int.ediv_emod_unique hb (r:=a.tmod b) (q:=a.tdiv b)).2 ⟨by omega,by omega,by omega⟩).1.symm
theorem A5x {a b:Int} (hb:0<b) {K:Int} (h:-K≤a∧a≤K):-K≤a.tdiv b∧a.tdiv b≤K:=by
 have h1:=Int.natAbs_tdiv_le_natAbs a b;omega
theorem Ahs {a b:Int} (hb:0<b) (ha:-1000000000000≤a∧a≤1000000000000):C Tryz.prog A8q [I a,I b] (I (a/b)):=by
 have hq:=A5x hb ha;have e:=A1i (a:=a) hb;have ew:IntKind.wrap .i64 (a.tdiv b)=a.tdiv b:=w64 (by omega) (by omega);refine C_of mixed A6v.2 (by simp) fun S ok=>?_;refine TsR rfl (Aw rfl (by simp;omega) ?_);refine A2 (Aw rfl (by simp;omega) (An rfl rfl (fun h=>TrR rfl ?_) (fun h=>A5 ?_)))
 ·have h:a.tmod b<0:=by simpa using h
  rw [if_pos h] at e;refine TsR rfl (A8 rfl rfl rfl ?_ trivial);rw [←e];show I (a.tdiv b-1)=I (IntKind.wrap .i64 (IntKind.wrap .i64 (a.tdiv b)-1));rw [ew,w64 (by omega) (by omega)]
 ·have h:¬a.tmod b<0:=by simpa using h
  rw [if_neg h] at e;refine TsR rfl (A8 rfl rfl rfl ?_ trivial);rw [←e];show I (a.tdiv b)=I (IntKind.wrap .i64 (a.tdiv b));rw [ew]
def Y3 (n:Int):List (Int×Int)→Nat→Option Nat
 | [],_=>none
 | c::r,i=>if btw n c.1 c.2 then some i else Y3 n r (i+1)
theorem Acw {l:List (Int×Int)} {k:Nat} (h:k<l.length) (n:Int):Y3 n (l.drop k) k=if btw n l[k].1 l[k].2 then some k else Y3 n (l.drop (k+1)) (k+1):=by
 rw [List.drop_eq_getElem_cons h];rfl
def colN (g:Gd) (a b:Int×Int):Int:=(a.1+b.1-2*g.o.1)/(2*g.size)
def rowN (g:Gd) (a b:Int×Int):Int:=(a.2+b.2-2*g.o.2)/(2*g.size)
def sqN (a b:Int×Int):Int:=(a.1-b.1)*(a.1-b.1)+(a.2-b.2)*(a.2-b.2)
def Kd (g:Gd) (a b:Int×Int):Int×Int :=
 if btw (colN g a b) 0 (g.a-1)&&btw (rowN g a b) 0 (g.d-1) then (match Y3 (sqN a b) g.cls 0 with | some i=>(rowN g a b*g.a+colN g a b,(i:Int)) | none=>(-1,-1)) else (-1,-1)
theorem F6 {g:Gd} (h:El g=true):((-32768≤g.o.1∧g.o.1≤32768)∧-32768≤g.o.2∧g.o.2≤32768)∧(1≤g.size∧g.size≤1000)∧(1≤g.a∧g.a≤16)∧(1≤g.d∧g.d≤16)∧(1≤g.cls.length∧g.cls.length≤4)∧A1l (-1) g.cls=true:=by
 simp only [El,B7,Bool.and_eq_true,Bu] at h;obtain ⟨⟨⟨⟨⟨h1,h2⟩,h3⟩,h4⟩,h5⟩,h6⟩:=h;exact ⟨h1,h2,h3,h4,by omega,h6⟩
theorem Bt {p:Int×Int} (h:B7 p=true):(-32768≤p.1∧p.1≤32768)∧-32768≤p.2∧p.2≤32768:=by
 simpa only [B7,Bool.and_eq_true,Bu] using h
theorem sq64 {x:Int} (h:-65536≤x∧x≤65536):0≤x*x∧x*x≤4294967296:=by
 have h1:0≤x*x:=by
  rcases Int.le_total 0 x with h | h
  ·exact Int.mul_nonneg h h
  ·have:=Int.mul_nonneg (Int.neg_nonneg_of_nonpos h) (Int.neg_nonneg_of_nonpos h)
   rwa [Int.neg_mul_neg] at this
 have h2:=Int.mul_nonneg (show 0≤65536-x by omega) (show 0≤65536+x by omega);rw [Int.sub_mul,Int.mul_add,Int.mul_add,Int.mul_comm x 65536] at h2;omega
theorem c_cell {g:Gd} (hg:El g=true) {a b:Int×Int} (ha:B7 a=true) (hb:B7 b=true):C Tryz.prog Adv [.agg (Ed g),eB a,eB b] (eB (Kd g a b)):=by
 obtain ⟨ho,hsz,hga,hgd,hcl,_⟩:=F6 hg;have ha':=Bt ha;have hb':=Bt hb;have k1:=Ahs (a:=a.1+b.1-2*g.o.1) (b:=2*g.size) (by omega) (by omega);have k2:=Ahs (a:=a.2+b.2-2*g.o.2) (b:=2*g.size) (by omega) (by omega);have e1:IntKind.wrap .i64 (IntKind.wrap .i64 (a.1+b.1)-IntKind.wrap .i64 (2*g.o.1))=a.1+b.1-2*g.o.1:=by
  rw [w64 (n:=a.1+b.1) (by omega) (by omega),w64 (n:=2*g.o.1) (by omega) (by omega),w64 (by omega) (by omega)]
 have e2:IntKind.wrap .i64 (IntKind.wrap .i64 (a.2+b.2)-IntKind.wrap .i64 (2*g.o.2))=a.2+b.2-2*g.o.2:=by
  rw [w64 (n:=a.2+b.2) (by omega) (by omega),w64 (n:=2*g.o.2) (by omega) (by omega),w64 (by omega) (by omega)]
 have e3:IntKind.wrap .i64 (2*g.size)=2*g.size:=w64 (by omega) (by omega);rw [←e1,←e3] at k1;rw [←e2,←e3] at k2;refine C_of mixed Abg.2 (by simp) fun S ok=>?_;refine TsR rfl ?_;refine A2 (Ab (Krn rfl (A6 rfl rfl k1 (Krn rfl (A6 rfl rfl k2 ?_)))));refine Krn rfl (.done (KrT ?_));refine Aa (s':=⟨[(3,.ptr 3 0),(4,.ptr 4 0),(5,.ptr 5 0),(6,.ptr 6 0),(7,I (colN g a b)),(8,I (rowN g a b))],[(3,⟨Ed g,false⟩),(4,⟨[I a.1,I a.2],false⟩),(5,⟨[I b.1,I b.2],false⟩),(6,⟨[I 0,I 0],false⟩)],[],[],false⟩) (Ad (.k rfl (.k rfl (.k rfl (.k rfl (.cons rfl (VLe.i ?_) (.cons rfl (VLe.i ?_) .nil)))))) (.k rfl (.k rfl (.k rfl (.k rfl .nil)))) .nil rfl rfl) ?_
 ·rw [e1,e3];rfl
 ·rw [e2,e3];rfl
 have hwa:IntKind.wrap .i64 (g.a-1)=g.a-1:=w64 (by omega) (by omega);have hwd:IntKind.wrap .i64 (g.d-1)=g.d-1:=w64 (by omega) (by omega);refine A2 (TsC rfl (A3 rfl rfl (Fh (colN g a b) 0 (IntKind.wrap .i64 (g.a-1))) (Srn rfl ?_)));refine Ao rfl rfl rfl rfl (by simp) (fun _=>Fh (rowN g a b) 0 (IntKind.wrap .i64 (g.d-1))) (Sfn rfl ?_);rw [hwa,hwd];have hnone:∀{s:St} {K:St→Prop} {d:Nat} {rest:List Ins},Am.Steps (env0 Tryz.prog mixed 96 S ok) rest K (s.put (some d) (.agg [I (-1),I (-1)]))→Am.Steps (env0 Tryz.prog mixed 96 S ok) (⟨some d,.load 2 true,[.c (.rptr 0 0)],none⟩::rest) K s:=fun h =>
  X2 (g:=0) (cs:=[I (-1),I (-1)]) (by simp [Fy]) rfl (by simp) h
 refine An rfl rfl (fun h1=>?_) (fun h1=>A5 ?_)
 ·refine A2 (Ae (hnone (Sfn rfl (A8 rfl rfl rfl ?_ trivial))));have:(btw (colN g a b) 0 (g.a-1)&&btw (rowN g a b) 0 (g.d-1))=false:=by
   revert h1;cases btw (colN g a b) 0 (g.a-1)<;>cases btw (rowN g a b) 0 (g.d-1)<;>first | (intro _;rfl) | (intro h;cases h)
  simp [D2,Kd,this]
 have hin:(btw (colN g a b) 0 (g.a-1)&&btw (rowN g a b) 0 (g.d-1))=true:=by
  revert h1;cases btw (colN g a b) 0 (g.a-1)<;>cases btw (rowN g a b) 0 (g.d-1)<;>first | (intro _;rfl) | (intro h;cases h)
 have hin2:=hin;simp only [Bool.and_eq_true,Bu] at hin2;have s1:=sq64 (x:=a.1-b.1) (by omega);have s2:=sq64 (x:=a.2-b.2) (by omega);have w1:IntKind.wrap .i64 (a.1-b.1)=a.1-b.1:=w64 (by omega) (by omega);have w2:IntKind.wrap .i64 (a.2-b.2)=a.2-b.2:=w64 (by omega) (by omega);refine Jv rfl (by simp) (by kernel_rfl) ?_;refine A2 (TsR rfl (A4 ?_));refine Bc (fun (k:Nat) s=>(k≤g.cls.length∧Y3 (sqN a b) g.cls 0=Y3 (sqN a b) (g.cls.drop k) k)∧s=⟨[(3,.ptr 3 0),(6,.ptr 6 0),(7,I (colN g a b)),(8,I (rowN g a b)),(9,I (a.1-b.1)),(10,I (a.2-b.2)),(67,sB g.cls),(68,I (g.cls.length:Nat)),(69,I (k:Nat))],[(3,⟨Ed g,false⟩),(6,⟨[I 0,I 0],false⟩)],[],[],false⟩) (fun k=>g.cls.length-k) 0 (Ad (.k rfl (.k rfl (.k rfl (.k rfl (.cons rfl (VLe.i w1) (.cons rfl (VLe.i w2) (.k rfl (.cons rfl (VLe.i (by simp)) (.k rfl .nil))))))))) (.k rfl (.k rfl .nil)) .nil rfl rfl) ⟨⟨by omega,by simp⟩,rfl⟩ ?_;rintro k s ⟨⟨hk,hf⟩,rfl⟩;refine TsR rfl (By rfl (fun h2=>?_) (fun h2=>?_))
 ·have h2:k<g.cls.length:=by simpa using h2
  rw [Acw h2] at hf;have w3:IntKind.wrap .i64 ((a.1-b.1)*(a.1-b.1))=(a.1-b.1)*(a.1-b.1):=w64 (by omega) (by omega);have w4:IntKind.wrap .i64 ((a.2-b.2)*(a.2-b.2))=(a.2-b.2)*(a.2-b.2):=w64 (by omega) (by omega);have w5:IntKind.wrap .i64 (IntKind.wrap .i64 ((a.1-b.1)*(a.1-b.1))+IntKind.wrap .i64 ((a.2-b.2)*(a.2-b.2)))=sqN a b:=by rw [w3,w4];exact w64 (by omega) (by omega)
  have kw:=Fh (sqN a b) g.cls[k].1 g.cls[k].2;rw [←w5] at kw;refine Bg (A2 (A4 (A2 (Ae (Az 2 rfl (by simp;omega) ?_)))));rw [Aj h2];refine Sfn rfl (TsC rfl (A3 rfl rfl kw (Sfn rfl ?_)));rw [w5];refine An rfl rfl (fun h3=>?_) (fun h3=>A5 (TrR rfl ?_))
  ·have h3:btw (sqN a b) g.cls[k].1 g.cls[k].2=true:=h3;rw [if_pos h3] at hf;refine TsR rfl (A8 rfl rfl rfl ?_ trivial);have m1:0≤rowN g a b*g.a∧rowN g a b*g.a≤256:=by
    refine ⟨Int.mul_nonneg (by omega) (by omega),?_⟩;have:=Int.mul_le_mul (show rowN g a b≤16 by omega) (show g.a≤16 by omega) (by omega) (by omega);omega
   have e:IntKind.wrap .i64 (IntKind.wrap .i64 (rowN g a b*g.a)+colN g a b)=rowN g a b*g.a+colN g a b:=by
    rw [w64 (n:=rowN g a b*g.a) (by omega) (by omega),w64 (by omega) (by omega)]
   show eB (Kd g a b)=.agg [I (IntKind.wrap .i64 (IntKind.wrap .i64 (rowN g a b*g.a)+colN g a b)),I (k:Int)];rw [e];simp [Kd,hin,hf]
  ·have h3:btw (sqN a b) g.cls[k].1 g.cls[k].2=false:=h3;rw [h3,if_neg (by simp)] at hf;exact ⟨k+1,_,Ad (.k rfl (.k rfl (.k rfl (.k rfl (.k rfl (.k rfl (.k rfl (.k rfl (.cons rfl (VLe.i (w64 (by omega) (by omega))) .nil))))))))) (.k rfl (.k rfl .nil)) .nil rfl rfl,⟨⟨h2,hf⟩,rfl⟩,by omega⟩
 ·have h2:k=g.cls.length:=by simp at h2;omega
  subst h2;rw [List.drop_length] at hf;refine Ak (A2 (Ae (hnone (Sfn rfl (A8 rfl rfl rfl ?_ trivial)))));simp [D2,Kd,hin,hf,Y3]
end
section
open Go.Am
attribute [local simp] cells Af mkv Aq B6 under dem dem1 eB Ed sB Ac
theorem c_Cell {g:Gd} (hl:g.cls.length≤9223372036854775807) (a b:Int×Int):C Tryz.prog A01 [.agg (Ed g),eB a,eB b] (if El g then (if B7 a&&B7 b then .tuple [eB (Kd g a b),I 0] else .tuple [.agg [I 0,I 0],I 10]) else .tuple [.agg [I 0,I 0],I 70]):=by
 have kg:=Oz (g:=g) hl;refine C_of mixed Abj.2 (by simp) fun S ok=>?_;refine TsR rfl ?_;by_cases hg:El g=true;rotate_left
 ·rw [if_neg hg] at kg;refine A2 (TsC rfl (A3 rfl rfl kg (Sfn rfl (TsR rfl (A9 rfl ?_)))));refine TsR rfl (A8 rfl rfl rfl ?_ trivial);rw [if_neg hg];rfl
 rw [if_pos hg] at kg ⊢;refine A2 (TsC rfl (A3 rfl rfl kg (Sfn rfl (TsR rfl (A7 rfl (A5 ?_))))));refine A2 (TsC rfl (A3 rfl rfl (D4 a) (Srn rfl (Ao rfl rfl rfl rfl (by simp) (fun _=>D4 b) (Sfn rfl ?_)))));refine An rfl rfl (fun h1=>?_) (fun h1=>A5 ?_)
 ·refine TsR rfl (A8 rfl rfl rfl ?_ trivial);have:(B7 a&&B7 b)=false:=by
   revert h1;cases B7 a<;>cases B7 b<;>first | (intro _;rfl) | (intro h;cases h)
  rw [this];rfl
 have hp:B7 a=true∧B7 b=true:=by
  revert h1;cases B7 a<;>cases B7 b<;>first | (intro _;exact ⟨rfl,rfl⟩) | (intro h;cases h)
 refine TsC rfl (A3 rfl rfl (c_cell hg hp.1 hp.2) (Sfn rfl (A8 rfl rfl rfl ?_ trivial)));rw [hp.1,hp.2];rfl
def Ez (l:Int) (b:Int×Int):Bool:=decide (-l≤b.1)&&decide (b.1≤b.2)&&decide (b.2≤l)
def Bh (f:Fr):Bool:=Ez 32768 f.x&&Ez 32768 f.y&&Ez 65536 f.s&&Ez 65536 f.d
theorem Cw (f:Fr):Bh f=true↔fitF f:=by
 simp only [Bh,Ez,Bool.and_eq_true,decide_eq_true_eq,fitF,fitB];omega
theorem Sn {l:Int} (b:Int×Int) (hl:0≤l∧l≤65536):C Tryz.prog B3 [I l,eB b] (.bool (Ez l b)):=by
 refine C_of mixed Oe.2 (by simp) fun S ok=>?_;have e:IntKind.wrap .i64 (0-l)=-l:=by rw [w64 (by omega) (by omega)];omega
 refine TsR rfl (TsR rfl (Bs rfl rfl ?_ trivial));show V.bool (Ez l b)=.bool (bif (bif decide (b.1≥IntKind.wrap .i64 (0-l)) then decide (b.1≤b.2) else false) then decide (b.2≤l) else false);rw [e,Ez];congr 1;by_cases h1:-l≤b.1<;>by_cases h2:b.1≤b.2<;>simp [h1,h2]
theorem Dy (f:Fr):C Tryz.prog Yj [.agg (Ac f)] (I (if Bh f then 0 else 11)):=by
 refine C_of mixed Xt.2 (by simp) fun S ok=>?_;refine TsR rfl (TsR rfl (A2 (TsC rfl (A3 rfl rfl (Dh f) (Sfn rfl (A4 ?_))))));refine Bd 5 (Ag ?_);refine Aa (s':=⟨[(3,.ptr 3 0),(12,.agg (Ac f)),(13,I 0)],[(3,⟨[.func (.func B3) [I 32768] [],.func (.func B3) [I 32768] [],.func (.func B3) [I 65536] [],.func (.func B3) [I 65536] []],false⟩)],[],[],false⟩) (Ad (.k rfl (.k rfl (.cons rfl (VLe.i rfl) .nil))) (.k rfl .nil) .nil rfl rfl) ?_;refine TsR rfl (A2 (A9 rfl (A5 (A2 (A4 (TsR rfl (A2 ?_)))))));refine Ab (Krn rfl (Ch rfl rfl (Sn (l:=32768) f.x (by omega)) (Krn rfl (.done (KrT ?_)))));refine An rfl rfl (fun h0=>TsR rfl (A8 rfl rfl rfl ?_ trivial)) (fun h0=>A5 (TrR rfl (Ag ?_)))
 ·have h0:Ez 32768 f.x=false:=by simpa using h0
  simp [D2,Bh,h0]
 have h0:Ez 32768 f.x=true:=by simpa using h0
 refine Aa (s':=⟨[(3,.ptr 3 0),(12,.agg (Ac f)),(13,I 1)],[(3,⟨[.func (.func B3) [I 32768] [],.func (.func B3) [I 32768] [],.func (.func B3) [I 65536] [],.func (.func B3) [I 65536] []],false⟩)],[],[],false⟩) (Ad (.k rfl (.k rfl (.cons rfl (VLe.i rfl) .nil))) (.k rfl .nil) .nil rfl rfl) ?_;refine TsR rfl (A2 (A9 rfl (A5 (A2 (A4 (TsR rfl (A2 ?_)))))));refine Ab (Krn rfl (Ch rfl rfl (Sn (l:=32768) f.y (by omega)) (Krn rfl (.done (KrT ?_)))));refine An rfl rfl (fun h1=>TsR rfl (A8 rfl rfl rfl ?_ trivial)) (fun h1=>A5 (TrR rfl (Ag ?_)))
 ·have h1:Ez 32768 f.y=false:=by simpa using h1
  simp [D2,Bh,h1]
 have h1:Ez 32768 f.y=true:=by simpa using h1
 refine Aa (s':=⟨[(3,.ptr 3 0),(12,.agg (Ac f)),(13,I 2)],[(3,⟨[.func (.func B3) [I 32768] [],.func (.func B3) [I 32768] [],.func (.func B3) [I 65536] [],.func (.func B3) [I 65536] []],false⟩)],[],[],false⟩) (Ad (.k rfl (.k rfl (.cons rfl (VLe.i rfl) .nil))) (.k rfl .nil) .nil rfl rfl) ?_;refine TsR rfl (A2 (A9 rfl (A5 (A2 (A4 (TsR rfl (A2 ?_)))))));refine Ab (Krn rfl (Ch rfl rfl (Sn (l:=65536) f.s (by omega)) (Krn rfl (.done (KrT ?_)))));refine An rfl rfl (fun h2=>TsR rfl (A8 rfl rfl rfl ?_ trivial)) (fun h2=>A5 (TrR rfl (Ag ?_)))
 ·have h2:Ez 65536 f.s=false:=by simpa using h2
  simp [D2,Bh,h2]
 have h2:Ez 65536 f.s=true:=by simpa using h2
 refine Aa (s':=⟨[(3,.ptr 3 0),(12,.agg (Ac f)),(13,I 3)],[(3,⟨[.func (.func B3) [I 32768] [],.func (.func B3) [I 32768] [],.func (.func B3) [I 65536] [],.func (.func B3) [I 65536] []],false⟩)],[],[],false⟩) (Ad (.k rfl (.k rfl (.cons rfl (VLe.i rfl) .nil))) (.k rfl .nil) .nil rfl rfl) ?_;refine TsR rfl (A2 (A9 rfl (A5 (A2 (A4 (TsR rfl (A2 ?_)))))));refine Ab (Krn rfl (Ch rfl rfl (Sn (l:=65536) f.d (by omega)) (Krn rfl (.done (KrT ?_)))));refine An rfl rfl (fun h3=>TsR rfl (A8 rfl rfl rfl ?_ trivial)) (fun h3=>A5 (TrR rfl (Ag ?_)))
 ·have h3:Ez 65536 f.d=false:=by simpa using h3
  simp [D2,Bh,h3]
 have h3:Ez 65536 f.d=true:=by simpa using h3
 refine TsR rfl (A2 (A7 rfl (Ak ?_)));refine TsR rfl (A8 rfl rfl rfl ?_ trivial);simp [D2,Bh,h0,h1,h2,h3]
theorem Hs {f:Fr} (h:Bh f=true):midF f:=by
 have h:=(Cw f).1 h;obtain ⟨⟨⟨h1,h2,h3⟩,h4,h5,h6⟩,⟨h7,h8,h9⟩,h10,h11,h12⟩:=h;unfold midF;omega
def rowM (r:Int×Int×Int):Int:=r.2.2-r.2.1+1
def Hu (f:Fr):Int:=((Bo f).map rowM).foldl (·+·) 0
theorem A0e {f:Fr} (h:midF f):∀(n:Nat) (x:Int) (r:Int×Int×Int),r∈G0 f n x→-1000000≤r.2.1∧r.2.1≤r.2.2∧r.2.2≤1000000
 | 0,x,r,hr=>by cases hr
 | n+1,x,r,hr=>by
   simp only [G0] at hr;split at hr
   ·rename_i h1;rcases List.mem_cons.1 hr with rfl | hr
    ·obtain ⟨_,⟨⟨h2,h3⟩,h4,h5⟩,_⟩:=h;refine ⟨?_,h1,?_⟩
     ·show -1000000≤lowY f x;unfold lowY;omega
     ·show Dd f x≤1000000;unfold Dd;omega
    ·exact A0e h n (x+1) r hr
   ·exact A0e h n (x+1) r hr
theorem A2t (f:Fr):∀(n:Nat) (x:Int),(G0 f n x).length≤n
 | 0,x=>by simp [G0]
 | n+1,x=>by
   have:=A2t f n (x+1);simp only [G0];split<;>simp<;>omega
theorem sum_bd:∀(l:List (Int×Int×Int)) (a:Int),(∀r∈l,-1000000≤r.2.1∧r.2.1≤r.2.2∧r.2.2≤1000000)→a≤(l.map rowM).foldl (·+·) a∧(l.map rowM).foldl (·+·) a≤a+l.length*2000001
 | [],a,_=>by simp
 | r::l,a,h=>by
   have h1:=h r (by simp);have h2:=sum_bd l (a+rowM r) (fun r hr=>h r (by simp [hr]));simp only [List.map_cons,List.foldl_cons,List.length_cons];unfold rowM at h2 ⊢
   push_cast
   omega
theorem Ai1 (f:Fr):C Tryz.prog Yi [.agg (Ac f)] (if Bh f then .tuple [I (Hu f),I 0] else .tuple [I 0,I 11]):=by
 have kc:=Dy f;refine C_of mixed Xs.2 (by simp) fun S ok=>?_;refine TsR rfl ?_;by_cases hf:Bh f=true;rotate_left
 ·rw [if_neg hf] at kc;refine A2 (TsC rfl (A3 rfl rfl kc (Sfn rfl (TsR rfl (A9 rfl ?_)))));refine TsR rfl (A8 rfl rfl rfl ?_ trivial);rw [if_neg hf];rfl
 rw [if_pos hf] at kc ⊢;have hm:=Hs hf;have hlen:(Bo f).length≤2000001:=by
  have h1:=A2t f (f.x.2+1-f.x.1).toNat f.x.1;obtain ⟨⟨⟨h2,h3⟩,h4,h5⟩,_⟩:=hm;unfold Bo;omega
 have hrb:∀r∈Bo f,-1000000≤r.2.1∧r.2.1≤r.2.2∧r.2.2≤1000000:=fun r hr=>A0e hm _ _ r hr;refine A2 (TsC rfl (A3 rfl rfl kc (Sfn rfl (TsR rfl (A7 rfl (A5 ?_))))));refine TsR rfl (A2 (TsC rfl (A3 rfl rfl (Dh f) (A3 rfl rfl (Aab f) (Sfn rfl (A4 ?_))))));refine Aa (s':=⟨[(14,.func (.func Cq) [] [.vptr (Ac f) 0]),(5,.ptr 5 0)],[(5,⟨[I 0],false⟩)],[],[],false⟩) (Ad (.k rfl (.k rfl .nil)) (.k rfl .nil) .nil rfl rfl) ?_;refine Fz rfl rfl (A9s hm) rfl rfl rfl (by intro x hx;obtain ⟨b,_,rfl⟩:=List.mem_map.1 hx;rfl) (fun pre t=>∃m,m≤(Bo f).length∧pre=((Bo f).take m).map eRow∧t.bx=[(5,⟨[I ((((Bo f).take m).map rowM).foldl (·+·) 0)],false⟩)]∧t.rw=[]∧t.log=[]) (fun _ _=>False) ⟨0,by omega,rfl,rfl,rfl,rfl⟩ ?_ ?_ ?_
 ·rintro a0 L0 rc0 h0 S1 S2 ok1 ok2 pre q t lp hpre ⟨m,hm',rfl,hbx,hrw,hlog⟩ henv hstp;obtain ⟨env,bx,rw,log,stp⟩:=t;simp only at hbx hrw hlog henv hstp;subst hbx hrw hlog henv hstp;have hmx:m<(Bo f).length∧∃b,(Bo f)[m]?=some b∧q=eRow b:=by
   have h1:(((Bo f).take m).map eRow).length=m:=by simp;omega
   have h2:=hpre.length_le;simp at h2;have hml:m<(Bo f).length:=by omega
   refine ⟨hml,_,List.getElem?_eq_getElem hml,?_⟩;have h3:=List.IsPrefix.getElem hpre (i:=m) (by simp;omega);simp only [List.getElem_map] at h3;rw [List.getElem_append_right (by omega)] at h3;simpa using h3
  obtain ⟨hml,r,hb,rfl⟩:=hmx;have hr:=hrb r (List.mem_of_getElem? hb);have hs:=sum_bd ((Bo f).take m) 0 (fun r hr=>hrb r (List.mem_of_mem_take hr));have hl2:((Bo f).take m).length≤2000001:=by rw [List.length_take];omega
  have eT:((Bo f).take (m+1)).map rowM=((Bo f).take m).map rowM++[rowM r]:=by
   rw [List.take_add_one,hb,List.map_append];rfl
  refine TrR rfl ?_;refine A4 (TrR rfl ?_);refine ⟨⟨[],[(5,⟨[I ((((Bo f).take (m+1)).map rowM).foldl (·+·) 0)],false⟩)],[],[],false⟩,Ad .nil (.cons rfl (.cons (VLe.i ?_) .nil) .nil) .nil rfl rfl,⟨m+1,by omega,?_,rfl,rfl,rfl⟩,rfl⟩
  ·rw [eT,List.foldl_append];show IntKind.wrap .i64 ((((Bo f).take m).map rowM).foldl (·+·) 0+IntKind.wrap .i64 (IntKind.wrap .i64 (r.2.2-r.2.1)+1))=(((Bo f).take m).map rowM).foldl (·+·) 0+rowM r;unfold rowM at hs ⊢;rw [w64 (n:=r.2.2-r.2.1) (by omega) (by omega),w64 (n:=r.2.2-r.2.1+1) (by omega) (by omega),w64 (by omega) (by omega)]
  ·rw [List.take_add_one,hb];simp
 ·rintro ⟨env,bx,rw,log,stp⟩ henv hstp ⟨m,hm',hpre,hbx,hrw,hlog⟩;simp only at hbx hrw hlog henv hstp;subst hbx hrw hlog henv hstp;have hml:m=(Bo f).length:=by
   have:=congrArg List.length hpre;simp at this;omega
  subst hml;rw [List.take_length];exact TsR rfl (A8 rfl rfl rfl rfl trivial)
 ·intro e t _ h;exact h.elim
end
section
open Go.Am
attribute [local simp] cells Af mkv Aq B6 under dem dem1 eB Ed sB Ac
structure Ly where
 nodes:List Fr
 traces:List (Int×Int)
def eF (f:Fr):V:=.agg (Ac f)
def layC (s:Ly):List V:=[.slice 0 8 (s.nodes.map eF),.slice 0 2 (s.traces.map eB)]
attribute [local simp] eF layC
def Iq (f:Fr):Bool:=Bh f&&btw (Hu f) 1 64
def Jm (n:Nat) (t:Int×Int):Bool:=btw t.1 0 ((n:Int)-1)&&btw t.2 0 ((n:Int)-1)&&t.1 != t.2
def I3 (s:Ly):Bool:=decide (s.nodes.length≤16)&&decide (s.traces.length≤64)&&s.nodes.all Iq&&s.traces.all (Jm s.nodes.length)
theorem I5 {α:Type} {p:α→Bool} {l:List α} {k:Nat} (h:k<l.length):(l.take (k+1)).all p=((l.take k).all p&&p l[k]):=by
 rw [List.take_add_one,List.getElem?_eq_getElem h,List.all_append];simp
theorem Mj {α:Type} {p:α→Bool} {l:List α} {k:Nat} (h:k<l.length) (hp:p l[k]=false):l.all p=false:=by
 rw [List.all_eq_false];exact ⟨_,List.getElem_mem h,by simp [hp]⟩
theorem A1v {s:Ly} (hn:s.nodes.length≤9223372036854775807) (ht:s.traces.length≤9223372036854775807):C Tryz.prog T8 [.agg (layC s)] (I (if I3 s then 0 else 71)):=by
 refine C_of mixed S7.2 (by simp) fun S ok=>?_;refine TsR rfl (A2 (TsR rfl (An rfl rfl (fun h1=>?_) (fun h1=>A5 ?_))))
 ·refine TsR rfl (A8 rfl rfl rfl ?_ trivial);have h1:(bif decide (((s.nodes.map eF).length:Int)>16) then true else decide (((s.traces.map eB).length:Int)>64))=true:=h1;have:I3 s=false:=by
   unfold I3;by_cases a1:s.nodes.length≤16
   ·by_cases a2:s.traces.length≤64
    ·simp at h1;omega
    ·simp [a2]
   ·simp [a1]
  rw [this];rfl
 have h1:(bif decide (((s.nodes.map eF).length:Int)>16) then true else decide (((s.traces.map eB).length:Int)>64))=false:=h1;have hnl:s.nodes.length≤16∧s.traces.length≤64:=by
  simp at h1;omega
 refine A2 (TsR rfl (A4 ?_));refine Bc (fun (k:Nat) st=>(k≤s.nodes.length∧(s.nodes.take k).all Iq=true)∧st=⟨[(1,.ptr 1 0),(20,.slice 0 8 (s.nodes.map eF)),(21,I (s.nodes.length:Nat)),(22,I (k:Nat))],[(1,⟨layC s,false⟩)],[],[],false⟩) (fun k=>s.nodes.length-k) 0 (Ad (.k rfl (.k rfl (.cons rfl (VLe.i (by simp)) (.k rfl .nil)))) (.k rfl .nil) .nil rfl rfl) ⟨⟨by omega,by simp⟩,rfl⟩ ?_;rintro k st ⟨⟨hk,hall⟩,rfl⟩;refine TsR rfl (By rfl (fun h2=>?_) (fun h2=>?_))
 ·have h2:k<s.nodes.length:=by simpa using h2
  refine Bg (A2 (A4 (A2 (Ae (Az 1 rfl (by simp;omega) ?_)))));rw [Aj h2];refine Sfn rfl ?_;have kc:=Ai1 s.nodes[k];by_cases hf:Bh s.nodes[k]=true
  ·rw [if_pos hf] at kc;refine TsC rfl (A3 rfl rfl kc (Sfn rfl ?_));refine TsC rfl (Ao rfl rfl rfl rfl (by simp) (fun _=>Fh (Hu s.nodes[k]) 1 64) (Sfn rfl ?_));refine An rfl rfl (fun h3=>?_) (fun h3=>A5 (TrR rfl ?_))
   ·have h3:btw (Hu s.nodes[k]) 1 64=false:=by simpa using h3
    refine TsR rfl (A8 rfl rfl rfl ?_ trivial);have:I3 s=false:=by
     unfold I3;rw [Mj (p:=Iq) h2 (by simp [Iq,h3])];simp
    rw [this];rfl
   ·have h3:btw (Hu s.nodes[k]) 1 64=true:=by simpa using h3
    exact ⟨k+1,_,Ad (.k rfl (.k rfl (.k rfl (.cons rfl (VLe.i (w64 (by omega) (by omega))) .nil)))) (.k rfl .nil) .nil rfl rfl,⟨⟨h2,by rw [I5 h2,hall];simp [Iq,hf,h3]⟩,rfl⟩,by omega⟩
  ·rw [if_neg hf] at kc;refine TsC rfl (A3 rfl rfl kc (Sfn rfl ?_));refine TsC rfl (Cx (want:=false) (.bool true) rfl rfl rfl (Sfn rfl ?_));refine A9 rfl (TsR rfl (A8 rfl rfl rfl ?_ trivial));have:I3 s=false:=by
    unfold I3;rw [Mj (p:=Iq) h2 (by simp [Iq,hf])];simp
   rw [this];rfl
 have h2:k=s.nodes.length:=by simp at h2;omega
 subst h2;rw [List.take_length] at hall;refine Ak (A2 (TsR rfl (A4 ?_)));refine Bc (fun (k:Nat) st=>(k≤s.traces.length∧(s.traces.take k).all (Jm s.nodes.length)=true)∧st=⟨[(1,.ptr 1 0),(40,.slice 0 2 (s.traces.map eB)),(41,I (s.traces.length:Nat)),(42,I (k:Nat))],[(1,⟨layC s,false⟩)],[],[],false⟩) (fun k=>s.traces.length-k) 0 (Ad (.k rfl (.k rfl (.cons rfl (VLe.i (by simp)) (.k rfl .nil)))) (.k rfl .nil) .nil rfl rfl) ⟨⟨by omega,by simp⟩,rfl⟩ ?_;rintro k st ⟨⟨hk,hallT⟩,rfl⟩;refine TsR rfl (By rfl (fun h2=>?_) (fun h2=>?_))
 ·have h2:k<s.traces.length:=by simpa using h2
  refine Bg (A2 (A4 (A2 (Ae (Az 1 rfl (by simp;omega) ?_)))));rw [Aj h2];refine Sfn rfl ?_;have hw1:IntKind.wrap .i64 (((s.nodes.map eF).length:Int)-1)=(s.nodes.length:Int)-1:=by rw [List.length_map,w64 (by omega) (by omega)]
  refine TsC rfl (A3 rfl rfl (Fh s.traces[k].1 0 (IntKind.wrap .i64 (((s.nodes.map eF).length:Int)-1))) (Srn rfl ?_));refine Ao rfl rfl rfl rfl (by simp) (fun _=>Fh s.traces[k].2 0 (IntKind.wrap .i64 (((s.nodes.map eF).length:Int)-1))) (Sfn rfl ?_);rw [hw1];have hT:Jm s.nodes.length s.traces[k]=(btw s.traces[k].1 0 ((s.nodes.length:Int)-1)&&btw s.traces[k].2 0 ((s.nodes.length:Int)-1)&&!(s.traces[k].1==s.traces[k].2)):=rfl;refine An rfl rfl (fun h3=>?_) (fun h3=>A5 (TrR rfl ?_))
  ·refine TsR rfl (A8 rfl rfl rfl ?_ trivial);have hf:Jm s.nodes.length s.traces[k]=false:=by
    rw [hT];revert h3;cases btw s.traces[k].1 0 ((s.nodes.length:Int)-1)<;>cases btw s.traces[k].2 0 ((s.nodes.length:Int)-1)<;>cases (s.traces[k].1==s.traces[k].2)<;>first | (intro _;rfl) | (intro h;cases h)
   have:I3 s=false:=by
    unfold I3;rw [Mj (p:=Jm s.nodes.length) h2 hf];simp
   rw [this];rfl
  ·have hf:Jm s.nodes.length s.traces[k]=true:=by
    rw [hT];revert h3;cases btw s.traces[k].1 0 ((s.nodes.length:Int)-1)<;>cases btw s.traces[k].2 0 ((s.nodes.length:Int)-1)<;>cases (s.traces[k].1==s.traces[k].2)<;>first | (intro _;rfl) | (intro h;cases h)
   exact ⟨k+1,_,Ad (.k rfl (.k rfl (.k rfl (.cons rfl (VLe.i (w64 (by omega) (by omega))) .nil)))) (.k rfl .nil) .nil rfl rfl,⟨⟨h2,by rw [I5 h2,hallT,hf];rfl⟩,rfl⟩,by omega⟩
 have h2:k=s.traces.length:=by simp at h2;omega
 subst h2;rw [List.take_length] at hallT;refine Ak (TsR rfl (A8 rfl rfl rfl ?_ trivial));have:I3 s=true:=by
  unfold I3;rw [hall,hallT,decide_eq_true hnl.1,decide_eq_true hnl.2];rfl
 rw [this];rfl
end
section
open Go.Am
theorem A8t {E:Env} {s:St} {t:Nat} {v u:V} {ids:List Nat} (ht:get s.env t=some v) (hd:toDs s.fs.b [v]=some ([u],ids)):Wk E s ((s.eff {v:=Cz,wb:=Am.freeze s.fs.b ids}).put (some t) u):=by
 intro a w h R;obtain ⟨q1,q2,_⟩:=R.1.env t _ (by rw [fs_g];exact ht);obtain ⟨h1,R1,ext,b1,g1,y1,hrep⟩:=De R.1 hd;have rd:RepD w h1.φ u (a.tmps.getD t undef):=(hrep #[a.tmps.getD t undef] rfl (fun i v' x e1 e2=>by
  cases i with
  | zero=>simp at e1 e2;subst e1 e2;simpa using q2
  | succ i=>simp at e1)).2 0 u _ rfl rfl
 have R2:=R1.put (d:=t) q1 (.data rd) (Ap rd);rw [N0 (by rw [R.1.size];exact q1)] at R2;refine ⟨h1,⟨?_,by rw [y1];exact R.2⟩,y1⟩;have e:((s.eff {v:=Cz,wb:=Am.freeze s.fs.b ids}).put (some t) u).fs=(((Am.freeze s.fs.b ids).foldl (fun τ p=>τ.set (.bx p.1) (.b p.2)) s.fs)).set (.slot t) (.v u):=by
  rw [Dj,Gc];rfl
 have e2:∀(l:List (Nat×Box)) (s:St),(l.foldl (fun s p=>s.setB p.1 p.2) s).log=s.log∧(l.foldl (fun s p=>s.setB p.1 p.2) s).stp=s.stp:=by
  intro l
  induction l with
  | nil=>intro s;exact ⟨rfl,rfl⟩
  | cons p l ih=>intro s;exact ih _
 have e3:=e2 (Am.freeze s.fs.b ids) s;show Rel E.nt E.S _ _ _ a w h1;rw [e];have e4:((s.eff {v:=Cz,wb:=Am.freeze s.fs.b ids}).put (some t) u).log=s.log:=e3.1;have e5:((s.eff {v:=Cz,wb:=Am.freeze s.fs.b ids}).put (some t) u).stp=s.stp:=e3.2;rw [e4,e5];exact R2
theorem Ro {E:Env} {s s':St} {i:Ins} {r:List Ins} {K:St→Prop} (h:Wk E s s') (k:Am.Steps E (i::r) K s'):Am.Steps E (i::r) K s:=by
 refine Step1.raw fun slots ops o j ro n a w hh hc hs hi R Q next hn=>?_
 obtain ⟨h',R',hy⟩:=h a w hh R;exact O6 (k:Step1 E i (Am.Steps E r K) s') hc hs hi R' fun s'' a' w' h'' k R ey=>hn s'' a' w' h'' k R (ey.trans hy)
end
section
open Go.Am
attribute [local simp] cells Af mkv Aq B6 under dem dem1 eB Ed sB Ac eF layC
def ptsN (x:Int):Nat→Int→List (Int×Int)
 | 0,_=>[]
 | n+1,y=>(x,y)::ptsN x n (y+1)
def colP (r:Int×Int×Int):List (Int×Int):=ptsN r.1 (r.2.2+1-r.2.1).toNat r.2.1
def Df (f:Fr):List (Int×Int):=(Bo f).flatMap colP
def Ah5 (f:Fr) (x:Int):List (Int×Int):=ptsN x (Dd f x+1-lowY f x).toNat (lowY f x)
theorem A9a (x:Int):∀(n:Nat) (y:Int),(ptsN x n y).length=n
 | 0,_=>rfl
 | n+1,y=>by simp [ptsN,A9a x n]
theorem Yy (f:Fr) (n:Nat) (x:Int):(G0 f (n+1) x).flatMap colP=Ah5 f x++(G0 f n (x+1)).flatMap colP:=by
 simp only [G0];split
 ·rfl
 ·have:(Dd f x+1-lowY f x).toNat=0:=by omega
  unfold Ah5;rw [this];rfl
theorem Wq {f:Fr} (hm:midF f):((Df f).length:Int)=Hu f:=by
 have key:∀(l:List (Int×Int×Int)) (a:Int),(∀r∈l,r.2.1≤r.2.2)→a+((l.flatMap colP).length:Int)=(l.map rowM).foldl (·+·) a:=by
  intro l
  induction l with
  | nil=>intro a _;simp
  | cons r l ih =>
    intro a h;have h1:=h r (by simp);rw [List.map_cons,List.foldl_cons,←ih (a+rowM r) (fun r hr=>h r (by simp [hr])),List.flatMap_cons,List.length_append,colP,A9a];unfold rowM
    push_cast
    omega
 have:=key (Bo f) 0 (fun r hr=>(A0e hm _ _ r hr).2.1);unfold Df Hu;omega
theorem c_places {f:Fr} (h:Iq f=true):C Tryz.prog A5r [.agg (Ac f)] (.slice 0 2 ((Df f).map eB)):=by
 simp only [Iq,Bool.and_eq_true,Bu] at h;have hm:=Hs h.1;have hcl:=Wq hm;have hPl:(Df f).length≤64:=by omega
 obtain ⟨⟨⟨hx1,hx2⟩,hx3,hx4⟩,⟨⟨hy1,hy2⟩,hy3,hy4⟩,⟨⟨hs1,hs2⟩,hs3,hs4⟩,⟨hd1,hd2⟩,hd3,hd4⟩:=hm;refine C_of mixed A3i.2 (by simp) fun S ok=>?_;refine TsR rfl (TsR rfl (A2 (TsR rfl (A4 ?_))));refine Bc (α:=Nat×List (Int×Int)) (fun p s=>(p.1≤(f.x.2+1-f.x.1).toNat∧p.2++(G0 f ((f.x.2+1-f.x.1).toNat-p.1) (f.x.1+p.1)).flatMap colP=Df f) ∧
   s=⟨[(1,.ptr 1 0),(3,.slice 54 2 (p.2.map eB)),(4,I (f.x.1+p.1))],[(1,⟨Ac f,false⟩)],[(53,p.2.length,2,23)],[],false⟩) (fun p=>(f.x.2+1-f.x.1).toNat-p.1) (0,[])
  (Ad (.k rfl (.cons rfl (.nil 54 2) (.cons rfl (VLe.i (by simp)) .nil))) (.k rfl .nil) (.new rfl .nil) rfl rfl) ⟨⟨by simp,by simp [Df,Bo]⟩,rfl⟩ ?_
 rintro ⟨k,out⟩ s ⟨⟨hk,hl⟩,rfl⟩;simp only at hk hl;refine A2 (TsR rfl (An rfl rfl (fun h1=>A5 ?_) (fun h1=>Ak ?_)))
 ·have h1:f.x.1+(k:Int)≤f.x.2:=by simpa using h1
  obtain ⟨x,hx⟩:∃x,f.x.1+(k:Int)=x:=⟨_,rfl⟩;obtain ⟨n,hn⟩:∃n,(f.x.2+1-f.x.1).toNat-k=n+1:=⟨(f.x.2+1-f.x.1).toNat-k-1,by omega⟩;have hn2:(f.x.2+1-f.x.1).toNat-(k+1)=n:=by omega
  have hx':f.x.1+((k+1:Nat):Int)=x+1:=by omega
  rw [hn,hx,Yy] at hl;rw [hx] at h1;rw [hx];refine A2 (A4 (TsR rfl (A4 ?_)));obtain ⟨M,hM⟩:∃M,(Dd f x+1-lowY f x).toNat=M:=⟨_,rfl⟩;have hcol:Ah5 f x=ptsN x M (lowY f x):=by unfold Ah5;rw [hM]
  rw [hcol] at hl;have hlow:-1000000≤lowY f x∧Dd f x≤1000000:=by unfold lowY Dd;omega
  have hlow2:lowY f x≤3000000∧-3000000≤Dd f x:=by unfold lowY Dd;omega
  refine Bc (α:=Nat×List (Int×Int)) (fun p s=>(p.1≤M∧p.2++(ptsN x (M-p.1) (lowY f x+p.1)++(G0 f n (x+1)).flatMap colP)=Df f) ∧
    s=⟨[(1,.ptr 1 0),(3,.slice 54 2 (p.2.map eB)),(4,I (x)),(5,I (lowY f x+p.1))],[(1,⟨Ac f,false⟩)],[(53,p.2.length,2,23)],[],false⟩) (fun p=>M-p.1) (0,out)
   (Ad (.k rfl (.k rfl (.k rfl (.cons rfl (VLe.i ?_) .nil)))) (.k rfl .nil) (.cons rfl .nil) rfl rfl) ⟨⟨by simp,by simpa using hl⟩,rfl⟩ ?_
  ·simp (disch:=omega) only [cond_true,cond_false,Gp,It,w64];unfold lowY;omega
  rintro ⟨j,o2⟩ s ⟨⟨hj,hl2⟩,rfl⟩;simp only at hj hl2;have ho2:o2.length≤64:=by
   have:=congrArg List.length hl2;rw [List.length_append] at this;omega
  refine A2 (TsN 15 rfl ?_);refine Ro (s':=⟨[(1,.ptr 1 0),(3,.slice 54 2 (o2.map eB)),(4,I (x)),(5,I (lowY f x+j)),(30,I (lowY f x+j)),(44,I (Dd f x))],[(1,⟨Ac f,false⟩)],[(53,o2.length,2,23)],[],false⟩) (Ad (.k rfl (.k rfl (.k rfl (.k rfl (.k rfl (.cons rfl (VLe.i ?_) .nil)))))) (.k rfl .nil) (.cons rfl .nil) rfl rfl) ?_
  ·simp (disch:=omega) only [cond_true,cond_false,Gp,It,w64,Dd]
  refine Sfn rfl (An rfl rfl (fun h2=>A5 ?_) (fun h2=>Ak ?_))
  ·have h2:lowY f x+(j:Int)≤Dd f x:=by simpa using h2
   obtain ⟨q,hq⟩:∃q,M-j=q+1:=⟨M-j-1,by omega⟩;have hq2:M-(j+1)=q:=by omega
   have e1:lowY f x+((j+1:Nat):Int)=lowY f x+j+1:=by omega
   refine A2 (A4 (Ss rfl (by simp;omega) (TrR rfl ?_)));refine ⟨(j+1,o2++[(x,lowY f x+j)]),_,Ad (.k rfl (.cons rfl (.of_eq (by simp)) (.k rfl (.cons rfl (VLe.i ?_) .nil)))) (.k rfl .nil) (.cons ?_ .nil) rfl rfl,⟨⟨by simp only;omega,?_⟩,rfl⟩,by simp only;omega⟩
   ·show IntKind.wrap .i64 (lowY f x+(j:Int)+1)=_;rw [w64 (by omega) (by omega)];simp only;omega
   ·show some _=some _;simp
   ·simp only;rw [hq2,e1,←hl2,hq];simp [ptsN]
  ·have h2:¬lowY f x+(j:Int)≤Dd f x:=by simpa using h2
   rw [show M-j=0 by omega] at hl2;refine TrR rfl ?_;refine ⟨(k+1,o2),_,Ad (.k rfl (.k rfl (.cons rfl (VLe.i ?_) .nil))) (.k rfl .nil) (.cons rfl .nil) rfl rfl,⟨⟨by simp only;omega,?_⟩,rfl⟩,by simp only;omega⟩
   ·show IntKind.wrap .i64 (x+1)=f.x.1+((k+1:Nat):Int);rw [w64 (by omega) (by omega)];omega
   ·simp only;rw [hn2,hx'];simpa [ptsN] using hl2
 ·have h1:¬f.x.1+(k:Int)≤f.x.2:=by simpa using h1
  rw [show (f.x.2+1-f.x.1).toNat-k=0 by omega] at hl;have e:out=Df f:=by simpa [G0] using hl
  refine TsR rfl (A8 rfl rfl rfl ?_ trivial);rw [←e];rfl
end
section
open Go.Am
attribute [local simp] cells Af mkv Aq B6 under dem dem1 eB Ed sB Ac eF layC
def D1 (l m:List (Int×Int)):List ((Int×Int)×(Int×Int)):=l.flatMap fun a=>m.map fun b=>(a,b)
def eP2 (p:(Int×Int)×(Int×Int)):List V:=[eB p.1,eB p.2]
theorem Abq {l m:List (Int×Int)} {k:Nat} (h:k<l.length):D1 (l.drop k) m=(m.map fun b=>(l[k],b))++D1 (l.drop (k+1)) m:=by
 rw [List.drop_eq_getElem_cons h];rfl
theorem c_pairs (l m:List (Int×Int)):C Tryz.prog A8p [sB l,sB m] (.func (.func Lh) [] [.vptr [sB l] 0,.vptr [sB m] 0]):=by
 refine C_of mixed A6u.2 (by simp) fun S ok=>?_;exact TsR rfl (TsR rfl (Bs rfl rfl rfl trivial))
theorem i_pairs {l m:List (Int×Int)} (hl:l.length≤1000000) (hm:m.length≤1000000):Iter Tryz.prog Lh [.vptr [sB l] 0,.vptr [sB m] 0] ((D1 l m).map eP2):=by
 refine Lb mixed A0z.2 (by simp) fun S ok=>?_;refine TsR rfl (A4 ?_);refine Bc (α:=Nat×List (List V)) (fun p s=>(p.1≤l.length∧p.2++(D1 (l.drop p.1) m).map eP2=(D1 l m).map eP2) ∧
   s=⟨[(0,.yld),(1,.vptr [sB l] 0),(2,.vptr [sB m] 0),(8,sB l),(9,I (l.length:Nat)),(10,I (p.1:Nat))],[],[],p.2,false⟩) (fun p=>l.length-p.1) (0,[])
  (Ad (.k rfl (.k rfl (.k rfl (.k rfl (.cons rfl (VLe.i (by simp)) (.k rfl .nil)))))) .nil .nil rfl rfl) ⟨⟨by simp,by simp⟩,rfl⟩ ?_
 rintro ⟨k,lg⟩ s ⟨⟨hk,hf⟩,rfl⟩;simp only at hk hf;refine TsR rfl (By rfl (fun h1=>?_) (fun h1=>?_))
 ·have h1:k<l.length:=by simpa using h1
  rw [Abq h1,List.map_append,←List.append_assoc] at hf;have hf':lg++((m.drop 0).map fun b=>eP2 (l[k],b))++(D1 (l.drop (k+1)) m).map eP2=(D1 l m).map eP2:=by
   rw [List.map_map] at hf;rw [List.drop_zero];exact hf
  refine Bg (A2 (A4 (A2 (Ae (Az 1 rfl (by simp;omega) ?_)))));rw [Aj h1];refine Sfn rfl ?_;refine TsR rfl (A4 ?_);refine Bc (α:=Nat×List (List V)) (fun p s=>(p.1≤m.length∧p.2++((m.drop p.1).map fun b=>eP2 (l[k],b))++(D1 (l.drop (k+1)) m).map eP2=(D1 l m).map eP2) ∧
    s=⟨[(0,.yld),(1,.vptr [sB l] 0),(2,.vptr [sB m] 0),(8,sB l),(9,I (l.length:Nat)),(10,I (k:Nat)),(5,.ptr 5 0),(14,sB m),(15,I (m.length:Nat)),(16,I (p.1:Nat))],[(5,⟨[I l[k].1,I l[k].2],false⟩)],[],p.2,false⟩) (fun p=>m.length-p.1) (0,lg)
   (Ad (.k rfl (.k rfl (.k rfl (.k rfl (.k rfl (.k rfl (.k rfl (.k rfl (.cons rfl (VLe.i (by show ((m.map eB).length:Int)=(m.length:Int);rw [List.length_map])) (.k rfl .nil)))))))))) (.k rfl .nil) .nil rfl rfl) ⟨⟨Nat.zero_le _,hf'⟩,rfl⟩ ?_
  rintro ⟨j,lg2⟩ s ⟨⟨hj,hf2⟩,rfl⟩;simp only at hj hf2;refine TsR rfl (By rfl (fun h2=>?_) (fun h2=>?_))
  ·have h2:j<m.length:=by simpa using h2
   have hp:lg2++[eP2 (l[k],m[j])]++((m.drop (j+1)).map fun b=>eP2 (l[k],b))++(D1 (l.drop (k+1)) m).map eP2=(D1 l m).map eP2:=by
    rw [←hf2,List.drop_eq_getElem_cons h2,List.map_cons];simp only [List.append_assoc,List.cons_append,List.nil_append]
   refine Bg (A2 (A4 (A2 (Ae (Az 1 rfl (by simp;omega) ?_)))));rw [Aj h2];refine Sfn rfl ?_;refine TsC rfl (H8 rfl (by simp) rfl ⟨_,by rw [List.append_assoc] at hp;exact hp⟩ rfl (fun b=>Sfn rfl ?_));cases b with
   | false=>exact A9 rfl (Ea ⟨.inl rfl,[],[],[],rfl,rfl,rfl⟩)
   | true =>
     refine A7 rfl (A5 (TrR rfl ?_));exact ⟨(j+1,lg2++[eP2 (l[k],m[j])]),_,Ad (.k rfl (.k rfl (.k rfl (.k rfl (.k rfl (.k rfl (.k rfl (.k rfl (.k rfl (.cons rfl (VLe.i (w64 (by omega) (by omega))) .nil)))))))))) (.k rfl .nil) .nil rfl rfl,⟨⟨by simp only;omega,hp⟩,rfl⟩,by simp only;omega⟩
  ·have h2:j=m.length:=by simp at h2;omega
   subst h2;rw [List.drop_length] at hf2;refine Ak (TrR rfl ?_);exact ⟨(k+1,lg2),_,Ad (.k rfl (.k rfl (.k rfl (.k rfl (.k rfl (.cons rfl (VLe.i (w64 (by omega) (by omega))) .nil)))))) .nil .nil rfl rfl,⟨⟨by simp only;omega,by simpa using hf2⟩,rfl⟩,by simp only;omega⟩
 ·have h1:k=l.length:=by simp at h1;omega
  subst h1;rw [List.drop_length] at hf;refine Ak ⟨.inr ?_,[],[],[],rfl,rfl,rfl⟩;have e:lg=(D1 l m).map eP2:=by simpa [D1] using hf
  exact e
structure Ld where
 g:Gd
 traces:List (Int×Int)
 places:List (List (Int×Int))
def Fg (l:Ld):List V:=Ed l.g++[sB l.traces,.slice 0 1 (l.places.map sB)]
def layD (g:Gd) (s:Ly):Ld:=⟨g,s.traces,s.nodes.map Df⟩
theorem Sh {s:Ly} (h:I3 s=true):(s.nodes.length≤16∧s.traces.length≤64)∧(∀f∈s.nodes,Iq f=true)∧∀t∈s.traces,Jm s.nodes.length t=true:=by
 simp only [I3,Bool.and_eq_true,decide_eq_true_eq,List.all_eq_true] at h;exact ⟨h.1.1,h.1.2,h.2⟩
theorem c_lay (g:Gd) {s:Ly} (h:I3 s=true):C Tryz.prog Aic [.agg (Ed g),.agg (layC s)] (.agg (Fg (layD g s))):=by
 obtain ⟨⟨hn,ht⟩,hN,hT⟩:=Sh h;refine C_of mixed Aes.2 (by simp) fun S ok=>?_;refine TsR rfl (TsR rfl (A2 (TsR rfl (A4 ?_))));refine Bc (fun (k:Nat) st=>k≤s.nodes.length∧st=⟨[(4,.ptr 4 0),(5,.ptr 5 0),(13,.slice 0 8 (s.nodes.map eF)),(14,I (s.nodes.length:Nat)),(15,I (k:Nat))],[(4,⟨[I 0,I 0,I 0,I 0,I 0,.nils,.nils,.nils],false⟩),(5,⟨Ed g++[sB s.traces,.slice 25 1 (((s.nodes.take k).map Df).map sB)],false⟩)],[(24,k,1,51)],[],false⟩) (fun k=>s.nodes.length-k) 0 (Ad (.k rfl (.k rfl (.k rfl (.cons rfl (VLe.i (by simp)) (.k rfl .nil))))) (.k rfl (.cons rfl (.cons (.refl _) (.cons (.refl _) (.cons (.refl _) (.cons (.refl _) (.cons (.refl _) (.cons (.refl _) (.cons (.refl _) (.cons (.nil 25 1) .nil)))))))) .nil)) (.new rfl .nil) rfl rfl) ⟨by omega,rfl⟩ ?_;rintro k st ⟨hk,rfl⟩;refine TsR rfl (By rfl (fun h1=>?_) (fun h1=>?_))
 ·have h1:k<s.nodes.length:=by simpa using h1
  have hlen:(((s.nodes.take k).map Df).map sB).length=k:=by simp;omega
  refine Bg (A2 (A4 (A2 (Ae (Az 1 rfl (by simp;omega) ?_)))));rw [Aj h1];refine Sfn rfl ?_;refine Ab (Krn rfl (A6 rfl rfl (c_places (hN _ (List.getElem_mem h1))) ?_));refine Bm rfl (by simp;omega) (.done (KrT ?_));refine TrR rfl ?_;have e:((s.nodes.take (k+1)).map Df).map sB=((s.nodes.take k).map Df).map sB++[sB (Df s.nodes[k])]:=by
   rw [List.take_add_one,List.getElem?_eq_getElem h1,List.map_append,List.map_append];rfl
  refine ⟨k+1,_,Ad (.k rfl (.k rfl (.k rfl (.k rfl (.cons rfl (VLe.i (w64 (by omega) (by omega))) .nil))))) (.k rfl (.cons rfl (.cons (.refl _) (.cons (.refl _) (.cons (.refl _) (.cons (.refl _) (.cons (.refl _) (.cons (.refl _) (.cons (.refl _) (.cons (.of_eq ?_) .nil)))))))) .nil)) (.cons ?_ .nil) rfl rfl,⟨h1,rfl⟩,by omega⟩
  ·rw [e];rfl
  ·show some _=some _;simp;omega
 ·have h1:k=s.nodes.length:=by simp at h1;omega
  subst h1;rw [List.take_length];exact Ak (TsR rfl (A8 rfl rfl rfl rfl trivial))
theorem c_begun {g:Gd} {s:Ly} (hl:g.cls.length≤9223372036854775807) (hn:s.nodes.length≤9223372036854775807) (ht:s.traces.length≤9223372036854775807):C Tryz.prog A8r [.agg (Ed g),.agg (layC s)]
  (if El g then (if I3 s then .tuple [.agg (Fg (layD g s)),I 0] else .tuple [.agg [I 0,I 0,I 0,I 0,I 0,.nils,.nils,.nils],I 71]) else .tuple [.agg [I 0,I 0,I 0,I 0,I 0,.nils,.nils,.nils],I 70]):=by
 have kg:=Oz (g:=g) hl;have ks:=A1v (s:=s) hn ht;refine C_of mixed A6w.2 (by simp) fun S ok=>?_;refine TsR rfl ?_;by_cases hg:El g=true;rotate_left
 ·rw [if_neg hg] at kg ⊢;refine A2 (TsC rfl (A3 rfl rfl kg (Sfn rfl (TsR rfl (A9 rfl ?_)))));exact TsR rfl (A8 rfl rfl rfl rfl trivial)
 rw [if_pos hg] at kg ⊢;refine A2 (TsC rfl (A3 rfl rfl kg (Sfn rfl (TsR rfl (A7 rfl (A5 ?_))))));by_cases hs:I3 s=true;rotate_left
 ·rw [if_neg hs] at ks ⊢;refine A2 (TsC rfl (A3 rfl rfl ks (Sfn rfl (TsR rfl (A9 rfl ?_)))));exact TsR rfl (A8 rfl rfl rfl rfl trivial)
 rw [if_pos hs] at ks ⊢;refine A2 (TsC rfl (A3 rfl rfl ks (Sfn rfl (TsR rfl (A7 rfl (A5 ?_))))));exact TsC rfl (A3 rfl rfl (c_lay g hs) (Al rfl (by simp [Fg]) (A8 rfl rfl rfl rfl trivial)))
end
end Go.Proofs.YtabedohjkillfaaGreatDoor
namespace Go.Am
section
open Go.RowKit
inductive Ob where
 | cells (cs:List V)
 | raw (o:Obj)
 | mapd (ks:List (Int×Int)) (vs:List V)
def Ub:Nat×Ob→V
 | (b,.cells cs)=>.agg (.rptr b 0::cs)
 | (b,.raw o)=>.tuple [.rptr b 0,.obj o]
 | (b,.mapd ks vs)=>.tuple [.rptr b 0,.mpd ks vs]
theorem Agf:∀{p q:Nat×Ob},Ub p=Ub q→p=q
 | (b,.cells cs),(c,.cells ds),h=>by simp [Ub] at h;simp [h]
 | (b,.raw o),(c,.raw u),h=>by simp [Ub] at h;simp [h]
 | (b,.cells cs),(c,.raw u),h=>by simp [Ub] at h
 | (b,.raw o),(c,.cells ds),h=>by simp [Ub] at h
 | (b,.mapd ks vs),(c,.mapd ks' vs'),h=>by simp [Ub] at h;simp [h]
 | (b,.mapd ks vs),(c,.cells ds),h=>by simp [Ub] at h
 | (b,.mapd ks vs),(c,.raw o),h=>by simp [Ub] at h
 | (b,.cells cs),(c,.mapd ks vs),h=>by simp [Ub] at h
 | (b,.raw o),(c,.mapd ks vs),h=>by simp [Ub] at h
abbrev Arena:=List (Nat×Ob)
def encA (A:Arena):List (List V):=[A.map Ub]
theorem D3 {A B:Arena} (h:encA A=encA B):A=B:=by
 simp only [encA,List.cons.injEq,and_true] at h;revert B
 induction A with
 | nil=>intro B h;cases B with
   | nil=>rfl
   | cons=>simp at h
 | cons p A ih=>intro B h;cases B with
   | nil=>simp at h
   | cons q B =>
     simp only [List.map_cons,List.cons.injEq] at h;rw [Agf h.1,ih h.2]
def ObOk (w:World) (φ:Nat→Nat) (b:Nat):Ob→Prop
 | .cells cs=>∃vs e,w.heap[b]?=some (.cells vs e (0,0))∧cs.length≤vs.size∧∀(j:Nat) v x,cs[j]?=some v→vs[j]?=some x→RepD w φ v x∧Af v=true
 | .raw o=>w.heap[b]?=some o
 | .mapd ks vs=>∃xs:List Value,vs.length=ks.length∧xs.length=ks.length∧w.heap[b]?=some (.map (mesD 0 ks xs).toArray ks.length)∧∀(i:Nat) v x,vs[i]?=some v→xs[i]?=some x→RepD w φ v x
theorem ObOk.mono {w w':World} {φ φ':Nat→Nat} {b:Nat} {o:Ob} (h:ObOk w φ b o) (hb:w'.heap[b]?=w.heap[b]?) (e:Ext w φ w' φ'):ObOk w' φ' b o:=by
 cases o with
 | cells cs =>
   obtain ⟨vs,et,h1,h2,h3⟩:=h;exact ⟨vs,et,hb.trans h1,h2,fun j v x hv hx=>⟨(h3 j v x hv hx).1.mono e,(h3 j v x hv hx).2⟩⟩
 | raw o=>exact hb.trans h
 | mapd ks vs =>
   obtain ⟨xs,h1,h2,h3,h4⟩:=h;exact ⟨xs,h1,h2,hb.trans h3,fun i v x hv hx=>(h4 i v x hv hx).mono e⟩
structure Ar (w:World) (φ:Nat→Nat) (M:Nat→Prop) (A:Arena):Prop where
 nd:(A.map (·.1)).Nodup
 ok:∀p∈A,ObOk w φ p.1 p.2
 fr:∀p∈A,¬M p.1
 lt:∀p∈A,p.1<w.heap.size
 z:∀p∈A,φ p.1=0
def SA (S0:Sur) (l0:List (List V)) (s0:Bool):Sur:=fun log stp M w φ =>
 ∃A,log=encA A∧stp=s0∧Ar w φ M A∧S0 l0 s0 (fun b=>M b∨b∈A.map (·.1)) w φ
theorem Ke {S0:Sur} (h0:S0.ok) (l0:List (List V)) (s0:Bool):(SA S0 l0 s0).ok:=by
 refine ⟨?_,fun _ _ _ _ _ ⟨_,_,_,_,h4⟩=>h0.gl _ _ _ _ _ h4⟩;intro log s M w φ M' w' φ' ⟨A,h1,h2,h3,h4⟩ mv;have old:∀p∈A,w'.heap[p.1]?=w.heap[p.1]?∧φ' p.1=φ p.1:=fun p hp=>mv.old _ (h3.lt p hp) (h3.fr p hp);refine ⟨A,h1,h2,⟨h3.nd,fun p hp=>(h3.ok p hp).mono (old p hp).1 mv.ext,fun p hp hM=>?_,fun p hp=>Nat.lt_of_lt_of_le (h3.lt p hp) mv.size,fun p hp=>(old p hp).2.trans (h3.z p hp)⟩,h0 _ _ _ _ _ _ _ _ h4 ⟨mv.ext,fun b hb hn=>mv.old b hb fun hM=>hn (.inl hM),mv.size,mv.os,mv.tape,mv.output,fun b hb=>?_,mv.top⟩⟩
 ·rcases mv.mine _ hM with h | h
  ·exact h3.fr p hp h
  ·have:=h3.lt p hp;omega
 ·rcases hb with hb | hb
  ·exact (mv.mine b hb).imp .inl id
  ·exact .inl (.inr hb)
theorem Rel.grow {nt:Nat} {S S':Sur} {log log':List (List V)} {stp stp':Bool} {σ:FSt} {a:Act} {w:World} {h:Gh} (R:Rel nt S log stp σ a w h) (M':Nat→Prop) (hM:∀b,h.M b→M' b) (hlt:∀b,M' b→b<w.heap.size) (sur:S' log' stp' M' w h.φ):Rel nt S' log' stp' σ a w {h with M:=M'} where
 size:=R.size
 env:=fun t v hv=>R.env t v hv
 bx:=fun i bo hb=>by
  obtain ⟨blk,cs,e,h1,h2,h3,h4,h5,h6⟩:=R.bx i bo hb;exact ⟨blk,cs,e,h1,hM _ h2,h3,h4,h5,h6⟩
 dom:=R.dom
 inj:=R.inj
 rows:=fun r n sz et hr=>by
  rcases R.rows r n sz et hr with ⟨e,e'⟩ | ⟨b,cs,hb',hMb,hh,hp,hn⟩
  ·exact .inl ⟨e,e'⟩
  ·exact .inr ⟨b,cs,hb',hM _ hMb,hh,hp,hn⟩
 rdom:=R.rdom
 rinj:=R.rinj
 apart:=R.apart
 pins:=R.pins
 mine:=hlt
 top:=R.top
 marks:=R.marks.congr fun r hMr hh=>⟨hM _ hMr,hh⟩
 sur:=sur
abbrev Env.withA (E:Env) (l0:List (List V)) (s0:Bool):Env:={E with S:=SA E.S l0 s0,ys:=noYs,ok:=Ke E.ok l0 s0,lk:=fun _=>True}
theorem Qr {E:Env} {ro:Option Nat} {ic:IC} {Q:Exit→St→Prop} {s:St} (hys:E.ys=noYs) (hlk:E.lk=fun _=>True)
  (h:Tr (E.withA s.log s.stp) ro ic (fun e t=>Q e {t with log:=s.log,stp:=s.stp}) {s with log:=encA []}):Tr E ro ic Q s:=fun c hc n a w g R Q' hq=>by
 have R1:(E.withA s.log s.stp).rel {s with log:=encA []} a w g:=by
  refine ⟨?_,?_⟩
  ·have e:(fun b=>g.M b∨b∈(([]:Arena).map (·.1)))=g.M:=by funext b;simp
   exact {R.1 with sur:=⟨[],rfl,rfl,⟨by simp,by simp,by simp,by simp,by simp⟩,by rw [e];exact R.1.sur⟩}
  ·refine ⟨fun l hl=>⟨?_,trivial⟩,R.2.2⟩;intro log x M w φ xs hp;exact False.elim hp
 refine h c hc n a w g R1 Q' fun e t a' w' h' hQ R' hy=>?_;obtain ⟨A,h1,h2,h3,h4⟩:=R'.1.sur;refine hq e _ a' w' {h' with M:=fun b=>h'.M b∨b∈A.map (·.1)} hQ ⟨?_,?_⟩ hy
 ·exact R'.1.grow _ (fun b hb=>.inl hb) (fun b hb=>by
   rcases hb with hb | hb
   ·exact R'.1.mine b hb
   ·obtain ⟨p,hp,rfl⟩:=List.mem_map.1 hb;exact h3.lt p hp) h4
 ·refine ⟨fun l hl=>⟨?_,by rw [hlk];trivial⟩,R'.2.2⟩;intro log x M w φ xs hp;rw [hys] at hp;exact False.elim hp
structure InA (E:Env) (S0:Sur) (l0:List (List V)) (s0:Bool):Prop where
 sub:Sub E.S (SA S0 l0 s0)
 ok:S0.ok
theorem Qw {E:Env} (l0:List (List V)) (s0:Bool):InA (E.withA l0 s0) E.S l0 s0:=⟨Sub.refl _,E.ok⟩
section
variable {E:Env} {S0:Sur} {l0:List (List V)} {s0:Bool} {A:Arena} {stp:Bool} {σ:FSt} {a:Act} {w:World} {h:Gh}
theorem InA.ar (hE:InA E S0 l0 s0) (R:E.relF (encA A) stp σ a w h):Ar w h.φ h.M A:=by
 obtain ⟨M1,hM1,hlt,⟨A0,e,hs,hA,hS⟩,back⟩:=hE.sub _ _ _ _ _ R.1.sur R.1.mine;obtain rfl:=D3 e;exact ⟨hA.nd,hA.ok,fun p hp hM=>hA.fr p hp (hM1 _ hM),hA.lt,hA.z⟩
theorem InA.step (hE:InA E S0 l0 s0) (R:E.relF (encA A) stp σ a w h) {w':World} {B:Arena} (hold:∀b,b<w.heap.size→b∉A.map (·.1)→w'.heap[b]?=w.heap[b]?) (hsz:w.heap.size≤w'.heap.size) (hos:w'.os=w.os) (htp:w'.tape=w.tape) (hou:w'.output=w.output)
  (hnew:∀p∈B,p.1∈A.map (·.1)∨w.heap.size≤p.1) (hkeep:∀p∈A,p.1∈B.map (·.1)) (hnd:(B.map (·.1)).Nodup) (hok:Ext w h.φ w' h.φ→∀p∈B,ObOk w' h.φ p.1 p.2) (hlt:∀p∈B,p.1<w'.heap.size):E.relF (encA B) stp σ a w' h:=by
 obtain ⟨M1,hM1,hlt1,⟨A0,e,hs,hA,hS⟩,back⟩:=hE.sub _ _ _ _ _ R.1.sur R.1.mine;obtain rfl:=D3 e;have notA:∀b o,o<h.φ b→b<w.heap.size∧b∉A.map (·.1):=fun b o ho=>by
  refine ⟨?_,fun hb=>?_⟩
  ·rcases Nat.lt_or_ge b w.heap.size with h1 | h1
   ·exact h1
   ·rw [R.1.top b h1] at ho;omega
  ·obtain ⟨p,hp,rfl⟩:=List.mem_map.1 hb;rw [hA.z p hp] at ho;omega
 have ext:Ext w h.φ w' h.φ:=fun b o ho=>by
  obtain ⟨h1,h2⟩:=notA b o ho;exact ⟨ho,World.cell?_of_block (hold b h1 h2),Bn (hold b h1 h2)⟩
 have top':∀b,w'.heap.size≤b→h.φ b=0:=fun b hb=>R.1.top b (by omega);have own:∀b,M1 b→w'.heap[b]?=w.heap[b]?∧h.φ b=h.φ b:=fun b hb=>⟨hold b (hlt1 b hb) fun hm=>by
  obtain ⟨p,hp,rfl⟩:=List.mem_map.1 hm;exact hA.fr p hp hb,rfl⟩
 have sa:SA S0 l0 s0 (encA B) stp M1 w' h.φ:=by
  refine ⟨B,rfl,hs,⟨hnd,hok ext,fun p hp hM=>?_,hlt,fun p hp=>?_⟩,hE.ok _ _ _ _ _ _ _ _ hS ⟨ext,fun b hb hn=>⟨hold b hb fun hm=>hn (.inr hm),rfl⟩,hsz,hos,htp,hou,fun b hb=>?_,top'⟩⟩
  ·rcases hnew p hp with h1 | h1
   ·obtain ⟨q,hq,e⟩:=List.mem_map.1 h1;exact hA.fr q hq (e▸hM)
   ·have:=hlt1 _ hM;omega
  ·rcases hnew p hp with h1 | h1
   ·obtain ⟨q,hq,e⟩:=List.mem_map.1 h1;rw [←e];exact hA.z q hq
   ·exact R.1.top _ h1
  ·rcases hb with hb | hb
   ·exact .inl (.inl hb)
   ·obtain ⟨p,hp,rfl⟩:=List.mem_map.1 hb;exact (hnew p hp).imp .inr id
 have sur':=back (encA B) stp w' h.φ sa ext own hsz top' hos htp hou;exact ⟨If R.1 ext (fun b hb=>own b (hM1 b hb)) hsz top' sur',R.2⟩
end
def setA (A:Arena) (b:Nat) (o:Ob):Arena:=A.map fun p=>if p.1=b then (b,o) else p
theorem C4 (A:Arena) (b:Nat) (o:Ob):(setA A b o).map (·.1)=A.map (·.1):=by
 unfold setA;rw [List.map_map];congr 1;funext p;simp only [Function.comp];split
 ·rename_i h;exact h.symm
 ·rfl
theorem Mz {A:Arena} {b:Nat} {o:Ob} {p:Nat×Ob} (h:p∈setA A b o):(p.1=b∧p.2=o)∨(p.1≠b∧p∈A):=by
 obtain ⟨q,hq,e⟩:=List.mem_map.1 h;split at e
 ·subst e;exact .inl ⟨rfl,rfl⟩
 ·subst e;rename_i h1;exact .inr ⟨h1,hq⟩
section
variable {E:Env} {S0:Sur} {l0:List (List V)} {s0:Bool} {A:Arena}
theorem Afc {P:Program} {o:Oper} {os:List Operand} (hk:opK P o.op=some (.load 1 false,os)):∃t p d,o.op=.load t p∧szOf P t=some 1∧P.underlying t=some d∧aggB P t=false∧os=[p]:=by
 replace hk:=Dw hk (by simp [Dv]);cases ho:o.op<;>rw [ho] at hk<;>simp only [opK0] at hk<;>(try (cases hk;done))<;>(try (repeat' (split at hk<;>(try (cases hk;done)))))
 all_goals first
  | (simp only [Option.map_eq_some_iff,Prod.mk.injEq] at hk;obtain ⟨_,_,h1,_⟩:=hk;cases h1;done)
  | (simp only [E7] at hk;repeat' (split at hk<;>(try (cases hk;done))))
  | (rename_i h1 h2 h3 h4;subst h4;cases hk;exact ⟨_,_,_,rfl,by assumption,by assumption,Bool.eq_false_iff.2 h3,rfl⟩)
theorem K7 {P:Program} {o:Oper} {os:List Operand} {n:Nat} (hk:opK P o.op=some (.store n,os)):∃t p q,o.op=.store t p q∧szOf P t=some n∧os=[p,q]:=by
 replace hk:=Dw hk (by simp [Dv]);cases ho:o.op<;>rw [ho] at hk<;>simp only [opK0] at hk<;>(try (cases hk;done))<;>(try (repeat' (split at hk<;>(try (cases hk;done)))))
 all_goals first
  | (simp only [Option.map_eq_some_iff,Prod.mk.injEq,K.store.injEq] at hk;obtain ⟨m,hm,rfl,rfl⟩:=hk;exact ⟨_,_,_,rfl,hm,rfl⟩)
  | (simp only [Option.map_eq_some_iff,Prod.mk.injEq] at hk;obtain ⟨_,_,h1,_⟩:=hk;cases h1;done)
  | (simp only [E7] at hk;repeat' (split at hk<;>(try (cases hk;done))))
theorem F5 {σ:FSt} {h:Gh} {w:World} {blk off:Nat} {x:Value} (o:Ok σ h w (.rptr blk off) x):x=.pointer (some ⟨blk,off,none⟩):=by
 obtain ⟨r,_⟩:=o;cases r with
 | data r=>cases r;rfl
theorem Kt {σ:FSt} {h:Gh} {w:World} {blk off len cap:Nat} {x:Value} (o:Ok σ h w (.sref blk off len cap) x):x=.slice (some ⟨blk,off,none⟩) len cap:=by
 obtain ⟨r,_⟩:=o;cases r with
 | data r=>cases r;rfl
theorem Au {slots:List (Option Nat)} {P:Program} {nt:Nat} {o:Oper} {ins:Ins} {os:List Operand} (cc:Comp P nt slots o ins os) (hg:ins.g=none):o.guard=none:=by
 rcases cc.guard with ⟨_,e⟩ | ⟨j,want,t,_,_,e⟩
 ·exact e
 ·rw [hg] at e;cases e
theorem Bz (hE:InA E S0 l0 s0) {K:St→Prop} {s:St} {d:Nat} {x:X} {rest:List Ins} {blk off:Nat} {cs:List V} {v:V} (hx:evXs s.env [x]=some [.rptr blk off]) (hl:s.log=encA A) (hA:(blk,.cells cs)∈A) (hv:cs[off]?=some v)
  (hk:Steps E rest K (s.put (some d) v)):Steps E (⟨some d,.load 1 false,[x],none⟩::rest) K s:=by
 refine Step1.raw fun slots ops o i ro n a w h hc hs hi R Q next hn=>?_
 obtain ⟨os,cc⟩:=Ba hc;have hgo:=Au cc rfl;have hdf:=At cc.op;obtain ⟨t,p,dd,e1,e2,e3,e4,rfl⟩:=Afc cc.op;obtain ⟨u,hu,o1⟩:=(B9 R.1 cc.xs (Ay hx)).one;simp only [List.cons.injEq,and_true] at hu;subst hu;have ep:=F5 o1;have R':E.relF (encA A) s.stp s.fs a w h:=by rw [←hl];exact R
 obtain ⟨vs,et,h1,h2,h3⟩:=(hE.ar R').ok _ hA;have hlt:off<vs.size:=by have:=(List.getElem?_eq_some_iff.1 hv).1;omega
 obtain ⟨r,sc⟩:=h3 off v _ hv (Array.getElem?_eq_getElem hlt);have hcell:w.cell? ⟨blk,off,none⟩=some vs[off]:=by rw [cell_of_row w blk off vs et (0,0) h1];simp [hlt]
 have hex:(execOp a.eval o).run E.P w=.ok (.value vs[off]) w:=by
  simp only [execOp,e1,ep,Sem.run_bind];rw [Gb (cs:=[vs[off]]) e2 e3 rfl (fun j v hv=>by
   cases j with
   | zero=>cases hv;exact hcell
   | succ j=>cases hv) (by rw [e4];rfl)]
  rfl
 refine B5 hi (Ai hgo) hdf (.inl hex) (hn _ _ _ h hk ?_ rfl);have ok:Ok s.fs h w v vs[off]:=⟨.data r,Ap r⟩;show E.relF _ _ _ _ _ _;rw [(Bq _ _ _).1,(Bq _ _ _).2,Dj];exact Bk (eff:={v:=_}) cc R R.1 ok rfl
theorem Bx (hE:InA E S0 l0 s0) {K:St→Prop} {s:St} {x y:X} {rest:List Ins} {blk off:Nat} {cs:List V} {v:V} (hx:evXs s.env [x,y]=some [.rptr blk off,v]) (hl:s.log=encA A) (hA:(blk,.cells cs)∈A) (hoff:off<cs.length) (hv:isD v=true) (hsc:Af v=true)
  (hk:Steps E rest K {s with log:=encA (setA A blk (.cells (cs.set off v)))}):Steps E (⟨none,.store 1,[x,y],none⟩::rest) K s:=by
 refine Step1.raw fun slots ops o i ro n a w h hc hs hi R Q next hn=>?_
 obtain ⟨os,cc⟩:=Ba hc;have hgo:=Au cc rfl;have hdf:=At cc.op;obtain ⟨t,p,q,e1,e2,rfl⟩:=K7 cc.op;obtain ⟨u,u',hu,o1,o2⟩:=(B9 R.1 cc.xs (Ay hx)).two;simp only [List.cons.injEq,and_true] at hu;obtain ⟨hu1,rfl⟩:=hu;subst hu1;have ep:=F5 o1;have R':E.relF (encA A) s.stp s.fs a w h:=by rw [←hl];exact R
 have hAr:=hE.ar R';obtain ⟨vs,et,h1,h2,h3⟩:=hAr.ok _ hA;have rv:RepD w h.φ v (a.eval q):=Lz hv o2.1;have hc1:(a.eval q).cells=#[a.eval q]:=(Cr o2.1 hsc).2;have hone:∀z∈[a.eval q],z.oneCell'=true:=fun z hz=>by
  obtain rfl:z=a.eval q:=by simpa using hz
  exact (Cr o2.1 hsc).1
 have hrun:=run_storeCells_at E.P blk off et [a.eval q] 0 vs w h1 (by simp;omega) hone;simp only [Nat.add_zero] at hrun;have R2:=hE.step R' (B:=setA A blk (.cells (cs.set off v))) (fun b hb hn=>setRow_other w blk b (vs.toList.take off++[a.eval q]++vs.toList.drop (off+[a.eval q].length)).toArray (fun e=>hn (e▸List.mem_map.2 ⟨_,hA,rfl⟩))) (by simp) rfl rfl rfl (fun p hp=>.inl (by rw [←C4 A blk (.cells (cs.set off v))];exact List.mem_map.2 ⟨p,hp,rfl⟩)) (fun p hp=>by rw [C4];exact List.mem_map.2 ⟨p,hp,rfl⟩) (by rw [C4];exact hAr.nd) (fun ext p hp=>by
    rcases Mz hp with ⟨e,e'⟩ | ⟨hne,hp⟩
    ·rw [e,e'];refine ⟨_,et,setRow_heap w blk vs _ et (0,0) h1,by simp;omega,fun j u z hu hz=>?_⟩;rw [List.getElem?_toArray,Ga (by simp;omega)] at hz;by_cases ej:j=off
     ·subst ej;rw [List.getElem?_set_self hoff] at hu;rw [if_neg (by omega),if_pos (by simp)] at hz;cases hu;simp at hz;subst hz;exact ⟨rv.mono ext,hsc⟩
     ·rw [List.getElem?_set_ne (fun h=>ej h.symm)] at hu;have hz':vs[j]?=some z:=by
       by_cases h5:j<off
       ·rw [if_pos h5] at hz;simpa using hz
       ·rw [if_neg h5,if_neg (by simp;omega)] at hz;simpa using hz
      exact ⟨(h3 j u z hu hz').1.mono ext,(h3 j u z hu hz').2⟩
    ·exact (hAr.ok p hp).mono (setRow_other w blk p.1 _ hne) ext) (fun p hp=>by
    have hk:p.1∈A.map (·.1):=by rw [←C4 A blk (.cells (cs.set off v))];exact List.mem_map.2 ⟨p,hp,rfl⟩
    obtain ⟨q',hq',e⟩:=List.mem_map.1 hk;have:=hAr.lt q' hq';rw [←e];simpa using this)
 have hd:o.dst=none:=cc.d.symm;have R3:E.rel {s with log:=encA (setA A blk (.cells (cs.set off v)))} (a.put o.dst undef) (w.setRow blk (vs.toList.take off++[a.eval q]++vs.toList.drop (off+[a.eval q].length)).toArray) h:=by rw [hd];exact R2
 refine B5 (x:=undef) hi (Ai hgo) hdf (.inr ⟨?_,rfl⟩) (hn _ _ _ h hk R3 rfl);simp only [execOp,e1,ep,Instr.storeAt,Instr.sureAddr,Sem.run_bind,Sem.run_pure,Result.andThen_ok,storeVar,Ds e2];rw [if_neg (by rw [hc1];simp),hc1];rw [hrun];rfl
end
end
section
open Go.RowKit
theorem A2p {P:Program} {kt e:TypeId} (hm:Xi P kt e=true):Maps.Keyed P kt∧P.underlying e=some .bool ∧
  ∀a b:Int,(-9223372036854775808≤a∧a<9223372036854775808)→(-9223372036854775808≤b∧b<9223372036854775808)→∃l,keyOf P kt (.agg #[.int .i64 a,.int .i64 b])=some l:=by
 unfold Xi at hm;simp only [Bool.and_eq_true,decide_eq_true_eq,beq_iff_eq] at hm;obtain ⟨⟨⟨⟨⟨⟨⟨h1,h2⟩,h3⟩,h4⟩,h5⟩,h6⟩,h7⟩,h8⟩:=hm;have i64:∀{t:TypeId},A1d P t=true→P.underlying t=some (.int .i64):=by
  intro t h;unfold A1d at h;split at h
  ·assumption
  ·cases h
 refine ⟨Maps.Keyed.of_law (deep_law_laid h1 (m:=2) (by omega) h2 h3 ?_),?_,?_⟩
 ·split at h8
  ·rename_i fs hfs;rw [hfs]
  ·cases h8
 ·split at h5
  ·assumption
  ·cases h5
 ·intro a b ha hb;split at h8
  ·rename_i fs hfs;split at h8
   ·rename_i f g hfg;simp only [Bool.and_eq_true,beq_iff_eq,bne_iff_ne,ne_eq] at h8;obtain ⟨⟨⟨⟨⟨⟨⟨g1,g2⟩,g3⟩,g4⟩,g5⟩,g6⟩,g7⟩,g8⟩:=h8;have wf:∀n:Int,(-9223372036854775808≤n∧n<9223372036854775808)→(Lit.int .i64 n).wf=true:=fun n hn=>WalkArith.wf_i64 ⟨hn.1,by omega⟩;obtain ⟨n,hn⟩:∃n,P.types.size=n+1:=by
     cases hs:P.types.size with
     | zero=>rw [hs] at h2;exact absurd h2 (Nat.not_lt_zero _)
     | succ n=>exact ⟨n,rfl⟩
    have hall:fs.all (fun f=>f.name != "_")=true:=by
     rw [←Array.all_toList,hfg];simp [g1,g2]
    refine ⟨_,by
     unfold keyOf;rw [hfs];simp only [h4,Value.formed,hfs,h7,Bool.true_and];rw [if_pos (by simp)];rw [hn];simp only [Program.keyLits,hfs,Value.cells];rw [if_pos ⟨by simp [h7],hall⟩,hfg];simp [g3,g4,g7,g8,i64 g5,i64 g6,wf a ha,wf b hb];rfl⟩
   ·cases h8
  ·cases h8
theorem Ph {w:World} {b:Nat} {x:Obj} (h:w.heap[b]?=some x) (o:Obj):(ChangeMaps.setBlock w b o).heap[b]?=some o:=by
 have:=(Array.getElem?_eq_some_iff.1 h).1;simp [ChangeMaps.setBlock,this]
theorem My {w:World} {b k:Nat} (o:Obj) (h:k≠b):(ChangeMaps.setBlock w b o).heap[k]?=w.heap[k]?:=by
 simp only [ChangeMaps.setBlock];rw [Array.getElem?_setIfInBounds_ne (fun e=>h e.symm)]
theorem A9r {a b:Int×Int} (h:keyV a=keyV b):a=b:=by
 unfold keyV at h;simp only [Value.agg.injEq,Array.mk.injEq,List.cons.injEq,Value.int.injEq,true_and,and_true] at h;exact Prod.ext h.1 h.2
structure SetIs (es:Array MapEntry) (clock:Nat) (ks:List (Int×Int)):Prop where
 st:MapKept.Stamped es clock
 max:es.size≤100000
 ent:∀e∈es.toList,∃k∈ks,e.key=keyV k∧e.val=.bool true
 all:∀k∈ks,(inI k.1∧inI k.2)∧∃e∈es.toList,e.key=keyV k
 nd:es.toList.Pairwise fun x y=>x.key≠y.key
theorem Adg:SetIs #[] 0 []:=⟨MapKept.stamped_empty 0,by simp,by simp,by simp,by simp⟩
theorem SetIs.fit {P:Program} {kt e:TypeId} {es:Array MapEntry} {clock:Nat} {ks:List (Int×Int)} (hm:Xi P kt e=true) (h:SetIs es clock ks):WideElems.Fit (H:=Unit) P kt (Go.plainElem P e) es clock:=by
 obtain ⟨K,hu,hkey⟩:=A2p hm;refine ⟨by have:=h.max;unfold maxLen;omega,h.st,fun x hx=>?_⟩;obtain ⟨k,hk,k1,k2⟩:=h.ent x hx;obtain ⟨⟨i1,i2⟩,_⟩:=h.all k hk;obtain ⟨kl,hkl⟩:=hkey k.1 k.2 i1 i2;unfold WideElems.rd;rw [k1,keyV,hkl,k2,Go.plainElem_bool hu];exact ⟨_,rfl⟩
theorem SetIs.put {P:Program} {t kt e:TypeId} {w:World} {mb:Nat} {es:Array MapEntry} {clock:Nat} {ks:List (Int×Int)} (hm:Xi P kt e=true) (ht:P.underlying t=some (.map kt e)) (hb:w.heap[mb]?=some (.map es clock)) (h:SetIs es clock ks) {k:Int×Int} (hk:inI k.1∧inI k.2) (hroom:es.size<100000) :
  ∃es' clock',(Instr.mapUpdate t (.map (some mb)) (keyV k) (.bool true)).run P w=.ok () (ChangeMaps.setBlock w mb (.map es' clock'))∧SetIs es' clock' (ks++[k])∧es'.size≤es.size+1:=by
 obtain ⟨K,hu,hkey⟩:=A2p hm;obtain ⟨kl,hkl⟩:=hkey k.1 k.2 hk.1 hk.2;have F:=h.fit hm;obtain ⟨es',clock',hrun,F',hput,_,_,hall⟩:=Maps.fit_store (R':=Go.plainElem (H:=Unit) P e) K ht hb F (by have:=h.max;unfold maxLen;omega) (fun _ _ _ _ hz=>hz) hkl (Go.plainElem_bool hu true);have hsz:es'.size≤es.size+1:=by
  have e1:es'.size=((es'.toList.map (WideElems.rg P kt (Go.plainElem (H:=Unit) P e))).foldr DataW.insert []).length:=by rw [Go.length_sorted];simp
  rw [e1,hput];unfold ChangeMaps.putKey;rw [Go.length_insert];have e2:=List.length_filter_le (ChangeMaps.notKey kl) ((es.toList.map (WideElems.rg P kt (Go.plainElem (H:=Unit) P e))).foldr DataW.insert []);rw [Go.length_sorted] at e2;simp at e2;omega
 have hnd':es'.toList.Pairwise fun x y=>x.key≠y.key:=by
  have key1:∀x∈es.toList,keyOf P kt x.key=some (WideElems.rg P kt (Go.plainElem (H:=Unit) P e) x).1:=fun x hx=>by
   obtain ⟨y,hy⟩:=F.reads x hx;rw [WideElems.rg_of hy];exact WideElems.rd_key hy
  have key2:∀x∈es'.toList,keyOf P kt x.key=some (WideElems.rg P kt (Go.plainElem (H:=Unit) P e) x).1:=fun x hx=>by
   obtain ⟨y,hy⟩:=F'.reads x hx;rw [WideElems.rg_of hy];exact WideElems.rd_key hy
  have n1:((es.toList.map (WideElems.rg P kt (Go.plainElem (H:=Unit) P e))).map (·.1)).Nodup:=by
   rw [List.map_map];unfold List.Nodup;rw [List.pairwise_map];refine h.nd.imp_of_mem fun {x y} hx hy hne e=>hne ?_;exact K.inj (key1 x hx) (by rw [key1 y hy];exact congrArg some e.symm)
  have n2:(((es.toList.map (WideElems.rg P kt (Go.plainElem (H:=Unit) P e))).foldr DataW.insert []).map (·.1)).Nodup:=(((WideShapes.sorted_perm _).map _).nodup_iff).2 n1;have n3:(((es'.toList.map (WideElems.rg P kt (Go.plainElem (H:=Unit) P e))).foldr DataW.insert []).map (·.1)).Nodup:=by
   rw [hput];unfold ChangeMaps.putKey;refine (((WideShapes.insert_perm _ _).map _).nodup_iff).2 ?_;rw [List.map_cons,List.nodup_cons];refine ⟨fun hm=>?_,n2.sublist (List.Sublist.map _ List.filter_sublist)⟩;obtain ⟨q,hq,e⟩:=List.mem_map.1 hm;exact (Maps.notKey_iff (K.key hkl)).1 (List.mem_filter.1 hq).2 e
  have n4:((es'.toList.map (WideElems.rg P kt (Go.plainElem (H:=Unit) P e))).map (·.1)).Nodup:=(((WideShapes.sorted_perm _).map _).nodup_iff).1 n3;rw [List.map_map] at n4;unfold List.Nodup at n4;rw [List.pairwise_map] at n4;refine n4.imp_of_mem fun {x y} hx hy hne e=>hne ?_;have e1:=key2 x hx;rw [e,key2 y hy] at e1;exact (Option.some.inj e1).symm
 refine ⟨es',clock',hrun,⟨F'.stamped,by omega,fun x hx=>?_,fun j hj=>?_,hnd'⟩,hsz⟩
 ·rcases hall x hx with ⟨hx1,_⟩ | ⟨hx1,hx2⟩
  ·obtain ⟨j,hj,j1,j2⟩:=h.ent x hx1;exact ⟨j,by simp [hj],j1,j2⟩
  ·exact ⟨k,by simp,hx1,hx2⟩
 ·have hmem:∀q,q∈es'.toList.map (WideElems.rg P kt (Go.plainElem (H:=Unit) P e))↔q∈ChangeMaps.putKey kl (.lit (.bool true)) ((es.toList.map (WideElems.rg P kt (Go.plainElem (H:=Unit) P e))).foldr DataW.insert []):=fun q=>by
   rw [←hput,(WideShapes.sorted_perm _).mem_iff]
  have key_of:∀x∈es'.toList,∀l d,WideElems.rg P kt (Go.plainElem (H:=Unit) P e) x=(l,d)→keyOf P kt x.key=some l:=fun x hx l d hxe=>by
   obtain ⟨y,hy⟩:=F'.reads x hx;have:=WideElems.rd_key hy;rw [WideElems.rg_of hy] at hxe;rw [this,hxe]
  have last:∃x∈es'.toList,x.key=keyV k:=by
   have:(kl,DataW.lit (.bool true))∈es'.toList.map (WideElems.rg P kt (Go.plainElem (H:=Unit) P e)):=by
    rw [hmem];unfold ChangeMaps.putKey;rw [ChangeMaps.mem_insert_iff];exact .inl rfl
   obtain ⟨x,hx,hxe⟩:=List.mem_map.1 this;exact ⟨x,hx,K.inj (key_of x hx _ _ hxe) hkl⟩
  rcases List.mem_append.1 hj with hj | hj
  ·obtain ⟨hi,x0,hx0,hk0⟩:=h.all j hj;refine ⟨hi,?_⟩;by_cases ejk:j=k
   ·subst ejk;exact last
   obtain ⟨y0,hy0⟩:=F.reads x0 hx0;have hk1:=WideElems.rd_key hy0;have hne:y0.1≠kl:=fun he=>by
    rw [he] at hk1;have:=K.inj hk1 hkl;rw [hk0] at this;exact ejk (A9r this)
   have:y0∈es'.toList.map (WideElems.rg P kt (Go.plainElem (H:=Unit) P e)):=by
    rw [hmem];unfold ChangeMaps.putKey;rw [ChangeMaps.mem_insert_iff];refine .inr (List.mem_filter.2 ⟨?_,?_⟩)
    ·rw [(WideShapes.sorted_perm _).mem_iff];exact List.mem_map.2 ⟨x0,hx0,WideElems.rg_of hy0⟩
    ·exact (Maps.notKey_iff (K.key hkl)).2 hne
   obtain ⟨x1,hx1,hxe⟩:=List.mem_map.1 this;refine ⟨x1,hx1,?_⟩;have:=K.inj (key_of x1 hx1 y0.1 y0.2 hxe) hk1;rw [this,hk0]
  ·obtain rfl:j=k:=by simpa using hj
   exact ⟨hk,last⟩
theorem opK_raw0 {P:Program} {o:Oper} {os:List Operand} {t u:Nat} (hk:opK P o.op=some (.raw 0 t u,os)):∃kt e,o.op=.makeMap t none∧P.underlying t=some (.map kt e)∧Xi P kt e=true∧os=[]:=by
 replace hk:=Dw hk (by simp [Dv]);cases ho:o.op<;>rw [ho] at hk<;>simp only [opK0] at hk<;>(try (cases hk;done))<;>(try (repeat' (split at hk<;>(try (cases hk;done)))))
 all_goals first
  | (simp only [Option.map_eq_some_iff,Prod.mk.injEq] at hk;obtain ⟨_,_,h1,_⟩:=hk;cases h1;done)
  | (simp only [E7] at hk;repeat' (split at hk<;>(try (cases hk;done))))
  | (cases hk;exact ⟨_,_,rfl,by assumption,by assumption,rfl⟩)
theorem opK_raw1 {P:Program} {o:Oper} {os:List Operand} {t u:Nat} (hk:opK P o.op=some (.raw 1 t u,os)):∃p q r kt e,o.op=.mapUpdate t p q r∧P.underlying t=some (.map kt e)∧Xi P kt e=true∧os=[p,q,r]:=by
 replace hk:=Dw hk (by simp [Dv]);cases ho:o.op<;>rw [ho] at hk<;>simp only [opK0] at hk<;>(try (cases hk;done))<;>(try (repeat' (split at hk<;>(try (cases hk;done)))))
 all_goals first
  | (simp only [Option.map_eq_some_iff,Prod.mk.injEq] at hk;obtain ⟨_,_,h1,_⟩:=hk;cases h1;done)
  | (simp only [E7] at hk;repeat' (split at hk<;>(try (cases hk;done))))
  | (cases hk;exact ⟨_,_,_,_,_,rfl,by assumption,by assumption,rfl⟩)
theorem opK_raw2 {P:Program} {o:Oper} {os:List Operand} {t u:Nat} (hk:opK P o.op=some (.raw 2 t u,os)):∃p kt e,o.op=.range t p∧P.underlying t=some (.map kt e)∧Xi P kt e=true∧os=[p]:=by
 replace hk:=Dw hk (by simp [Dv]);cases ho:o.op<;>rw [ho] at hk<;>simp only [opK0] at hk<;>(try (cases hk;done))<;>(try (repeat' (split at hk<;>(try (cases hk;done)))))
 all_goals first
  | (simp only [Option.map_eq_some_iff,Prod.mk.injEq] at hk;obtain ⟨_,_,h1,_⟩:=hk;cases h1;done)
  | (simp only [E7] at hk;repeat' (split at hk<;>(try (cases hk;done))))
  | (cases hk;exact ⟨_,_,_,rfl,by assumption,by assumption,rfl⟩)
theorem A9i {P:Program} {o:Oper} {os:List Operand} {t u:Nat} (hk:opK P o.op=some (.raw 3 t u,os)):∃p,o.op=.next p false∧os=[p]:=by
 replace hk:=Dw hk (by simp [Dv]);cases ho:o.op<;>rw [ho] at hk<;>simp only [opK0] at hk<;>(try (cases hk;done))<;>(try (repeat' (split at hk<;>(try (cases hk;done)))))
 all_goals first
  | (simp only [Option.map_eq_some_iff,Prod.mk.injEq] at hk;obtain ⟨_,_,h1,_⟩:=hk;cases h1;done)
  | (simp only [E7] at hk;repeat' (split at hk<;>(try (cases hk;done))))
  | (cases hk;exact ⟨_,by simp_all,rfl⟩)
theorem A9h {P:Program} {o:Oper} {os:List Operand} {t u:Nat} (hk:opK P o.op=some (.raw 4 t u,os)):∃p,o.op=.entry p∧os=[p]:=by
 replace hk:=Dw hk (by simp [Dv]);cases ho:o.op<;>rw [ho] at hk<;>simp only [opK0] at hk<;>(try (cases hk;done))<;>(try (repeat' (split at hk<;>(try (cases hk;done)))))
 all_goals first
  | (simp only [Option.map_eq_some_iff,Prod.mk.injEq] at hk;obtain ⟨_,_,h1,_⟩:=hk;cases h1;done)
  | (simp only [E7] at hk;repeat' (split at hk<;>(try (cases hk;done))))
  | (cases hk;exact ⟨_,rfl,rfl⟩)
section
variable {E:Env} {S0:Sur} {l0:List (List V)} {s0:Bool} {A:Arena}
theorem Se {σ:FSt} {h:Gh} {w:World} {blk:Nat} {x:Value} (o:Ok σ h w (.rmap blk) x):x=.map (some blk):=by
 obtain ⟨r,_⟩:=o;cases r with
 | data r=>cases r;rfl
theorem ok_pair {σ:FSt} {h:Gh} {w:World} {a b:Int} {x:Value} (o:Ok σ h w (.agg [.int .i64 a,.int .i64 b]) x):x=keyV (a,b):=by
 obtain ⟨ws,hw,hlen,hh⟩:=Q4 o;rw [hw];obtain ⟨ws⟩:=ws
 match ws,hlen with
 | [y,z],_=>rw [rep_int (hh 0 _ y rfl rfl).1,rep_int (hh 1 _ z rfl rfl).1];rfl
theorem Fc {B:Arena} {s:St} {a:Act} {w':World} {h:Gh} {o:Oper} {os:List Operand} {slots:List (Option Nat)} {ins:Ins} {v:V} {x:Value} (cc:Comp E.P E.nt slots o ins os) (R2:E.relF (encA B) s.stp s.fs a w' h) (ok:Ok s.fs h w' v x) {d:Nat} (hd:ins.d=some d):E.rel {s.put (some d) v with log:=encA B} (a.put o.dst x) w' h:=by
 have R3:=Bk (eff:={v:=v}) cc R2 R2.1 ok rfl;rw [hd] at R3;show E.relF (encA B) s.stp (s.put (some d) v).fs _ _ _;rw [Dj];exact R3
theorem InA.fresh (hE:InA E S0 l0 s0) {stp:Bool} {σ:FSt} {a:Act} {w:World} {h:Gh} (R:E.relF (encA A) stp σ a w h) (ob:Obj) (o:Ob) (ho:Ext w h.φ (w.alloc ob) h.φ→ObOk (w.alloc ob) h.φ w.heap.size o):E.relF (encA ((w.heap.size,o)::A)) stp σ a (w.alloc ob) h∧w.heap.size∉A.map (·.1):=by
 have hAr:=hE.ar R;have hn:w.heap.size∉A.map (·.1):=fun hm=>by
  obtain ⟨p,hp,e⟩:=List.mem_map.1 hm;have:=hAr.lt p hp;omega
 have hsz:(w.alloc ob).heap.size=w.heap.size+1:=by
  show (w.heap.push ob).size=_;rw [Array.size_push]
 refine ⟨hE.step R (fun b hb _=>heap_alloc_old w ob hb) (by omega) rfl rfl rfl (fun p hp=>?_) (fun p hp=>by simp;exact .inr ⟨p.2,hp⟩) (by simp only [List.map_cons,List.nodup_cons];exact ⟨hn,hAr.nd⟩) (fun ext p hp=>?_) (fun p hp=>?_),hn⟩
 ·rcases List.mem_cons.1 hp with rfl | hp
  ·exact .inr (Nat.le_refl _)
  ·exact .inl (List.mem_map.2 ⟨p,hp,rfl⟩)
 ·rcases List.mem_cons.1 hp with rfl | hp
  ·exact ho ext
  ·exact (hAr.ok p hp).mono (heap_alloc_old w ob (hAr.lt p hp)) ext
 ·rcases List.mem_cons.1 hp with rfl | hp
  ·simp only;omega
  ·have:=hAr.lt p hp;omega
theorem InA.turn (hE:InA E S0 l0 s0) {stp:Bool} {σ:FSt} {a:Act} {w w':World} {h:Gh} (R:E.relF (encA A) stp σ a w h) {b:Nat} {o1:Ob} (hA:(b,o1)∈A) (o:Ob) (hold:∀k,k≠b→w'.heap[k]?=w.heap[k]?) (hsz:w'.heap.size=w.heap.size) (hos:w'.os=w.os) (htp:w'.tape=w.tape) (hou:w'.output=w.output)
  (ho:Ext w h.φ w' h.φ→ObOk w' h.φ b o):E.relF (encA (setA A b o)) stp σ a w' h:=by
 have hAr:=hE.ar R;have key:∀p∈setA A b o,p.1∈A.map (·.1):=fun p hp=>by rw [←C4 A b o];exact List.mem_map.2 ⟨p,hp,rfl⟩
 refine hE.step R (fun k hk hn=>hold k fun e=>hn (e▸List.mem_map.2 ⟨_,hA,rfl⟩)) (by omega) hos htp hou (fun p hp=>.inl (key p hp)) (fun p hp=>by rw [C4];exact List.mem_map.2 ⟨p,hp,rfl⟩) (by rw [C4];exact hAr.nd) (fun ext p hp=>?_) (fun p hp=>?_)
 ·rcases Mz hp with ⟨e,e'⟩ | ⟨hne,hp⟩
  ·rw [e,e'];exact ho ext
  ·exact (hAr.ok p hp).mono (hold _ hne) ext
 ·obtain ⟨q,hq,e⟩:=List.mem_map.1 (key p hp);have:=hAr.lt q hq;rw [←e];omega
theorem A86 (hE:InA E S0 l0 s0) {K:St→Prop} {s:St} {d t u:Nat} {rest:List Ins} (hl:s.log=encA A)
  (hk:∀mb,mb∉A.map (·.1)→Steps E rest K {s.put (some d) (.rmap mb) with log:=encA ((mb,.raw (.map #[] 0))::A)}):Steps E (⟨some d,.raw 0 t u,[],none⟩::rest) K s:=by
 refine Step1.raw fun slots ops o i ro n a w h hc hs hi R Q next hn=>?_
 obtain ⟨os,cc⟩:=Ba hc;obtain ⟨kt,e,e1,e2,e3,rfl⟩:=opK_raw0 cc.op;have R':E.relF (encA A) s.stp s.fs a w h:=by rw [←hl];exact R
 obtain ⟨R2,hnm⟩:=hE.fresh R' (.map #[] 0) (.raw (.map #[] 0)) (fun _=>heap_alloc_new w _);refine B5 hi (Ai (Au cc rfl)) (At cc.op) (.inl ?_) (hn _ _ _ h (hk _ hnm) (Fc cc R2 (.data (.rmap _)) rfl) rfl);simp only [execOp,e1,Sem.run_bind];rfl
theorem A50 (hE:InA E S0 l0 s0) {K:St→Prop} {s:St} {t u:Nat} {x y z:X} {rest:List Ins} {mb:Nat} {es:Array MapEntry} {clock:Nat} {ks:List (Int×Int)} {k:Int×Int} (hx:evXs s.env [x,y,z]=some [.rmap mb,.agg [.int .i64 k.1,.int .i64 k.2],.bool true]) (hl:s.log=encA A)
  (hA:(mb,.raw (.map es clock))∈A) (hS:SetIs es clock ks) (hi64:inI k.1∧inI k.2) (hroom:es.size<100000)
  (hk:∀es' clock',SetIs es' clock' (ks++[k])→es'.size≤es.size+1→Steps E rest K {s with log:=encA (setA A mb (.raw (.map es' clock')))}):Steps E (⟨none,.raw 1 t u,[x,y,z],none⟩::rest) K s:=by
 refine Step1.raw fun slots ops o i ro n a w h hc hs hi R Q next hn=>?_
 obtain ⟨os,cc⟩:=Ba hc;obtain ⟨p,q,r,kt,e,e1,e2,e3,rfl⟩:=opK_raw1 cc.op;obtain ⟨v1,v2,v3,hu,o1,o2,o3⟩:=(B9 R.1 cc.xs (Ay hx)).three;simp only [List.cons.injEq,and_true] at hu;obtain ⟨hu1,hu2,hu3⟩:=hu;subst hu1 hu2 hu3;have R':E.relF (encA A) s.stp s.fs a w h:=by rw [←hl];exact R
 have hb:w.heap[mb]?=some (.map es clock):=(hE.ar R').ok _ hA;obtain ⟨es',clock',hrun,hS',hsz⟩:=hS.put e3 e2 hb hi64 hroom;have R2:=hE.turn R' hA (.raw (.map es' clock')) (w':=ChangeMaps.setBlock w mb (.map es' clock')) (fun k hk=>My _ hk) (by simp [ChangeMaps.setBlock]) rfl rfl rfl (fun _=>Ph hb _);have hd:o.dst=none:=cc.d.symm;have R3:E.rel {s with log:=encA (setA A mb (.raw (.map es' clock')))} (a.put o.dst undef) (ChangeMaps.setBlock w mb (.map es' clock')) h:=by rw [hd];exact R2
 have o3':a.eval r=.bool true:=by
  obtain ⟨rr,_⟩:=o3;revert rr;generalize a.eval r=zz;intro rr;cases rr with
  | data rr=>cases rr;rfl
 refine B5 (x:=undef) hi (Ai (Au cc rfl)) (At cc.op) (.inr ⟨?_,rfl⟩) (hn _ _ _ h (hk _ _ hS' hsz) R3 rfl);simp only [execOp,e1,Se o1,ok_pair o2,o3',Sem.run_bind];rw [hrun];rfl
theorem A51 (hE:InA E S0 l0 s0) {K:St→Prop} {s:St} {d t u:Nat} {x:X} {rest:List Ins} {mb:Nat} {es:Array MapEntry} {clock:Nat} (hx:evXs s.env [x]=some [.rmap mb]) (hl:s.log=encA A) (hA:(mb,.raw (.map es clock))∈A)
  (hk:∀ib,ib∉A.map (·.1)→Steps E rest K {s.put (some d) (.rptr ib 0) with log:=encA ((ib,.raw (.mapIter (some mb) clock #[] clock))::A)}):Steps E (⟨some d,.raw 2 t u,[x],none⟩::rest) K s:=by
 refine Step1.raw fun slots ops o i ro n a w h hc hs hi R Q next hn=>?_
 obtain ⟨os,cc⟩:=Ba hc;obtain ⟨p,kt,e,e1,e2,e3,rfl⟩:=opK_raw2 cc.op;obtain ⟨v,hu,o1⟩:=(B9 R.1 cc.xs (Ay hx)).one;simp only [List.cons.injEq,and_true] at hu;subst hu;have R':E.relF (encA A) s.stp s.fs a w h:=by rw [←hl];exact R
 have hb:w.heap[mb]?=some (.map es clock):=(hE.ar R').ok _ hA;obtain ⟨R2,hnm⟩:=hE.fresh R' (.mapIter (some mb) clock #[] clock) (.raw (.mapIter (some mb) clock #[] clock)) (fun _=>heap_alloc_new w _);refine B5 hi (Ai (Au cc rfl)) (At cc.op) (.inl ?_) (hn _ _ _ h (hk _ hnm) (Fc cc R2 (.data (.rptr _ _)) rfl) rfl);simp only [execOp,e1,Se o1,Sem.run_bind];rw [run_range_map w t kt e mb es clock e2 hb];rfl
theorem M3 {σ:FSt} {a:Act} {w:World} {h:Gh} (R:E.relF l0 s0 σ a w h):E.relF l0 s0 σ a w.drew h:=⟨R.1.drew E.ok,R.2⟩
theorem A85 (hE:InA E S0 l0 s0) {K:St→Prop} {s:St} {d t u:Nat} {x:X} {rest:List Ins} {ib mb since c0:Nat} {seen:Array Nat} {es:Array MapEntry} {clock:Nat} {ks:List (Int×Int)} (hx:evXs s.env [x]=some [.rptr ib 0]) (hl:s.log=encA A)
  (hI:(ib,.raw (.mapIter (some mb) since seen c0))∈A) (hM:(mb,.raw (.map es clock))∈A) (hS:SetIs es clock ks) (hold:∀e∈es.toList,e.born<since) (hsc:since≤c0)
  (h0:(leftOf es seen).size=0→Steps E rest K (s.put (some d) (.tuple [.bool false])))
  (h1:∀e∈(leftOf es seen).toList,∀k∈ks,e.key=keyV k→e.val=.bool true→Steps E rest K {s.put (some d) (.tuple [.bool true,.agg [.int .i64 k.1,.int .i64 k.2],.bool true]) with log:=encA (setA A ib (.raw (.mapIter (some mb) since (seen.push e.born) clock)))}):Steps E (⟨some d,.raw 3 t u,[x],none⟩::rest) K s:=by
 refine Step1.raw fun slots ops o i ro n a w h hc hs hi R Q next hn=>?_
 obtain ⟨os,cc⟩:=Ba hc;obtain ⟨p,e1,rfl⟩:=A9i cc.op;obtain ⟨v,hu,o1⟩:=(B9 R.1 cc.xs (Ay hx)).one;simp only [List.cons.injEq,and_true] at hu;subst hu;have R':E.relF (encA A) s.stp s.fs a w h:=by rw [←hl];exact R
 have hb:w.heap[mb]?=some (.map es clock):=(hE.ar R').ok _ hM;have hr:w.heap[ib]?=some (.mapIter (some mb) since seen c0):=(hE.ar R').ok _ hI;rcases run_next_at (P:=E.P) w o.type ib mb since c0 seen es clock hr hb hold hsc with ⟨hz,hrun⟩ | ⟨e,he,w1,hal,hrun⟩
 ·have ok:Ok s.fs h w (.tuple [.bool false]) (.tuple #[.bool false]):=⟨.tuple _ _ rfl (fun i v x h1 h2=>by
   match i with
   | 0=>cases h1;cases h2;exact .bool _),fun j u z hu hz=>by
   cases j with
   | zero=>simp [cells] at hu;subst hu;intro r sz xs e;cases e
   | succ j=>simp [cells] at hu⟩
  refine B5 (x:=.tuple #[.bool false]) (w':=w) hi (Ai (Au cc rfl)) (At cc.op) (.inl ?_) (hn _ _ w h (h0 hz) ?_ rfl)
  ·simp only [execOp,e1,F5 o1,Sem.run_bind];rw [hrun];rfl
  ·show E.relF _ _ _ _ _ _;rw [(Bq _ _ _).1,(Bq _ _ _).2,Dj];exact Bk (eff:={v:=_}) cc R R.1 ok rfl
 ·have hee:e∈es.toList:=by
   unfold leftOf at he;simp at he;simpa using he.1
  obtain ⟨k,hk,k1,k2⟩:=hS.ent e hee;have R1:E.relF (encA A) s.stp s.fs a w1 h:=by
   rcases hal with rfl | rfl
   ·exact R'
   ·exact M3 R'
  have hr1:w1.heap[ib]?=some (.mapIter (some mb) since seen c0):=(hE.ar R1).ok _ hI;have R2:=hE.turn R1 hI (.raw (.mapIter (some mb) since (seen.push e.born) clock)) (w':=ChangeMaps.setBlock w1 ib (.mapIter (some mb) since (seen.push e.born) clock)) (fun k hk=>My _ hk) (by simp [ChangeMaps.setBlock]) rfl rfl rfl (fun _=>Ph hr1 _);have ok:∀w2,Ok s.fs h w2 (.tuple [.bool true,.agg [.int .i64 k.1,.int .i64 k.2],.bool true]) (.tuple #[.bool true,e.key,e.val]):=fun w2=>⟨.tuple _ _ rfl (fun i v x h1 h2=>by
   match i with
   | 0=>cases h1;cases h2;exact .bool _
   | 1 =>
     cases h1;cases h2;rw [k1];exact .agg _ _ rfl fun j u z g1 g2=>by
      match j with
      | 0=>cases g1;cases g2;exact .int _ _
      | 1=>cases g1;cases g2;exact .int _ _
   | 2=>cases h1;cases h2;rw [k2];exact .bool _),fun j u z hu hz=>by
   cases j with
   | zero=>simp [cells] at hu;subst hu;intro r sz xs e;cases e
   | succ j=>simp [cells] at hu⟩
  refine B5 (x:=.tuple #[.bool true,e.key,e.val]) hi (Ai (Au cc rfl)) (At cc.op) (.inl ?_) (hn _ _ _ h (h1 e he k hk k1 k2) (Fc cc R2 (ok _) rfl) rfl);simp only [execOp,e1,F5 o1,Sem.run_bind];rw [hrun];rfl
theorem A52 (hE:InA E S0 l0 s0) {K:St→Prop} {s:St} {d t u:Nat} {x:X} {rest:List Ins} {ib mb since:Nat} {seen:Array Nat} {es:Array MapEntry} {clock:Nat} {e:MapEntry} {k:Int×Int} (hx:evXs s.env [x]=some [.rptr ib 0]) (hl:s.log=encA A)
  (hI:(ib,.raw (.mapIter (some mb) since (seen.push e.born) clock))∈A) (hM:(mb,.raw (.map es clock))∈A) (hst:MapKept.Stamped es clock) (he:e∈es.toList) (hkey:e.key=keyV k) (hval:e.val=.bool true)
  (hk:Steps E rest K (s.put (some d) (.tuple [.agg [.int .i64 k.1,.int .i64 k.2],.bool true]))):Steps E (⟨some d,.raw 4 t u,[x],none⟩::rest) K s:=by
 refine Step1.raw fun slots ops o i ro n a w h hc hs hi R Q next hn=>?_
 obtain ⟨os,cc⟩:=Ba hc;obtain ⟨p,e1,rfl⟩:=A9h cc.op;obtain ⟨v,hu,o1⟩:=(B9 R.1 cc.xs (Ay hx)).one;simp only [List.cons.injEq,and_true] at hu;subst hu;have R':E.relF (encA A) s.stp s.fs a w h:=by rw [←hl];exact R
 have hb:w.heap[mb]?=some (.map es clock):=(hE.ar R').ok _ hM;have hr:w.heap[ib]?=some (.mapIter (some mb) since (seen.push e.born) clock):=(hE.ar R').ok _ hI;have hrun:=run_entry_at (P:=E.P) w ib mb since seen es clock e hr hb he hst.2.1;have ok:Ok s.fs h w (.tuple [.agg [.int .i64 k.1,.int .i64 k.2],.bool true]) (.tuple #[e.key,e.val]):=⟨.tuple _ _ rfl (fun i v x h1 h2=>by
  match i with
  | 0 =>
    cases h1;cases h2;rw [hkey];exact .agg _ _ rfl fun j u z g1 g2=>by
     match j with
     | 0=>cases g1;cases g2;exact .int _ _
     | 1=>cases g1;cases g2;exact .int _ _
  | 1=>cases h1;cases h2;rw [hval];exact .bool _),fun j u z hu hz=>by
  cases j with
  | zero=>simp [cells] at hu;subst hu;intro r sz xs e;cases e
  | succ j=>simp [cells] at hu⟩
 refine B5 (x:=.tuple #[e.key,e.val]) (w':=w) hi (Ai (Au cc rfl)) (At cc.op) (.inl ?_) (hn _ _ w h hk ?_ rfl)
 ·simp only [execOp,e1,F5 o1,Sem.run_bind];rw [hrun];rfl
 ·show E.relF _ _ _ _ _ _;rw [(Bq _ _ _).1,(Bq _ _ _).2,Dj];exact Bk (eff:={v:=_}) cc R R.1 ok rfl
end
end
section
open Go.RowKit
theorem A10 {P:Program} {o:Oper} {os:List Operand} {t:Nat} (hk:opK P o.op=some (.raw 8 0 t,os)):∃p q u e,o.op=.binOp .eql t p q u∧P.underlying t=some (.slice e)∧os=[p,q]:=by
 replace hk:=Dw hk (by simp [Dv]);cases ho:o.op<;>rw [ho] at hk<;>simp only [opK0] at hk<;>(try (cases hk;done))<;>(try (repeat' (split at hk<;>(try (cases hk;done)))))
 all_goals first
  | (simp only [Option.map_eq_some_iff,Prod.mk.injEq] at hk;obtain ⟨_,_,h1,_⟩:=hk;cases h1;done)
  | (simp only [E7] at hk
     split at hk<;>(try (cases hk;done))<;>(try (split at hk<;>(try (cases hk;done))))<;>(try (cases hk;done))
     all_goals first
      | (simp at hk;done)
      | (simp at hk
         obtain ⟨rfl,rfl⟩:=hk;exact ⟨_,_,_,_,rfl,by assumption,rfl⟩))
section
variable {E:Env}
theorem Ib {s:St} {K:St→Prop} {d t r sz:Nat} {x y:X} {xs:List V} {rest:List Ins} (hx:evXs s.env [x,y]=some [.slice r sz xs,.nils]) (hk:∀b,(xs≠[]→b=false)→Steps E rest K (s.put (some d) (.bool b))):Steps E (⟨some d,.raw 8 0 t,[x,y],none⟩::rest) K s:=by
 refine Step1.raw fun slots ops o i ro n a w h hc hs hi R Q next hn=>?_
 obtain ⟨os,cc⟩:=Ba hc;have hgo:o.guard=none:=by
  rcases cc.guard with ⟨_,e⟩ | ⟨j,want,t,_,_,e⟩
  ·exact e
  ·cases e
 obtain ⟨p,q,u,e,e1,e2,rfl⟩:=A10 cc.op;obtain ⟨v1,v2,hu,o1,o2⟩:=(B9 R.1 cc.xs (Ay hx)).two;simp only [List.cons.injEq,and_true] at hu;obtain ⟨hu1,hu2⟩:=hu;subst hu1 hu2;have hq:=Ku o2;have key:∃(ad:Option Addr) (m c:Nat),a.eval p=.slice ad m c∧(xs≠[]→ad.isSome=true):=by
  have r:=Ff o1;generalize a.eval p=z at r;rcases Ex r with ⟨⟨ad,cap,rfl⟩,e0⟩ | ⟨blk,off,cap,cv,rfl,_⟩
  ·exact ⟨ad,0,cap,rfl,fun h=>absurd e0 h⟩
  ·exact ⟨_,_,_,rfl,fun _=>rfl⟩
 obtain ⟨ad,m,c,ep,had⟩:=key;have hex:(execOp a.eval o).run E.P w=.ok (.value (.bool ad.isNone)) w:=by
  have g1:(eqGuard .eql t p q (.slice ad m c) (.slice none 0 0)).run E.P w=.ok () w:=by
   cases ad<;>rfl
  have g2:(binOp .eql t (.slice ad m c) (.slice none 0 0)).run E.P w=.ok (.bool ad.isNone) w:=Lib.run_eql_slice_nil w t e ad m c 0 0 e2;simp only [execOp,e1,ep,hq,Sem.run_bind,g1,g2,Result.andThen_ok,Sem.run_pure]
 refine B5 (x:=.bool ad.isNone) (w':=w) hi (Ai hgo) (At cc.op) (.inl hex) (hn _ _ w h (hk ad.isNone fun hne=>by have:=had hne;cases ad<;>simp_all) ?_ rfl);show E.relF _ _ _ _ _ _;rw [(Bq _ _ _).1,(Bq _ _ _).2,Dj];exact Bk (eff:={v:=.bool ad.isNone}) cc R R.1 (.data (.bool _)) rfl
end
section
variable {P:Program} {nt:Nat} {S:Sur} {log:List (List V)} {stp:Bool} {σ:FSt} {a:Act} {w:World} {h:Gh} {o:Oper}
theorem Te {os:List Operand} {sz e:Nat} (hk:opK P o.op=some (.mkslice sz e,os)):∃t len parts ie z,o.op=.buildSlice t len parts∧P.underlying t=some (.slice e)∧P.info? e=some ie∧ie.zero=some z∧z.cells.size=ie.size∧ie.size=sz∧parts.toList.map (·.1)=List.range len∧os=parts.toList.map (·.2):=by
 replace hk:=Dw hk (by simp [Dv]);cases ho:o.op<;>rw [ho] at hk<;>simp only [opK0] at hk<;>(try (cases hk;done))<;>(try (repeat' (split at hk<;>(try (cases hk;done)))))
 all_goals first
  | (simp only [Option.map_eq_some_iff,Prod.mk.injEq] at hk;obtain ⟨_,_,h1,_⟩:=hk;cases h1;done)
  | (rename_i hz hc;rw [hz] at hc;simp at hc;done)
  | (rename_i t len parts x5 e' ht x4 ie hi x3 z hz hc
     cases hk;simp only [hz,Option.isSome_some,Bool.true_and,Bool.and_eq_true,beq_iff_eq] at hc;exact ⟨t,len,parts,ie,z,rfl,ht,hi,hz,hc.1,rfl,hc.2,rfl⟩)
  | (exfalso;simp only [E7] at hk;repeat' (split at hk<;>(try (cases hk;done))))
end
section
variable {E:Env}
theorem Qt {s:St} {K:St→Prop} {d sz e:Nat} {rest:List Ins} (hd:get s.bx d=none)
  (hk:∀blk,Steps E rest K ((s.setB d ⟨[],false⟩).put (some d) (.sref blk 0 0 0))):Steps E (⟨some d,.mkslice sz e,[],none⟩::rest) K s:=by
 refine Step1.raw fun slots ops o i ro n a w h hc hs hi R Q next hn=>?_
 obtain ⟨os,cc⟩:=Ba hc;have hgo:=Au cc rfl;obtain ⟨t,len,parts,ie,z,ho,ht,hie,hz,hzs,hsz,hidx,rfl⟩:=Te cc.op;have hO:=B9 R.1 cc.xs (vs:=[]) rfl;have hlen:len=0:=by
  have h1:=hO.get.1;have h2:=congrArg List.length hidx;simp at h1 h2;omega
 subst hlen;have hp:parts=#[]:=by
  have h1:=hO.get.1;simp at h1;exact Array.size_eq_zero_iff.1 h1.symm
 have hrun:(Instr.buildSlice t 0 (parts.map fun (i,x)=>(i,a.eval x))).run E.P w=.ok (.slice (some ⟨w.heap.size,0,none⟩) 0 0) (w.alloc (.cells #[] e)):=by
  subst hp;have hr0:Array.range 0=#[]:=rfl;simp [Instr.buildSlice,run_underlying ht,sizeOf,typeInfo,zeroValue,hie,hz,newRow,Instr.fill,hr0]
 have R1:=R.1.newBox (e:=e) (cs:=#[]) (zs:=[]) (d:=d) E.ok (by rw [fs_b];exact hd) (by simp) (fun j v x hv hx=>by simp at hv);have hex:(execOp a.eval o).run E.P w=.ok (.value (.slice (some ⟨w.heap.size,0,none⟩) 0 0)) (w.alloc (.cells #[] e)):=by
  simp only [execOp,ho,Sem.run_bind,hrun];rfl
 have key:=Bk (eff:={v:=.sref w.heap.size 0 0 0,wb:=[(d,⟨[],false⟩)]}) cc R R1 ⟨.data (.sref _ _ _ _),Ap (w0:=w) (φ0:=h.φ) (.sref _ _ _ _)⟩ rfl;refine B5 hi (Ai hgo) (At cc.op) (.inl hex) (hn _ _ _ {h with M:=fun b=>h.M b∨b=w.heap.size,β:=fun i=>if i=d then some w.heap.size else h.β i} (hk w.heap.size) ?_ rfl);show E.relF _ _ _ _ _ _;rw [(Bq _ _ _).1,(Bq _ _ _).2,Dj,W9];exact key
theorem A48 {P:Program} {nt:Nat} {S:Sur} {log:List (List V)} {stp:Bool} {σ:FSt} {a:Act} {w:World} {h:Gh} {o:Oper} {t e sz bytes d blk:Nat} {p q:Operand} {c:Call} {ie:TypeInfo} {z:Value} {ys:List V} {y:Value} (R:Rel nt S log stp σ a w h) (hS:S.ok) (ho:o.op=.call c) (hc:c.callee=.builtin .append) (hca:c.args.toList=[p,q]) (hct:c.argTypes.toList=[t,t])
  (ht:P.underlying t=some (.slice e)) (hi:P.info? e=some ie) (hz:ie.zero=some z) (hzs:z.cells.size=ie.size) (hsz:ie.size=sz) (hby:ie.bytes=bytes) (hx:a.eval p=.slice (some ⟨blk,0,none⟩) 0 0) (hy:a.eval q=y)
  (ry:RepD w h.φ (.slice 0 sz ys) y) (hd:σ.b d=none) (h0:0<sz) (hb:ys.length*bytes≤2^47) (hm:ys.length≤2^47) (hne:ys≠[]) {pre:Prop} {rb:List Nat} :
  Done P nt S log stp σ a w h o {pre:=pre,v:=.bsl d 0 sz ys.length,wb:=[(d,⟨ys.flatMap cells,false⟩)],rb:=rb}:=by
 subst hsz hby;have ea:c.args=#[p,q]:=by rw [←Array.toList_inj];simpa using hca
 have et:c.argTypes=#[t,t]:=by rw [←Array.toList_inj];simpa using hct
 have hexec:∀v w',(Builtin.append_ #[t,t] o.type #[.slice (some ⟨blk,0,none⟩) 0 0,y]).run P w=.ok v w'→(execOp a.eval o).run P w=.ok (.value v) w':=fun v w' hr=>by
  simp only [execOp,ho,resolve,hc,ea,et,Sem.run_bind,Sem.run_pure,Result.andThen_ok,invoke,builtin];simp [hx,hy,hr]
 have hml:ys.length≤maxLen:=by unfold maxLen;omega
 have hpos:0<ys.length:=List.length_pos_iff.2 hne;rcases Ex ry with ⟨_,e0⟩ | ⟨yb,yo,ycap,cvy,rfl,_,_,hys,ay⟩
 ·exact absurd e0 hne
 have ylen:=Kz hys;obtain ⟨news,hnews⟩:∃news,news=(List.range (ys.length*ie.size)).map cvy:=⟨_,rfl⟩;have nl:news.length=ys.length*ie.size:=by rw [hnews];simp
 have nget:∀j,j<ys.length*ie.size→news[j]?=some (cvy j):=fun j hj=>by rw [hnews];simp [hj]
 have ncell:∀j u,news[j]?=some u→w.cell? ((⟨yb,yo,none⟩:Addr).add j)=some u:=fun j u hu=>by
  have hj:j<ys.length*ie.size:=by have:=(List.getElem?_eq_some_iff.1 hu).1;omega
  rw [nget j hj] at hu;cases hu;rw [Addr.add_lit];exact (ay j _ (List.getElem?_eq_getElem (by omega))).2.1
 have hrun:=run_append_grow (P:=P) w t o.type e ie z ht hi hz ⟨blk,0,none⟩ 0 0 [] (by simp) (fun j v hv=>by simp at hv) ⟨yb,yo,none⟩ ys.length ycap news nl ncell (by omega) (by omega) (by rw [Nat.zero_add,nextslicecap_zero hpos];omega);have hge:=grownCap_ge w (0+ys.length) 0 e;have R1:=(R.drew hS).newBox (e:=e) (cs:=[].toArray++news.toArray++Builtin.zeroCells z.cells (grownCap w (0+ys.length) 0 e-(0+ys.length))) (zs:=ys.flatMap cells) hS hd
  (by rw [Array.size_append,Array.size_append];simp only [List.size_toArray,nl,List.length_nil];omega) (fun j v x hv hx=>by
    have hlt:=(List.getElem?_eq_some_iff.1 hv).1;rw [Array.getElem?_append_left (by simp [nl];omega)] at hx;simp only [Array.empty_append,List.getElem?_toArray] at hx;rw [nget j (by omega)] at hx;cases hx;obtain ⟨_,_,k3,k4⟩:=ay j v hv;have r1:RepD w.drew h.φ v (cvy j):=k3.mono (fun _ _ ho=>⟨ho,rfl,rfl⟩);exact ⟨.data r1,D5 r1,k4⟩)
 refine ⟨_,_,_,.inl (hexec _ _ hrun),R1,⟨?_,fun j u zz hu hzz=>?_⟩,rfl⟩
 ·rw [Nat.zero_add];exact .bsl d 0 _ ys.length _ w.heap.size (by simp) (by simpa using hge)
 cases j with
 | zero=>simp [cells] at hu;subst hu;intro r sz xs e;cases e
 | succ j=>simp [cells] at hu
theorem A25 {s:St} {K:St→Prop} {d:Nat} {x y:X} {sz bytes e r blk:Nat} {ys:List V} {rest:List Ins} (hx:evXs s.env [x,y]=some [.sref blk 0 0 0,.slice r sz ys]) (hd:get s.bx d=none) (h0:0<sz) (hb:ys.length*bytes≤2^47) (hm:ys.length≤2^47) (hne:ys≠[])
  (hk:Steps E rest K ((s.setB d ⟨ys.flatMap cells,false⟩).put (some d) (.bsl d 0 sz ys.length))):Steps E (⟨some d,.append sz bytes e,[x,y],none⟩::rest) K s:=by
 refine Step1.raw fun slots ops o i ro n a w h hc hs hi R Q next hn=>?_
 obtain ⟨os,cc⟩:=Ba hc;have hgo:=Au cc rfl;obtain ⟨c,p,q,t,ie,z,ho,hcal,hca,hct,ht,hie,hz,hzs,hsz,hby,rfl⟩:=Sb cc.op;obtain ⟨u,v,huv,hu,hv'⟩:=(B9 R.1 cc.xs (Ay hx)).two;cases huv;obtain ⟨x1,w',h',hr',R',ok,hy⟩:=A48 (d:=d) (pre:=True) (rb:=[d]) R.1 E.ok ho hcal hca hct ht hie hz hzs hsz hby (Kt hu) rfl (Ff hv') (by rw [fs_b];exact hd) h0 hb hm hne;have key:=Bk cc R R' ok hy;refine B5 hi (Ai hgo) (At cc.op) hr' (hn _ _ _ h' hk ?_ hy);show E.relF _ _ _ _ _ _;rw [(Bq _ _ _).1,(Bq _ _ _).2,Dj,W9];exact key
theorem Y7 {s:St} {K:St→Prop} {d:Nat} {x y:X} {sz bytes e r blk:Nat} {rest:List Ins} (hx:evXs s.env [x,y]=some [.sref blk 0 0 0,.slice r sz []])
  (hk:Steps E rest K (s.put (some d) (.slice 0 sz []))):Steps E (⟨some d,.append sz bytes e,[x,y],none⟩::rest) K s:=by
 refine Step1.raw fun slots ops o i ro n a w h hc hs hi R Q next hn=>?_
 obtain ⟨os,cc⟩:=Ba hc;have hgo:=Au cc rfl;obtain ⟨c,p,q,t,ie,z,ho,hcal,hca,hct,ht,hie,hz,hzs,hsz,hby,rfl⟩:=Sb cc.op;obtain ⟨u,v,huv,hu,hv'⟩:=(B9 R.1 cc.xs (Ay hx)).two;cases huv;have hp:=Kt hu;have key:∃(ad:Option Addr) (cp:Nat),a.eval q=.slice ad 0 cp:=by
  have r:=Ff hv';generalize a.eval q=z at r;rcases Ex r with ⟨⟨ad,cap,rfl⟩,e0⟩ | ⟨blk,off,cap,cv,rfl,_⟩
  ·exact ⟨ad,cap,rfl⟩
  ·exact ⟨_,_,rfl⟩
 obtain ⟨ad,cp,eq⟩:=key;have ea:c.args=#[p,q]:=by rw [←Array.toList_inj];simpa using hca
 have et:c.argTypes=#[t,t]:=by rw [←Array.toList_inj];simpa using hct
 have hex:(execOp a.eval o).run E.P w=.ok (.value (.slice (some ⟨blk,0,none⟩) 0 0)) w:=by
  simp only [execOp,ho,resolve,hcal,ea,et,Sem.run_bind,Sem.run_pure,Result.andThen_ok,invoke,builtin];cases ad with
  | none=>simp [hp,eq,Builtin.append_,run_underlying ht,sizeOf,typeInfo,hie,Builtin.lenOf,run_firstCells_none,storeCells]
  | some ad =>
    have hf:=run_firstCells_some (P:=E.P) w ie.size 0 ad 0 cp [] (by simp) (fun j v hv=>by simp at hv);simp [hp,eq,Builtin.append_,run_underlying ht,sizeOf,typeInfo,hie,Builtin.lenOf,hf,storeCells]
 have key:=Bk (eff:={v:=.slice 0 sz []}) cc R R.1 (x:=.slice (some ⟨blk,0,none⟩) 0 0) ⟨.data (.slice0 _ _ _),Ap (w0:=w) (φ0:=h.φ) (.slice0 _ _ _)⟩ rfl;refine B5 hi (Ai hgo) (At cc.op) (.inl hex) (hn _ _ _ h hk ?_ rfl);show E.relF _ _ _ _ _ _;rw [(Bq _ _ _).1,(Bq _ _ _).2,Dj];exact key
end
end
end Go.Am
namespace Go.Proofs.YtabedohjkillfaaGreatDoor
section
open Go.Am
attribute [local simp] cells Af mkv Aq B6 under dem dem1 eB
theorem c_CloneI {l:List Int} (hne:l≠[]) (hl:l.length≤2^24):CO Tryz.prog Ev [As l] 1 (l.map I):=by
 refine CO_of mixed Gz.2 (by simp) fun S ok=>?_;refine TsR rfl (A2 (A2 (Ae (SrN 1 rfl ?_))));refine Ib rfl fun b hb=>?_;obtain rfl:=hb (by simpa using hne);refine Sfn rfl (A7 rfl (A5 (A2 (Ae ?_))));refine Qt rfl fun blk=>SrN 1 rfl ?_;refine A25 (r:=0) (sz:=1) (ys:=l.map I) rfl rfl (by omega) (by simp;omega) (by simp;omega) (by simpa using hne) ?_;refine Sfn rfl (Ea ?_);exact ⟨7,rfl,rfl,by rw [Wd];exact ints_isD l⟩
theorem Ai2:C Tryz.prog Ev [As []] (As []):=by
 refine C_of mixed Gz.2 (by simp) fun S ok=>?_;refine TsR rfl (A2 (A2 (Ae (SrN 1 rfl ?_))));refine Ib rfl fun b hb=>?_;cases b with
 | true =>
   refine Sfn rfl (A9 rfl (TsR rfl ?_));exact Aa (s':=⟨[(2,As [])],[],[],[],false⟩) (Ad (.cons rfl (.nil 0 1) .nil) .nil .nil rfl rfl) (A8 rfl rfl rfl rfl trivial)
 | false =>
   refine Sfn rfl (A7 rfl (A5 (A2 (Ae ?_))));refine Qt rfl fun blk=>SrN 1 rfl ?_;refine Y7 (r:=0) (sz:=1) rfl ?_;exact Sfn rfl (A8 rfl rfl rfl rfl trivial)
structure Ps where
 cost:Int
 adds:List Int
structure Nf where
 lacks:List Int
 passes:List Ps
def eQ (p:Ps):V:=.agg [I p.cost,As p.adds]
def nfC (x:Nf):List V:=[As x.lacks,.slice 0 2 (x.passes.map eQ)]
attribute [local simp] eQ nfC As
def Vr (n:Nat) (p:Ps):Bool:=btw p.cost 1 1000&&decide (p.adds.length=n)&&!(p.adds.any fun n=>!btw n 0 100)
def nfOk (x:Nf):Bool:=decide (x.lacks.length≤16)&&decide (x.passes.length≤10)&&x.lacks.all (btw · 1 100)&&x.passes.all (Vr x.lacks.length)
theorem c_inf1 (n:Int):C Tryz.prog Pb [I n] (.bool (!btw n 0 100)):=by
 refine C_of mixed Om.2 (by simp) fun S ok=>?_;exact TsR rfl (TsC rfl (A3 rfl rfl (Fh n 0 100) (Sfn rfl (A8 rfl rfl rfl rfl trivial))))
theorem A1w {x:Nf} (hx:∀p∈x.passes,p.adds.length≤9223372036854775807):C Tryz.prog T9 [.agg (nfC x)] (I (if nfOk x then 0 else 74)):=by
 refine C_of mixed S8.2 (by simp) fun S ok=>?_;refine TsR rfl (A2 (TsR rfl (An rfl rfl (fun h1=>?_) (fun h1=>A5 ?_))))
 ·refine TsR rfl (A8 rfl rfl rfl ?_ trivial);have h1:(bif decide (((x.lacks.map I).length:Int)>16) then true else decide (((x.passes.map eQ).length:Int)>10))=true:=h1;have:nfOk x=false:=by
   unfold nfOk;by_cases a1:x.lacks.length≤16
   ·by_cases a2:x.passes.length≤10
    ·simp at h1;omega
    ·simp [a2]
   ·simp [a1]
  rw [this];rfl
 have h1:(bif decide (((x.lacks.map I).length:Int)>16) then true else decide (((x.passes.map eQ).length:Int)>10))=false:=h1;have hnl:x.lacks.length≤16∧x.passes.length≤10:=by
  simp at h1;omega
 refine A2 (TsR rfl (A4 ?_));refine Bc (fun (k:Nat) st=>(k≤x.lacks.length∧(x.lacks.take k).all (btw · 1 100)=true)∧st=⟨[(1,.ptr 1 0),(18,As x.lacks),(19,I (x.lacks.length:Nat)),(20,I (k:Nat))],[(1,⟨nfC x,false⟩)],[],[],false⟩) (fun k=>x.lacks.length-k) 0 (Ad (.k rfl (.k rfl (.cons rfl (VLe.i (by simp)) (.k rfl .nil)))) (.k rfl .nil) .nil rfl rfl) ⟨⟨by omega,by simp⟩,rfl⟩ ?_;rintro k st ⟨⟨hk,hall⟩,rfl⟩;refine TsR rfl (By rfl (fun h2=>?_) (fun h2=>?_))
 ·have h2:k<x.lacks.length:=by simpa using h2
  refine Bg (A2 (A4 (A2 (Ae (Az 1 rfl (by simp;omega) ?_)))));rw [Aj h2];refine Sfn rfl ?_;refine TsC rfl (A3 rfl rfl (Fh x.lacks[k] 1 100) (Sfn rfl ?_));refine An rfl rfl (fun h3=>?_) (fun h3=>A5 (TrR rfl ?_))
  ·have h3:btw x.lacks[k] 1 100=false:=by simpa using h3
   refine TsR rfl (A8 rfl rfl rfl ?_ trivial);have:nfOk x=false:=by
    unfold nfOk;rw [Mj (p:=fun n=>btw n 1 100) h2 h3];simp
   rw [this];rfl
  ·have h3:btw x.lacks[k] 1 100=true:=by simpa using h3
   exact ⟨k+1,_,Ad (.k rfl (.k rfl (.k rfl (.cons rfl (VLe.i (w64 (by omega) (by omega))) .nil)))) (.k rfl .nil) .nil rfl rfl,⟨⟨h2,by rw [I5 h2,hall,h3];rfl⟩,rfl⟩,by omega⟩
 have h2:k=x.lacks.length:=by simp at h2;omega
 subst h2;rw [List.take_length] at hall;refine Ak (A2 (TsR rfl (A4 ?_)));refine Bc (fun (k:Nat) st=>(k≤x.passes.length∧(x.passes.take k).all (Vr x.lacks.length)=true)∧st=⟨[(1,.ptr 1 0),(29,.slice 0 2 (x.passes.map eQ)),(30,I (x.passes.length:Nat)),(31,I (k:Nat))],[(1,⟨nfC x,false⟩)],[],[],false⟩) (fun k=>x.passes.length-k) 0 (Ad (.k rfl (.k rfl (.cons rfl (VLe.i (by simp)) (.k rfl .nil)))) (.k rfl .nil) .nil rfl rfl) ⟨⟨by omega,by simp⟩,rfl⟩ ?_;rintro k st ⟨⟨hk,hallT⟩,rfl⟩;refine TsR rfl (By rfl (fun h2=>?_) (fun h2=>?_))
 ·have h2:k<x.passes.length:=by simpa using h2
  refine Bg (A2 (A4 (A2 (Ae (Az 1 rfl (by simp;omega) ?_)))));rw [Aj h2];refine Sfn rfl ?_;have hpl:=hx _ (List.getElem_mem h2);refine TsC rfl (A3 rfl rfl (Fh x.passes[k].cost 1 1000) (Srn rfl ?_));refine Ao rfl rfl rfl rfl (by simp) (fun _=>A7r hpl fun n _=>c_inf1 n) (Sfn rfl ?_);have hT:Vr x.lacks.length x.passes[k]=(btw x.passes[k].cost 1 1000&&decide (x.passes[k].adds.length=x.lacks.length)&&!(x.passes[k].adds.any fun n=>!btw n 0 100)):=rfl;have hne:((((x.passes[k].adds.map I).length:Int)) != (((x.lacks.map I).length:Int)))=!decide (x.passes[k].adds.length=x.lacks.length):=by
   by_cases h:x.passes[k].adds.length=x.lacks.length
   ·simp [h]
   ·have:¬((x.passes[k].adds.length:Int)=(x.lacks.length:Int)):=by omega
    simp [h,this]
  refine An rfl rfl (fun h3=>?_) (fun h3=>A5 (TrR rfl ?_))
  ·refine TsR rfl (A8 rfl rfl rfl ?_ trivial);have hf:Vr x.lacks.length x.passes[k]=false:=by
    rw [hT];revert h3;simp only [hne];cases btw x.passes[k].cost 1 1000<;>cases decide (x.passes[k].adds.length=x.lacks.length)<;>cases (x.passes[k].adds.any fun n=>!btw n 0 100)<;>first | (intro _;rfl) | (intro h;cases h)
   have:nfOk x=false:=by
    unfold nfOk;rw [Mj (p:=Vr x.lacks.length) h2 hf];simp
   rw [this];rfl
  ·have hf:Vr x.lacks.length x.passes[k]=true:=by
    rw [hT];revert h3;simp only [hne];cases btw x.passes[k].cost 1 1000<;>cases decide (x.passes[k].adds.length=x.lacks.length)<;>cases (x.passes[k].adds.any fun n=>!btw n 0 100)<;>first | (intro _;rfl) | (intro h;cases h)
   exact ⟨k+1,_,Ad (.k rfl (.k rfl (.k rfl (.cons rfl (VLe.i (w64 (by omega) (by omega))) .nil)))) (.k rfl .nil) .nil rfl rfl,⟨⟨h2,by rw [I5 h2,hallT,hf];rfl⟩,rfl⟩,by omega⟩
 have h2:k=x.passes.length:=by simp at h2;omega
 subst h2;rw [List.take_length] at hallT;refine Ak (TsR rfl (A8 rfl rfl rfl ?_ trivial));have:nfOk x=true:=by
  unfold nfOk;rw [hall,hallT,decide_eq_true hnl.1,decide_eq_true hnl.2];rfl
 rw [this];rfl
end
section
open Go.Am
attribute [local simp] cells Af mkv Aq B6 under dem dem1 eB eQ nfC As
theorem bit_shr (b k:Nat) (hk:k<64):((b:Int).fdiv (2^(min (k:Int).toNat 64))).tmod 2=if b.testBit k then 1 else 0:=by
 have e1:min (k:Int).toNat 64=k:=by omega
 rw [e1,Nat.testBit_eq_decide_div_mod_eq];have e2:((2:Int)^k)=((2^k:Nat):Int):=by simp
 rw [e2];generalize 2^k=m;rw [Int.fdiv_eq_ediv_of_nonneg _ (Int.natCast_nonneg _),←Int.natCast_ediv];generalize b/m=q;have:((q:Int)).tmod 2=((q%2:Nat):Int):=by
  rw [Int.tmod_eq_emod_of_nonneg (Int.natCast_nonneg _)];simp
 rw [this];have:=Nat.mod_lt q (show 0<2 by omega);by_cases h:q%2=1
 ·simp [h]
 ·have h0:q%2=0:=by omega
  simp [h0]
theorem bits_and (a b:Nat) (ha:a<2^62) (hb:b<2^62):Uc .and .i64 a b=((a &&& b:Nat):Int):=by
 have hlt:a &&& b<2^62:=Nat.lt_of_le_of_lt Nat.and_le_left ha;show IntKind.wrap .i64 ((BitVec.ofInt 64 (a:Int) &&& BitVec.ofInt 64 (b:Int)).toNat:Int)=_;have e:(BitVec.ofInt 64 (a:Int) &&& BitVec.ofInt 64 (b:Int)).toNat=a &&& b:=by
  rw [BitVec.toNat_and,BitVec.ofInt_natCast,BitVec.ofInt_natCast,BitVec.toNat_ofNat,BitVec.toNat_ofNat,Nat.mod_eq_of_lt (by omega),Nat.mod_eq_of_lt (by omega)]
 rw [e,w64 (by omega) (by omega)]
theorem bit_shl (k:Nat) (hk:k≤61):IntKind.wrap .i64 (1*2^(min (k:Int).toNat 64))=((2^k:Nat):Int):=by
 have e1:min (k:Int).toNat 64=k:=by omega
 have h:2^k≤2^61:=Nat.pow_le_pow_right (by omega) hk;rw [e1,Int.one_mul];have e2:((2:Int)^k)=((2^k:Nat):Int):=by simp
 rw [e2];generalize 2^k=m at h;rw [w64 (by omega) (by omega)]
def Dq (b:Nat):List Nat:=(List.range 10).filter fun i=>b.testBit i
def Wu (l:List Nat):List Int:=l.map fun (i:Nat)=>(i:Int)
def Be (b:Nat):List Int:=Wu (Dq b)
theorem Nd (b:Nat):C Tryz.prog A5t [I (b:Nat)] (As (Be b)):=by
 refine C_of mixed A3l.2 (by simp) fun S ok=>?_;refine TsR rfl (TsR rfl (A2 (TsR rfl (A4 ?_))));refine Bc (fun (k:Nat) st=>k≤10∧st=⟨[(0,I (b:Nat)),(3,.slice 17 1 ((Wu ((List.range k).filter fun i=>b.testBit i)).map I)),(5,I (k:Nat))],[],[(16,(Wu ((List.range k).filter fun i=>b.testBit i)).length,1,3)],[],false⟩) (fun k=>10-k) 0 (Ad (.k rfl (.cons rfl (.nil 17 1) (.k rfl .nil))) .nil (.new rfl .nil) rfl rfl) ⟨by omega,rfl⟩ ?_;rintro k st ⟨hk,rfl⟩;refine TsR rfl (By rfl (fun h1=>?_) (fun h1=>?_))
 ·have h1:k<10:=by
   have h1:decide ((k:Int)<10)=true:=h1;simp at h1;omega
  have hlen:(Wu ((List.range k).filter fun i=>b.testBit i)).length≤10:=by
   have:=List.length_filter_le (fun i=>b.testBit i) (List.range k);simp [Wu] at this ⊢;omega
  have e:((List.range (k+1)).filter fun i=>b.testBit i)=((List.range k).filter fun i=>b.testBit i)++(if b.testBit k then [k] else []):=by
   rw [List.range_succ,List.filter_append];congr 1;by_cases h:b.testBit k<;>simp [h]
  refine Bg (A2 (A4 (TsR rfl (TsR rfl ?_))));have hb:=bit_shr b k (by omega);refine An rfl rfl (fun h2=>?_) (fun h2=>A5 ?_)
  ·have h2:((((b:Int).fdiv (2^(min (k:Int).toNat 64))).tmod 2)==1)=true:=h2;have ht:b.testBit k=true:=by
    rw [hb] at h2;by_cases h:b.testBit k
    ·exact h
    ·simp [h] at h2
   refine Ss rfl (by simp;omega) (TrR rfl ?_);rw [ht] at e;refine ⟨k+1,_,Ad (.k rfl (.cons rfl (.of_eq ?_) (.cons rfl (VLe.i (w64 (by omega) (by omega))) .nil))) .nil (.cons ?_ .nil) rfl rfl,⟨h1,rfl⟩,by omega⟩
   ·rw [e];simp [Wu]
   ·rw [e];show some _=some _;simp [Wu]
  ·have h2:((((b:Int).fdiv (2^(min (k:Int).toNat 64))).tmod 2)==1)=false:=h2;have ht:b.testBit k=false:=by
    rw [hb] at h2;by_cases h:b.testBit k
    ·simp [h] at h2
    ·simpa using h
   refine TrR rfl ?_;rw [ht] at e;refine ⟨k+1,_,Ad (.k rfl (.cons rfl (.of_eq ?_) (.cons rfl (VLe.i (w64 (by omega) (by omega))) .nil))) .nil (.cons ?_ .nil) rfl rfl,⟨h1,rfl⟩,by omega⟩
   ·rw [e];simp
   ·rw [e];show some _=some _;simp [Wu]
 ·have h1:k=10:=by
   have h1:decide ((k:Int)<10)=false:=h1;simp at h1;omega
  subst h1;exact Ak (TsR rfl (A8 rfl rfl rfl rfl trivial))
def sumF (v:Int→Int) (l:List Int):Int:=(l.map v).foldl (·+·) 0
theorem Aeb {v:Int→Int} {m:Int}:∀(l:List Int) (a:Int),(∀n∈l,0≤v n∧v n≤m)→a≤(l.map v).foldl (·+·) a∧(l.map v).foldl (·+·) a≤a+l.length*m
 | [],a,_=>by simp
 | n::l,a,h=>by
   have h1:=h n (by simp);have h2:=Aeb l (a+v n) (fun r hr=>h r (by simp [hr]));simp only [List.map_cons,List.foldl_cons,List.length_cons];have:((l.length+1:Nat):Int)*m=l.length*m+m:=by push_cast;rw [Int.add_mul];omega
   omega
theorem c_sum {f:FuncId} {us:List V} {v:Int→Int} {l:List Int} (hpl:Plain us) (hl:l.length≤16) (hv:∀n∈l,0≤v n∧v n≤1000) (hf:∀n∈l,C Tryz.prog f (I n::us) (I (v n))) :
  C Tryz.prog A2g [As l,.func (.func f) [] us] (I (sumF v l)):=by
 refine C_of mixed A0y.2 (by simp) fun S ok=>?_;refine TsR rfl (TsR rfl (A2 (TsR rfl (A4 ?_))));refine Bc (fun (k:Nat) st=>k≤l.length∧st=⟨[(1,.func (.func f) [] us),(5,I (sumF v (l.take k))),(8,As l),(9,I (l.length:Nat)),(10,I (k:Nat))],[],[],[],false⟩) (fun k=>l.length-k) 0 (Ad (.k rfl (.k rfl (.k rfl (.cons rfl (VLe.i (by simp)) (.k rfl .nil))))) .nil .nil (by simp only [E4,List.all_cons,C7 hpl];rfl) rfl) ⟨by omega,rfl⟩ ?_;rintro k st ⟨hk,rfl⟩;refine TsR rfl (By rfl (fun h1=>?_) (fun h1=>?_))
 ·have h1:k<l.length:=by simpa using h1
  refine Bg (A2 (A4 (A2 (Ae (Az 1 rfl (by simp;omega) ?_)))));rw [Aj h1];refine Sfn rfl ?_;refine Ae (Srn rfl (Dr (us:=I l[k]::us) (ids:=[]) rfl ?_ (hf _ (List.getElem_mem h1)) (Sfn rfl (TrR rfl ?_))))
  ·show Jt _ (toDs _ us)=_;rw [hpl.d];rfl
  have hb:=Aeb (l.take k) 0 (v:=v) (m:=1000) (fun n hn=>hv n (List.mem_of_mem_take hn));have hb2:=hv _ (List.getElem_mem h1);have hlt:(l.take k).length=k:=by simp;omega
  rw [hlt] at hb;have e:sumF v (l.take (k+1))=sumF v (l.take k)+v l[k]:=by
   unfold sumF;rw [List.take_add_one,List.getElem?_eq_getElem h1,List.map_append,List.foldl_append];rfl
  refine ⟨k+1,_,Ad (.k rfl (.cons rfl (VLe.i ?_) (.k rfl (.k rfl (.cons rfl (VLe.i (w64 (by omega) (by omega))) .nil))))) .nil .nil (by simp only [E4,List.all_cons,C7 hpl];rfl) rfl,⟨h1,rfl⟩,by omega⟩;rw [e];unfold sumF;exact w64 (by omega) (by omega)
 ·have h1:k=l.length:=by simp at h1;omega
  subst h1;rw [List.take_length];exact Ak (TsR rfl (A8 rfl rfl rfl rfl trivial))
theorem Af0:Plain []:=⟨fun _=>rfl,fun _ _=>rfl⟩
theorem Ahv (n:Int):C Tryz.prog O4 [I n] (I n):=by
 refine C_of mixed Xx.2 (by simp) fun S ok=>?_;exact TsR rfl (TsR rfl (A8 rfl rfl rfl rfl trivial))
theorem Kb {x:Nf} (h:nfOk x=true):(x.lacks.length≤16∧x.passes.length≤10)∧(∀n∈x.lacks,1≤n∧n≤100)∧∀p∈x.passes,(1≤p.cost∧p.cost≤1000)∧p.adds.length=x.lacks.length∧∀n∈p.adds,0≤n∧n≤100:=by
 simp only [nfOk,Vr,Bool.and_eq_true,decide_eq_true_eq,List.all_eq_true,Bu,Bool.not_eq_true',List.any_eq_false,Bool.not_eq_true,Bool.not_eq_false'] at h;obtain ⟨⟨h1,h2⟩,h3⟩:=h;refine ⟨h1,h2,fun p hp=>⟨(h3 p hp).1.1,(h3 p hp).1.2,fun n hn=>?_⟩⟩;have:=(h3 p hp).2 n hn;simpa [Bu] using this
def p0:Ps:=⟨0,[]⟩
def Ws (x:Nf) (i:Nat):Int:=(x.passes.getD i p0).cost
def Gx (x:Nf) (b:Nat):Int:=sumF (fun i=>Ws x i.toNat) (Be b)
theorem mem_choice {b i:Nat}:i∈Dq b↔i<10∧b.testBit i=true:=by simp [Dq]
theorem bit_lt {b i m:Nat} (h:b<2^m) (hi:b.testBit i=true):i<m:=by
 rcases Nat.lt_or_ge i m with h1 | h1
 ·exact h1
 ·have:=Nat.testBit_lt_two_pow (i:=i) (Nat.lt_of_lt_of_le h (Nat.pow_le_pow_right (by omega) h1));rw [hi] at this;cases this
theorem Wt {b:Nat} {x:Nf} (h:b<2^x.passes.length) {n:Int} (hn:n∈Be b):∃i:Nat,n=(i:Nat)∧i<x.passes.length:=by
 obtain ⟨i,hi,rfl⟩:=List.mem_map.1 hn;exact ⟨i,rfl,bit_lt h (mem_choice.1 hi).2⟩
theorem A7k (b:Nat):(Dq b).length≤10:=by
 have:=List.length_filter_le (fun i=>b.testBit i) (List.range 10);simpa [Dq] using this
theorem L5 (b:Nat):(Be b).length≤10:=by
 have:=A7k b;simpa [Be,Wu] using this
theorem c_cost1 {x:Nf} {i:Nat} (hi:i<x.passes.length):C Tryz.prog Tv [I (i:Nat),.vptr (nfC x) 0] (I (Ws x i)):=by
 refine C_of mixed A3k.2 (by simp) fun S ok=>?_;refine TsR rfl (A2 (Ae (Az 4 rfl (by simp;omega) ?_)));rw [Aj hi];refine Sfn rfl (A8 rfl rfl rfl ?_ trivial);simp [D2,Ws,hi]
theorem Abo (x:Nf):Plain [.vptr (nfC x) 0]:=⟨fun _=>rfl,fun _ _=>rfl⟩
theorem c_cost {x:Nf} (hx:nfOk x=true) {b:Nat} (hb:b<2^x.passes.length):C Tryz.prog Adu [.agg (nfC x),I (b:Nat)] (I (Gx x b)):=by
 have hs:=Kb hx;have hC:∀n∈Be b,0≤Ws x n.toNat∧Ws x n.toNat≤1000:=fun n hn=>by
  obtain ⟨i,rfl,hi⟩:=Wt hb hn;have:=(hs.2.2 _ (List.getElem_mem hi)).1;simp [Ws,hi];omega
 have k:=c_sum (f:=Tv) (us:=[.vptr (nfC x) 0]) (v:=fun i=>Ws x i.toNat) (l:=Be b) (Abo x) (by have:=L5 b;omega) hC fun n hn=>by
  obtain ⟨i,rfl,hi⟩:=Wt hb hn;exact c_cost1 hi
 refine C_of mixed Abf.2 (by simp) fun S ok=>?_;refine TsR rfl (TsC rfl (A3 rfl rfl (Nd b) (Srn rfl (A3 rfl rfl k (Sfn rfl (A8 rfl rfl rfl rfl trivial))))))
end
section
open Go.Am
attribute [local simp] cells Af mkv Aq B6 under dem dem1 eB eQ nfC As
def Nz (x:Nf) (i:Nat):List Int:=(x.passes.getD i p0).adds
def K3 (c a:List Int):List Int:=List.zipWith (fun m n=>max 0 (m-n)) c a
def J7 (x:Nf) (l:List Nat):List Int:=l.foldl (fun c i=>K3 c (Nz x i)) x.lacks
def Aau (n:Nat) (c:List Int):Prop:=c.length=n∧∀m∈c,0≤m∧m≤100
theorem A68 {n:Nat} {c a:List Int} (hc:Aau n c) (ha:a.length=n∧∀m∈a,0≤m∧m≤100):Aau n (K3 c a):=by
 refine ⟨by simp [K3,hc.1,ha.1],fun m hm=>?_⟩;unfold K3 at hm;obtain ⟨i,hi,rfl⟩:=List.getElem_of_mem hm;simp only [List.length_zipWith] at hi;rw [List.getElem_zipWith];have h1:=hc.2 _ (List.getElem_mem (show i<c.length by omega));have h2:=ha.2 _ (List.getElem_mem (show i<a.length by omega));omega
theorem So {x:Nf} (hx:nfOk x=true) {i:Nat} (hi:i<x.passes.length):(Nz x i).length=x.lacks.length∧∀m∈Nz x i,0≤m∧m≤100:=by
 have:=(Kb hx).2.2 _ (List.getElem_mem hi);have e:Nz x i=x.passes[i].adds:=by simp [Nz,hi]
 rw [e];exact this.2
theorem Wa {x:Nf} (hx:nfOk x=true):∀(l:List Nat) (c:List Int),Aau x.lacks.length c→(∀i∈l,i<x.passes.length)→Aau x.lacks.length (l.foldl (fun c i=>K3 c (Nz x i)) c)
 | [],c,h,_=>h
 | i::l,c,h,hl=>Wa hx l _ (A68 h (So hx (hl i (by simp)))) fun j hj=>hl j (by simp [hj])
theorem J6 {x:Nf} (hx:nfOk x=true) {l:List Nat} (hl:∀i∈l,i<x.passes.length):Aau x.lacks.length (J7 x l) :=
 Wa hx l _ ⟨rfl,fun m hm=>by have:=(Kb hx).2.1 m hm;omega⟩ hl
theorem Sl {b m:Nat} (h:b<2^m):∀i∈Dq b,i<m:=fun i hi=>bit_lt h (mem_choice.1 hi).2
theorem c_rests0 {x:Nf} (hx:nfOk x=true) (h0:x.lacks=[]) {b:Nat} (hb:b<2^x.passes.length):C Tryz.prog Pa [.agg (nfC x),I (b:Nat)] (As []):=by
 have hcl:=L5 b;refine C_of mixed Vm.2 (by simp) fun S ok=>?_;have kc:C Tryz.prog Ev [As x.lacks] (As []):=by rw [h0];exact Ai2
 refine TsR rfl (TsC rfl (A3 rfl rfl kc (Sfn rfl ?_)));refine A2 (TsC rfl (A3 rfl rfl (Nd b) (Sfn rfl (A4 ?_))));refine Bc (fun (k:Nat) st=>k≤(Be b).length∧st=⟨[(2,.ptr 2 0),(5,As []),(14,As (Be b)),(15,I ((Be b).length:Nat)),(16,I (k:Nat))],[(2,⟨nfC x,false⟩)],[],[],false⟩) (fun k=>(Be b).length-k) 0 (Ad (.k rfl (.k rfl (.k rfl (.cons rfl (VLe.i (by simp)) (.k rfl .nil))))) (.k rfl .nil) .nil rfl rfl) ⟨by omega,rfl⟩ ?_;rintro k st ⟨hk,rfl⟩;refine TsR rfl (By rfl (fun h1=>?_) (fun h1=>?_))
 ·have h1:k<(Be b).length:=by simpa using h1
  obtain ⟨i,hi,hip⟩:=Wt hb (List.getElem_mem h1);refine Bg (A2 (A4 (A2 (Ae (Az 1 rfl (by simp;omega) ?_)))));rw [Aj h1,hi];refine Sfn rfl (A2 (Ae (Az 4 rfl (by simp;omega) ?_)));rw [Aj hip];refine Sfn rfl (A4 ?_);have ha:=(So hx hip).1;have e:Nz x i=x.passes[i].adds:=by simp [Nz,hip]
  rw [e,h0] at ha;have ha:x.passes[i].adds=[]:=List.length_eq_zero_iff.1 ha;rw [ha];refine Bd 1 (Ag ?_);refine TsR rfl (A2 (A7 rfl (Ak ?_)));refine TrR rfl ?_;exact ⟨k+1,_,Ad (.k rfl (.k rfl (.k rfl (.k rfl (.cons rfl (VLe.i (w64 (by omega) (by omega))) .nil))))) (.k rfl .nil) .nil rfl rfl,⟨h1,rfl⟩,by omega⟩
 ·have h1:k=(Be b).length:=by simp at h1;omega
  subst h1;exact Ak (TsR rfl (A8 rfl rfl rfl rfl trivial))
theorem Ac6 {α β:Type} (f:β→α→β) (l:List α) (z:β) {k:Nat} (h:k<l.length):(l.take (k+1)).foldl f z=f ((l.take k).foldl f z) l[k]:=by
 rw [List.take_add_one,List.getElem?_eq_getElem h,List.foldl_append];rfl
theorem c_rests1 {x:Nf} (hx:nfOk x=true) (h0:x.lacks≠[]) {b:Nat} (hb:b<2^x.passes.length):C Tryz.prog Pa [.agg (nfC x),I (b:Nat)] (As (J7 x (Dq b))):=by
 have hcl:=L5 b;have hsp:=Kb hx;have hcN:(Dq b).length=(Be b).length:=by simp [Be,Wu]
 have kc:=c_CloneI h0 (by omega);have hw:=Sl hb;refine C_of mixed Vm.2 (by simp) fun S ok=>?_;refine TsR rfl (A2 (Ae (Srn rfl (A87 rfl (fun _=>rfl) kc rfl (Sfn rfl ?_)))));refine A2 (TsC rfl (A3 rfl rfl (Nd b) (Sfn rfl (A4 ?_))));have hsm:∀k,k≤(Dq b).length→Aau x.lacks.length (J7 x ((Dq b).take k)):=fun k hk=>J6 hx fun i hi=>hw i (List.mem_of_mem_take hi);refine Bc (fun (k:Nat) st=>k≤(Be b).length∧st=⟨[(2,.ptr 2 0),(5,.bsl 12 0 1 x.lacks.length),(14,As (Be b)),(15,I ((Be b).length:Nat)),(16,I (k:Nat))],[(12,⟨(J7 x ((Dq b).take k)).map I,false⟩),(2,⟨nfC x,false⟩)],[],[],false⟩) (fun k=>(Be b).length-k) 0 (Ad (.k rfl (.cons rfl (.of_eq (by simp)) (.k rfl (.cons rfl (VLe.i (by simp)) (.k rfl .nil))))) (.cons rfl (by rw [Wd];exact LLe.refl _) (.k rfl .nil)) .nil (okI rfl) rfl) ⟨by omega,rfl⟩ ?_;rintro k st ⟨hk,rfl⟩;refine TsR rfl (By rfl (fun h1=>?_) (fun h1=>?_))
 ·have h1:k<(Be b).length:=by simpa using h1
  have h1N:k<(Dq b).length:=by omega
  have hip:=hw _ (List.getElem_mem h1N);have hi:(Be b)[k]=(((Dq b)[k]:Nat):Int):=by simp [Be,Wu]
  obtain ⟨i,ei⟩:∃i,(Dq b)[k]=i:=⟨_,rfl⟩;rw [ei] at hip hi;refine Bg (A2 (A4 (A2 (Ae (Az 1 rfl (by simp;omega) ?_)))));rw [Aj h1,hi];refine Sfn rfl (A2 (Ae (Az 4 rfl (by simp;omega) ?_)));rw [Aj hip];refine Sfn rfl (A4 ?_);have ha:=So hx hip;have e:Nz x i=x.passes[i].adds:=by simp [Nz,hip]
  have hst:J7 x ((Dq b).take (k+1))=K3 (J7 x ((Dq b).take k)) x.passes[i].adds:=by
   unfold J7;rw [Ac6 _ _ _ h1N,ei,e]
  have hs0:=hsm k (by omega);rw [e] at ha;generalize J7 x ((Dq b).take k)=c0 at hs0 hst;refine Bc (fun (j:Nat) st=>j≤x.passes[i].adds.length∧st=⟨[(2,.ptr 2 0),(5,.bsl 12 0 1 x.lacks.length),(14,As (Be b)),(15,I ((Be b).length:Nat)),(16,I (k:Nat)),(25,As x.passes[i].adds),(26,I (x.passes[i].adds.length:Nat)),(27,I (j:Nat))],[(12,⟨((K3 c0 x.passes[i].adds).take j++c0.drop j).map I,false⟩),(2,⟨nfC x,false⟩)],[],[],false⟩) (fun j=>x.passes[i].adds.length-j) 0 (Ad (.k rfl (.k rfl (.k rfl (.k rfl (.k rfl (.k rfl (.cons rfl (VLe.i ?_) (.k rfl .nil)))))))) (.cons rfl ?_ (.k rfl .nil)) .nil (okI rfl) rfl) ⟨by omega,rfl⟩ ?_
  ·show ((x.passes[i].adds.map I).length:Int)=_;rw [List.length_map]
  ·rw [List.take_zero,List.nil_append,List.drop_zero];exact LLe.refl _
  rintro j st ⟨hj,rfl⟩;have hrl:(K3 c0 x.passes[i].adds).length=x.passes[i].adds.length:=by simp [K3,hs0.1,ha.1]
  refine TsR rfl (By rfl (fun h2=>?_) (fun h2=>?_))
  ·have h2:j<x.passes[i].adds.length:=by simpa using h2
   have hj0:j<c0.length:=by rw [hs0.1,←ha.1];exact h2
   have hmt:((K3 c0 x.passes[i].adds).take j).length=j:=by rw [List.length_take];omega
   have hml:((K3 c0 x.passes[i].adds).take j++c0.drop j).length=x.lacks.length:=by rw [List.length_append,hmt,List.length_drop];have:=hs0.1;omega
   have hk0:0+(j:Int).toNat*1=j:=by omega
   have hdr:(((K3 c0 x.passes[i].adds).take j++c0.drop j).map I).drop j=I c0[j]::(c0.drop (j+1)).map I:=by
    rw [←List.map_drop,List.drop_append_of_le_length (by omega),List.drop_eq_nil_of_le (by omega),List.nil_append,List.drop_eq_getElem_cons hj0];rfl
   have hv:(K3 c0 x.passes[i].adds)[j]'(by omega)=max 0 (c0[j]-x.passes[i].adds[j]):=by simp [K3]
   have hb1:=hs0.2 _ (List.getElem_mem hj0);have hb2:=ha.2 _ (List.getElem_mem h2);have hnew:List.take j (((K3 c0 x.passes[i].adds).take j++c0.drop j).map I)++[I (if IntKind.wrap .i64 (c0[j]-x.passes[i].adds[j])>0 then IntKind.wrap .i64 (c0[j]-x.passes[i].adds[j]) else 0)]++List.drop (j+1) (((K3 c0 x.passes[i].adds).take j++c0.drop j).map I)=((K3 c0 x.passes[i].adds).take (j+1)++c0.drop (j+1)).map I:=by
    have e1:(((K3 c0 x.passes[i].adds).take j++c0.drop j).map I).drop (j+1)=(c0.drop (j+1)).map I:=by
     have:=congrArg (List.drop 1) hdr;rw [List.drop_drop] at this;simpa using this
    rw [Gp,w64 (n:=c0[j]-x.passes[i].adds[j]) (by omega) (by omega),e1,←List.map_take,List.take_append_of_le_length (by omega),List.take_take,Nat.min_self,List.take_add_one,List.getElem?_eq_getElem (by omega),hv];simp
   refine Bg (A2 (A4 (A2 (Ae (Az 2 rfl (by simp;omega) ?_)))));rw [Aj h2];refine Sfn rfl (Ae (Az 5 rfl (by simp;omega) ?_));rw [hk0];refine Az 1 rfl (by simp;omega) ?_;rw [hdr];refine Az 4 rfl (by simp;omega) ?_;rw [hk0];refine Al rfl (by simp;omega) ?_;refine TrR rfl ?_;refine ⟨j+1,_,Ad (.k rfl (.k rfl (.k rfl (.k rfl (.k rfl (.k rfl (.k rfl (.cons rfl (VLe.i (w64 (by omega) (by omega))) .nil)))))))) (.cons rfl ?_ (.k rfl .nil)) .nil (okI rfl) rfl,⟨h2,rfl⟩,by omega⟩;rw [←hnew];exact LLe.refl _
  ·have h2:j=x.passes[i].adds.length:=by simp at h2;omega
   subst h2;have hc:c0.length=x.passes[i].adds.length:=by rw [hs0.1,ha.1]
   have e1:(K3 c0 x.passes[i].adds).take x.passes[i].adds.length++c0.drop x.passes[i].adds.length=K3 c0 x.passes[i].adds:=by rw [List.take_of_length_le (by omega),List.drop_eq_nil_of_le (by omega),List.append_nil]
   rw [e1];refine Ak (TrR rfl ?_);exact ⟨k+1,_,Ad (.k rfl (.k rfl (.k rfl (.k rfl (.cons rfl (VLe.i (w64 (by omega) (by omega))) .nil))))) (.cons rfl (by rw [hst];exact LLe.refl _) (.k rfl .nil)) .nil (okI rfl) rfl,⟨h1,rfl⟩,by omega⟩
 ·have h1:k=(Be b).length:=by simp at h1;omega
  subst h1;rw [←hcN,List.take_length];refine Ak ?_;refine Aa (s':=⟨[(5,.bsl 12 0 1 x.lacks.length)],[(12,⟨(J7 x (Dq b)).map I,false⟩)],[],[],false⟩) (Ad (.k rfl .nil) (.k rfl .nil) .nil (okI rfl) rfl) ?_;have hs0:=J6 hx hw;refine Aa (Wk.bsl (t:=5) rfl rfl (by rw [←hs0.1];exact Zc _)) ?_;exact (TsR rfl (A8 rfl rfl rfl rfl trivial))
theorem c_rests {x:Nf} (hx:nfOk x=true) {b:Nat} (hb:b<2^x.passes.length):C Tryz.prog Pa [.agg (nfC x),I (b:Nat)] (As (J7 x (Dq b))):=by
 by_cases h0:x.lacks=[]
 ·have h:=c_rests0 hx h0 hb;have hs0:=(J6 hx (Sl hb)).1;rw [h0] at hs0;rw [List.length_eq_zero_iff.1 hs0];exact h
 ·exact c_rests1 hx h0 hb
def Ox (x:Nf) (b:Nat):Bool:=decide (sumF id (J7 x (Dq b))=0)
theorem c_covers {x:Nf} (hx:nfOk x=true) {b:Nat} (hb:b<2^x.passes.length):C Tryz.prog A5s [.agg (nfC x),I (b:Nat)] (.bool (Ox x b)):=by
 have hs0:=J6 hx (Sl hb);have hn:=(Kb hx).1.1;have k:=c_sum (f:=O4) (us:=[]) (v:=id) (l:=J7 x (Dq b)) Af0 (by rw [hs0.1];exact hn) (fun n h=>by have:=hs0.2 n h;simp only [id];omega) fun n _=>Ahv n;refine C_of mixed A3j.2 (by simp) fun S ok=>?_;refine TsR rfl (TsC rfl (A3 rfl rfl (c_rests hx hb) (Srn rfl (A3 rfl rfl k (Sfn rfl (A8 rfl rfl rfl ?_ trivial))))));show V.bool (Ox x b)=.bool (sumF id (J7 x (Dq b))==0);unfold Ox;by_cases h:sumF id (J7 x (Dq b))=0
 ·rw [h];rfl
 ·simp [h]
end
section
open Go.Am
attribute [local simp] cells Af mkv Aq B6 under dem dem1 eB eQ nfC As
theorem A7n (n:Int):C Tryz.prog Xd [I n] (.bool false):=by
 refine C_of mixed Vl.2 (by simp) fun S ok=>?_;refine TsR rfl (TsR rfl (A8 rfl rfl rfl ?_ trivial));show V.bool false=.bool (n != n);simp
def cmpI (a b:Int):Int:=if a<b then -1 else if a>b then 1 else 0
theorem c_Cmp (a b:Int):C Tryz.prog T7 [I a,I b] (I (cmpI a b)):=by
 refine C_of mixed S5.2 (by simp) fun S ok=>?_;refine TsR rfl (TsC rfl (A3 rfl rfl (A7n a) (Sfn rfl ?_)));refine TsC rfl (A3 rfl rfl (A7n b) (Sfn rfl ?_));refine A2 (TsR rfl (A7 rfl (A5 ?_)));refine A2 (TsR rfl (A7 rfl (A5 ?_)));refine A2 (TsR rfl (An rfl rfl (fun h=>?_) (fun h=>A5 ?_)))
 ·have h:a<b:=by
   have h:decide (a<b)=true:=h;simpa using h
  exact TsR rfl (A8 rfl rfl rfl (by unfold cmpI;rw [if_pos h];rfl) trivial)
 have h:¬a<b:=by
  have h:decide (a<b)=false:=h;simpa using h
 refine A2 (TsR rfl (An rfl rfl (fun h2=>?_) (fun h2=>A5 ?_)))
 ·have h2:a>b:=by
   have h2:decide (a>b)=true:=h2;simpa using h2
  exact TsR rfl (A8 rfl rfl rfl (by unfold cmpI;rw [if_neg h,if_pos h2];rfl) trivial)
 have h2:¬a>b:=by
  have h2:decide (a>b)=false:=h2;simpa using h2
 exact TsR rfl (A8 rfl rfl rfl (by unfold cmpI;rw [if_neg h,if_neg h2];rfl) trivial)
def cmpL:List Int→List Int→Int
 | [],[]=>0
 | [],_::_=>-1
 | _::_,[]=>1
 | a::l,b::m=>if cmpI a b≠0 then cmpI a b else cmpL l m
theorem Ad7 {l m:List Int} (hl:l.length≤1000000):C Tryz.prog Kf [As l,As m] (I (cmpL l m)):=by
 refine C_of mixed K5.2 (by simp) fun S ok=>?_;refine TsR rfl (A2 (TsR rfl (A4 ?_)));refine Bc (fun (k:Nat) st=>(k≤l.length∧k≤m.length∧cmpL l m=cmpL (l.drop k) (m.drop k))∧st=⟨[(0,As l),(1,As m),(9,As l),(10,I (l.length:Nat)),(11,I (k:Nat))],[],[],[],false⟩) (fun k=>l.length-k) 0 (Ad (.k rfl (.k rfl (.k rfl (.cons rfl (VLe.i (by simp)) (.k rfl .nil))))) .nil .nil rfl rfl) ⟨⟨by omega,by omega,by simp⟩,rfl⟩ ?_;rintro k st ⟨⟨hk,hkm,he⟩,rfl⟩;refine TsR rfl (By rfl (fun h1=>?_) (fun h1=>?_))
 ·have h1:k<l.length:=by simpa using h1
  refine Bg (A2 (A4 (A2 (Ae (Az 2 rfl (by simp;omega) ?_)))));rw [Aj h1];refine Sfn rfl (A2 (TsR rfl (An rfl rfl (fun h2=>?_) (fun h2=>A5 ?_))))
  ·have h2:k=m.length:=by
    have h2:decide ((k:Int)≥((m.map I).length:Int))=true:=h2;simp at h2;omega
   refine TsR rfl (A8 rfl rfl rfl ?_ trivial);rw [he,h2,List.drop_length,List.drop_eq_getElem_cons (by omega)];rfl
  have h2:k<m.length:=by
   have h2:decide ((k:Int)≥((m.map I).length:Int))=false:=h2;simp at h2;omega
  refine A2 (Ae (Az 3 rfl (by simp;omega) ?_));rw [Aj h2];refine Sfn rfl (TsC rfl (A3 rfl rfl (c_Cmp l[k] m[k]) (Sfn rfl ?_)));have hd:cmpL l m=if cmpI l[k] m[k]≠0 then cmpI l[k] m[k] else cmpL (l.drop (k+1)) (m.drop (k+1)):=by
   rw [he,List.drop_eq_getElem_cons h1,List.drop_eq_getElem_cons h2];rfl
  refine TsR rfl (An rfl rfl (fun h3=>?_) (fun h3=>A5 (TrR rfl ?_)))
  ·have h3:cmpI l[k] m[k]≠0:=by
    have h3:(cmpI l[k] m[k] != 0)=true:=h3;simpa using h3
   rw [if_pos h3] at hd;exact TsR rfl (A8 rfl rfl rfl (by rw [hd];rfl) trivial)
  ·have h3:¬cmpI l[k] m[k]≠0:=by
    have h3:(cmpI l[k] m[k] != 0)=false:=h3;simpa using h3
   rw [if_neg h3] at hd;exact ⟨k+1,_,Ad (.k rfl (.k rfl (.k rfl (.k rfl (.cons rfl (VLe.i (w64 (by omega) (by omega))) .nil))))) .nil .nil rfl rfl,⟨⟨h1,h2,hd⟩,rfl⟩,by omega⟩
 ·have h1:k=l.length:=by simp at h1;omega
  subst h1;rw [List.drop_length] at he;refine Ak (A2 (TsR rfl (An rfl rfl (fun h2=>?_) (fun h2=>A5 ?_))))
  ·have h2:l.length<m.length:=by
    have h2:decide (((l.map I).length:Int)<((m.map I).length:Int))=true:=h2;simpa using h2
   refine TsR rfl (A8 rfl rfl rfl ?_ trivial);rw [he,List.drop_eq_getElem_cons h2];rfl
  ·have h2:m.length=l.length:=by
    have h2:decide (((l.map I).length:Int)<((m.map I).length:Int))=false:=h2;simp at h2;omega
   refine TsR rfl (A8 rfl rfl rfl ?_ trivial);rw [he,←h2,List.drop_length];rfl
def Hv (x:Nf) (b o:Nat):Bool :=
 if Gx x b≠Gx x o then decide (Gx x b<Gx x o)
 else if (Be b).length≠(Be o).length then decide ((Be b).length<(Be o).length)
 else decide (cmpL (Be b) (Be o)<0)
def Aec (x:Nf) (wo b:Nat):Bool:=decide (b &&& wo≠0)||!Ox x b
def Dt (x:Nf) (wo:Nat) (p:Nat×Bool) (b:Nat):Nat×Bool:=if Aec x wo b then p else if !p.2 then (b,true) else if Hv x b p.1 then (b,true) else p
def A4t (x:Nf) (wo:Nat):Nat×Bool:=(List.range (2^x.passes.length)).foldl (Dt x wo) (0,false)
theorem Qg {L:List Int} {k:Nat} (h:k<L.length) {v:Int} (hv:L[k]=v):(L.map I).drop k=I v::(L.map I).drop (k+1):=by
 rw [List.drop_eq_getElem_cons (by simpa using h)];simp [hv]
theorem A60 {L:List Int} {k:Nat} (h:k<L.length) (v:Int):Aq (L.map I) k [I v]=(L.set k v).map I:=by
 unfold Aq;rw [List.set_eq_take_append_cons_drop,if_pos h];simp
theorem c_best {x:Nf} (hx:nfOk x=true) {wo:Nat} (hwo:wo<2^62):C Tryz.prog Adw [.agg (nfC x),I (wo:Nat)] (.tuple [I ((A4t x wo).1:Nat),.bool (A4t x wo).2]):=by
 have hm:=(Kb hx).1.2;have hm2:2^x.passes.length≤1024:=Nat.pow_le_pow_right (n:=2) (by omega) hm;refine C_of mixed Abh.2 (by simp) fun S ok=>?_;refine TsR rfl (TsR rfl (TsR rfl (A2 (TsR rfl (A4 ?_)))));refine Bc (α:=Nat×List Int) (fun p st=>(p.1≤2^x.passes.length∧p.2.length=1024∧(((List.range p.1).foldl (Dt x wo) (0,false)).2=true→((List.range p.1).foldl (Dt x wo) (0,false)).1<p.1∧p.2[((List.range p.1).foldl (Dt x wo) (0,false)).1]?=some (Gx x ((List.range p.1).foldl (Dt x wo) (0,false)).1))) ∧
   st=⟨[(1,I (wo:Nat)),(2,.ptr 2 0),(6,.ptr 6 0),(7,I (((List.range p.1).foldl (Dt x wo) (0,false)).1:Nat)),(8,.bool ((List.range p.1).foldl (Dt x wo) (0,false)).2),(15,I ((2^x.passes.length:Nat):Int)),(16,I (p.1:Nat))],[(6,⟨p.2.map I,false⟩),(2,⟨nfC x,false⟩)],[],[],false⟩) (fun p=>2^x.passes.length-p.1) (0,List.replicate 1024 0)
  (Ad (.k rfl (.k rfl (.k rfl (.k rfl (.k rfl (.cons rfl (VLe.i ?_) (.k rfl .nil))))))) (.cons rfl ?_ (.k rfl .nil)) .nil (okI rfl) rfl) ⟨⟨Nat.zero_le _,by simp,fun h=>by cases h⟩,rfl⟩ ?_
 ·show IntKind.wrap .i64 (1*2^(min ((x.passes.map eQ).length:Int).toNat 64))=_;rw [List.length_map];exact bit_shl _ (by omega)
 ·rw [List.map_replicate];exact LLe.refl _
 rintro ⟨b,L⟩ st ⟨⟨hk,hL,hout⟩,rfl⟩;simp only at hk hL hout;obtain ⟨⟨o,so⟩,hos⟩:∃p,(List.range b).foldl (Dt x wo) (0,false)=p:=⟨_,rfl⟩;rw [hos] at hout;simp only at hout;refine TsR rfl (By rfl (fun h1=>?_) (fun h1=>?_));rotate_left
 ·have h1:b=2^x.passes.length:=by
   have h1:decide ((b:Int)<((2^x.passes.length:Nat):Int))=false:=h1;rw [decide_eq_false_iff_not,Int.ofNat_lt] at h1;omega
  subst h1;refine Ak (TsR rfl (A8 rfl rfl rfl ?_ trivial));rfl
 have h1:b<2^x.passes.length:=by
  have h1:decide ((b:Int)<((2^x.passes.length:Nat):Int))=true:=h1;rw [decide_eq_true_eq,Int.ofNat_lt] at h1;exact h1
 have hb62:b<2^62:=by omega
 have hfold:(List.range (b+1)).foldl (Dt x wo) (0,false)=Dt x wo (o,so) b:=by
  rw [List.range_succ,List.foldl_append,hos];rfl
 obtain ⟨p',hp'⟩:∃p',Dt x wo (o,so) b=p':=⟨_,rfl⟩;obtain ⟨L',hL'⟩:∃L',(if Aec x wo b then L else L.set b (Gx x b))=L':=⟨_,rfl⟩;have hfin:L'.length=1024∧(p'.2=true→p'.1<b+1∧L'[p'.1]?=some (Gx x p'.1)):=by
  subst hp' hL';unfold Dt;by_cases hs:Aec x wo b=true
  ·rw [if_pos hs,if_pos hs];exact ⟨hL,fun h=>by have:=hout h;exact ⟨by simp only;omega,this.2⟩⟩
  ·rw [if_neg hs,if_neg hs];have hbs:(L.set b (Gx x b))[b]?=some (Gx x b):=by rw [List.getElem?_set_self (by omega)]
   refine ⟨by rw [List.length_set];exact hL,fun h=>?_⟩;cases so with
   | false=>exact ⟨by simp,by simpa using hbs⟩
   | true =>
     simp only [Bool.not_true,Bool.false_eq_true,if_false] at h ⊢;by_cases hbt:Hv x b o=true
     ·rw [if_pos hbt];exact ⟨by simp only;omega,hbs⟩
     ·rw [if_neg hbt];have h2:=hout rfl;exact ⟨by simp only;omega,by rw [List.getElem?_set_ne (by omega)];exact h2.2⟩
 rw [hos];refine Bg (Mm ⟨[(1,I (wo:Nat)),(2,.ptr 2 0),(6,.ptr 6 0),(7,I (p'.1:Nat)),(8,.bool p'.2),(15,I ((2^x.passes.length:Nat):Int)),(16,I (b:Nat))],[(6,⟨L'.map I,false⟩),(2,⟨nfC x,false⟩)],[],[],false⟩ (A4 ?_) (TrR rfl ?_));rotate_left
 ·refine ⟨(b+1,L'),_,Ad (.k rfl (.k rfl (.k rfl (.cons rfl (.of_eq (by rw [hfold,hp'])) (.cons rfl (.of_eq (by rw [hfold,hp'])) (.k rfl (.cons rfl (VLe.i (w64 (by omega) (by omega))) .nil))))))) (.k rfl (.k rfl .nil)) .nil (okI rfl) rfl,⟨⟨h1,hfin.1,?_⟩,rfl⟩,by simp only;omega⟩;simp only [hfold,hp'];exact hfin.2
 refine TsR rfl (A2 (TsC rfl (Ao rfl rfl rfl rfl (by simp) (fun _=>c_covers hx h1) (Sfn rfl ?_))));have hsk:(bif (Uc .and .i64 (b:Int) (wo:Int) != 0) then true else !(Ox x b))=Aec x wo b:=by
  rw [bits_and _ _ hb62 hwo];unfold Aec;by_cases h:b &&& wo=0
  ·simp [h]
  ·simp [h]
 refine An rfl rfl (fun h2=>?_) (fun h2=>A5 ?_)
 ·have h2:(bif (Uc .and .i64 (b:Int) (wo:Int) != 0) then true else !(Ox x b))=true:=h2;rw [hsk] at h2;have e1:p'=(o,so):=by rw [←hp'];unfold Dt;rw [if_pos h2]
  have e2:L'=L:=by rw [←hL',if_pos h2]
  subst e1 e2;exact Ak (Ad (.k rfl (.k rfl (.k rfl (.k rfl (.k rfl (.k rfl (.k rfl .nil))))))) (.k rfl (.k rfl .nil)) .nil (okI rfl) rfl)
 have h2:(bif (Uc .and .i64 (b:Int) (wo:Int) != 0) then true else !(Ox x b))=false:=h2;rw [hsk] at h2;have e2:L'=L.set b (Gx x b):=by rw [←hL',if_neg (by simp [h2])]
 have e1:p'=if !so then (b,true) else if Hv x b o then (b,true) else (o,so):=by rw [←hp'];unfold Dt;rw [if_neg (by simp [h2])]
 have hbL:b<L.length:=by omega
 have hk0:0+(b:Int).toNat*1=b:=by omega
 refine A2 (Ae (Srn rfl (A3 rfl rfl (c_cost hx h1) (Az 1 rfl (by simp;omega) ?_))));rw [hk0];refine Al rfl (by simp;omega) ?_;have hin:b<L'.length:=by rw [e2,List.length_set];omega
 refine Aa (s':=⟨[(1,I (wo:Nat)),(2,.ptr 2 0),(6,.ptr 6 0),(7,I (o:Nat)),(8,.bool so),(9,I (b:Nat)),(15,I ((2^x.passes.length:Nat):Int)),(16,I (b:Nat))],[(6,⟨L'.map I,false⟩),(2,⟨nfC x,false⟩)],[],[],false⟩) (Ad (.k rfl (.k rfl (.k rfl (.k rfl (.k rfl (.k rfl (.k rfl (.k rfl .nil)))))))) (.cons rfl (by rw [e2,←A60 hbL];exact LLe.refl _) (.k rfl .nil)) .nil (okI rfl) rfl) ?_;refine A2 (TsR rfl (An rfl rfl (fun h3=>?_) (fun h3=>A5 ?_)))
 ·have h3:(!so)=true:=h3;rw [if_pos h3] at e1;subst e1;refine TsR rfl (Ak ?_);exact Ad (.k rfl (.k rfl (.k rfl (.k rfl (.k rfl (.k rfl (.k rfl .nil))))))) (.k rfl (.k rfl .nil)) .nil (okI rfl) rfl
 have h3:(!so)=false:=h3;obtain rfl:so=true:=by simpa using h3
 have h4:=hout rfl;have hoL:o<L'.length:=by omega
 have hvb:L'[b]=Gx x b:=by simp [e2]
 have hvo:L'[o]=Gx x o:=by
  have h5:=h4.2;rw [List.getElem?_eq_getElem (by omega)] at h5;simp only [e2];rw [List.getElem_set_ne (by omega)];simpa using h5
 have e1:p'=if Hv x b o then (b,true) else (o,true):=by rw [e1];rfl
 have yes:Hv x b o=true→p'=(b,true):=fun h=>by rw [e1,if_pos h]
 have no:Hv x b o=false→p'=(o,true):=fun h=>by rw [e1,if_neg (by simp [h])]
 refine TsC rfl (A3 rfl rfl (Nd b) (Srn rfl (A3 rfl rfl (Nd o) (Sfn rfl (A4 ?_)))));have ho0:0+(o:Int).toNat*1=o:=by omega
 refine A2 (Ab (Ah 2 rfl (by simp;omega) ?_));rw [hk0];refine Ah 1 rfl (by simp;omega) ?_;rw [Qg hin hvb];refine Ah 2 rfl (by simp;omega) ?_;rw [ho0];refine Ah 1 rfl (by simp;omega) ?_;rw [Qg hoL hvo];refine Krn rfl (.done (KrT ?_));refine An rfl rfl (fun h5=>?_) (fun h5=>?_)
 ·have h5:(Gx x b != Gx x o)=true:=h5;have h5:Gx x b≠Gx x o:=by simpa using h5
  have hbt:Hv x b o=decide (Gx x b<Gx x o):=by unfold Hv;rw [if_pos h5]
  refine A2 (Ab (Ah 2 rfl (by simp;omega) ?_));rw [hk0];refine Ah 1 rfl (by simp;omega) ?_;rw [Qg hin hvb];refine Ah 2 rfl (by simp;omega) ?_;rw [ho0];refine Ah 1 rfl (by simp;omega) ?_;rw [Qg hoL hvo];refine Krn rfl (.done (KrT ?_));refine An rfl rfl (fun h6=>?_) (fun h6=>A5 ?_)
  ·have h6:decide (Gx x b<Gx x o)=true:=h6;rw [yes (by rw [hbt,h6])];refine TrR rfl ?_;exact Ad (.k rfl (.k rfl (.k rfl (.k rfl (.k rfl (.k rfl (.k rfl .nil))))))) (.k rfl (.k rfl .nil)) .nil (okI rfl) rfl
  ·have h6:decide (Gx x b<Gx x o)=false:=h6;rw [no (by rw [hbt,h6])];exact Ad (.k rfl (.k rfl (.k rfl (.k rfl (.k rfl (.k rfl (.k rfl .nil))))))) (.k rfl (.k rfl .nil)) .nil (okI rfl) rfl
 have h5:(Gx x b != Gx x o)=false:=h5;have h5:¬Gx x b≠Gx x o:=by simpa using h5
 have hlens:∀c:Nat,(((Be c).map I).length:Int)=((Be c).length:Int):=fun c=>by rw [List.length_map]
 refine TsR rfl (An rfl rfl (fun h6=>?_) (fun h6=>?_))
 ·have h6:((((Be b).map I).length:Int) != (((Be o).map I).length:Int))=true:=h6;have h6:(Be b).length≠(Be o).length:=by
   rw [hlens,hlens] at h6;intro h;rw [h] at h6;simp at h6
  have hbt:Hv x b o=decide ((Be b).length<(Be o).length):=by unfold Hv;rw [if_neg h5,if_pos h6]
  refine TsR rfl (An rfl rfl (fun h7=>?_) (fun h7=>A5 ?_))
  ·have h7:decide ((((Be b).map I).length:Int)<(((Be o).map I).length:Int))=true:=h7;rw [hlens,hlens,decide_eq_true_eq,Int.ofNat_lt] at h7;rw [yes (by rw [hbt,decide_eq_true h7])];refine TrR rfl ?_;exact Ad (.k rfl (.k rfl (.k rfl (.k rfl (.k rfl (.k rfl (.k rfl .nil))))))) (.k rfl (.k rfl .nil)) .nil (okI rfl) rfl
  ·have h7:decide ((((Be b).map I).length:Int)<(((Be o).map I).length:Int))=false:=h7;rw [hlens,hlens,decide_eq_false_iff_not,Int.ofNat_lt] at h7;rw [no (by rw [hbt,decide_eq_false h7])];exact Ad (.k rfl (.k rfl (.k rfl (.k rfl (.k rfl (.k rfl (.k rfl .nil))))))) (.k rfl (.k rfl .nil)) .nil (okI rfl) rfl
 have h6:((((Be b).map I).length:Int) != (((Be o).map I).length:Int))=false:=h6;have h6:¬(Be b).length≠(Be o).length:=by
  rw [hlens,hlens] at h6;simp at h6;omega
 have hbt:Hv x b o=decide (cmpL (Be b) (Be o)<0):=by unfold Hv;rw [if_neg h5,if_neg h6]
 refine TsC rfl (A3 rfl rfl (Ad7 (by have:=L5 b;omega)) (Sfn rfl ?_));refine An rfl rfl (fun h7=>?_) (fun h7=>A5 ?_)
 ·have h7:decide (cmpL (Be b) (Be o)<0)=true:=h7;rw [yes (by rw [hbt,h7])];refine TrR rfl ?_;exact Ad (.k rfl (.k rfl (.k rfl (.k rfl (.k rfl (.k rfl (.k rfl .nil))))))) (.k rfl (.k rfl .nil)) .nil (okI rfl) rfl
 ·have h7:decide (cmpL (Be b) (Be o)<0)=false:=h7;rw [no (by rw [hbt,h7])];exact Ad (.k rfl (.k rfl (.k rfl (.k rfl (.k rfl (.k rfl (.k rfl .nil))))))) (.k rfl (.k rfl .nil)) .nil (okI rfl) rfl
theorem bestN_lt (x:Nf) (wo:Nat):(A4t x wo).1<2^x.passes.length:=by
 have key:∀n,(((List.range n).foldl (Dt x wo) (0,false)).1<n∨((List.range n).foldl (Dt x wo) (0,false)).1=0):=by
  intro n
  induction n with
  | zero=>exact .inr rfl
  | succ n ih =>
    rw [List.range_succ,List.foldl_append];simp only [List.foldl_cons,List.foldl_nil];generalize (List.range n).foldl (Dt x wo) (0,false)=p at ih ⊢;unfold Dt;split
    ·omega
    ·split
     ·exact .inl (by simp only;omega)
     ·split
      ·exact .inl (by simp only;omega)
      ·omega
 have h:=key (2^x.passes.length);have hp:0<2^x.passes.length:=Nat.two_pow_pos _;unfold A4t;omega
def BestR (x:Nf):V:=if nfOk x then (if (A4t x 0).2 then .tuple [As (Be (A4t x 0).1),I (Gx x (A4t x 0).1),I 0] else .tuple [As [],I 0,I 4]) else .tuple [As [],I 0,I 74]
theorem c_Best {x:Nf} (hx:∀p∈x.passes,p.adds.length≤9223372036854775807):C Tryz.prog A02 [.agg (nfC x)] (BestR x):=by
 have kc:=A1w hx;unfold BestR;refine C_of mixed Abk.2 (by simp) fun S ok=>?_;refine TsR rfl ?_;by_cases hk:nfOk x=true;rotate_left
 ·rw [if_neg hk] at kc ⊢;refine A2 (TsC rfl (A3 rfl rfl kc (Sfn rfl (TsR rfl (A9 rfl (TsR rfl ?_))))));exact Aa (s':=⟨[(2,As []),(3,I 0),(4,I 74)],[],[],[],false⟩) (Ad (.cons rfl (.nil 0 1) (.k rfl (.k rfl .nil))) .nil .nil rfl rfl) (A8 rfl rfl rfl rfl trivial)
 rw [if_pos hk] at kc ⊢;refine A2 (TsC rfl (A3 rfl rfl kc (Sfn rfl (TsR rfl (A7 rfl (A5 ?_))))));have kb:=c_best (wo:=0) hk (by omega);have hlt:=bestN_lt x 0;obtain ⟨⟨o,so⟩,hos⟩:∃p,A4t x 0=p:=⟨_,rfl⟩;rw [hos] at kb hlt ⊢;refine TsC rfl (A3 rfl rfl kb (Sfn rfl ?_));refine A2 (TsR rfl (An rfl rfl (fun h=>?_) (fun h=>A5 ?_)))
 ·have h:(!so)=true:=h;obtain rfl:so=false:=by simpa using h
  refine TsR rfl ?_;exact Aa (s':=⟨[(2,As []),(3,I 0),(4,I 4)],[],[],[],false⟩) (Ad (.cons rfl (.nil 0 1) (.k rfl (.k rfl .nil))) .nil .nil rfl rfl) (A8 rfl rfl rfl rfl trivial)
 ·have h:(!so)=false:=h;obtain rfl:so=true:=by simpa using h
  refine A2 (Ab (Krn rfl (A6 rfl rfl (Nd o) (Krn rfl (A6 rfl rfl (c_cost hk hlt) (Krn rfl (.done (KrT ?_))))))));exact A8 rfl rfl rfl rfl trivial
end
end Go.Proofs.YtabedohjkillfaaGreatDoor
namespace Go.Am
section
open Go.RowKit
def Kons (w:World) (φ:Nat→Nat) (K:List (Nat×List V)):Prop:=∀p∈K,ObOk w φ p.1 (.cells p.2)∧p.1<w.heap.size
def CA (P:Program) (f:FuncId) (A:Arena) (K:List (Nat×List V)) (args:List V) (r:V) (B:Arena):Prop :=
 C9 P f=true∧∀(w:World) (φ:Nat→Nat) (xs:Array Value),(∀b,w.heap.size≤b→φ b=0)→Gl w φ→Ar w φ (fun _=>False) A→Kons w φ K→(∀p∈K,p.1∉A.map (·.1))→RepL w φ args xs →
  Calls P f xs w fun e w'=>∃φ' x,e=.returned x∧RepR w' φ' r x∧Ar w' φ' (fun _=>False) B∧Moved (fun b=>b∈A.map (·.1)) w φ (fun b=>b∈B.map (·.1)) w' φ'
def SQ (w0:World) (φ0:Nat→Nat) (A:Arena):Sur:=fun _ _ M w φ=>Moved (fun b=>b∈A.map (·.1)) w0 φ0 M w φ
theorem Adh (w0:World) (φ0:Nat→Nat) (A:Arena) (hg:Gl w0 φ0):(SQ w0 φ0 A).ok:=⟨fun _ _ _ _ _ _ _ _ h k=>Moved.trans h k,fun _ _ _ _ _ h=>hg.mono h.ext⟩
def SQ1 (w0:World) (φ0:Nat→Nat) (A:Arena):Sur:=fun log stp M w φ =>
 ∃B,(log=[]∧B=A∨log=encA B)∧stp=false∧Ar w φ M B∧SQ w0 φ0 A [] false (fun b=>M b∨b∈B.map (·.1)) w φ
theorem Ts (w0:World) (φ0:Nat→Nat) (A:Arena) (hg:Gl w0 φ0):(SQ1 w0 φ0 A).ok:=by
 refine ⟨?_,fun _ _ _ _ _ ⟨_,_,_,_,h4⟩=>(Adh w0 φ0 A hg).gl _ _ _ _ _ h4⟩;intro log s M w φ M' w' φ' ⟨B,h1,h2,h3,h4⟩ mv;have:=(Ke (Adh w0 φ0 A hg) [] false).move (encA B) s M w φ M' w' φ' ⟨B,rfl,h2,h3,h4⟩ mv;obtain ⟨B',e1,e2,e3,e4⟩:=this;obtain rfl:=D3 e1;exact ⟨B,h1,e2,e3,e4⟩
def InK (E:Env) (K:List (Nat×List V)):Prop:=∀log stp M w φ,E.S log stp M w φ→Kons w φ K
theorem Mg (A:Arena):encA A≠[]:=by simp [encA]
theorem CA_of {P:Program} {f nt:Nat} {ic:IC} {rs:List ResultVar} (hmix:P.follows .mixedOrders=true) (hch:chkF P f=some (nt,ic,rs)) {A B:Arena} {K:List (Nat×List V)} {args:List V} {r:V} (hlen:args.length≤nt)
  (hT:∀(S:Sur) (ok:S.ok) (S1:Sur),InA (env0 P hmix nt S ok) S1 [] false→InK (env0 P hmix nt S ok) K→Tr (env0 P hmix nt S ok) none ic (qRet P rs r fun s=>s.log=encA B) {entry args with log:=encA A}):CA P f A K args r B:=by
 obtain ⟨fn,c,hf,hb,hnt,hc,rfl,hcall⟩:=L6 hch;refine ⟨hcall,fun w φ xs htop hgl hA hK hKA hrep=>?_⟩;have okI:=Adh w φ A hgl;have hInK:InK (env0 P hmix nt (SA (SQ w φ A) [] false) (Ke okI [] false)) K:=by
  rintro log stp M w' φ' ⟨B',_,_,_,hm⟩ p hp;obtain ⟨h1,h2⟩:=hK p hp;have:=hm.old p.1 h2 (hKA p hp);exact ⟨h1.mono this.1 hm.ext,Nat.lt_of_lt_of_le h2 hm.size⟩
 have hT1:=hT (SA (SQ w φ A) [] false) (Ke okI [] false) (SQ w φ A) (⟨Sub.refl _,okI⟩) hInK;have e0:(fun b=>False∨b∈A.map (·.1))=fun b=>b∈A.map (·.1):=by funext b;simp
 have hT2:Tr (env0 P hmix nt (SQ1 w φ A) (Ts w φ A hgl)) none ic (qRet P fn.results.toList r fun s=>s.log=encA B) (entry args):=by
  intro c hc n a w1 g R Q' hq;obtain ⟨B0,h1,h2,h3,h4⟩:=R.1.sur;have hB0:B0=A:=by
   rcases h1 with ⟨_,h⟩ | h
   ·exact h
   ·exact absurd h.symm (Mg _)
  subst hB0;have R1:(env0 P hmix nt (SA (SQ w φ B0) [] false) (Ke okI [] false)).rel {entry args with log:=encA B0} a w1 g:=by
   refine ⟨{R.1 with sur:=⟨B0,rfl,rfl,h3,h4⟩},fun l hl=>⟨?_,trivial⟩,R.2.2⟩;intro log x M w φ xs hp;exact False.elim hp
  refine hT1 c hc n a w1 g R1 Q' fun e t a' w' h' hQ R' hy=>?_;refine hq e t a' w' h' hQ ?_ hy;obtain ⟨B',k1,k2,k3,k4⟩:=R'.1.sur;refine ⟨{R'.1 with sur:=⟨B',.inr k1,k2,k3,k4⟩},fun l hl=>⟨?_,trivial⟩,R'.2.2⟩;intro log x M w φ xs hp;exact False.elim hp
 refine (Sm (E:=env0 P hmix nt (SQ1 w φ A) (Ts w φ A hgl)) (φ:=φ) (y:=none) hf hb hc hnt hlen hrep.1 (fun i v x h1 h2=>⟨.data (hrep.2 i v x h1 h2),fun σ h=>Ap (hrep.2 i v x h1 h2)⟩)
  ⟨A,.inl ⟨rfl,rfl⟩,rfl,hA,by rw [e0];exact Moved.refl _ htop⟩ htop (fun _ h=>((by cases h))) hT2).mono ?_
 rintro e w' ⟨s',h',x,rfl,hr,⟨B',k1,k2,k3,k4⟩,ht,hk⟩;have hB:B'=B:=by
  rw [hk] at k1;rcases k1 with ⟨h,_⟩ | h
  ·exact absurd h (Mg _)
  ·exact (D3 h).symm
 subst hB;exact ⟨h'.φ,x,rfl,hr,⟨k3.nd,k3.ok,fun _ _ h=>h,k3.lt,k3.z⟩,⟨k4.ext,k4.old,k4.size,k4.os,k4.tape,k4.output,fun b hb=>k4.mine b (.inr hb),k4.top⟩⟩
section
variable {E:Env} {S0:Sur} {l0:List (List V)} {s0:Bool} {A:Arena} {stp:Bool} {σ:FSt} {a:Act} {w:World} {h:Gh}
theorem InA.moved {F A1 B:Arena} (hE:InA E S0 l0 s0) (R:E.relF (encA (F++A1)) stp σ a w h) {w':World} {φ':Nat→Nat} (m:Moved (fun b=>b∈A1.map (·.1)) w h.φ (fun b=>b∈B.map (·.1)) w' φ') (hB:Ar w' φ' (fun _=>False) B):E.relF (encA (F++B)) stp σ a w' {h with φ:=φ'}:=by
 obtain ⟨M1,hM1,hlt1,⟨A0,e,hs,hA,hS⟩,back⟩:=hE.sub _ _ _ _ _ R.1.sur R.1.mine;obtain rfl:=D3 e;have hnd:=hA.nd;rw [List.map_append,List.nodup_append] at hnd;have inA1:∀b,b∈A1.map (·.1)→b∈(F++A1).map (·.1):=fun b hb=>by rw [List.map_append];exact List.mem_append.2 (.inr hb)
 have own:∀b,M1 b→w'.heap[b]?=w.heap[b]?∧φ' b=h.φ b:=fun b hb=>m.old b (hlt1 b hb) fun hm=>by
  obtain ⟨p,hp,rfl⟩:=List.mem_map.1 (inA1 _ hm);exact hA.fr p hp hb
 have oldF:∀p∈F,p.1<w.heap.size∧p.1∉A1.map (·.1)∧(w'.heap[p.1]?=w.heap[p.1]?∧φ' p.1=h.φ p.1):=fun p hp=>by
  have h1:=hA.lt p (List.mem_append.2 (.inl hp));have h2:p.1∉A1.map (·.1):=fun h=>hnd.2.2 _ (List.mem_map.2 ⟨p,hp,rfl⟩) _ h rfl;exact ⟨h1,h2,m.old _ h1 h2⟩
 have ar:Ar w' φ' M1 (F++B):=by
  refine ⟨?_,fun p hp=>?_,fun p hp hM=>?_,fun p hp=>?_,fun p hp=>?_⟩
  ·rw [List.map_append,List.nodup_append];refine ⟨hnd.1,hB.nd,fun x hx y hy e=>?_⟩;subst e;obtain ⟨p,hp,rfl⟩:=List.mem_map.1 hx;obtain ⟨h1,h2,_⟩:=oldF p hp;rcases m.mine _ hy with h3 | h3
   ·exact h2 h3
   ·omega
  ·rcases List.mem_append.1 hp with hp | hp
   ·exact (hA.ok p (List.mem_append.2 (.inl hp))).mono (oldF p hp).2.2.1 m.ext
   ·exact hB.ok p hp
  ·rcases List.mem_append.1 hp with hp | hp
   ·exact hA.fr p (List.mem_append.2 (.inl hp)) hM
   ·rcases m.mine p.1 (List.mem_map.2 ⟨p,hp,rfl⟩) with h3 | h3
    ·obtain ⟨q,hq,e⟩:=List.mem_map.1 (inA1 _ h3);exact hA.fr q hq (e▸hM)
    ·have:=hlt1 _ hM;omega
  ·rcases List.mem_append.1 hp with hp | hp
   ·exact Nat.lt_of_lt_of_le (oldF p hp).1 m.size
   ·exact hB.lt p hp
  ·rcases List.mem_append.1 hp with hp | hp
   ·exact (oldF p hp).2.2.2.trans (hA.z p (List.mem_append.2 (.inl hp)))
   ·exact hB.z p hp
 have sa:SA S0 l0 s0 (encA (F++B)) stp M1 w' φ':=by
  refine ⟨F++B,rfl,hs,ar,hE.ok _ _ _ _ _ _ _ _ hS ⟨m.ext,fun b hb hn=>m.old b hb fun hm=>hn (.inr (inA1 b hm)),m.size,m.os,m.tape,m.output,fun b hb=>?_,m.top⟩⟩;rcases hb with hb | hb
  ·exact .inl (.inl hb)
  ·rw [List.map_append] at hb;rcases List.mem_append.1 hb with hb | hb
   ·exact .inl (.inr (by rw [List.map_append];exact List.mem_append.2 (.inl hb)))
   ·rcases m.mine b hb with h3 | h3
    ·exact .inl (.inr (inA1 b h3))
    ·exact .inr h3
 have sur':=back (encA (F++B)) stp w' φ' sa m.ext own m.size m.top m.os m.tape m.output;exact ⟨If R.1 m.ext (fun b hb=>own b (hM1 b hb)) m.size m.top sur',R.2⟩
theorem A05 (hE:InA E S0 l0 s0) {F A1 B:Arena} {K:List (Nat×List V)} {ro:Option Nat} {n i:Nat} {ops:Array Oper} {slots:List (Option Nat)} {o:Oper} {ins:Ins} (R:E.relF (encA (F++A1)) stp σ a w h) {f:FuncId} {vs us:List V} {ids:List Nat} {r:V} {os:List Operand} (cc:Comp E.P E.nt slots o ins os) (hd:toDs σ.b vs=some (us,ids)) (hC:CA E.P f A1 K us r B)
  (hK:∀h',E.relF (encA (F++A1)) stp ((freeze σ.b ids).foldl (fun τ p=>τ.set (.bx p.1) (.b p.2)) σ) a w h'→Kons w h'.φ K) (hKA:∀p∈K,p.1∉A1.map (·.1)) (xs:Array Value) (hl:vs.length=xs.size)
  (hr:∀(i:Nat) v x,vs[i]?=some v→xs[i]?=some x→Rep w h.φ h.β h.y.l v x) (hi:ops[i]?=some o) (hw:Region.wanted o (yielded ops a.tmps)=true) (hrun:(execOp a.eval o).run E.P w=.ok (.enter f xs) w)
  {Q:Exit→Act→World→Prop} {next:Act→World→Prop} (hn:∀a' w' h',E.relF (encA (F++B)) stp ((σ.eff {v:=r,wb:=freeze σ.b ids}).put ins.d r) a' w' h'→h'.y=h.y→next a' w'):wpOpIn (Dm ro) n E.P ops Q i next a w:=by
 unfold wpOpIn;simp only [hi,hw,if_true,Oper.wpIn];refine ⟨fun _ _=>trivial,?_⟩;rw [Oper.semAt_eq _ _ _ (At cc.op),hrun];simp only [Oper.uponIn];refine ⟨fun e=>by simp [Dm,Fence.wide] at e,?_⟩;obtain ⟨h1,R1,ext1,q1,q2,q3,hrep⟩:=De R.1 hd;have R1':E.relF (encA (F++A1)) stp ((freeze σ.b ids).foldl (fun τ p=>τ.set (.bx p.1) (.b p.2)) σ) a w h1:=⟨R1,by rw [q3];exact R.2⟩;have hAr:=hE.ar R1';have hnd:=hAr.nd;rw [List.map_append,List.nodup_append] at hnd;have arA:Ar w h1.φ (fun _=>False) A1:=⟨hnd.2.1,fun p hp=>hAr.ok p (List.mem_append.2 (.inr hp)),fun _ _ h=>h,fun p hp=>hAr.lt p (List.mem_append.2 (.inr hp)),fun p hp=>hAr.z p (List.mem_append.2 (.inr hp))⟩;refine (Cd (hC.2 w h1.φ xs R1.top (E.ok.gl _ _ _ _ _ R1.sur) arA (hK h1 R1') hKA (hrep xs hl hr))).mono ?_;rintro e w' ⟨φ',x,rfl,hres,hB,hm⟩;have R2:=hE.moved R1' hm hB;have hx:Rep w' φ' h1.β h1.y.l r x∧∀σ h w0,GrowV σ h w0 r x:=by
  cases hres with
  | data hh=>exact ⟨.data hh,fun σ h w0=>Ap hh⟩
  | tuple vs xs hl hh =>
    refine ⟨.tuple vs xs hl hh,fun σ h w0 j u z hu hz=>?_⟩;cases j with
    | zero=>simp [cells] at hu;subst hu;intro r' sz xs' e;cases e
    | succ j=>simp [cells] at hu
 have fin:Ok (σ.eff {v:=r,wb:=freeze σ.b ids}) {h1 with φ:=φ'} w' r x:=⟨hx.1,hx.2 _ _ _⟩;have R0:E.relF (encA (F++B)) stp σ a w h→True:=fun _=>trivial;refine hn _ _ {h1 with φ:=φ'} ⟨?_,?_⟩ (by simpa using q3)
 ·rw [cc.d];cases hd:o.dst with
  | none=>exact R2.1
  | some d=>exact R2.1.put (cc.dst d hd) fin.1 fin.2
 ·exact R2.2
theorem A55 (hE:InA E S0 l0 s0) {K:St→Prop} {Ks:List (Nat×List V)} {s:St} {d:Option Nat} {f:FuncId} {xs:List X} {rest:List Ins} {vs first cap us:List V} {ids:List Nat} {r:V} {F A1 B:Arena} (hx:evXs s.env xs=some (.func (.func f) first cap::vs)) (hd:toDs s.fs.b (first++vs++cap)=some (us,ids)) (hl:s.log=encA (F++A1))
  (hC:CA E.P f A1 Ks us r B) (hKs:(∀p∈Ks,(p.1,Ob.cells p.2)∈F)∨InK E Ks∧∀p∈Ks,p.1∉A1.map (·.1))
  (hk:Steps E rest K {(s.eff {v:=r,wb:=freeze s.fs.b ids}).put d r with log:=encA (F++B)}):Steps E (⟨d,.callv,xs,none⟩::rest) K s:=by
 refine Step1.raw fun slots ops o i ro n a w h hc hs hi R Q next hn=>?_
 obtain ⟨os,cc⟩:=Ba hc;have hgo:=Au cc rfl;obtain ⟨c,t,e1,e2,rfl⟩:=Io cc.op;have hO:=B9 R.1 cc.xs (Ay hx);have R':E.relF (encA (F++A1)) s.stp s.fs a w h:=by rw [←hl];exact R
 have hAr:=hE.ar R';have hnd:=hAr.nd;rw [List.map_append,List.nodup_append] at hnd;cases hO with
 | cons o1 o2 =>
   obtain ⟨f',c',ef,hf,hc',h1,h2⟩:=Kv o1;obtain ⟨l1,l2⟩:=Do o2;obtain ⟨m1,m2⟩:=arr3 hf hc' l1 h1 h2 l2;refine A05 hE R' cc hd hC (fun h' R1=>?_) (fun p hp=>?_) _ m1 m2 hi (Ai hgo) (Lx hC.1 e2 e1 ef) fun a' w' h' R2 hy=>hn _ a' w' h' hk ?_ hy
   ·rcases hKs with hKs | hKs
    ·intro p hp;have:=(hE.ar R1);exact ⟨this.ok _ (List.mem_append.2 (.inl (hKs p hp))),this.lt _ (List.mem_append.2 (.inl (hKs p hp)))⟩
    ·exact hKs.1 _ _ _ _ _ R1.1.sur
   ·rcases hKs with hKs | hKs
    ·exact fun h=>hnd.2.2 _ (List.mem_map.2 ⟨_,hKs p hp,rfl⟩) _ h rfl
    ·exact hKs.2 p hp
   ·show E.relF _ _ _ _ _ _;have e:({(s.eff {v:=r,wb:=freeze s.fs.b ids}).put d r with log:=encA (F++B)}:St).fs=((s.fs.eff {v:=r,wb:=freeze s.fs.b ids}).put d r):=by
     cases d with
     | none=>exact Gc s _
     | some d=>show ((s.eff _).put (some d) r).fs=_;rw [Dj,Gc];rfl
    have e2:({(s.eff {v:=r,wb:=freeze s.fs.b ids}).put d r with log:=encA (F++B)}:St).stp=s.stp:=by
     show ((s.eff _).put d r).stp=_;rw [(Bq _ _ _).2,(G3 _ _).2]
    rw [e,e2];exact R2
end
end
section
open Go.RowKit
theorem Afe {P:Program} {o:Oper} {os:List Operand} {zs:List V} (hk:opK P o.op=some (.alloc zs,os)):∃e i z,o.op=.alloc e∧P.info? e=some i∧i.zero=some z∧K9 z.cells.toList=some zs∧os=[]:=by
 replace hk:=Dw hk (by simp [Dv]);cases ho:o.op<;>rw [ho] at hk<;>simp only [opK0] at hk<;>(try (cases hk;done))<;>(try (repeat' (split at hk<;>(try (cases hk;done)))))
 all_goals first
  | (simp only [Option.map_eq_some_iff,Prod.mk.injEq,K.alloc.injEq] at hk;obtain ⟨m,hm,rfl,rfl⟩:=hk;exact ⟨_,_,_,rfl,by assumption,by assumption,hm,rfl⟩)
  | (simp only [Option.map_eq_some_iff,Prod.mk.injEq] at hk;obtain ⟨_,_,h1,_⟩:=hk;cases h1;done)
  | (simp only [E7] at hk;repeat' (split at hk<;>(try (cases hk;done))))
section
variable {E:Env} {S0:Sur} {l0:List (List V)} {s0:Bool} {A:Arena}
theorem E0 (hE:InA E S0 l0 s0) {K:St→Prop} {s:St} {d:Nat} {zs:List V} {rest:List Ins} (hl:s.log=encA A)
  (hk:∀b,b∉A.map (·.1)→Steps E rest K {s.put (some d) (.rptr b 0) with log:=encA ((b,.cells zs)::A)}):Steps E (⟨some d,.alloc zs,[],none⟩::rest) K s:=by
 refine Step1.raw fun slots ops o i ro n a w h hc hs hi R Q next hn=>?_
 obtain ⟨os,cc⟩:=Ba hc;obtain ⟨e,ie,z,ho,hie,hz,hzs,rfl⟩:=Afe cc.op;have R':E.relF (encA A) s.stp s.fs a w h:=by rw [←hl];exact R
 have hq:∀φ,zs.length=z.cells.toList.length∧∀(j:Nat) v x,zs[j]?=some v→z.cells.toList[j]?=some x→RepD (w.alloc (.cells z.cells e)) φ v x∧Af v=true:=fun φ=>Ft hzs;obtain ⟨R2,hnm⟩:=hE.fresh R' (.cells z.cells e) (.cells zs) (fun _=>⟨z.cells,e,heap_alloc_new w _,by have:=(hq h.φ).1;simp at this;omega,fun j v x hv hx=>(hq h.φ).2 j v x hv (by simpa using hx)⟩);refine B5 hi (Ai (Au cc rfl)) (At cc.op) (.inl ?_) (hn _ _ _ h (hk _ hnm) (Fc cc R2 (.data (.rptr _ _)) rfl) rfl);simp [execOp,ho,Instr.alloc,zeroValue,typeInfo,hie,hz,newVar,newRow]
theorem I7 (hE:InA E S0 l0 s0) {K:St→Prop} {s:St} {x y:X} {rest:List Ins} {blk off:Nat} {cs:List V} {v:V} (hx:evXs s.env [x,y]=some [.rptr blk off,v]) (hl:s.log=encA A) (hA:(blk,.cells cs)∈A) (hoff:off<cs.length) (hv:toD s.fs.b 6 v=some (v,[])) (hsc:Af v=true)
  (hk:Steps E rest K {s with log:=encA (setA A blk (.cells (cs.set off v)))}):Steps E (⟨none,.store 1,[x,y],none⟩::rest) K s:=by
 refine Step1.raw fun slots ops o i ro n a w h hc hs hi R Q next hn=>?_
 obtain ⟨os,cc⟩:=Ba hc;have hgo:=Au cc rfl;have hdf:=At cc.op;obtain ⟨t,p,q,e1,e2,rfl⟩:=K7 cc.op;obtain ⟨u,u',hu,o1,o2⟩:=(B9 R.1 cc.xs (Ay hx)).two;simp only [List.cons.injEq,and_true] at hu;obtain ⟨hu1,rfl⟩:=hu;subst hu1;have ep:=F5 o1;have R':E.relF (encA A) s.stp s.fs a w h:=by rw [←hl];exact R
 have hAr:=hE.ar R';obtain ⟨vs,et,h1,h2,h3⟩:=hAr.ok _ hA;have rv:RepD w h.φ v (a.eval q):=(Jn R.1 6 _ v _ [] hv (fun i hi=>by cases hi) o2.1).1;have hc1:(a.eval q).cells=#[a.eval q]:=(Cr o2.1 hsc).2;have hone:∀z∈[a.eval q],z.oneCell'=true:=fun z hz=>by
  obtain rfl:z=a.eval q:=by simpa using hz
  exact (Cr o2.1 hsc).1
 have hrun:=run_storeCells_at E.P blk off et [a.eval q] 0 vs w h1 (by simp;omega) hone;simp only [Nat.add_zero] at hrun;have R2:=hE.step R' (B:=setA A blk (.cells (cs.set off v))) (fun b hb hn=>setRow_other w blk b (vs.toList.take off++[a.eval q]++vs.toList.drop (off+[a.eval q].length)).toArray (fun e=>hn (e▸List.mem_map.2 ⟨_,hA,rfl⟩))) (by simp) rfl rfl rfl (fun p hp=>.inl (by rw [←C4 A blk (.cells (cs.set off v))];exact List.mem_map.2 ⟨p,hp,rfl⟩)) (fun p hp=>by rw [C4];exact List.mem_map.2 ⟨p,hp,rfl⟩) (by rw [C4];exact hAr.nd) (fun ext p hp=>by
    rcases Mz hp with ⟨e,e'⟩ | ⟨hne,hp⟩
    ·rw [e,e'];refine ⟨_,et,setRow_heap w blk vs _ et (0,0) h1,by simp;omega,fun j u z hu hz=>?_⟩;rw [List.getElem?_toArray,Ga (by simp;omega)] at hz;by_cases ej:j=off
     ·subst ej;rw [List.getElem?_set_self hoff] at hu;rw [if_neg (by omega),if_pos (by simp)] at hz;cases hu;simp at hz;subst hz;exact ⟨rv.mono ext,hsc⟩
     ·rw [List.getElem?_set_ne (fun h=>ej h.symm)] at hu;have hz':vs[j]?=some z:=by
       by_cases h5:j<off
       ·rw [if_pos h5] at hz;simpa using hz
       ·rw [if_neg h5,if_neg (by simp;omega)] at hz;simpa using hz
      exact ⟨(h3 j u z hu hz').1.mono ext,(h3 j u z hu hz').2⟩
    ·exact (hAr.ok p hp).mono (setRow_other w blk p.1 _ hne) ext) (fun p hp=>by
    have hk:p.1∈A.map (·.1):=by rw [←C4 A blk (.cells (cs.set off v))];exact List.mem_map.2 ⟨p,hp,rfl⟩
    obtain ⟨q',hq',e⟩:=List.mem_map.1 hk;have:=hAr.lt q' hq';rw [←e];simpa using this)
 have hd:o.dst=none:=cc.d.symm;have R3:E.rel {s with log:=encA (setA A blk (.cells (cs.set off v)))} (a.put o.dst undef) (w.setRow blk (vs.toList.take off++[a.eval q]++vs.toList.drop (off+[a.eval q].length)).toArray) h:=by rw [hd];exact R2
 refine B5 (x:=undef) hi (Ai hgo) hdf (.inr ⟨?_,rfl⟩) (hn _ _ _ h hk R3 rfl);simp only [execOp,e1,ep,Instr.storeAt,Instr.sureAddr,Sem.run_bind,Sem.run_pure,Result.andThen_ok,storeVar,Ds e2];rw [if_neg (by rw [hc1];simp),hc1];rw [hrun];rfl
end
section
variable {E:Env} {K:List (Nat×List V)}
end
end
end Go.Am
namespace Go
section
theorem G9 {P:Program} {b:Frame} {a:Act} {k:List Item} {cs:List Frame} {w:World} {c:Code}:step P (lone (b.atR a (.code (.scope c)::k)) cs w)=.next (lone (b.atR a (.code c::.inScope c::k)) cs w) :=
 step_lone_go (by simp [stepG,stepG.exec,Frame.atR])
theorem Xh {P:Program} {b:Frame} {a:Act} {k:List Item} {cs:List Frame} {w:World} {c:Code}:step P (lone (b.atR a (.inScope c::k)) cs w)=.next (lone (b.atR a k) cs w) :=
 step_lone_go (by simp [stepG,stepG.exec,Frame.atR])
theorem O5 {F:Fence} {n:Nat} {P:Program} {Q:Exit→Act→World→Prop} {a:Act} {w:World} {c:Code} (h:c.wpIn F n P (Exit.noGoto Q) a w):(Code.scope c).wpIn F n P Q a w:=by
 intro b k cs hro hb hr;have h0:(lone (b.atR a (.code (.scope c)::k)) cs w).fenced P F:=fenced_calm hb hr rfl;obtain ⟨e,a₁,w₁,hq,harr⟩:=h b (.inScope c::k) cs hro hb hr;cases e with
 | normal=>exact ⟨.normal,a₁,w₁,hq,.head h0 G9 (StepsIn.trans harr (.one (fenced_calm hb hr rfl) Xh))⟩
 | exit id =>
   have hx:exitTo id (.inScope c::k)=exitTo id k:=by simp [exitTo]
   exact ⟨.exit id,a₁,w₁,hq,fun k' hk=>.head h0 G9 (harr.1 k' (by rw [hx];exact hk)),
    fun hr' hk=>let ⟨k₁,h1,h2⟩:=harr.2 hr' (by rw [hx];exact hk);⟨k₁,h1,.head h0 G9 h2⟩⟩
 | goto l=>exact hq.elim
 | ret=>exact ⟨_,a₁,w₁,hq,.of_steps (.one h0 G9) harr⟩
 | panic ch=>exact ⟨_,a₁,w₁,hq,.of_steps (.one h0 G9) harr⟩
 | outgrown=>exact ⟨_,a₁,w₁,hq,.of_steps (.one h0 G9) harr⟩
end
end Go
namespace Go.Am
section
def qScope (Q:Exit→St→Prop):Exit→St→Prop
 | .goto _,_=>False
 | e,s=>Q e s
theorem A23 {E:Env} {ro:Option Nat} {Q:Exit→St→Prop} {s:St} {x:IC} (h:Tr E ro x (qScope Q) s):Tr E ro (.scope x) Q s:=fun c hc n a w g R Q' hq=>by
 obtain ⟨ca,rfl,h1⟩:=Cb hc;refine O5 (h ca h1 n a w g R _ fun e s' a' w' h' k R' ey=>?_);cases e with
 | goto l=>exact k.elim
 | _=>exact hq _ s' a' w' h' k R' ey
end
end Go.Am
namespace Go.Proofs.YtabedohjkillfaaGreatDoor
section
open Go.Am
attribute [local simp] cells Af mkv Aq B6 under dem dem1 eB eQ nfC As
structure Ct where
 split:Int
 prices:List Int
def eC (c:Ct):V:=.agg [I c.split,As c.prices]
attribute [local simp] eC
structure Rd where
 ok:Bool
 at_:Nat
 some:Bool
 Sg:Int
section
variable {E:Env} {S1:Sur} {l0:List (List V)} {s0:Bool} {b9 b10 b8 b7:Nat} {K:St→Prop} {s:St} {rest:List Ins} {x y:X} {d:Nat} {r:Rd}
end
end
section
open Go.Am
attribute [local simp] cells Af mkv Aq B6 under dem dem1 eB Ed sB As
def Iv (f:List (List Int)):V:=.slice 0 1 (f.map As)
attribute [local simp] Iv
def rowOk (g:Gd) (l:List Int):Bool:=decide (l.length=g.cls.length)&&!(l.any fun n=>decide (n<0))
def mapOk (g:Gd) (f:List (List Int)):Bool:=decide ((f.length:Int)=g.a*g.d)&&f.all (rowOk g)
end
section
open Go.Shelf Go.Proofs Go.RowKit Go.Lib Go.Sort
def Sq:Go.Shelf.Ren:=⟨fun | 6=>80 | 15=>112 | 14=>111 | 28=>148 | 29=>149 | 20=>140 | 21=>141 | 22=>142 | 23=>143 | 24=>144 | 25=>145 | 26=>146 | 27=>147 | 46=>175 | 47=>176 | 48=>177 | 49=>178 | 50=>179 | 57=>196 | n=>n,fun | 22=>161 | 24=>85 | 25=>166 | 3=>3 | 39=>216 | 0=>0 | 53=>267 | 55=>269 | 4=>4 | 46=>261 | 45=>260 | 50=>135 | 5=>5 | 9=>9 | 66=>293 | 70=>297 | 76=>326 | 77=>183 | n=>n,fun | n=>n⟩
theorem A22:Go.Proofs.SlLaysF0.n6 Tryz.prog Sq:={
 mixed:=by kernel_rfl,
 f6:=⟨Tryz.f80.name,by decide,Tryz.func80.trans (congrArg some (by kernel_rfl))⟩,
 f14:=⟨Tryz.f111.name,by decide,Tryz.func111.trans (congrArg some (by kernel_rfl))⟩,
 f15:=Tryz.func112.trans (congrArg some (by kernel_rfl)),
 f20:=⟨Tryz.f140.name,by decide,Tryz.func140.trans (congrArg some (by kernel_rfl))⟩,
 f21:=⟨Tryz.f141.name,by decide,Tryz.func141.trans (congrArg some (by kernel_rfl))⟩,
 f22:=⟨Tryz.f142.name,by decide,Tryz.func142.trans (congrArg some (by kernel_rfl))⟩,
 f23:=⟨Tryz.f143.name,by decide,Tryz.func143.trans (congrArg some (by kernel_rfl))⟩,
 f24:=⟨Tryz.f144.name,by decide,Tryz.func144.trans (congrArg some (by kernel_rfl))⟩,
 f25:=⟨Tryz.f145.name,by decide,Tryz.func145.trans (congrArg some (by kernel_rfl))⟩,
 f26:=⟨Tryz.f146.name,by decide,Tryz.func146.trans (congrArg some (by kernel_rfl))⟩,
 f27:=⟨Tryz.f147.name,by decide,Tryz.func147.trans (congrArg some (by kernel_rfl))⟩,
 f28:=Tryz.func148.trans (congrArg some (by kernel_rfl)),
 f29:=Tryz.func149.trans (congrArg some (by kernel_rfl)),
 f46:=⟨Tryz.f175.name,by decide,Tryz.func175.trans (congrArg some (by kernel_rfl))⟩,
 f47:=Tryz.func176.trans (congrArg some (by kernel_rfl)),
 f48:=Tryz.func177.trans (congrArg some (by kernel_rfl)),
 f49:=⟨Tryz.f178.name,by decide,Tryz.func178.trans (congrArg some (by kernel_rfl))⟩,
 f50:=⟨Tryz.f179.name,by decide,Tryz.func179.trans (congrArg some (by kernel_rfl))⟩,
 f57:=⟨Tryz.f196.name,by decide,Tryz.func196.trans (congrArg some (by kernel_rfl))⟩,
 t0:=Tryz.underlying0,
 a0:=Tryz.isAgg0,
 z0:=Tryz.sizeOf0,
 v0:=Tryz.zeroValue0,
 t3:=Tryz.underlying3,
 a3:=Tryz.isAgg3,
 z3:=Tryz.sizeOf3,
 v3:=Tryz.zeroValue3,
 t4:=Tryz.underlying4,
 a4:=Tryz.isAgg4,
 z4:=Tryz.sizeOf4,
 v4:=Tryz.zeroValue4,
 t5:=Tryz.underlying5,
 a5:=Tryz.isAgg5,
 z5:=Tryz.sizeOf5,
 v5:=Tryz.zeroValue5,
 t9:=Tryz.underlying9,
 a9:=Tryz.isAgg9,
 z9:=Tryz.sizeOf9,
 v9:=Tryz.zeroValue9,
 t22:=Tryz.underlying161,
 a22:=Tryz.isAgg161,
 z22:=Tryz.sizeOf161,
 v22:=Tryz.zeroValue161,
 t25:=Tryz.underlying166,
 a25:=Tryz.isAgg166,
 z25:=Tryz.sizeOf166,
 v25:=Tryz.zeroValue166,
 t39:=Tryz.underlying216,
 a39:=Tryz.isAgg216,
 z39:=Tryz.sizeOf216,
 v39:=Tryz.zeroValue216,
 t45:=Tryz.underlying260,
 a45:=Tryz.isAgg260,
 z45:=Tryz.sizeOf260,
 v45:=Tryz.zeroValue260,
 t46:=Tryz.underlying261,
 a46:=Tryz.isAgg261,
 z46:=Tryz.sizeOf261,
 v46:=Tryz.zeroValue261,
 t50:=Tryz.underlying135,
 a50:=Tryz.isAgg135,
 z50:=Tryz.sizeOf135,
 v50:=Tryz.zeroValue135,
 t53:=Tryz.underlying267,
 a53:=Tryz.isAgg267,
 z53:=Tryz.sizeOf267,
 v53:=Tryz.zeroValue267,
 t55:=Tryz.underlying269,
 a55:=Tryz.isAgg269,
 z55:=Tryz.sizeOf269,
 v55:=Tryz.zeroValue269,
 t66:=Tryz.underlying293,
 a66:=Tryz.isAgg293,
 z66:=Tryz.sizeOf293,
 v66:=Tryz.zeroValue293,
 t70:=Tryz.underlying297,
 a70:=Tryz.isAgg297,
 z70:=Tryz.sizeOf297,
 v70:=Tryz.zeroValue297,
 t76:=Tryz.underlying326,
 a76:=Tryz.isAgg326,
 z76:=Tryz.sizeOf326,
 v76:=Tryz.zeroValue326,
 t77:=Tryz.underlying183,
 a77:=Tryz.isAgg183,
 z77:=Tryz.sizeOf183,
 v77:=Tryz.zeroValue183}
abbrev SC:=Fin 1024×Fin 16
def scB (x:SC):Int×Int:=((x.1.val:Int)-1,(x.2.val:Int)-1)
def Ua (x:SC):List Value:=[.int .i64 (scB x).1,.int .i64 (scB x).2]
def cfSC (x y:SC):Int:=if (scB x).1≠(scB y).1 then (scB x).1-(scB y).1 else (scB x).2-(scB y).2
theorem swoSC:Go.Sort.SWO (ltOf cfSC) where
 irrefl x:=by unfold ltOf cfSC;simp
 trans x y z h1 h2:=by
  unfold ltOf cfSC at *;simp only [decide_eq_true_eq,ne_eq,ite_not] at *;split at h1<;>split at h2<;>split<;>omega
 ntrans x y z h1 h2:=by
  unfold ltOf cfSC at *;simp only [decide_eq_false_iff_not,ne_eq,ite_not] at *;split at h1<;>split at h2<;>split<;>omega
theorem A3p (x y:SC) (W:World):Calls Tryz.prog 81 #[.agg #[.int .i64 (scB x).1,.int .i64 (scB x).2],.agg #[.int .i64 (scB y).1,.int .i64 (scB y).2]] W fun e w'=>e=.returned (.int .i64 (cfSC x y))∧∃q os',w'=grow (W.drewN q) os':=by
 have b1:-1≤(scB x).1∧(scB x).1≤1022:=by unfold scB;omega
 have b2:-1≤(scB x).2∧(scB x).2≤14:=by unfold scB;omega
 have b3:-1≤(scB y).1∧(scB y).1≤1022:=by unfold scB;omega
 have b4:-1≤(scB y).2∧(scB y).2≤14:=by unfold scB;omega
 unfold cfSC;generalize (scB x).1=a at *;generalize (scB x).2=b at *;generalize (scB y).1=c at *;generalize (scB y).2=d at *;by_cases h:a≠c
 ·rw [if_pos h]
  go_enter Tryz.func81,Tryz.ntmps81
  go_wp2
  all_goals (try (go_ret;exact ⟨rfl,0,_,by rw [alloc_eq_grow,alloc_eq_grow,grow_grow];rfl⟩))
  all_goals (rename_i h2;exfalso;simp at h2;exact h h2)
 ·rw [if_neg h];have h:a=c:=by simpa using h
  subst h
  go_enter Tryz.func81,Tryz.ntmps81
  go_wp2
  all_goals (try (go_ret;exact ⟨rfl,0,_,by rw [alloc_eq_grow,alloc_eq_grow,grow_grow];rfl⟩))
  all_goals (rename_i h2;exfalso;simp at h2)
theorem cmpLays (blk off size:Nat) (w:World):CmpLays Tryz.prog 81 #[] Ua 2 cfSC blk off size w :=
 fun _ _ _ _ x y=>A3p x y _
theorem Aat (blk off cap:Nat) (d:Array SC) (w:World) (hH:HoldsK Ua 2 w blk off d) (hblk:blk<w.heap.size) (hsz:d.size<4611686018427387904) :
  Calls Tryz.prog 80 #[.slice (some ⟨blk,off,none⟩) d.size cap,.func (.func 81) #[] #[]] w fun e w'=>e=.returned (.tuple #[])∧∃d' n os,PermIn 0 d.size d d'∧SortedIn (ltOf cfSC) 0 d.size d'∧w'=sortWorldK Ua 2 w blk off n d' os:=by
 have eg:∀args w,(callFunc 81 args).run Tryz.prog w=.ok (.enter 81 args) w:=enters_of Tryz.func81 (by kernel_rfl) rfl;have hcon:=AnyQ.slices_SortFunc A22 2 Tryz.isAgg85 Tryz.sizeOf85 Ua (fun _=>rfl) (fun x v hv=>by simp [Ua] at hv;rcases hv with rfl | rfl<;>rfl) cfSC swoSC 81 #[] blk off cap d w eg (cmpLays blk off d.size w) hH hblk hsz;exact hcon
end
end Go.Proofs.YtabedohjkillfaaGreatDoor
namespace Go.Am
section
open Go.RowKit
def OwnS (A:Arena) (sz:Nat) (xs:List V) (v:V):Prop :=
 (xs=[]∧v=.nils)∨∃(blk cap:Nat) (cs:List V),v=.sref blk 0 xs.length cap∧(blk,Ob.cells cs)∈A∧cs.length=cap*sz∧xs.length≤cap∧cs.take (xs.length*sz)=xs.flatMap cells
def offS (v:V) (b:Nat):Prop:=∀blk off n cap,v=.sref blk off n cap→b≠blk
theorem A3o {A:Arena} {sz:Nat} {xs:List V} {v:V} (h:OwnS A sz xs v) (B:Nat→Bool) (R:Nat→Option (Nat×Nat×Nat)) (n:Nat):Bw B R (n+1) v=true:=by
 rcases h with ⟨_,rfl⟩ | ⟨_,_,_,rfl,_⟩<;>rfl
def V0 (P:Program) (e:Nat):Option (List V):=match P.info? e with
 | some i=>match i.zero with
   | some z=>K9 z.cells.toList
   | none=>none
 | none=>none
section
variable {E:Env} {S0:Sur} {l0:List (List V)} {s0:Bool} {A:Arena}
theorem A03 {w:World} {φ:Nat→Nat} {z:Value} {zs:List V} (hz:K9 z.cells.toList=some zs) (k:Nat):(List.replicate k zs).flatten.length=(Builtin.zeroCells z.cells k).size∧∀(j:Nat) v x,(List.replicate k zs).flatten[j]?=some v→(Builtin.zeroCells z.cells k)[j]?=some x→RepD w φ v x∧Af v=true:=by
 obtain ⟨h1,h2⟩:=Ft (w:=w) (φ:=φ) hz;have hl:zs.length=z.cells.size:=by simpa using h1
 have hsz:(Builtin.zeroCells z.cells k).size=k*z.cells.size:=by simp [Builtin.zeroCells]
 have hfl:∀k,(List.replicate k zs).flatten.length=k*zs.length:=fun k=>by simp
 refine ⟨by rw [hfl,hsz,hl],fun j v x hv hx=>?_⟩;have hj:j<k*zs.length:=by rw [←hfl];exact (List.getElem?_eq_some_iff.1 hv).1
 have hpos:0<zs.length:=by
  rcases Nat.eq_zero_or_pos zs.length with h | h
  ·rw [h] at hj;simp at hj
  ·exact h
 have key:∀(k j:Nat),j<k*zs.length→(List.replicate k zs).flatten[j]?=zs[j%zs.length]?:=by
  intro k
  induction k with
  | zero=>intro j hj;simp at hj
  | succ k ih =>
    intro j hj;rw [List.replicate_succ,List.flatten_cons,List.getElem?_append];split
    ·rename_i h;rw [Nat.mod_eq_of_lt h]
    ·rename_i h;rw [ih (j-zs.length) (by rw [Nat.add_mul] at hj;omega)];congr 1;rw [←Nat.mod_eq_sub_mod (by omega)]
 rw [key k j hj] at hv;have hx':x=z.cells[j%z.cells.size]!:=by
  unfold Builtin.zeroCells at hx;rw [Array.getElem?_map] at hx;rw [←hl] at hx ⊢;simp [hj] at hx;exact hx.symm
 have hm:j%zs.length<z.cells.size:=by rw [←hl];exact Nat.mod_lt _ hpos
 refine h2 (j%zs.length) v x hv ?_;rw [hx',←hl];simp [hm]
theorem A6y {P:Program} {o:Oper} {os:List Operand} {sz bytes e:Nat} (hk:opK P o.op=some (.append sz bytes e,os)):∃c p q t ie z,o.op=.call c∧c.callee=.builtin .append∧c.args.toList=[p,q]∧c.argTypes.toList=[t,t]∧P.underlying t=some (.slice e)∧P.info? e=some ie∧ie.zero=some z∧z.cells.size=ie.size∧ie.size=sz∧ie.bytes=bytes∧os=[p,q]:=Sb hk
theorem A21 {σ:FSt} {h:Gh} {w:World} {sz:Nat} {ys:List V} {y:Value} {r:Nat} (hv:Ok σ h w (.slice r sz ys) y) (hne:ys≠[]) :
  ∃(a:Addr) (cap:Nat) (news:List Value),y=.slice (some a) ys.length cap∧news.length=ys.length*sz∧(ys.flatMap cells).length=ys.length*sz∧(∀j u,news[j]?=some u→w.cell? (a.add j)=some u)∧(∀u∈news,u.oneCell'=true)∧∀(j:Nat) v x,(ys.flatMap cells)[j]?=some v→news[j]?=some x→RepD w h.φ v x∧Af v=true:=by
 rcases Ex (Ff hv) with ⟨_,e0⟩ | ⟨yb,yo,ycap,cvy,rfl,_,_,hys,ay⟩
 ·exact absurd e0 hne
 have ylen:=Kz hys;have nget:∀j,j<ys.length*sz→((List.range (ys.length*sz)).map cvy)[j]?=some (cvy j):=fun j hj=>by simp [hj]
 refine ⟨_,_,(List.range (ys.length*sz)).map cvy,rfl,by simp,ylen,fun j u hu=>?_,fun u hu=>?_,fun j v x hv hx=>?_⟩
 ·have hj:j<ys.length*sz:=by have:=(List.getElem?_eq_some_iff.1 hu).1;simpa using this
  rw [nget j hj] at hu;cases hu;rw [Addr.add_lit];exact (ay j _ (List.getElem?_eq_getElem (by omega))).2.1
 ·obtain ⟨j,hj⟩:=List.getElem?_of_mem hu;have hlt:j<ys.length*sz:=by have:=(List.getElem?_eq_some_iff.1 hj).1;simpa using this
  rw [nget j hlt] at hj;cases hj;obtain ⟨_,_,k3,k4⟩:=ay j _ (List.getElem?_eq_getElem (by omega));exact (Cr (Rep.data (β:=h.β) (y:=h.y.l) k3) k4).1
 ·have hlt:j<ys.length*sz:=by have:=(List.getElem?_eq_some_iff.1 hx).1;simpa using this
  rw [nget j hlt] at hx;cases hx;exact ⟨(ay j v hv).2.2.1,(ay j v hv).2.2.2⟩
theorem Y8 (hE:InA E S0 l0 s0) {K:St→Prop} {s:St} {d:Nat} {x y:X} {sz bytes e r:Nat} {ys zs:List V} {rest:List Ins} (hx:evXs s.env [x,y]=some [.nils,.slice r sz ys]) (hl:s.log=encA A) (hz0:V0 E.P e=some zs) (h0:0<sz) (hb:ys.length*bytes≤2^47) (hm:ys.length≤2^47) (hne:ys≠[])
  (hk:∀blk cap A',OwnS A' sz ys (.sref blk 0 ys.length cap)→(∀p∈A,p∈A'∧p.1≠blk)→Steps E rest K {s.put (some d) (.sref blk 0 ys.length cap) with log:=encA A'}):Steps E (⟨some d,.append sz bytes e,[x,y],none⟩::rest) K s:=by
 refine Step1.raw fun slots ops o i ro n a w h hc hs hi R Q next hn=>?_
 obtain ⟨os,cc⟩:=Ba hc;obtain ⟨c,p,q,t,ie,z,ho,hcal,hca,hct,ht,hie,hz,hzs,rfl,rfl,rfl⟩:=A6y cc.op;obtain ⟨u,v,huv,hu,hv'⟩:=(B9 R.1 cc.xs (Ay hx)).two;cases huv;have hzs0:K9 z.cells.toList=some zs:=by unfold V0 at hz0;rw [hie] at hz0;simp only [hz] at hz0;exact hz0
 obtain ⟨ad,cp,news,ey,nl,fl,ncell,none1,nrep⟩:=A21 hv' hne;have hpos:0<ys.length:=List.length_pos_iff.2 hne;have ea:c.args=#[p,q]:=by rw [←Array.toList_inj];simpa using hca
 have et:c.argTypes=#[t,t]:=by rw [←Array.toList_inj];simpa using hct
 have hrun:=run_append_nil (P:=E.P) w t o.type e ie z ht hie hz ad ys.length cp news nl ncell hpos (by omega) (by omega);have hge:=grownCap_ge w ys.length 0 e;obtain ⟨g,hg⟩:∃g,grownCap w ys.length 0 e=g:=⟨_,rfl⟩;rw [hg] at hrun hge;have hex:(execOp a.eval o).run E.P w=.ok (.value (.slice (some ⟨w.heap.size,0,none⟩) ys.length g)) (w.drew.alloc (.cells (news.toArray++Builtin.zeroCells z.cells (g-ys.length)) e)):=by
  simp only [execOp,ho,resolve,hcal,ea,et,Sem.run_bind,Sem.run_pure,Result.andThen_ok,invoke,builtin];simp [Ku hu,ey,hrun]
 have R':E.relF (encA A) s.stp s.fs a w h:=by rw [←hl];exact R
 have R1:=M3 R';have zr:=A03 (w:=w.drew.alloc (.cells (news.toArray++Builtin.zeroCells z.cells (g-ys.length)) e)) (φ:=h.φ) hzs0 (g-ys.length);have hcl:(ys.flatMap cells++(List.replicate (g-ys.length) zs).flatten).length=g*ie.size:=by
  have h1:zs.length=ie.size:=by have:=(Ft (w:=w) (φ:=h.φ) hzs0).1;simp at this;omega
  rw [List.length_append,fl];simp only [List.length_flatten,List.map_replicate,List.sum_replicate_nat,h1];rw [←Nat.add_mul];congr 1;omega
 obtain ⟨R2,hnm⟩:=hE.fresh R1 (.cells (news.toArray++Builtin.zeroCells z.cells (g-ys.length)) e) (.cells (ys.flatMap cells++(List.replicate (g-ys.length) zs).flatten)) (fun ext=>⟨_,e,heap_alloc_new w.drew _,by rw [Array.size_append,List.length_append,zr.1];simp [nl,fl],fun j v x hv hx=>by
  rw [List.getElem?_append] at hv;rw [Array.getElem?_append] at hx;simp only [List.size_toArray,nl] at hx;rw [fl] at hv;by_cases hj:j<ys.length*ie.size
  ·rw [if_pos hj] at hv hx;simp only [List.getElem?_toArray] at hx;have:=nrep j v x hv hx;exact ⟨this.1.mono (Ext.trans (fun _ _ ho=>⟨ho,rfl,rfl⟩) ext),this.2⟩
  ·rw [if_neg hj] at hv hx;exact zr.2 _ v x hv hx⟩)
 refine B5 hi (Ai (Au cc rfl)) (At cc.op) (.inl hex) (hn _ _ _ h (hk w.heap.size g _ (.inr ⟨w.heap.size,g,_,rfl,by simp,hcl,hge,?_⟩) fun p hp=>⟨List.mem_cons_of_mem _ hp,fun e=>hnm (List.mem_map.2 ⟨p,hp,e⟩)⟩) (Fc cc R2 (.data (.sref _ _ _ _)) rfl) rfl);rw [←fl,List.take_left]
theorem A26 (hE:InA E S0 l0 s0) {K:St→Prop} {s:St} {d:Nat} {x y:X} {sz bytes e r blk cap:Nat} {xs ys zs:List V} {rest:List Ins} (hx:evXs s.env [x,y]=some [.sref blk 0 xs.length cap,.slice r sz ys]) (hl:s.log=encA A) (hO:OwnS A sz xs (.sref blk 0 xs.length cap)) (hz0:V0 E.P e=some zs) (h0:0<sz) (hb:(xs.length+ys.length)*bytes≤2^47) (hm:xs.length+ys.length≤2^47) (hne:ys≠[])
  (hk:∀blk' cap' A',OwnS A' sz (xs++ys) (.sref blk' 0 (xs++ys).length cap')→(∀p∈A,p.1≠blk→p∈A'∧p.1≠blk')→Steps E rest K {s.put (some d) (.sref blk' 0 (xs++ys).length cap') with log:=encA A'}):Steps E (⟨some d,.append sz bytes e,[x,y],none⟩::rest) K s:=by
 refine Step1.raw fun slots ops o i ro n a w h hc hs hi R Q next hn=>?_
 obtain ⟨os,cc⟩:=Ba hc;obtain ⟨c,p,q,t,ie,z,ho,hcal,hca,hct,ht,hie,hz,hzs,rfl,rfl,rfl⟩:=A6y cc.op;obtain ⟨u,v,huv,hu,hv'⟩:=(B9 R.1 cc.xs (Ay hx)).two;cases huv;obtain ⟨cs,hA,hcs,hcap,htk⟩:∃cs,(blk,Ob.cells cs)∈A∧cs.length=cap*ie.size∧xs.length≤cap∧cs.take (xs.length*ie.size)=xs.flatMap cells:=by
  rcases hO with ⟨_,h⟩ | ⟨b',c',cs,e1,e2,e3,e4,e5⟩
  ·cases h
  ·cases e1;exact ⟨cs,e2,e3,e4,e5⟩
 have hzs0:K9 z.cells.toList=some zs:=by unfold V0 at hz0;rw [hie] at hz0;simp only [hz] at hz0;exact hz0
 obtain ⟨ad,cp,news,ey,nl,fl,ncell,none1,nrep⟩:=A21 hv' hne;have hpos:0<ys.length:=List.length_pos_iff.2 hne;have ea:c.args=#[p,q]:=by rw [←Array.toList_inj];simpa using hca
 have et:c.argTypes=#[t,t]:=by rw [←Array.toList_inj];simpa using hct
 have ep:=Kt hu;have R':E.relF (encA A) s.stp s.fs a w h:=by rw [←hl];exact R
 obtain ⟨vs,vt,w1,w2,w3⟩:=(hE.ar R').ok _ hA;have hxl:xs.length*ie.size≤cs.length:=by rw [hcs];exact Nat.mul_le_mul_right _ hcap
 have fxl:(xs.flatMap cells).length=xs.length*ie.size:=by rw [←htk,List.length_take];omega
 have hfl2:((xs++ys).flatMap cells).length=(xs++ys).length*ie.size:=by rw [List.flatMap_append,List.length_append,fxl,fl,List.length_append,Nat.add_mul]
 by_cases hroom:xs.length+ys.length≤cap
 ·
  have hin:0+xs.length*ie.size+news.length≤vs.size:=by
   refine Nat.le_trans ?_ w2;rw [hcs,nl,Nat.zero_add,←Nat.add_mul];exact Nat.mul_le_mul_right _ hroom
  have hst:=run_storeCells_at E.P blk (0+xs.length*ie.size) vt news 0 vs w w1 (by simpa using hin) none1;simp only [Nat.add_zero] at hst;have hfc:=run_firstCells_some (P:=E.P) w ie.size ys.length ad ys.length cp news nl ncell;have hrun:(Builtin.append_ #[t,t] o.type #[.slice (some ⟨blk,0,none⟩) xs.length cap,.slice (some ad) ys.length cp]).run E.P w=.ok (.slice (some ⟨blk,0,none⟩) (xs.length+ys.length) cap) (w.setRow blk (vs.toList.take (0+xs.length*ie.size)++news++vs.toList.drop (0+xs.length*ie.size+news.length)).toArray):=by
   simp [Builtin.append_,run_underlying ht,sizeOf,typeInfo,hie,Builtin.lenOf,hroom,hfc,Addr.add_lit];simp only [Nat.zero_add] at hst;rw [hst];simp
  have hex:(execOp a.eval o).run E.P w=.ok (.value (.slice (some ⟨blk,0,none⟩) (xs.length+ys.length) cap)) (w.setRow blk (vs.toList.take (0+xs.length*ie.size)++news++vs.toList.drop (0+xs.length*ie.size+news.length)).toArray):=by
   simp only [execOp,ho,resolve,hcal,ea,et,Sem.run_bind,Sem.run_pure,Result.andThen_ok,invoke,builtin];simp only [List.map_toArray,List.map_cons,List.map_nil,ep,ey,hrun];rfl
  have hsl:(vs.toList.take (0+xs.length*ie.size)++news++vs.toList.drop (0+xs.length*ie.size+news.length)).length=vs.size:=by simp;omega
  have R2:=hE.turn R' hA (.cells (cs.take (xs.length*ie.size)++ys.flatMap cells++cs.drop (xs.length*ie.size+ys.length*ie.size))) (w':=w.setRow blk (vs.toList.take (0+xs.length*ie.size)++news++vs.toList.drop (0+xs.length*ie.size+news.length)).toArray) (fun k hk=>setRow_other w blk k _ hk) (by simp) rfl rfl rfl (fun ext=>⟨_,vt,setRow_heap w blk vs _ vt (0,0) w1,by simp [fl,nl];omega,fun j v x hv hx=>by
     rw [List.getElem?_toArray] at hx;rw [List.append_assoc,List.getElem?_append] at hv hx;have l1:(cs.take (xs.length*ie.size)).length=xs.length*ie.size:=by rw [List.length_take];omega
     have l2:(vs.toList.take (0+xs.length*ie.size)).length=xs.length*ie.size:=by rw [List.length_take];simp;omega
     rw [l1] at hv;rw [l2] at hx;by_cases hj:j<xs.length*ie.size
     ·rw [if_pos hj,List.getElem?_take_of_lt hj] at hv;rw [if_pos hj,List.getElem?_take_of_lt (by omega)] at hx;have:=w3 j v x hv (by simpa using hx);exact ⟨this.1.mono ext,this.2⟩
     ·rw [if_neg hj,List.getElem?_append] at hv hx;rw [fl] at hv;rw [nl] at hx;by_cases hj2:j-xs.length*ie.size<ys.length*ie.size
      ·rw [if_pos hj2] at hv hx;have:=nrep _ v x hv hx;exact ⟨this.1.mono ext,this.2⟩
      ·rw [if_neg hj2,List.getElem?_drop] at hv hx;have:=w3 _ v x hv (by rw [←hx];simp [nl]);exact ⟨this.1.mono ext,this.2⟩⟩)
  have own:OwnS (setA A blk (.cells (cs.take (xs.length*ie.size)++ys.flatMap cells++cs.drop (xs.length*ie.size+ys.length*ie.size)))) ie.size (xs++ys) (.sref blk 0 (xs++ys).length cap):=by
   refine .inr ⟨blk,cap,cs.take (xs.length*ie.size)++ys.flatMap cells++cs.drop (xs.length*ie.size+ys.length*ie.size),rfl,?_,?_,?_,?_⟩
   ·exact List.mem_map.2 ⟨_,hA,by simp⟩
   ·have:(xs.length+ys.length)*ie.size≤cap*ie.size:=Nat.mul_le_mul_right _ hroom;rw [Nat.add_mul] at this;simp [fl];omega
   ·simpa using hroom
   ·rw [List.length_append,Nat.add_mul,List.flatMap_append,←htk];rw [List.take_append_of_le_length (by rw [List.length_append,List.length_take,fl];omega),List.take_of_length_le (by rw [List.length_append,List.length_take,fl];omega)]
  refine B5 hi (Ai (Au cc rfl)) (At cc.op) (.inl hex) (hn _ _ _ h (hk blk cap _ own fun p hp hne=>⟨List.mem_map.2 ⟨p,hp,by rw [if_neg hne]⟩,hne⟩) (Fc cc R2 (by rw [List.length_append];exact ⟨.data (.sref _ _ _ _),Ap (w0:=w) (φ0:=h.φ) (.sref _ _ _ _)⟩) rfl) rfl)
 ·
  obtain ⟨olds,holds⟩:∃olds,olds=vs.toList.take (xs.length*ie.size):=⟨_,rfl⟩;have ol:olds.length=xs.length*ie.size:=by rw [holds,List.length_take];simp;omega
  have ocell:∀j v,olds[j]?=some v→w.cell? ((⟨blk,0,none⟩:Addr).add j)=some v:=fun j v hv=>by
   have hj:j<xs.length*ie.size:=by have:=(List.getElem?_eq_some_iff.1 hv).1;omega
   rw [Addr.add_lit,Nat.zero_add,cell_of_row w blk j vs vt (0,0) w1];rw [holds,List.getElem?_take_of_lt hj] at hv;simpa using hv
  have hrun:=run_append_grow (P:=E.P) w t o.type e ie z ht hie hz ⟨blk,0,none⟩ xs.length cap olds ol ocell ad ys.length cp news nl ncell (by omega) (by omega) (growslice_fits (by omega) (by omega));have hge:=grownCap_ge w (xs.length+ys.length) cap e;obtain ⟨g,hg⟩:∃g,grownCap w (xs.length+ys.length) cap e=g:=⟨_,rfl⟩;rw [hg] at hrun hge;have hex:(execOp a.eval o).run E.P w=.ok (.value (.slice (some ⟨w.heap.size,0,none⟩) (xs.length+ys.length) g)) (w.drew.alloc (.cells (olds.toArray++news.toArray++Builtin.zeroCells z.cells (g-(xs.length+ys.length))) e)):=by
   simp only [execOp,ho,resolve,hcal,ea,et,Sem.run_bind,Sem.run_pure,Result.andThen_ok,invoke,builtin];simp only [List.map_toArray,List.map_cons,List.map_nil,ep,ey,hrun];rfl
  have R1:=M3 R';have zr:=A03 (w:=w.drew.alloc (.cells (olds.toArray++news.toArray++Builtin.zeroCells z.cells (g-(xs.length+ys.length))) e)) (φ:=h.φ) hzs0 (g-(xs.length+ys.length));have zl:zs.length=ie.size:=by have:=(Ft (w:=w) (φ:=h.φ) hzs0).1;simp at this;omega
  have hcl:((xs++ys).flatMap cells++(List.replicate (g-(xs.length+ys.length)) zs).flatten).length=g*ie.size:=by
   rw [List.length_append,hfl2];simp only [List.length_flatten,List.map_replicate,List.sum_replicate_nat,zl,List.length_append];rw [←Nat.add_mul];congr 1;omega
  obtain ⟨R2,hnm⟩:=hE.fresh R1 (.cells (olds.toArray++news.toArray++Builtin.zeroCells z.cells (g-(xs.length+ys.length))) e) (.cells ((xs++ys).flatMap cells++(List.replicate (g-(xs.length+ys.length)) zs).flatten)) (fun ext=>⟨_,e,heap_alloc_new w.drew _,by rw [Array.size_append,List.length_append,zr.1,hfl2];simp [nl,ol,Nat.add_mul],fun j v x hv hx=>by
   have ext':Ext w h.φ (w.drew.alloc (.cells (olds.toArray++news.toArray++Builtin.zeroCells z.cells (g-(xs.length+ys.length))) e)) h.φ:=Ext.trans (fun _ _ ho=>⟨ho,rfl,rfl⟩) ext;rw [List.flatMap_append,List.append_assoc,List.getElem?_append,fxl] at hv;rw [Array.append_assoc,Array.getElem?_append] at hx;simp only [List.size_toArray,ol] at hx;by_cases hj:j<xs.length*ie.size
   ·rw [if_pos hj] at hv hx;simp only [List.getElem?_toArray] at hx;rw [←htk,List.getElem?_take_of_lt hj] at hv;rw [holds,List.getElem?_take_of_lt hj] at hx;have:=w3 j v x hv (by simpa using hx);exact ⟨this.1.mono ext',this.2⟩
   ·rw [if_neg hj,List.getElem?_append,fl] at hv;rw [if_neg hj,Array.getElem?_append] at hx;simp only [List.size_toArray,nl] at hx;by_cases hj2:j-xs.length*ie.size<ys.length*ie.size
    ·rw [if_pos hj2] at hv hx;simp only [List.getElem?_toArray] at hx;have:=nrep _ v x hv hx;exact ⟨this.1.mono ext',this.2⟩
    ·rw [if_neg hj2] at hv hx;exact zr.2 _ v x hv hx⟩)
  refine B5 hi (Ai (Au cc rfl)) (At cc.op) (.inl hex) (hn _ _ _ h (hk w.heap.size g _ (.inr ⟨w.heap.size,g,_,rfl,by simp,hcl,by simpa using hge,?_⟩) fun p hp _=>⟨List.mem_cons_of_mem _ hp,fun e=>hnm (List.mem_map.2 ⟨p,hp,e⟩)⟩) (Fc cc R2 (by rw [List.length_append];exact ⟨.data (.sref _ _ _ _),Ap (w0:=w) (φ0:=h.φ) (.sref _ _ _ _)⟩) rfl) rfl);rw [←hfl2,List.take_left]
end
end
end Go.Am
