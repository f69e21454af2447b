/-
  Parts of the proof: the abstract machine, the compiled code, contracts of the functions, plain laws (spelled short by a program).
-/
import Derived.Test.YtabedohjkillfaaGreatDoorX7
set_option maxRecDepth 100000
set_option maxHeartbeats 4000000
set_option linter.unusedVariables false
set_option linter.unusedSimpArgs false
namespace Go.Proofs.YtabedohjkillfaaGreatDoor
section
open Go.Am
attribute [local simp] cells Af mkv Aq B6 under dem dem1 eB Ac As sB
def Gi (L:List (Int×Int)):List V:=L.flatMap fun a=>[I a.1,I a.2]
theorem A41 (L:List (Int×Int)):(Gi L).length=2*L.length:=by
 unfold Gi
 induction L with
 | nil=>rfl
 | cons a L ih=>rw [List.flatMap_cons,List.length_append,ih];simp;omega
theorem Zh:∀(L:List (Int×Int)) (k:Nat),List.drop (2*k) (Gi L)=Gi (L.drop k)
 | L,0=>by simp
 | [],k+1=>by simp [Gi]
 | a::L,k+1=>by
   have e:Gi (a::L)=I a.1::I a.2::Gi L:=rfl;rw [e,show 2*(k+1)=2*k+1+1 by omega,List.drop_succ_cons,List.drop_succ_cons,List.drop_succ_cons,Zh L k]
theorem Zg:∀(L:List (Int×Int)) (k:Nat),List.take (2*k) (Gi L)=Gi (L.take k)
 | L,0=>by simp [Gi]
 | [],k+1=>by simp [Gi]
 | a::L,k+1=>by
   have e:Gi (a::L)=I a.1::I a.2::Gi L:=rfl;rw [e,show 2*(k+1)=2*k+1+1 by omega,List.take_succ_cons,List.take_succ_cons,List.take_succ_cons,Zg L k];rfl
theorem Ag8 (L M:List (Int×Int)):Gi (L++M)=Gi L++Gi M:=by
 unfold Gi;rw [List.flatMap_append]
theorem Ag7 (L:List (Int×Int)) (k:Nat) (hk:k<L.length) (c:Int×Int):List.take (2*k) (Gi L)++[I c.1,I c.2]++List.drop (2*k+2) (Gi L)=Gi (L.take k++c::L.drop (k+1)):=by
 rw [Zg,show 2*k+2=2*(k+1) by omega,Zh,Ag8,List.append_assoc];rfl
theorem Ac8 (L:List (Int×Int)) (B:Nat→Bool) (R:Nat→Option (Nat×Nat×Nat)):(Gi L).all (Bw B R 6)=true:=by
 rw [List.all_eq_true];intro x hx;obtain ⟨a,_,h⟩:=List.mem_flatMap.1 hx;rcases List.mem_cons.1 h with rfl | h
 ·rfl
 ·rw [List.mem_singleton] at h;subst h;rfl
theorem Ac7 (n:Nat):(List.replicate n [I 0,I 0]).flatten=Gi (List.replicate n (0,0)):=by
 induction n with
 | zero=>rfl
 | succ n ih=>rw [List.replicate_succ,List.flatten_cons,ih];rfl
theorem okF {k:Nat} {L:List (Int×Int)} {env:List (Nat×V)} {bx:List (Nat×Box)} {rw:List (Nat×Nat×Nat×Nat)} (h:E4 env ((k,⟨[],false⟩)::bx) rw=true):E4 env ((k,⟨Gi L,false⟩)::bx) rw=true:=by
 have e:C6 ((k,(⟨Gi L,false⟩:Box))::bx)=C6 ((k,(⟨[],false⟩:Box))::bx):=rfl;unfold E4 at h ⊢;rw [e];rw [Bool.and_eq_true] at h ⊢;refine ⟨h.1,?_⟩;have h2:=h.2;rw [List.all_cons,Bool.and_eq_true] at h2 ⊢;exact ⟨Ac8 _ _ _,h2.2⟩
theorem Ac3 (L:List (Int×Int)):Holds (Gi L) 0 2 L.length (L.map eB):=by
 refine ⟨by omega,by simp,fun x hx=>?_,?_,fun x hx=>?_⟩
 ·obtain ⟨c,_,rfl⟩:=List.mem_map.1 hx;rfl
 ·rw [List.drop_zero,List.take_of_length_le (by rw [A41];omega)];unfold Gi;rw [List.flatMap_map];rfl
 ·obtain ⟨c,_,rfl⟩:=List.mem_map.1 hx;rfl
def A44 (g:Int×Int→Int×Int→Int×Int):Int×Int→List (Int×Int)→List (Int×Int)
 | _,[]=>[]
 | h,own::r=>g own h::A44 g own r
def S9 (h:Int×Int) (l:List (Int×Int)):Nat→Int×Int
 | 0=>h
 | k+1=>l.getD k (0,0)
theorem Wg (g:Int×Int→Int×Int→Int×Int):∀(h:Int×Int) (l:List (Int×Int)),(A44 g h l).length=l.length
 | _,[]=>rfl
 | h,own::r=>by rw [A44,List.length_cons,Wg g own r,List.length_cons]
theorem Wh (g:Int×Int→Int×Int→Int×Int):∀(h:Int×Int) (l:List (Int×Int)) (k:Nat) (hk:k<l.length),(A44 g h l)[k]?=some (g l[k] (S9 h l k))
 | h,own::r,0,_=>rfl
 | h,own::r,k+1,hk=>by
   rw [A44,List.getElem?_cons_succ,Wh g own r k (by simpa using hk)];cases k with
   | zero=>rfl
   | succ k=>rfl
theorem c_eachB {l:List (Int×Int)} {hd:Int×Int} {f:FuncId} {g:Int×Int→Int×Int→Int×Int} (hl:l.length≤1000000) (hf:∀(k:Nat) (hk:k<l.length),C Tryz.prog f [I k,eB l[k],eB (S9 hd l k)] (eB (g l[k] (S9 hd l k)))) :
  C Tryz.prog Nt [sB l,eB hd,.func (.func f) [] []] (sB (A44 g hd l)):=by
 refine C_of mixed Nj.2 (by simp) fun S ok=>?_;refine TsR rfl (Aw rfl (by simp;omega) (TsR rfl (A2 (TsR rfl (A4 ?_)))));have hel:=Wg g hd l;obtain ⟨E,hE⟩:∃E,A44 g hd l=E:=⟨_,rfl⟩;have heg:=Wh g hd l;rw [hE] at hel heg ⊢;refine Bc (fun (k:Nat) st=>k≤l.length∧st=⟨[(2,.func (.func f) [] []),(7,.bsl 13 0 2 l.length),(8,.ptr 8 0),(15,sB l),(16,I l.length),(17,I k)],[(13,⟨Gi (E.take k++(List.replicate l.length (0,0)).drop k),false⟩),(8,⟨[I (S9 hd l k).1,I (S9 hd l k).2],false⟩)],[],[],false⟩) (fun k=>l.length-k) 0 (Ad (.k rfl (.cons rfl (.of_eq (by simp)) (.k rfl (.k rfl (.cons rfl (VLe.i (by simp)) (.k rfl .nil)))))) (.cons rfl ?_ (.k rfl .nil)) .nil (okF rfl) rfl) ⟨by omega,rfl⟩ ?_
 ·rw [List.take_zero,List.nil_append,List.drop_zero,←Ac7];simp;exact LLe.refl _
 rintro k st ⟨hk,rfl⟩;refine TsR rfl (By rfl (fun h2=>?_) (fun h2=>?_));rotate_left
 ·have h2:k=l.length:=by simp at h2;omega
  subst h2;have e1:E.take l.length++(List.replicate l.length ((0:Int),(0:Int))).drop l.length=E:=by
   rw [List.take_of_length_le (by omega),List.drop_eq_nil_of_le (by simp),List.append_nil]
  rw [e1];refine Ak ?_;refine Aa (Wk.bsl (t:=7) rfl rfl (by have h:=Ac3 E;rw [hel] at h;exact h)) ?_;exact TsR rfl (A8 rfl rfl rfl rfl trivial)
 have h2:k<l.length:=by simpa using h2
 obtain ⟨c,hc⟩:∃c,g l[k] (S9 hd l k)=c:=⟨_,rfl⟩;have hfk:=hf k h2;have hget:=heg k h2;rw [hc] at hfk hget;have hEk:k<E.length:=by omega
 have hEc:E[k]=c:=by rw [List.getElem?_eq_getElem hEk] at hget;exact Option.some.inj hget
 have h2k:0+(k:Int).toNat*2=2*k:=by omega
 obtain ⟨R,hR⟩:∃R,E.take k++(List.replicate l.length ((0:Int),(0:Int))).drop k=R:=⟨_,rfl⟩;have hRl:R.length=l.length:=by rw [←hR];simp;omega
 have hfl:=A41 R;have hR2:R.take k++c::R.drop (k+1)=E.take (k+1)++(List.replicate l.length ((0:Int),(0:Int))).drop (k+1):=by
  have ht:(E.take k).length=k:=by rw [List.length_take];omega
  have hd0:(E.take k).drop (k+1)=[]:=List.drop_eq_nil_of_le (by omega);rw [←hR,List.take_append_of_le_length (by omega),List.take_take,Nat.min_self,List.take_add_one,List.getElem?_eq_getElem hEk,hEc,List.drop_append,ht,hd0,List.drop_drop];simp
 have hnew:List.take (2*k) (Gi R)++[I c.1,I c.2]++List.drop (2*k+2) (Gi R)=Gi (E.take (k+1)++(List.replicate l.length ((0:Int),(0:Int))).drop (k+1)):=by
  rw [Ag7 _ _ (by omega),hR2]
 rw [hR];refine Bg (A2 (A4 (Aw rfl ?_ ?_)))
 ·rw [Aj h2];simp;omega
 rw [Aj h2];refine TsC rfl (Dr rfl rfl hfk (Az 1 rfl (by simp;omega) ?_));rw [h2k];refine Al rfl (by simp;omega) (TrR rfl (TrR rfl ?_));refine ⟨k+1,_,Ad (.k rfl (.k rfl (.k rfl (.k rfl (.k rfl (.cons rfl (VLe.i (w64 (by omega) (by omega))) .nil))))))
  (.cons rfl ?_ (.cons rfl ?_ .nil)) .nil (okF rfl) rfl,⟨h2,rfl⟩,by omega⟩
 ·rw [←hnew];simp;exact LLe.refl _
 ·rw [S9,List.getD_eq_getElem?_getD,List.getElem?_eq_getElem h2];exact LLe.refl _
def offB (b:Int×Int):Prop:=-20000≤b.1∧b.1≤b.2∧b.2≤20000
def A4u (own bef:Int×Int):Int×Int:=(max (max 0 (own.1-bef.2)) (bef.1-own.2),max (own.2-bef.1) (bef.2-own.1))
theorem c_bends1 {k:Int} {own bef:Int×Int} (h1:offB own) (h2:offB bef):C Tryz.prog Jh [I k,eB own,eB bef] (eB (A4u own bef)):=by
 unfold offB at h1 h2;refine C_of mixed Pn.2 (by simp) fun S ok=>?_;refine TsR rfl (TsR rfl ?_);have e1:=w64 (n:=own.1-bef.2) (by omega) (by omega);have e2:=w64 (n:=bef.1-own.2) (by omega) (by omega);have e3:=w64 (n:=own.2-bef.1) (by omega) (by omega);have e4:=w64 (n:=bef.2-own.1) (by omega) (by omega);rw [e1,e2,e3,e4];refine A8 rfl rfl rfl ?_ trivial;simp only [D2,A4u,eB,cond_true,Gp]
theorem Aeu {hd:Int×Int} {l:List (Int×Int)} (h1:offB hd) (h2:∀b∈l,offB b):∀k,k<l.length→offB (S9 hd l k)
 | 0,_=>h1
 | k+1,hk=>by
   rw [S9,List.getD_eq_getElem?_getD,List.getElem?_eq_getElem (by omega)];exact h2 _ (List.getElem_mem _)
def Tm (s:Strm) (b:List (Int×Int)):List (Int×Int):=A44 A4u (s.head,s.head) b
theorem c_bends {s:Strm} {b:List (Int×Int)} (hl:b.length≤1000000) (h1:offB (s.head,s.head)) (h2:∀x∈b,offB x):C Tryz.prog Uf [eStr s,sB b] (sB (Tm s b)):=by
 refine C_of mixed Ty.2 (by simp) fun S ok=>?_;have ke:=c_eachB (l:=b) (hd:=(s.head,s.head)) (f:=Jh) (g:=A4u) hl (fun k hk=>c_bends1 (h2 _ (List.getElem_mem hk)) (Aeu h1 h2 k hk));refine Aw rfl (by simp [eStr,strC,Cl]) (Bj rfl (by simp [eStr,strC,Cl]) (A3 rfl rfl (c_still _) (Srn rfl (A3 rfl rfl ke (Sfn rfl (A8 rfl rfl rfl rfl trivial))))))
def Tb (n m:Int):Int:=isq (n*n-min m n*min m n)
theorem Ad1 {n m:Int} (hn:1≤n∧n≤1000) (hm:0≤m∧m≤100000):C Tryz.prog Yd [I n,I m] (I (Tb n m)):=by
 have q1:0≤min m n∧min m n≤1000:=by omega
 have q2:=Int.mul_le_mul q1.2 q1.2 q1.1 (by omega);have q3:=Int.mul_le_mul hn.2 hn.2 (by omega) (by omega);have q4:min m n*min m n≤n*n:=Int.mul_le_mul (by omega) (by omega) q1.1 (by omega);have q5:=Int.mul_nonneg q1.1 q1.1;have kr:=Aah (n*n-min m n*min m n);unfold A67 at kr;rw [(Bu _ _ _).2 (by omega),if_pos rfl] at kr;refine C_of mixed Xk.2 (by simp) fun S ok=>?_;refine TsR rfl (TsR rfl ?_);refine Aa (s':=⟨[(0,I n),(1,I (min m n))],[],[],[],false⟩) (Ad (.k rfl (.cons rfl (VLe.i (by simp only [cond_false,It])) .nil)) .nil .nil rfl rfl) ?_;refine TsC rfl ?_;rw [w64 (n:=n*n) (by omega) (by omega),w64 (n:=min m n*min m n) (by omega) (by omega),w64 (n:=n*n-min m n*min m n) (by omega) (by omega)];exact A3 rfl rfl kr (Sfn rfl (TsR rfl (A8 rfl rfl rfl rfl trivial)))
end
section
open Go.Am
attribute [local simp] cells Af mkv Aq B6 under dem dem1 eB Ac As sB
inductive Ax:Int→Int→Prop
 | e:Ax 1 0
 | n:Ax 0 1
 | w:Ax (-1) 0
 | s:Ax 0 (-1)
def eHd (p q:Int):V:=.agg [I p,I q,I 1]
theorem Ax.bd {p q:Int} (h:Ax p q):(-1≤p∧p≤1)∧(-1≤q∧q≤1)∧p*p+q*q=1∧p*q=0:=by
 cases h<;>decide
theorem Y4 {p q:Int} (h:Ax p q):C Tryz.prog Qz [eHd p q] (I 0):=by
 have hb:=h.bd;have k1:C Tryz.prog Jg [I 1,I 1,I 1000] (.bool true):=E9 _ _ _;have k2:C Tryz.prog Jg [I p,I (-1),I 1] (.bool true):=by
  have:=E9 p (-1) 1;rw [(Bu _ _ _).2 hb.1] at this;exact this
 have k3:C Tryz.prog Jg [I q,I (-1),I 1] (.bool true):=by
  have:=E9 q (-1) 1;rw [(Bu _ _ _).2 hb.2.1] at this;exact this
 refine C_of mixed Po.2 (by simp) fun S ok=>?_;refine Aw rfl (by simp [eHd]) (A2 (Bj rfl (by simp [eHd]) (A3 rfl rfl k1 (Ci rfl (by simp [eHd]) ?_))));refine Ao (r:=.bool true) rfl rfl rfl rfl (by simp) (fun _=>k2) (Ci rfl (by simp [eHd]) ?_);refine Ao (r:=.bool true) rfl rfl rfl rfl (by simp) (fun _=>k3) (Al rfl (by simp [eHd]) ?_);refine An rfl rfl (fun h1=>?_) (fun h1=>A5 (TsR rfl (A8 rfl rfl rfl rfl trivial)));exfalso;revert h1;cases h<;>decide
theorem tdiv1 (a:Int):a.tdiv 1=a:=Int.tdiv_one a
theorem tmod1 (a:Int):a.tmod 1=0:=Int.tmod_one a
theorem Qk {a:Int} (h:-1000000000≤a∧a≤1000000000):C Tryz.prog A8d [I a,I 1] (I a):=by
 refine C_of mixed A6f.2 (by simp) fun S ok=>?_;refine TsR rfl (TsR rfl ?_);refine Aa (s':=⟨[(0,I a),(1,I 1),(5,I a)],[],[],[],false⟩) (Ad (.k rfl (.k rfl (.cons rfl (VLe.i (by rw [tdiv1,w64 (by omega) (by omega)])) .nil))) .nil .nil rfl rfl) ?_;refine A2 (TsR rfl (An rfl rfl (fun h1=>?_) (fun h1=>A5 (TsR rfl (A8 rfl rfl rfl rfl trivial)))));exfalso;have h1:decide (a.tmod 1<0)=true:=h1;rw [tmod1] at h1;exact absurd h1 (by decide)
theorem A1t {a:Int} (h:-1000000000≤a∧a≤1000000000):C Tryz.prog Adl [I a,I 1] (I a):=by
 refine C_of mixed Ab5.2 (by simp) fun S ok=>?_;refine TsR rfl (TsC rfl ?_);rw [w64 (n:=0-a) (by omega) (by omega)];refine A3 rfl rfl (Qk (by omega)) (Sfn rfl (A8 rfl rfl rfl ?_ trivial));show I a=I (IntKind.i64.wrap (0-(0-a)));rw [w64 (by omega) (by omega)];congr 1;omega
def V7 (f:Fr) (p q:Int):Fr:=⟨exF f p (-q),exF f q p,exF f (p+q) (p-q),exF f (p-q) (-q-p)⟩
def Lw (f:Fr) (p q:Int):Bool:=Ez 32768 (V7 f p q).x&&Ez 32768 (V7 f p q).y
theorem Aa0 {f:Fr} (hf:Bh f=true) {p q:Int} (hp:-2000≤p∧p≤2000) (hq:-2000≤q∧q≤2000):(-1000000000≤(exF f p q).1∧(exF f p q).1≤1000000000)∧-1000000000≤(exF f p q).2∧(exF f p q).2≤1000000000:=by
 have:=exL_bd hf hp hq;unfold exBd at this;unfold exF;omega
theorem c_turned {f:Fr} (hf:Bh f=true) {p q:Int} (h:Ax p q):C Tryz.prog A5a [.agg (Ac f),eHd p q] (.tuple [.agg (Ac (V7 f p q)),.bool (Lw f p q)]):=by
 have hb:=h.bd;have k1:=Nc (f:=f) (p:=p) (q:=-q) hf (by omega) (by omega);have k2:=Nc (f:=f) (p:=q) (q:=p) hf (by omega) (by omega);have k3:=Nc (f:=f) (p:=p+q) (q:=p-q) hf (by omega) (by omega);have k4:=Nc (f:=f) (p:=p-q) (q:=-q-p) hf (by omega) (by omega);have b1:=Aa0 (f:=f) (p:=p) (q:=-q) hf (by omega) (by omega);have b2:=Aa0 (f:=f) (p:=q) (q:=p) hf (by omega) (by omega);have b3:=Aa0 (f:=f) (p:=p+q) (q:=p-q) hf (by omega) (by omega);have b4:=Aa0 (f:=f) (p:=p-q) (q:=-q-p) hf (by omega) (by omega);have eT:V7 f p q=⟨exF f p (-q),exF f q p,exF f (p+q) (p-q),exF f (p-q) (-q-p)⟩:=rfl;unfold Lw;rw [eT];simp only;generalize exF f p (-q)=T1 at k1 b1;generalize exF f q p=T2 at k2 b2;generalize exF f (p+q) (p-q)=T3 at k3 b3;generalize exF f (p-q) (-q-p)=T4 at k4 b4;refine C_of mixed A32.2 (by simp) fun S ok=>?_;refine Aw rfl (by simp [eHd]) (TsR rfl (A2 (Aw rfl (by simp [eHd]) (A4 ?_))));have e1:=w64 (n:=0-q) (by omega) (by omega);have e2:=w64 (n:=p+q) (by omega) (by omega);have e3:=w64 (n:=p-q) (by omega) (by omega);have e4:=w64 (n:=0-q-p) (by omega) (by omega);refine Bd 5 (Ag ?_);refine Aa (s':=⟨[(2,.ptr 2 0),(3,.ptr 3 0),(4,.ptr 4 0),(6,.ptr 6 0),(44,.agg [I p,I (-q),I q,I p,I (p+q),I (p-q),I (p-q),I (-q-p)]),(45,I 0)],[(2,⟨Ac f,false⟩),(3,⟨[I p,I q,I 1],false⟩),(4,⟨Ac ⟨(0,0),(0,0),(0,0),(0,0)⟩,false⟩),(6,⟨[I 0,I 0,I 0,I 0,I 0,I 0,I 0,I 0],false⟩)],[],[],false⟩) (Ad (.k rfl (.k rfl (.k rfl (.k rfl (.cons rfl (.of_eq ?_) (.cons rfl (VLe.i rfl) .nil)))))) (.k rfl (.k rfl (.k rfl (.k rfl .nil)))) .nil rfl rfl) ?_
 ·show V.agg [I p,I (IntKind.i64.wrap (0-q)),I q,I p,I (IntKind.i64.wrap (p+q)),I (IntKind.i64.wrap (p-q)),I (IntKind.i64.wrap (p-q)),I (IntKind.i64.wrap (IntKind.i64.wrap (0-q)-p))]=_;rw [e1,e2,e3,e4,Int.zero_sub]
 refine TsR rfl (A2 (A9 rfl (A5 (A2 (A4 (TsR rfl (TsC rfl (A3 rfl rfl k1 (Sfn rfl ?_)))))))));refine Ab (Krn rfl (A6 rfl rfl (Qk b1.1) (Krn rfl (A6 rfl rfl (A1t b1.2) (Krn rfl (.done (KrT ?_)))))));refine TrR rfl (Ag ?_);refine Aa (s':=⟨[(2,.ptr 2 0),(3,.ptr 3 0),(4,.ptr 4 0),(6,.ptr 6 0),(44,.agg [I p,I (-q),I q,I p,I (p+q),I (p-q),I (p-q),I (-q-p)]),(45,I 1)],[(2,⟨Ac f,false⟩),(3,⟨[I p,I q,I 1],false⟩),(4,⟨Ac ⟨(0,0),(0,0),(0,0),(0,0)⟩,false⟩),(6,⟨[I T1.1,I T1.2,I 0,I 0,I 0,I 0,I 0,I 0],false⟩)],[],[],false⟩) (Ad (.k rfl (.k rfl (.k rfl (.k rfl (.k rfl (.cons rfl (VLe.i rfl) .nil)))))) (.k rfl (.k rfl (.k rfl (.k rfl .nil)))) .nil rfl rfl) ?_;refine TsR rfl (A2 (A9 rfl (A5 (A2 (A4 (TsR rfl (TsC rfl (A3 rfl rfl k2 (Sfn rfl ?_)))))))));refine Ab (Krn rfl (A6 rfl rfl (Qk b2.1) (Krn rfl (A6 rfl rfl (A1t b2.2) (Krn rfl (.done (KrT ?_)))))));refine TrR rfl (Ag ?_);refine Aa (s':=⟨[(2,.ptr 2 0),(3,.ptr 3 0),(4,.ptr 4 0),(6,.ptr 6 0),(44,.agg [I p,I (-q),I q,I p,I (p+q),I (p-q),I (p-q),I (-q-p)]),(45,I 2)],[(2,⟨Ac f,false⟩),(3,⟨[I p,I q,I 1],false⟩),(4,⟨Ac ⟨(0,0),(0,0),(0,0),(0,0)⟩,false⟩),(6,⟨[I T1.1,I T1.2,I T2.1,I T2.2,I 0,I 0,I 0,I 0],false⟩)],[],[],false⟩) (Ad (.k rfl (.k rfl (.k rfl (.k rfl (.k rfl (.cons rfl (VLe.i rfl) .nil)))))) (.k rfl (.k rfl (.k rfl (.k rfl .nil)))) .nil rfl rfl) ?_;refine TsR rfl (A2 (A9 rfl (A5 (A2 (A4 (TsR rfl (TsC rfl (A3 rfl rfl k3 (Sfn rfl ?_)))))))));refine Ab (Krn rfl (A6 rfl rfl (Qk b3.1) (Krn rfl (A6 rfl rfl (A1t b3.2) (Krn rfl (.done (KrT ?_)))))));refine TrR rfl (Ag ?_);refine Aa (s':=⟨[(2,.ptr 2 0),(3,.ptr 3 0),(4,.ptr 4 0),(6,.ptr 6 0),(44,.agg [I p,I (-q),I q,I p,I (p+q),I (p-q),I (p-q),I (-q-p)]),(45,I 3)],[(2,⟨Ac f,false⟩),(3,⟨[I p,I q,I 1],false⟩),(4,⟨Ac ⟨(0,0),(0,0),(0,0),(0,0)⟩,false⟩),(6,⟨[I T1.1,I T1.2,I T2.1,I T2.2,I T3.1,I T3.2,I 0,I 0],false⟩)],[],[],false⟩) (Ad (.k rfl (.k rfl (.k rfl (.k rfl (.k rfl (.cons rfl (VLe.i rfl) .nil)))))) (.k rfl (.k rfl (.k rfl (.k rfl .nil)))) .nil rfl rfl) ?_;refine TsR rfl (A2 (A9 rfl (A5 (A2 (A4 (TsR rfl (TsC rfl (A3 rfl rfl k4 (Sfn rfl ?_)))))))));refine Ab (Krn rfl (A6 rfl rfl (Qk b4.1) (Krn rfl (A6 rfl rfl (A1t b4.2) (Krn rfl (.done (KrT ?_)))))));refine TrR rfl (Ag ?_);refine Aa (s':=⟨[(2,.ptr 2 0),(3,.ptr 3 0),(4,.ptr 4 0),(6,.ptr 6 0),(44,.agg [I p,I (-q),I q,I p,I (p+q),I (p-q),I (p-q),I (-q-p)]),(45,I 4)],[(2,⟨Ac f,false⟩),(3,⟨[I p,I q,I 1],false⟩),(4,⟨Ac ⟨(0,0),(0,0),(0,0),(0,0)⟩,false⟩),(6,⟨[I T1.1,I T1.2,I T2.1,I T2.2,I T3.1,I T3.2,I T4.1,I T4.2],false⟩)],[],[],false⟩) (Ad (.k rfl (.k rfl (.k rfl (.k rfl (.k rfl (.cons rfl (VLe.i rfl) .nil)))))) (.k rfl (.k rfl (.k rfl (.k rfl .nil)))) .nil rfl rfl) ?_;refine TsR rfl (A2 (A7 rfl (Ak ?_)));have c1:=Uv (l:=32768) T1 (by omega);have c2:=Uv (l:=32768) T2 (by omega);generalize Ez 32768 T1=g1 at c1 ⊢;generalize Ez 32768 T2=g2 at c2 ⊢;refine A2 (Ab (Krn rfl (A6 rfl rfl c1 (Bm rfl (by cases g1<;>simp) ?_))));refine Cu (r:=.bool g2) rfl rfl rfl rfl (by cases g1<;>simp) (fun _=>c2) (Bm rfl (by cases g1<;>simp) (.done (KrT ?_)));refine A8 rfl rfl rfl ?_ trivial;cases g1<;>cases g2<;>rfl
end
section
open Go.Am
attribute [local simp] cells Af mkv Aq B6 under dem dem1 eB Ac As sB eF
def Xj (l:List Fr):V:=.slice 0 8 (l.map eF)
def allF:Fr:=⟨(-32768,32768),(-32768,32768),(-65536,65536),(-65536,65536)⟩
theorem c_All:C Tryz.prog A5j [] (.agg (Ac allF)):=by
 refine C_of mixed A3b.2 (by simp) fun S ok=>?_;refine TsR rfl (TsR rfl (TsC rfl (A3 rfl rfl (Qi allF) (Sfn rfl (A8 rfl rfl rfl rfl trivial)))))
def secZ:Sec:=⟨0,0,0,0,0⟩
def Fb (s:Strm) (k:Nat):Sec:=s.secs.getD k secZ
def Mi (s:Strm) (b:List (Int×Int)) (k:Nat):Int×Int:=(Tm s b).getD k (0,0)
def farI (s:Strm):Nat→Int
 | 0=>0
 | k+1=>farI s k+(Fb s k).len
def Oo (s:Strm) (b:List (Int×Int)):Nat→Int
 | 0=>0
 | k+1=>Oo s b k+Tb (Fb s k).len (Mi s b k).2
def ownF (s:Strm) (b:List (Int×Int)) (k:Nat):Fr:=⟨(-farI s (k+1),-Oo s b (k+1)),b.getD k (0,0),(-65536,65536),(-65536,65536)⟩
def Ka (s:Strm) (b:List (Int×Int)) (k:Nat):Fr:=(J5 (ownF s b k)).getD frZ
def Ip (s:Strm) (b:List (Int×Int)):List Fr:=(List.range b.length).map (Ka s b)
theorem N3 (s:Strm) (b:List (Int×Int)):(Ip s b).length=b.length:=by simp [Ip]
theorem Z7 {s:Strm} {b:List (Int×Int)} {k:Nat} (h:k<b.length):(Ip s b)[k]?=some (Ka s b k):=by
 unfold Ip;rw [List.getElem?_map,List.getElem?_range h];rfl
structure TowOk (s:Strm) (b:List (Int×Int)):Prop where
 len:b.length=s.secs.length
 many:1≤b.length∧b.length≤8
 head:-2000≤s.head∧s.head≤2000
 secs:∀k<b.length,1≤(Fb s k).len∧(Fb s k).len≤1000
 offs:∀k<b.length,-16384≤(b.getD k (0,0)).1∧(b.getD k (0,0)).1≤(b.getD k (0,0)).2∧(b.getD k (0,0)).2≤16384
theorem Ky {α:Type} {l:List α} {k:Nat} (h:k<l.length) (d:α):l.getD k d=l[k]:=by
 rw [List.getD_eq_getElem?_getD,List.getElem?_eq_getElem h];rfl
theorem A8w {s:Strm} {b:List (Int×Int)} (h:(Rn s&&Lm s b)=true):TowOk s b:=by
 simp only [Rn,A9v,Lm,Bool.and_eq_true,Bu,beq_iff_eq] at h;obtain ⟨⟨⟨⟨⟨h1,h2⟩,h3⟩,h4⟩,h5⟩,h6,h7⟩:=h;refine ⟨h6,by omega,h1,fun k hk=>?_,fun k hk=>?_⟩
 ·unfold Fb;rw [Ky (by omega)];have:=List.all_eq_true.1 h5 _ (List.getElem_mem (show k<s.secs.length by omega));simp only [A2r,Bool.and_eq_true,Bu] at this;exact this.1.1.1.1
 ·rw [Ky hk];have:=List.all_eq_true.1 h7 _ (List.getElem_mem hk);simp only [Ez,Bool.and_eq_true,decide_eq_true_eq] at this;omega
theorem TowOk.bend {s:Strm} {b:List (Int×Int)} (h:TowOk s b) {k:Nat} (hk:k<b.length):Mi s b k=A4u (b.getD k (0,0)) (S9 (s.head,s.head) b k):=by
 unfold Mi Tm;rw [List.getD_eq_getElem?_getD,Wh A4u _ _ _ hk,Ky hk];rfl
theorem TowOk.prev {s:Strm} {b:List (Int×Int)} (h:TowOk s b) {k:Nat} (hk:k<b.length):offB (S9 (s.head,s.head) b k):=by
 cases k with
 | zero=>show offB (s.head,s.head);have:=h.head;unfold offB;simp only;omega
 | succ k=>show offB (b.getD k (0,0));have:=h.offs k (by omega);unfold offB;omega
theorem TowOk.bd {s:Strm} {b:List (Int×Int)} (h:TowOk s b) {k:Nat} (hk:k<b.length):0≤(Mi s b k).2∧(Mi s b k).2≤40000:=by
 rw [h.bend hk];have h1:=h.prev hk;have h2:=h.offs k hk;unfold offB at h1;unfold A4u;simp only;omega
theorem A92 {n m:Int} (hn:1≤n∧n≤1000) (hm:0≤m):0≤Tb n m∧Tb n m≤n:=by
 have q1:0≤min m n∧min m n≤1000:=by omega
 have q3:=Int.mul_le_mul hn.2 hn.2 (by omega) (by omega);have q4:min m n*min m n≤n*n:=Int.mul_le_mul (by omega) (by omega) q1.1 (by omega);have q5:=Int.mul_nonneg q1.1 q1.1;have hs:=Qa (n:=n*n-min m n*min m n) (by omega) (by omega);unfold Tb;refine ⟨hs.1,?_⟩;rcases Int.lt_or_le n (isq (n*n-min m n*min m n)) with h | h
 ·have:=Int.mul_le_mul (a:=n+1) (b:=n+1) (c:=isq (n*n-min m n*min m n)) (d:=isq (n*n-min m n*min m n)) (by omega) (by omega) (by omega) (by omega);have e:(n+1)*(n+1)=n*n+n+n+1:=by rw [Int.add_mul,Int.mul_add];omega
  omega
 ·exact h
theorem TowOk.far {s:Strm} {b:List (Int×Int)} (h:TowOk s b):∀k,k≤b.length→(0≤Oo s b k∧Oo s b k≤farI s k)∧farI s k≤1000*k
 | 0,_=>⟨⟨Int.le_refl 0,Int.le_refl 0⟩,Int.le_refl 0⟩
 | k+1,hk=>by
   have ih:=TowOk.far h k (by omega);have h1:=h.secs k (by omega);have h2:=A92 h1 (h.bd (k:=k) (by omega)).1;rw [Oo,farI];omega
theorem TowOk.own {s:Strm} {b:List (Int×Int)} (h:TowOk s b) {k:Nat} (hk:k<b.length):Bh (ownF s b k)=true:=by
 have h1:=h.far (k+1) (by omega);have h2:=h.offs k hk;have h3:=h.many;rw [Cw];unfold fitF fitB ownF;simp only;omega
theorem TowOk.has {s:Strm} {b:List (Int×Int)} (h:TowOk s b) {k:Nat} (hk:k<b.length) {p:Int×Int} (h1:-farI s (k+1)≤p.1∧p.1≤-Oo s b (k+1)) (h2:(b.getD k (0,0)).1≤p.2∧p.2≤(b.getD k (0,0)).2):J5 (ownF s b k)=some (Ka s b k)∧inR (Ka s b k) p:=by
 have h3:=h.far (k+1) (by omega);have h4:=h.offs k hk;have h5:=h.many;have hin:inR (ownF s b k) p:=by
  unfold inR ownF;simp only;omega
 obtain ⟨t,ht,hin⟩:=Ae7 (h.own hk) hin;unfold Ka;rw [ht];exact ⟨rfl,hin⟩
theorem TowOk.tight {s:Strm} {b:List (Int×Int)} (h:TowOk s b) {k:Nat} (hk:k<b.length):J5 (ownF s b k)=some (Ka s b k):=by
 have h1:=h.far (k+1) (by omega);have h2:=h.offs k hk;exact (h.has hk (p:=(-Oo s b (k+1),(b.getD k (0,0)).1)) (by simp only;omega) (by simp only;omega)).1
theorem c_tnodes {s:Strm} {b:List (Int×Int)} (h:TowOk s b):C Tryz.prog Ud [eStr s,sB b] (Xj (Ip s b)):=by
 have hm:=h.many;have kb:=c_bends (s:=s) (b:=b) (by omega) (by have:=h.head;unfold offB;simp only;omega) (fun x hx=>by
  obtain ⟨k,hk,rfl⟩:=List.mem_iff_getElem.1 hx;have:=h.offs k hk;rw [Ky hk] at this;unfold offB;omega)
 have hbl:(Tm s b).length=b.length:=Wg _ _ _;have hll:=h.len;refine C_of mixed Tw.2 (by simp) fun S ok=>?_;refine Aw rfl (by simp [eStr,strC,Cl]) (TsR rfl (TsR rfl (A2 (Bj rfl (by simp [eStr,strC,Cl]) (A3 rfl rfl kb (Sfn rfl (A4 ?_)))))));refine Bc (fun (k:Nat) st=>k≤b.length∧st=⟨[(1,sB b),(2,.ptr 2 0),(5,.slice 62 8 (((Ip s b).take k).map eF)),(6,I (farI s k)),(7,I (Oo s b k)),(13,sB (Tm s b)),(14,I b.length),(15,I k)],[(2,⟨strC s,false⟩)],[(61,((Ip s b).take k).length,8,55)],[],false⟩) (fun k=>b.length-k) 0 (Ad (.k rfl (.k rfl (.cons rfl (.nil 62 8) (.k rfl (.k rfl (.k rfl (.cons rfl (VLe.i (by simp [hbl])) (.k rfl .nil)))))))) (.k rfl .nil) (.new rfl .nil) rfl rfl) ⟨by omega,rfl⟩ ?_;rintro k st ⟨hk,rfl⟩;refine TsR rfl (By rfl (fun h2=>?_) (fun h2=>?_));rotate_left
 ·have h2:k=b.length:=by simp at h2;omega
  subst h2;refine Ak (TsR rfl (A8 rfl rfl rfl ?_ trivial));rw [←N3 s b,List.take_length];rfl
 have h2:k<b.length:=by simpa using h2
 have hkb:k<(Tm s b).length:=by omega
 have hks:k<s.secs.length:=by omega
 have f0:=h.far k (by omega);have f1:=h.far (k+1) (by omega);have hs:=h.secs k h2;have hbd:=h.bd h2;have hof:=h.offs k h2;have ksh:=Ad1 hs (m:=(Mi s b k).2) (by omega);have kt:=Ux (h.tight h2);have hsb:=A92 hs hbd.1;have hsec:s.secs[k]=Fb s k:=(Ky hks _).symm;have hben:(Tm s b)[k]=Mi s b k:=(Ky hkb _).symm;have hbk:b[k]=b.getD k (0,0):=(Ky h2 _).symm;have hfa:farI s (k+1)=farI s k+(Fb s k).len:=rfl;have hne:Oo s b (k+1)=Oo s b k+Tb (Fb s k).len (Mi s b k).2:=rfl;have eown:ownF s b k=⟨(-farI s (k+1),-Oo s b (k+1)),b.getD k (0,0),(-65536,65536),(-65536,65536)⟩:=rfl;refine Bg (A2 (A4 (Aw rfl ?_ ?_)))
 ·rw [Aj hkb];simp;omega
 rw [Aj hkb,hben];obtain ⟨x,hx⟩:∃x,Fb s k=x:=⟨_,rfl⟩;rw [hx] at hsec hs ksh hsb hfa hne;refine Sr 6 rfl (by simp [strC,Cl];omega) ?_;rw [Aj hks,hsec];refine Al rfl (by simp [eSec,secC]) ?_;rw [w64 (by omega) (by omega),←hfa];refine A2 (Ab (Ah 6 rfl (by simp [strC,Cl];omega) ?_));rw [Aj hks,hsec];refine Bm rfl (by simp [eSec,secC]) (A6 rfl rfl ksh (Krn rfl (.done (KrT ?_))));rw [w64 (by omega) (by omega),←hne];refine TsC rfl (A3 rfl rfl c_All (Sfn rfl ?_));refine A2 (Ab (Ah 8 rfl (by simp;omega) ?_));rw [Aj h2,hbk];refine Krn rfl (.done (KrT ?_));have htk:(Ip s b).take (k+1)=(Ip s b).take k++[Ka s b k]:=by
  rw [List.take_add_one,Z7 h2];rfl
 have htl:((Ip s b).take k).length=k:=by rw [List.length_take,N3];omega
 refine Aa (s':=⟨[(1,sB b),(2,.ptr 2 0),(5,.slice 62 8 (((Ip s b).take k).map eF)),(6,I (farI s (k+1))),(7,I (Oo s b (k+1))),(10,.ptr 10 0),(13,sB (Tm s b)),(14,I b.length),(15,I k)],[(2,⟨strC s,false⟩),(10,⟨Ac (ownF s b k),false⟩)],[(61,((Ip s b).take k).length,8,55)],[],false⟩) (Ad (.k rfl (.k rfl (.k rfl (.k rfl (.k rfl (.k rfl (.k rfl (.k rfl (.k rfl .nil))))))))) (.k rfl (.cons rfl ?_ .nil)) (.cons rfl .nil) rfl rfl) ?_
 ·show LLe [I (IntKind.i64.wrap (0-farI s (k+1))),I (IntKind.i64.wrap (0-Oo s b (k+1))),I (b.getD k (0,0)).1,I (b.getD k (0,0)).2,I (-65536),I 65536,I (-65536),I 65536] (Ac (ownF s b k));rw [w64 (by omega) (by omega),w64 (by omega) (by omega),Int.zero_sub,Int.zero_sub];exact LLe.refl _
 refine TsC rfl (A3 rfl rfl kt (Sfn rfl ?_));refine Ss rfl (by simp [N3];omega) (TrR rfl ?_);refine ⟨k+1,_,Ad (.k rfl (.k rfl (.cons rfl (.of_eq ?_) (.k rfl (.k rfl (.k rfl (.k rfl (.cons rfl (VLe.i (w64 (by omega) (by omega))) .nil)))))))) (.k rfl .nil) (.cons ?_ .nil) rfl rfl,⟨h2,rfl⟩,by omega⟩
 ·rw [htk];simp
 ·rw [htk];show some _=some _;simp
end
section
open Go.Am
attribute [local simp] cells Af mkv Aq B6 under dem dem1 eB Ac As sB eF
def whAt (s:Strm) (b:List (Int×Int)) (sh:Int×Int) (p q:Int) (k:Nat):Option Fr:=if Lw (Ka s b k) p q then movO (V7 (Ka s b k) p q) sh else none
def whL (s:Strm) (b:List (Int×Int)) (sh:Int×Int) (p q:Int):List Fr:=(List.range b.length).map fun k=>(whAt s b sh p q k).getD frZ
def whOk (s:Strm) (b:List (Int×Int)) (sh:Int×Int) (p q:Int):Bool:=(List.range b.length).all fun k=>(whAt s b sh p q k).isSome
theorem V5 (s:Strm) (b:List (Int×Int)) (sh:Int×Int) (p q:Int):(whL s b sh p q).length=b.length:=by simp [whL]
theorem Ae2 {s:Strm} {b:List (Int×Int)} {sh:Int×Int} {p q:Int} {k:Nat} (h:k<b.length):(whL s b sh p q)[k]?=some ((whAt s b sh p q k).getD frZ):=by
 unfold whL;rw [List.getElem?_map,List.getElem?_range h];rfl
theorem TowOk.nodeFit {s:Strm} {b:List (Int×Int)} (h:TowOk s b) {k:Nat} (hk:k<b.length):Bh (Ka s b k)=true :=
 (Rk (h.tight hk)).2.2.2.2
section
variable {s:Strm} {b:List (Int×Int)} {sh:Int×Int} {p q:Int}
theorem c_Where (hl:s.secs.length≤9223372036854775807) (hb:b.length≤9223372036854775807) (hx:Ax p q) :
  (((Rn s&&Lm s b)&&B7 sh&&whOk s b sh p q)=true→C Tryz.prog P3 [eStr s,sB b,eB sh,eHd p q] (.tuple [Xj (whL s b sh p q),I 0])) ∧
  (((Rn s&&Lm s b)&&B7 sh&&whOk s b sh p q)=false→∃e:Int,e≠0∧C Tryz.prog P3 [eStr s,sB b,eB sh,eHd p q] (.tuple [.nils,I e])):=by
 have kc:=Ahy (s:=s) (b:=b) hl hb;cases h1:Rn s&&Lm s b with
 | false =>
   refine ⟨fun h=>by simp at h,fun _=>?_⟩;obtain ⟨e,he,kc⟩:=kc.2 h1;refine ⟨e,he,C_of mixed Oc.2 (by simp) fun S ok=>?_⟩;refine Aw rfl (by simp [eStr,strC,Cl,eHd]) (Bj rfl (by simp [eStr,strC,Cl]) (A3 rfl rfl kc (Al rfl (by simp [strZ]) ?_)));refine A2 (TsR rfl (An rfl rfl (fun h2=>TsR rfl (A8 rfl rfl rfl rfl trivial)) (fun h2=>?_)));exfalso;have h2:(e != 0)=false:=h2;simp at h2;exact he h2
 | true =>
 have kc:=kc.1 h1;have kp:=D4 sh;have kh:=Y4 hx;have ht:=A8w h1;have hm:=ht.many;have kn:=c_tnodes ht;cases h2:B7 sh with
 | false =>
   rw [h2,if_neg (by simp)] at kp;refine ⟨fun h=>by simp at h,fun _=>⟨10,by decide,?_⟩⟩;refine C_of mixed Oc.2 (by simp) fun S ok=>?_;refine Aw rfl (by simp [eStr,strC,Cl,eHd]) (Bj rfl (by simp [eStr,strC,Cl]) (A3 rfl rfl kc (Al rfl (by simp [eStr,strC,Cl]) ?_)));refine A2 (TsR rfl (A7 rfl (A5 ?_)));refine A2 (TsC rfl (A3 rfl rfl kp (Sfn rfl (TsR rfl (A9 rfl ?_)))));exact TsR rfl (A8 rfl rfl rfl rfl trivial)
 | true =>
 rw [h2,if_pos rfl] at kp;have hnl:=N3 s b;have walk:∀(r:V),(whOk s b sh p q=true→r=.tuple [Xj (whL s b sh p q),I 0])→(∀k<b.length,(∀j<k,(whAt s b sh p q j).isSome=true)→whAt s b sh p q k=none→(Lw (Ka s b k) p q=false→r=.tuple [.nils,I 7])∧(Lw (Ka s b k) p q=true→∃e:Int,e≠0∧C Tryz.prog Lf [.agg (Ac (V7 (Ka s b k) p q)),eB sh] (.tuple [.agg (Ac frZ),I e])∧r=.tuple [.nils,I e]))→C Tryz.prog P3 [eStr s,sB b,eB sh,eHd p q] r:=by
  intro r hr1 hr2;refine C_of mixed Oc.2 (by simp) fun S ok=>?_;refine Aw rfl (by simp [eStr,strC,Cl,eHd]) (Bj rfl (by simp [eStr,strC,Cl]) (A3 rfl rfl kc (Al rfl (by simp [eStr,strC,Cl]) ?_)));refine A2 (TsR rfl (A7 rfl (A5 ?_)));refine A2 (TsC rfl (A3 rfl rfl kp (Sfn rfl (TsR rfl (A7 rfl (A5 ?_))))));refine A2 (Bj rfl (by simp [eHd]) (A3 rfl rfl kh (Sfn rfl (TsR rfl (A7 rfl (A5 ?_))))));refine TsR rfl (A2 (Bj rfl (by simp [eStr,strC,Cl]) (A3 rfl rfl kn (Al rfl (by simp [Xj]) (A4 ?_)))));refine Bc (fun (k:Nat) st=>(k≤b.length∧∀j<k,(whAt s b sh p q j).isSome=true)∧st=⟨[(6,.ptr 6 0),(7,.ptr 7 0),(14,.slice 69 8 (((whL s b sh p q).take k).map eF)),(42,Xj (Ip s b)),(43,I b.length),(44,I k)],[(6,⟨[I sh.1,I sh.2],false⟩),(7,⟨[I p,I q,I 1],false⟩)],[(68,((whL s b sh p q).take k).length,8,55)],[],false⟩) (fun k=>b.length-k) 0 (Ad (.k rfl (.k rfl (.cons rfl (.nil 69 8) (.k rfl (.cons rfl (VLe.i (by simp [hnl])) (.k rfl .nil)))))) (.k rfl (.k rfl .nil)) (.new rfl .nil) rfl rfl) ⟨⟨by omega,fun j hj=>by omega⟩,rfl⟩ ?_;rintro k st ⟨⟨hk,hall⟩,rfl⟩;refine TsR rfl (By rfl (fun h3=>?_) (fun h3=>?_));rotate_left
  ·have h3:k=b.length:=by simp at h3;omega
   subst h3;have hw:whOk s b sh p q=true:=by
    unfold whOk;rw [List.all_eq_true];intro j hj;exact hall j (List.mem_range.1 hj)
   refine Ak (TsR rfl (A8 rfl rfl rfl ?_ trivial));rw [hr1 hw,←V5 s b sh p q,List.take_length];rfl
  have h3:k<b.length:=by simpa using h3
  have hkn:k<(Ip s b).length:=by omega
  have hnk:(Ip s b)[k]=Ka s b k:=Option.some.inj ((List.getElem?_eq_getElem hkn).symm.trans (Z7 h3));have kt:=c_turned (ht.nodeFit h3) hx;have hr2k:=hr2 k h3 hall;have hwk:whAt s b sh p q k=if Lw (Ka s b k) p q then movO (V7 (Ka s b k) p q) sh else none:=rfl
  refine Bg (A2 (A4 (Aw rfl ?_ ?_)))
  ·rw [Aj hkn];simp;omega
  rw [Aj hkn,hnk];refine TsC rfl (A3 rfl rfl kt (Sfn rfl ?_));cases h4:Lw (Ka s b k) p q with
  | false =>
    rw [h4,if_neg (by simp)] at hwk;refine A2 (TsR rfl (A9 rfl (TsR rfl (A8 rfl rfl rfl ?_ trivial))));rw [(hr2k hwk).1 h4];rfl
  | true =>
    rw [h4,if_pos rfl] at hwk;refine A2 (TsR rfl (A7 rfl (A5 ?_)));cases hmv:movO (V7 (Ka s b k) p q) sh with
    | none =>
      rw [hmv] at hwk;obtain ⟨e,he,km,hre⟩:=(hr2k hwk).2 h4;refine TsC rfl (A3 rfl rfl km (Sfn rfl ?_));refine A2 (TsR rfl (An rfl rfl (fun h5=>TsR rfl (A8 rfl rfl rfl ?_ trivial)) (fun h5=>?_)))
      ·rw [hre];rfl
      ·exfalso;have h5:(e != 0)=false:=h5;simp at h5;exact he h5
    | some T =>
      rw [hmv] at hwk;have km:=A7v hmv;have htk:(whL s b sh p q).take (k+1)=(whL s b sh p q).take k++[T]:=by
       rw [List.take_add_one,Ae2 h3,hwk];rfl
      refine TsC rfl (A3 rfl rfl km (Sfn rfl ?_));refine A2 (TsR rfl (A7 rfl (A5 ?_)));refine Ss rfl (by simp [V5];omega) (TrR rfl ?_);refine ⟨k+1,_,Ad (.k rfl (.k rfl (.cons rfl (.of_eq ?_) (.k rfl (.k rfl (.cons rfl (VLe.i (w64 (by omega) (by omega))) .nil)))))) (.k rfl (.k rfl .nil)) (.cons ?_ .nil) rfl rfl,⟨⟨h3,fun j hj=>?_⟩,rfl⟩,by omega⟩
      ·rw [htk];simp
      ·rw [htk];show some _=some _;simp
      ·by_cases e:j=k
       ·subst e;rw [hwk];rfl
       ·exact hall j (by omega)
 refine ⟨fun h=>walk _ (fun _=>rfl) (fun k hk hall hn=>?_),fun h=>?_⟩
 ·exfalso;have h:whOk s b sh p q=true:=by simpa using h
  unfold whOk at h;have:=List.all_eq_true.1 h k (List.mem_range.2 hk);rw [hn] at this;cases this
 ·have h:whOk s b sh p q=false:=by simpa using h
  have hex:∃k<b.length,(∀j<k,(whAt s b sh p q j).isSome=true)∧whAt s b sh p q k=none:=by
   have:∀n,n≤b.length→(∃k<n,(∀j<k,(whAt s b sh p q j).isSome=true)∧whAt s b sh p q k=none)∨∀j<n,(whAt s b sh p q j).isSome=true:=by
    intro n
    induction n with
    | zero=>intro _;exact .inr fun j hj=>by omega
    | succ n ih =>
      intro hn;rcases ih (by omega) with ⟨k,hk,h5⟩ | h5
      ·exact .inl ⟨k,by omega,h5⟩
      ·cases hw:whAt s b sh p q n with
       | none=>exact .inl ⟨n,by omega,h5,hw⟩
       | some T =>
         refine .inr fun j hj=>?_;by_cases e:j=n
         ·subst e;rw [hw];rfl
         ·exact h5 j (by omega)
   rcases this b.length (by omega) with h5 | h5
   ·exact h5
   ·exfalso;unfold whOk at h;rw [List.all_eq_false] at h;obtain ⟨j,hj,hn⟩:=h;exact hn (h5 j (List.mem_range.1 hj))
  obtain ⟨k,hk,hall,hn⟩:=hex;have uniq:∀j,j<b.length→(∀i<j,(whAt s b sh p q i).isSome=true)→whAt s b sh p q j=none→j=k:=by
   intro j hj ha hjn;rcases Nat.lt_trichotomy j k with h6 | h6 | h6
   ·have:=hall j h6;rw [hjn] at this;cases this
   ·exact h6
   ·have:=ha k h6;rw [hn] at this;cases this
  cases h4:Lw (Ka s b k) p q with
  | false =>
    refine ⟨7,by decide,walk _ (fun h5=>by rw [h] at h5;cases h5) fun j hj ha hjn=>?_⟩;have:=uniq j hj ha hjn;subst this;exact ⟨fun _=>rfl,fun h5=>by rw [h4] at h5;cases h5⟩
  | true =>
    have hmv:movO (V7 (Ka s b k) p q) sh=none:=by
     unfold whAt at hn;rw [h4,if_pos rfl] at hn;exact hn
    obtain ⟨e,he,km⟩:=A7w hmv;refine ⟨e,he,walk _ (fun h5=>by rw [h] at h5;cases h5) fun j hj ha hjn=>?_⟩;have:=uniq j hj ha hjn;subst this;exact ⟨fun h5=>(by rw [h4] at h5;cases h5),fun _=>⟨e,he,km,rfl⟩⟩
end
end
section
open Go.Am
theorem A1b {a b T:Fr} (h:joiO a b=some T):Bh a=true∧Bh b=true∧Bh T=true∧HullOk T (F0 a++F0 b):=by
 unfold joiO at h;split at h;rotate_left
 ·cases h
 rename_i h0;simp only [Bool.and_eq_true] at h0;obtain ⟨⟨h1,h2⟩,h3⟩:=h0;have hT:(joiF a b).1=T:=Option.some.inj h;have hp:∀p∈F0 a++F0 b,B7 p=true:=by
  intro p hp;rcases List.mem_append.1 hp with hp | hp
  ·exact N1 (Ht h1) (Gr hp)
  ·exact N1 (Ht h2) (Gr hp)
 have hne:F0 a++F0 b≠[]:=fun e=>by
  unfold joiF at h3;rw [e] at h3;simp [Ec] at h3
 have H:=(A71 ((F0 a++F0 b).length-1) _ (by have:=List.length_pos_iff.2 hne;omega) hp).2;have H:HullOk T (F0 a++F0 b):=by rw [←hT];exact H
 refine ⟨h1,h2,?_,H⟩;obtain ⟨p1,q1,e1⟩:=H.a1;obtain ⟨p2,q2,e2⟩:=H.a2;obtain ⟨p3,q3,e3⟩:=H.b1;obtain ⟨p4,q4,e4⟩:=H.b2;obtain ⟨p5,q5,e5⟩:=H.c1;obtain ⟨p6,q6,e6⟩:=H.c2;obtain ⟨p7,q7,e7⟩:=H.d1;obtain ⟨p8,q8,e8⟩:=H.d2;have i:=H.i p1 q1;have r1:=Bt (hp _ q1);have r2:=Bt (hp _ q2);have r3:=Bt (hp _ q3);have r4:=Bt (hp _ q4);have r5:=Bt (hp _ q5);have r6:=Bt (hp _ q6);have r7:=Bt (hp _ q7);have r8:=Bt (hp _ q8);rw [Cw];unfold fitF fitB;omega
theorem Zb {T:Fr} {l:List (Int×Int)} (H:HullOk T l) {a:Fr} (hl:∀p∈F0 a,p∈l) {p:Int×Int} (h:inR a p):inR T p:=by
 obtain ⟨⟨m1,m2⟩,k1,k2⟩:=Uq h;have i1:=H.i _ (hl _ m1);have i2:=H.i _ (hl _ m2);unfold inR;simp only at i1 i2;omega
theorem joi_hasL {a b T:Fr} (h:joiO a b=some T) {p:Int×Int} (hp:inR a p):inR T p:=Zb (A1b h).2.2.2 (fun q hq=>by simp [hq]) hp
theorem joi_hasR {a b T:Fr} (h:joiO a b=some T) {p:Int×Int} (hp:inR b p):inR T p:=Zb (A1b h).2.2.2 (fun q hq=>by simp [hq]) hp
theorem A16 {r a:Fr} {p:Int×Int} (h:movO r p=some a):Bh r=true∧inV p=true∧okXY a=true∧∀q,inR r q→inR a (q.1+p.1,q.2+p.2):=by
 unfold movO at h;split at h;rotate_left
 ·cases h
 rename_i h0;simp only [Bool.and_eq_true] at h0;obtain ⟨⟨⟨h1,h2⟩,h3⟩,h4⟩:=h0;have ha:movF r p=a:=Option.some.inj h;rw [ha] at h4;refine ⟨h1,h2,h4,fun q hq=>?_⟩;have hh:=(Qd (Ht h1) hq).2;rw [←ha];unfold movF comb Aex;unfold inR at *;simp only;omega
theorem swe_spec {r T:Fr} {p q:Int×Int} (h:sweO r p q=some T):Bh T=true∧∀o,inR r o→inR T (o.1+p.1,o.2+p.2)∧inR T (o.1+q.1,o.2+q.2):=by
 unfold sweO at h;cases h1:movO r p with
 | none=>rw [h1] at h;cases h
 | some a =>
   cases h2:movO r q with
   | none=>rw [h1,h2] at h;cases h
   | some b =>
     rw [h1,h2] at h;have h:joiO a b=some T:=h;refine ⟨(A1b h).2.2.1,fun o ho=>⟨joi_hasL h ((A16 h1).2.2.2 o ho),joi_hasR h ((A16 h2).2.2.2 o ho)⟩⟩
end
section
open Go.Am
attribute [local simp] cells Af mkv Aq B6 under dem dem1 eB Ac As sB eF
def axL:List V:=[eHd 1 0,eHd 0 1,eHd (-1) 0,eHd 0 (-1)]
theorem axL_get {k:Nat} (h:k<4):∃p q:Int,Ax p q∧axL.getD (Int.toNat (k:Int)) Cz=eHd p q:=by
 rcases k with _ | _ | _ | _ | k
 ·exact ⟨1,0,.e,rfl⟩
 ·exact ⟨0,1,.n,rfl⟩
 ·exact ⟨-1,0,.w,rfl⟩
 ·exact ⟨0,-1,.s,rfl⟩
 ·omega
theorem c_axes:C Tryz.prog Adp [] (.slice 0 3 axL):=by
 refine C_of mixed Ab9.2 (by simp) fun S ok=>?_;exact TsR rfl (TsR rfl (A8 rfl rfl rfl rfl trivial))
def V3 (b:Int×Int) (n:Int):Int:=b.1+Nh n (b.2-b.1+1)
theorem A7m {b:Int×Int} {n:Int} (h:-20000≤b.1∧b.1≤b.2∧b.2≤20000):C Tryz.prog A5b [eB b,I n] (I (V3 b n)):=by
 have kr:=Ai0 n (b.2-b.1+1) (by omega);have hb:=Pl (n:=n) (m:=b.2-b.1+1) (by omega);refine C_of mixed A34.2 (by simp) fun S ok=>?_;refine TsR rfl (A2 (Ab (KrN 9 rfl ?_)));rw [w64 (n:=b.2-b.1) (by omega) (by omega),w64 (n:=b.2-b.1+1) (by omega) (by omega)];refine A6 rfl rfl kr (Krn rfl (.done (KrT ?_)));refine A8 rfl rfl rfl ?_ trivial;exact congrArg I (w64 (n:=b.1+Nh n (b.2-b.1+1)) (by omega) (by omega)).symm
theorem Aar {b:Int×Int} {n:Int} (h:b.1≤b.2):b.1≤V3 b n∧V3 b n≤b.2:=by
 have hb:=Pl (n:=n) (m:=b.2-b.1+1) (by omega);unfold V3;omega
def pickI (l:List Int) (i:Int):Int:=if l=[] then 0 else l.getD (Nh i l.length).toNat 0
theorem c_Pick {l:List Int} (i:Int) (hl:l.length≤9223372036854775807):C Tryz.prog A5l [As l,I i] (I (pickI l i)):=by
 unfold pickI;by_cases h:l=[]
 ·rw [if_pos h];subst h;refine C_of mixed Td.2 (by simp) fun S ok=>?_;refine TsR rfl (A2 (TsR rfl (A9 rfl ?_)));exact TsR rfl (A8 rfl rfl rfl rfl trivial)
 ·rw [if_neg h];have hpos:0<l.length:=List.length_pos_iff.2 h;have kr:=Ai0 i (l.length:Int) (by omega);have hb:=Pl (n:=i) (m:=(l.length:Int)) (by omega);obtain ⟨k,hk⟩:∃k:Nat,Nh i l.length=(k:Int):=⟨(Nh i l.length).toNat,by omega⟩;rw [hk] at kr hb ⊢;have hkl:k<l.length:=by omega
  have hlm:(l.map I).length=l.length:=List.length_map _;refine C_of mixed Td.2 (by simp) fun S ok=>?_;refine TsR rfl (A2 (TsR rfl (An rfl rfl (fun h2=>?_) (fun h2=>A5 ?_))))
  ·exfalso;have h2:((((l.map I).length:Nat):Int)==0)=true:=h2;rw [hlm] at h2;simp at h2;exact h h2
  refine TsC rfl ?_;rw [hlm];refine A3 rfl rfl kr (Az 1 rfl (by simp;omega) ?_);rw [Aj hkl];refine Sfn rfl (A8 rfl rfl rfl ?_ trivial);have e:l.getD k 0=l[k]:=by rw [List.getD_eq_getElem?_getD,List.getElem?_eq_getElem hkl];rfl
  show I (l.getD ((k:Int)).toNat 0)=I l[k];rw [Int.toNat_natCast,e]
theorem A7x {n:Int} (h:-1000000≤n∧n≤1000000):C Tryz.prog Sz [I n] (I (max n (-n))):=by
 refine C_of mixed Rv.2 (by simp) fun S ok=>?_;refine TsR rfl (TsR rfl (A8 rfl rfl rfl ?_ trivial));have e:IntKind.wrap .i64 (0-n)=-n:=by rw [w64 (by omega) (by omega)];omega
 show I (max n (-n))=.int .i64 (bif true then (if IntKind.wrap .i64 (0-n)>n then IntKind.wrap .i64 (0-n) else n) else (if IntKind.wrap .i64 (0-n)<n then IntKind.wrap .i64 (0-n) else n));rw [e,cond_true,Gp]
end
section
open Go.Am
attribute [local simp] cells Af mkv Aq B6 under dem dem1 eB Ac As sB eF
theorem Gs (n lo hi:Int):C Tryz.prog F8 [I n,I lo,I hi] (.bool (btw n lo hi)):=by
 refine C_of mixed Vi.2 (by simp) fun S ok=>?_;refine TsR rfl ?_;refine TsR rfl ?_;refine Bs rfl rfl ?_ trivial;simp [D2,btw]
def A06 (l:List (Int×Int)) (i:Nat):Bool:=decide (0≤(pAt l i).1)&&btw (pAt l i).2 (pAt l i).1 1048576&&(decide (i=0)||decide ((pAt l (i-1)).2<(pAt l i).1))
def Ae1 (l:List (Int×Int)):Bool:=(List.range l.length).all (A06 l)&&decide (l.length≤4)
theorem Ahf {l:List (Int×Int)} (hl:l.length≤9223372036854775807):C Tryz.prog Uj [sB l] (.bool (Ae1 l)):=by
 refine C_of mixed U5.2 (by simp) fun S ok=>?_;refine TsR rfl (A2 (TsR rfl (A4 ?_)));refine Bc (fun (k:Nat) st=>(k≤l.length∧∀j<k,A06 l j=true)∧st=⟨[(0,sB l),(5,sB l),(6,I (l.length:Nat)),(7,I (k:Nat))],[],[],[],false⟩) (fun k=>l.length-k) 0 (Ad (.k rfl (.k rfl (.cons rfl (VLe.i (by simp)) (.cons rfl (VLe.i rfl) .nil)))) .nil .nil rfl rfl) ⟨⟨by omega,fun j hj=>by omega⟩,rfl⟩ ?_;rintro k st ⟨⟨hk,hall⟩,rfl⟩;refine TsR rfl (By rfl (fun h2=>?_) (fun h2=>?_));rotate_left
 ·have h2:k=l.length:=by simp at h2;omega
  subst h2;have hw:(List.range l.length).all (A06 l)=true:=List.all_eq_true.2 fun j hj=>hall j (List.mem_range.1 hj);refine Ak (TsR rfl (A8 rfl rfl rfl ?_ trivial));unfold Ae1;rw [hw,Bool.true_and];show V.bool _=V.bool (decide ((((l.map eB).length:Nat):Int)≤4));rw [List.length_map];congr 1;by_cases h:l.length≤4
  ·rw [decide_eq_true h,decide_eq_true (by omega)]
  ·rw [decide_eq_false h,decide_eq_false (by omega)]
 have h2:k<l.length:=by simpa using h2
 refine Bg (A2 (A4 (Aw rfl ?_ ?_)))
 ·rw [Aj h2];simp;omega
 rw [Aj h2,←Kr h2];have kw:=Gs (pAt l k).2 (pAt l k).1 1048576;obtain ⟨g2,hg2⟩:∃g,btw (pAt l k).2 (pAt l k).1 1048576=g:=⟨_,rfl⟩;rw [hg2] at kw;have hwA:A06 l k=(decide (0≤(pAt l k).1)&&g2&&(decide (k=0)||decide ((pAt l (k-1)).2<(pAt l k).1))):=by unfold A06;rw [hg2]
 refine Mm ⟨[(0,sB l),(5,sB l),(6,I (l.length:Nat)),(7,I (k:Nat)),(37,.bool (!A06 l k))],[],[],[],false⟩ ?_ ?_
 ·obtain ⟨g1,hg1⟩:∃g,decide ((pAt l k).1<0)=g:=⟨_,rfl⟩;have hg1':decide (0≤(pAt l k).1)=!g1:=by
   rw [←hg1];by_cases h:(pAt l k).1<0
   ·rw [decide_eq_true h,decide_eq_false (by omega)];rfl
   ·rw [decide_eq_false h,decide_eq_true (by omega)];rfl
  rw [hg1'] at hwA;by_cases hk0:k=0
  ·subst hk0;refine Ab (KrN 3 rfl ?_);rw [hg1];refine Bm rfl (by cases g1<;>simp) (Cu (r:=.bool g2) rfl rfl rfl rfl (by cases g1<;>simp) (fun _=>kw) ?_);have gk:decide (((0:Nat):Int)>0)=false:=by decide
   refine Ah 5 rfl (by cases g1<;>cases g2<;>simp) ?_;rw [gk];have hz:(l.map eB).getD (IntKind.i64.wrap (((0:Nat):Int)-1)).toNat Cz=eB (pAt l 0):=by
    rw [show (IntKind.i64.wrap (((0:Nat):Int)-1)).toNat=(((0:Nat):Int)).toNat from by decide,Aj h2,←Kr h2]
   refine Ah 7 rfl (by cases g1<;>cases g2<;>simp) ?_;rw [hz];refine Ah 3 rfl (by cases g1<;>cases g2<;>simp) (A4x rfl rfl rfl (fun _=>rfl) rfl rfl (by cases g1<;>cases g2<;>simp) ?_);refine Bm rfl (by cases g1<;>cases g2<;>simp) (.done (KrT ?_));refine Ad (.k rfl (.k rfl (.k rfl (.k rfl (.cons rfl (VLe.of_eq (congrArg V.bool ?_)) .nil))))) .nil .nil rfl rfl;rw [hwA];cases g1<;>cases g2<;>rfl
  ·have hkm:k-1<l.length:=by omega
   have eK:IntKind.i64.wrap ((k:Int)-1)=((k-1:Nat):Int):=by rw [w64 (by omega) (by omega)];omega
   have gk:decide ((k:Int)>0)=true:=decide_eq_true (by omega);refine Ab (KrN 3 rfl ?_);rw [hg1];refine Bm rfl (by cases g1<;>simp) (Cu (r:=.bool g2) rfl rfl rfl rfl (by cases g1<;>simp) (fun _=>kw) ?_);refine Ah 5 rfl (by cases g1<;>cases g2<;>simp) ?_;rw [gk];refine Ah 6 rfl (by cases g1<;>cases g2<;>simp) ?_;rw [eK];refine Ah 1 rfl (by cases g1<;>cases g2<;>simp<;>omega) ?_;rw [Aj hkm,←Kr hkm];refine Bm rfl (by cases g1<;>cases g2<;>simp) (.done (KrT ?_));refine Ad (.k rfl (.k rfl (.k rfl (.k rfl (.cons rfl (VLe.of_eq (congrArg V.bool ?_)) .nil))))) .nil .nil rfl rfl;rw [hwA,decide_eq_false hk0];generalize (pAt l (k-1)).2=a;generalize (pAt l k).1=b;have e:decide (b≤a)=!decide (a<b):=by
    by_cases h:a<b
    ·rw [decide_eq_true h,decide_eq_false (by omega)];rfl
    ·rw [decide_eq_false h,decide_eq_true (by omega)];rfl
   cases g1<;>cases g2<;>simp [e]
 refine An rfl rfl (fun h4=>?_) (fun h4=>?_)
 ·have h4:A06 l k=false:=by simpa using h4
  refine TsR rfl (A8 rfl rfl rfl ?_ trivial);have:(List.range l.length).all (A06 l)=false:=by
   rw [List.all_eq_false];exact ⟨k,List.mem_range.2 h2,by simp [h4]⟩
  simp [D2,Ae1,this]
 ·have h4:A06 l k=true:=by simpa using h4
  refine A5 (TrR rfl ?_);refine ⟨k+1,_,Ad (.k rfl (.k rfl (.k rfl (.cons rfl (VLe.i (w64 (by omega) (by omega))) .nil)))) .nil .nil rfl rfl,⟨⟨h2,fun b hb=>?_⟩,rfl⟩,by omega⟩;by_cases e:b=k
  ·subst e;exact h4
  ·exact hall b (by omega)
def F1 (a:Int×Int) (o:Int):V:=.agg [I a.1,I a.2,I o]
def A9b (a:Int×Int) (o:Int):Bool:=B7 a&&btw o 0 7
theorem Ahg (a:Int×Int) (o:Int):C Tryz.prog J2 [F1 a o] (.bool (A9b a o)):=by
 have kp:=D4 a;have kw:=Gs o 0 7;unfold A9b;generalize btw o 0 7=g2 at kw ⊢;cases h:B7 a with
 | false =>
   rw [h,if_neg (by simp)] at kp;refine C_of mixed Ii.2 (by simp) fun S ok=>?_;refine Aw rfl (by simp [F1]) (Bj rfl (by simp [F1]) (A3 rfl rfl kp (Ci rfl (by simp [F1]) ?_)));refine Ao (r:=.bool g2) rfl rfl rfl rfl (by simp) (fun _=>kw) (Sfn rfl (A8 rfl rfl rfl rfl trivial))
 | true =>
   rw [h,if_pos rfl] at kp;refine C_of mixed Ii.2 (by simp) fun S ok=>?_;refine Aw rfl (by simp [F1]) (Bj rfl (by simp [F1]) (A3 rfl rfl kp (Ci rfl (by simp [F1]) ?_)));refine Ao (r:=.bool g2) rfl rfl rfl rfl (by simp) (fun _=>kw) (Sfn rfl (A8 rfl rfl rfl rfl trivial))
theorem c_cru1 {f:List (Int×Int)} (hl:f.length≤9223372036854775807):C Tryz.prog T6 [sB f] (.bool (!G2 f)):=by
 have kf:=Tl hl;refine C_of mixed S4.2 (by simp) fun S ok=>?_;refine TsR rfl (TsC rfl (A3 rfl rfl kf (Sfn rfl (A8 rfl rfl rfl ?_ trivial))));cases G2 f<;>rfl
theorem c_cru2 (p:Int×Int):C Tryz.prog T5 [eB p] (.bool (!B7 p)):=by
 have kf:=D4 p;refine C_of mixed Rz.2 (by simp) fun S ok=>?_;refine TsR rfl (TsC rfl (A3 rfl rfl kf (Sfn rfl (A8 rfl rfl rfl ?_ trivial))));cases B7 p<;>rfl
end
section
open Go.Am
attribute [local simp] cells Af mkv Aq B6 under dem dem1 eB Ac As sB eF
abbrev Leg:=(Int×Int)×(Int×Int)
structure Cru where
 lines:List Leg
 fields:List (List (Int×Int))
 buoys:List (Int×Int)
 spread:Fr
 at0:Int×Int
 oct:Int
 speed:Int
 turn:Int
 opens:List (List (Int×Int))
def legC (x:Leg):List V:=[I x.1.1,I x.1.2,I x.2.1,I x.2.2]
def eLeg (x:Leg):V:=.agg (legC x)
def Fv (l:List Leg):V:=.slice 0 4 (l.map eLeg)
def cruC (c:Cru):List V:=[Fv c.lines,C2 c.fields,sB c.buoys,I c.spread.x.1,I c.spread.x.2,I c.spread.y.1,I c.spread.y.2,I c.spread.s.1,I c.spread.s.2,I c.spread.d.1,I c.spread.d.2,I c.at0.1,I c.at0.2,I c.oct,I c.speed,I c.turn,C2 c.opens]
def eCru (c:Cru):V:=.agg (cruC c)
structure Cru.Sane (c:Cru):Prop where
 l:c.lines.length≤9223372036854775807
 f:c.fields.length≤9223372036854775807∧∀f∈c.fields,f.length≤9223372036854775807
 b:c.buoys.length≤9223372036854775807
 o:c.opens.length≤9223372036854775807∧∀f∈c.opens,f.length≤9223372036854775807
def legEq (a:Leg):Bool:=a.1.1==a.2.1&&(a.1.2==a.2.2&&true)
def legZ:Leg:=((0,0),(0,0))
def Z8 (c:Cru) (i:Nat):Bool:=B7 (c.lines.getD i legZ).1&&B7 (c.lines.getD i legZ).2&&!legEq (c.lines.getD i legZ)&&Ae1 (c.opens.getD i [])
def Rp (c:Cru):Bool:=btw c.lines.length 1 5&&!decide ((c.fields.length:Int)>4)&&!decide ((c.buoys.length:Int)>4)&&(c.opens.length==c.lines.length)
def A18 (c:Cru):Bool:=(List.range c.lines.length).all (Z8 c)
def V4 (f:Fr):Bool:=(J5 f).isSome&&!decide (f.x.2-f.x.1>256)&&!decide (f.y.2-f.y.1>256)
def Ow (c:Cru):Bool:=Rp c&&A18 c&&(c.fields.all G2&&c.buoys.all B7)&&V4 c.spread&&(A9b c.at0 c.oct&&btw c.speed 1 1000&&btw c.turn 0 1000)
theorem Abp:Plain []:=⟨fun _=>rfl,fun _ _=>rfl⟩
theorem any_not {α:Type} (p:α→Bool) (l:List α):l.any (fun x=>!p x)=!l.all p:=by
 induction l with
 | nil=>rfl
 | cons a l ih=>rw [List.any_cons,List.all_cons,ih,Bool.not_and]
theorem c_cruise {c:Cru} (hs:c.Sane):C Tryz.prog Xc [eCru c] (.bool (Ow c)):=by
 obtain ⟨hl,⟨hf1,hf2⟩,hbu,ho1,ho2⟩:=hs;have k1:=Gs (c.lines.length:Int) 1 5;obtain ⟨g1,hg1⟩:∃g,btw (c.lines.length:Int) 1 5=g:=⟨_,rfl⟩;obtain ⟨g2,hg2⟩:∃g,decide ((c.fields.length:Int)>4)=g:=⟨_,rfl⟩;obtain ⟨g3,hg3⟩:∃g,decide ((c.buoys.length:Int)>4)=g:=⟨_,rfl⟩;obtain ⟨g4,hg4⟩:∃g,(c.opens.length==c.lines.length)=g:=⟨_,rfl⟩;have hg4':((c.opens.length:Int) != (c.lines.length:Int))=!g4:=by rw [←hg4];exact neB _ _
 rw [hg1] at k1;have hsz:Rp c=(g1&&!g2&&!g3&&g4):=by unfold Rp;rw [hg1,hg2,hg3,hg4]
 have f1:(c.lines.map eLeg).length=c.lines.length:=List.length_map _;have f2:(c.fields.map sB).length=c.fields.length:=List.length_map _;have f3:(c.buoys.map eB).length=c.buoys.length:=List.length_map _;have f4:(c.opens.map sB).length=c.opens.length:=List.length_map _;refine C_of mixed Vk.2 (by simp) fun S ok=>?_;refine Aw rfl (by simp [eCru,cruC,Fv,C2]) (A2 (Bj rfl (by simp [eCru,cruC,Fv,C2]) ?_));rw [f1];refine A3 rfl rfl k1 (Az 6 rfl (by cases g1<;>simp [eCru,cruC,Fv,C2]) ?_);rw [f2,hg2];refine Az 6 rfl (by cases g1<;>cases g2<;>simp [eCru,cruC,Fv,C2]) ?_;rw [f3,hg3];refine Az 9 rfl (by cases g1<;>cases g2<;>cases g3<;>simp [eCru,cruC,Fv,C2]) ?_;rw [f4,f1,hg4'];refine Al rfl (by cases g1<;>cases g2<;>cases g3<;>cases g4<;>simp [eCru,cruC,Fv,C2]) ?_;refine An rfl rfl (fun h=>?_) (fun h=>?_)
 ·have h:Rp c=false:=by rw [hsz];revert h;cases g1<;>cases g2<;>cases g3<;>cases g4<;>simp
  refine TsR rfl (A8 rfl rfl rfl ?_ trivial);simp [D2,Ow,h]
 have h0:Rp c=true:=by rw [hsz];revert h;cases g1<;>cases g2<;>cases g3<;>cases g4<;>simp
 clear hsz hg4' hg1 hg2 hg3 hg4 h;have h0':=h0;simp only [Rp,Bool.and_eq_true,Bu,Bool.not_eq_true',decide_eq_false_iff_not,beq_iff_eq] at h0';obtain ⟨⟨⟨s1,s2⟩,s3⟩,s4⟩:=h0';refine A5 ?_;refine Aa (s':=⟨[(1,.ptr 1 0)],[(1,⟨cruC c,false⟩)],[],[],false⟩) (Ad (.k rfl .nil) (.k rfl .nil) .nil rfl rfl) ?_;refine A2 (Aw rfl (by simp [cruC,Fv]) (A4 ?_));refine Bc (fun (k:Nat) st=>(k≤c.lines.length∧∀j<k,Z8 c j=true)∧st=⟨[(1,.ptr 1 0),(34,Fv c.lines),(35,I (c.lines.length:Nat)),(36,I (k:Nat))],[(1,⟨cruC c,false⟩)],[],[],false⟩) (fun k=>c.lines.length-k) 0 (Ad (.k rfl (.k rfl (.cons rfl (VLe.i (by simp)) (.cons rfl (VLe.i rfl) .nil)))) (.k rfl .nil) .nil rfl rfl) ⟨⟨by omega,fun j hj=>by omega⟩,rfl⟩ ?_;rintro k st ⟨⟨hk,hall⟩,rfl⟩;refine TsR rfl (By rfl (fun h2=>?_) (fun h2=>?_))
 ·have h2:k<c.lines.length:=by simpa using h2
  have hko:k<c.opens.length:=by omega
  obtain ⟨x,hx⟩:∃x,c.lines.getD k legZ=x:=⟨_,rfl⟩;obtain ⟨o,hoo⟩:∃o,c.opens.getD k []=o:=⟨_,rfl⟩;have hxk:c.lines[k]=x:=by rw [←hx,List.getD_eq_getElem?_getD,List.getElem?_eq_getElem h2];rfl
  have hok:c.opens[k]=o:=by rw [←hoo,List.getD_eq_getElem?_getD,List.getElem?_eq_getElem hko];rfl
  have p1:=D4 x.1;have p2:=D4 x.2;have p3:=Ahf (l:=o) (ho2 _ (hok▸List.getElem_mem hko));obtain ⟨q1,hq1⟩:∃g,B7 x.1=g:=⟨_,rfl⟩;obtain ⟨q2,hq2⟩:∃g,B7 x.2=g:=⟨_,rfl⟩;obtain ⟨q3,hq3⟩:∃g,legEq x=g:=⟨_,rfl⟩;obtain ⟨q4,hq4⟩:∃g,Ae1 o=g:=⟨_,rfl⟩;have hlo:Z8 c k=(q1&&q2&&!q3&&q4):=by unfold Z8;rw [hx,hoo,hq1,hq2,hq3,hq4]
  rw [hq1] at p1;rw [hq2] at p2;rw [hq4] at p3;have e1:((if q1=true then (0:Int) else 10) != 0)=!q1:=by cases q1<;>rfl
  have e2:((if q2=true then (0:Int) else 10) != 0)=!q2:=by cases q2<;>rfl
  refine Bg (A2 (A4 (Aw rfl ?_ ?_)))
  ·rw [Aj h2];simp [eLeg,legC];omega
  rw [Aj h2,hxk];refine Bj rfl (by simp [eLeg,legC]) (A3 rfl rfl p1 (SrN 1 rfl ?_));rw [e1];refine Ci rfl (by cases q1<;>simp [eLeg,legC]) (Ao (r:=I (if q2=true then 0 else 10)) rfl rfl rfl rfl (by cases q1<;>simp) (fun _=>p2) (Az 1 rfl (by cases q1<;>simp) ?_));rw [e2];refine Az 7 rfl (by cases q1<;>cases q2<;>simp [eLeg,legC]) ?_;rw [show (x.1.1==x.2.1&&(x.1.2==x.2.2&&true))=q3 from hq3];refine Az 5 rfl (by cases q1<;>cases q2<;>cases q3<;>simp [cruC,C2]) ?_;refine Az 1 rfl (by cases q1<;>cases q2<;>cases q3<;>simp [cruC,C2]<;>omega) ?_;rw [Aj hko,hok];refine Ci rfl (by cases q1<;>cases q2<;>cases q3<;>simp) (Ao (r:=.bool q4) rfl rfl rfl rfl (by cases q1<;>cases q2<;>cases q3<;>simp) (fun _=>p3) (Al rfl (by cases q1<;>cases q2<;>cases q3<;>cases q4<;>simp) ?_));refine An rfl rfl (fun h4=>?_) (fun h4=>?_)
  ·have h4:Z8 c k=false:=by rw [hlo];revert h4;cases q1<;>cases q2<;>cases q3<;>cases q4<;>simp
   refine TsR rfl (A8 rfl rfl rfl ?_ trivial);have:A18 c=false:=by
    unfold A18;rw [List.all_eq_false];exact ⟨k,List.mem_range.2 h2,by simp [h4]⟩
   simp [D2,Ow,this]
  ·have h4:Z8 c k=true:=by rw [hlo];revert h4;cases q1<;>cases q2<;>cases q3<;>cases q4<;>simp
   refine A5 (TrR rfl ?_);refine ⟨k+1,_,Ad (.k rfl (.k rfl (.k rfl (.cons rfl (VLe.i (w64 (by omega) (by omega))) .nil)))) (.k rfl .nil) .nil rfl rfl,⟨⟨h2,fun b hb=>?_⟩,rfl⟩,by omega⟩;by_cases e:b=k
   ·subst e;exact h4
   ·exact hall b (by omega)
 have h2:k=c.lines.length:=by simp at h2;omega
 subst h2;have hli:A18 c=true:=List.all_eq_true.2 fun j hj=>hall j (List.mem_range.1 hj);clear hall hk;refine Ak ?_;refine Aa (s':=⟨[(1,.ptr 1 0)],[(1,⟨cruC c,false⟩)],[],[],false⟩) (Ad (.k rfl .nil) (.k rfl .nil) .nil rfl rfl) ?_;have kf:=Wx (l:=c.fields) (p:=fun f=>!G2 f) (us:=[]) Abp (fun _=>rfl) hf1 (fun f hf=>c_cru1 (hf2 f hf));have kb:=A4r (l:=c.buoys) (p:=fun f=>!B7 f) hbu (fun f hf=>c_cru2 f);rw [any_not] at kf kb;obtain ⟨q1,hq1⟩:∃g,c.fields.all G2=g:=⟨_,rfl⟩;obtain ⟨q2,hq2⟩:∃g,c.buoys.all B7=g:=⟨_,rfl⟩;rw [hq1] at kf;rw [hq2] at kb;refine A2 (Bj rfl (by simp [cruC]) (A3 rfl rfl kf (Ci rfl (by cases q1<;>simp [cruC]) (Ao (r:=.bool (!q2)) rfl rfl rfl rfl (by cases q1<;>simp) (fun _=>kb) (Al rfl (by cases q1<;>cases q2<;>simp) ?_)))));refine An rfl rfl (fun h3=>?_) (fun h3=>?_)
 ·have h3:(q1&&q2)=false:=by revert h3;cases q1<;>cases q2<;>simp
  refine TsR rfl (A8 rfl rfl rfl ?_ trivial);simp [D2,Ow,hq1,hq2,h3]
 have h3:(q1&&q2)=true:=by revert h3;cases q1<;>cases q2<;>simp
 have hfb:(c.fields.all G2&&c.buoys.all B7)=true:=by rw [hq1,hq2];exact h3
 refine A5 ?_;refine Aa (s':=⟨[(1,.ptr 1 0)],[(1,⟨cruC c,false⟩)],[],[],false⟩) (Ad (.k rfl .nil) (.k rfl .nil) .nil rfl rfl) ?_;cases htt:J5 c.spread with
 | none =>
   obtain ⟨e,he,kt⟩:=c_TightN htt;have he':(e != 0)=true:=by simp [he]
   have hw:V4 c.spread=false:=by unfold V4;rw [htt];rfl
   refine A2 (Bj rfl (by simp [cruC]) (A3 rfl rfl kt (Sfn rfl (TsN 2 rfl ?_))));rw [he'];refine Al rfl (by simp [cruC]) (A9 rfl (TsR rfl (A8 rfl rfl rfl ?_ trivial)));simp [D2,Ow,hw]
 | some T =>
   have kt:=Ux htt;have hfit:=(Rk htt).1;rw [Cw] at hfit;unfold fitF fitB at hfit;obtain ⟨r1,hr1⟩:∃g,decide (c.spread.x.2-c.spread.x.1>256)=g:=⟨_,rfl⟩;obtain ⟨r2,hr2⟩:∃g,decide (c.spread.y.2-c.spread.y.1>256)=g:=⟨_,rfl⟩;have hw:V4 c.spread=(!r1&&!r2):=by unfold V4;rw [htt,hr1,hr2];rfl
   refine A2 (Bj rfl (by simp [cruC]) (A3 rfl rfl kt (Sfn rfl (Sr 13 rfl (by simp [cruC]) ?_))));rw [w64 (n:=c.spread.x.2-c.spread.x.1) (by omega) (by omega),hr1];refine Az 12 rfl (by cases r1<;>simp [cruC]) ?_;rw [w64 (n:=c.spread.y.2-c.spread.y.1) (by omega) (by omega),hr2];refine Al rfl (by cases r1<;>cases r2<;>simp [cruC]) ?_;refine An rfl rfl (fun h4=>?_) (fun h4=>?_)
   ·have h4:V4 c.spread=false:=by rw [hw];revert h4;cases r1<;>cases r2<;>simp
    refine TsR rfl (A8 rfl rfl rfl ?_ trivial);simp [D2,Ow,h4]
   ·have h4:V4 c.spread=true:=by rw [hw];revert h4;cases r1<;>cases r2<;>simp
    refine A5 ?_;refine Aa (s':=⟨[(1,.ptr 1 0)],[(1,⟨cruC c,false⟩)],[],[],false⟩) (Ad (.k rfl .nil) (.k rfl .nil) .nil rfl rfl) ?_;have m1:=Ahg c.at0 c.oct;have m2:=Gs c.speed 1 1000;have m3:=Gs c.turn 0 1000;obtain ⟨r1,hr1⟩:∃g,A9b c.at0 c.oct=g:=⟨_,rfl⟩;obtain ⟨r2,hr2⟩:∃g,btw c.speed 1 1000=g:=⟨_,rfl⟩;obtain ⟨r3,hr3⟩:∃g,btw c.turn 0 1000=g:=⟨_,rfl⟩;rw [hr1] at m1;rw [hr2] at m2;rw [hr3] at m3;have hc:Ow c=(r1&&r2&&r3):=by
     unfold Ow;rw [h0,hli,hfb,h4,hr1,hr2,hr3];simp
    rw [hc];refine Bj rfl (by simp [cruC]) (A3 rfl rfl m1 (Ci rfl (by cases r1<;>simp [cruC]) (Ao (r:=.bool r2) rfl rfl rfl rfl (by cases r1<;>simp) (fun _=>m2) (Ci rfl (by cases r1<;>cases r2<;>simp [cruC]) (Ao (r:=.bool r3) rfl rfl rfl rfl (by cases r1<;>cases r2<;>simp) (fun _=>m3) (Al rfl (by cases r1<;>cases r2<;>cases r3<;>simp) (A8 rfl rfl rfl ?_ trivial)))))));cases r1<;>cases r2<;>cases r3<;>rfl
theorem A1x {c:Cru} (hs:c.Sane):C Tryz.prog Nx [eCru c] (I (if Ow c then 0 else 40)):=by
 have kc:=c_cruise hs;refine C_of mixed Np.2 (by simp) fun S ok=>?_;refine Aw rfl (by simp [eCru,cruC,Fv,C2]) (A2 (Bj rfl (by simp [eCru,cruC,Fv,C2]) (A3 rfl rfl kc (Sfn rfl ?_))));cases h:Ow c with
 | false=>exact A9 rfl (TsR rfl (A8 rfl rfl rfl rfl trivial))
 | true=>exact A7 rfl (A5 (TsR rfl (A8 rfl rfl rfl rfl trivial)))
end
end Go.Proofs.YtabedohjkillfaaGreatDoor
namespace Go.Am
section
open Go.RowKit
def CE (P:Program) (f:FuncId) (A:Arena) (K:List (Nat×List V)) (args:List V) (r:V) (Φ:Arena→Prop):Prop :=
 C9 P f=true∧∀(w:World) (φ:Nat→Nat) (xs:Array Value),(∀b,w.heap.size≤b→φ b=0)→Gl w φ→Ar w φ (fun _=>False) A→Kons w φ K→(∀p∈K,p.1∉A.map (·.1))→RepL w φ args xs →
  Calls P f xs w fun e w'=>∃φ' x B,Φ B∧e=.returned x∧RepR w' φ' r x∧Ar w' φ' (fun _=>False) B∧Moved (fun b=>b∈A.map (·.1)) w φ (fun b=>b∈B.map (·.1)) w' φ'
def InKD (E:Env) (K:List (Nat×List V)):Prop:=∀B stp M w φ,E.S (encA B) stp M w φ→∀p∈K,p.1∉B.map (·.1)
section
variable {E:Env} {S0:Sur} {l0:List (List V)} {s0:Bool} {A:Arena} {stp:Bool} {σ:FSt} {a:Act} {w:World} {h:Gh}
theorem wp_callE (hE:InA E S0 l0 s0) {F A1:Arena} {K:List (Nat×List V)} {ro:Option Nat} {n i:Nat} {ops:Array Oper} {slots:List (Option Nat)} {o:Oper} {ins:Ins} (R:E.relF (encA (F++A1)) stp σ a w h) {f:FuncId} {vs us:List V} {ids:List Nat} {r:V} {Φ:Arena→Prop} {os:List Operand} (cc:Comp E.P E.nt slots o ins os) (hd:toDs σ.b vs=some (us,ids)) (hC:CE E.P f A1 K us r Φ)
  (hK:∀h',E.relF (encA (F++A1)) stp ((freeze σ.b ids).foldl (fun τ p=>τ.set (.bx p.1) (.b p.2)) σ) a w h'→Kons w h'.φ K) (hKA:∀p∈K,p.1∉A1.map (·.1)) (xs:Array Value) (hl:vs.length=xs.size)
  (hr:∀(i:Nat) v x,vs[i]?=some v→xs[i]?=some x→Rep w h.φ h.β h.y.l v x) (hi:ops[i]?=some o) (hw:Region.wanted o (yielded ops a.tmps)=true) (hrun:(execOp a.eval o).run E.P w=.ok (.enter f xs) w)
  {Q:Exit→Act→World→Prop} {next:Act→World→Prop} (hn:∀B,Φ B→∀a' w' h',E.relF (encA (F++B)) stp ((σ.eff {v:=r,wb:=freeze σ.b ids}).put ins.d r) a' w' h'→h'.y=h.y→next a' w'):wpOpIn (Dm ro) n E.P ops Q i next a w:=by
 unfold wpOpIn;simp only [hi,hw,if_true,Oper.wpIn];refine ⟨fun _ _=>trivial,?_⟩;rw [Oper.semAt_eq _ _ _ (At cc.op),hrun];simp only [Oper.uponIn];refine ⟨fun e=>by simp [Dm,Fence.wide] at e,?_⟩;obtain ⟨h1,R1,ext1,q1,q2,q3,hrep⟩:=De R.1 hd;have R1':E.relF (encA (F++A1)) stp ((freeze σ.b ids).foldl (fun τ p=>τ.set (.bx p.1) (.b p.2)) σ) a w h1:=⟨R1,by rw [q3];exact R.2⟩;have hAr:=hE.ar R1';have hnd:=hAr.nd;rw [List.map_append,List.nodup_append] at hnd;have arA:Ar w h1.φ (fun _=>False) A1:=⟨hnd.2.1,fun p hp=>hAr.ok p (List.mem_append.2 (.inr hp)),fun _ _ h=>h,fun p hp=>hAr.lt p (List.mem_append.2 (.inr hp)),fun p hp=>hAr.z p (List.mem_append.2 (.inr hp))⟩;refine (Cd (hC.2 w h1.φ xs R1.top (E.ok.gl _ _ _ _ _ R1.sur) arA (hK h1 R1') hKA (hrep xs hl hr))).mono ?_;rintro e w' ⟨φ',x,B,hΦ,rfl,hres,hB,hm⟩;have R2:=hE.moved R1' hm hB;have hx:Rep w' φ' h1.β h1.y.l r x∧∀σ h w0,GrowV σ h w0 r x:=by
  cases hres with
  | data hh=>exact ⟨.data hh,fun σ h w0=>Ap hh⟩
  | tuple vs xs hl hh =>
    refine ⟨.tuple vs xs hl hh,fun σ h w0 j u z hu hz=>?_⟩;cases j with
    | zero=>simp [cells] at hu;subst hu;intro r' sz xs' e;cases e
    | succ j=>simp [cells] at hu
 have fin:Ok (σ.eff {v:=r,wb:=freeze σ.b ids}) {h1 with φ:=φ'} w' r x:=⟨hx.1,hx.2 _ _ _⟩;refine hn B hΦ _ _ {h1 with φ:=φ'} ⟨?_,?_⟩ (by simpa using q3)
 ·rw [cc.d];cases hd:o.dst with
  | none=>exact R2.1
  | some d=>exact R2.1.put (cc.dst d hd) fin.1 fin.2
 ·exact R2.2
theorem Jf (hE:InA E S0 l0 s0) {K:St→Prop} {Ks:List (Nat×List V)} {s:St} {d:Option Nat} {f:FuncId} {xs:List X} {rest:List Ins} {vs first cap us:List V} {ids:List Nat} {r:V} {Φ:Arena→Prop} {F A1:Arena} (hx:evXs s.env xs=some (.func (.func f) first cap::vs)) (hd:toDs s.fs.b (first++vs++cap)=some (us,ids)) (hl:s.log=encA (F++A1))
  (hC:CE E.P f A1 Ks us r Φ) (hKs:(∀p∈Ks,(p.1,Ob.cells p.2)∈F)∨InK E Ks∧∀p∈Ks,p.1∉A1.map (·.1))
  (hk:∀B,Φ B→Steps E rest K {(s.eff {v:=r,wb:=freeze s.fs.b ids}).put d r with log:=encA (F++B)}):Steps E (⟨d,.callv,xs,none⟩::rest) K s:=by
 refine Step1.raw fun slots ops o i ro n a w h hc hs hi R Q next hn=>?_
 obtain ⟨os,cc⟩:=Ba hc;have hgo:=Au cc rfl;obtain ⟨c,t,e1,e2,rfl⟩:=Io cc.op;have hO:=B9 R.1 cc.xs (Ay hx);have R':E.relF (encA (F++A1)) s.stp s.fs a w h:=by rw [←hl];exact R
 have hAr:=hE.ar R';have hnd:=hAr.nd;rw [List.map_append,List.nodup_append] at hnd;cases hO with
 | cons o1 o2 =>
   obtain ⟨f',c',ef,hf,hc',h1,h2⟩:=Kv o1;obtain ⟨l1,l2⟩:=Do o2;obtain ⟨m1,m2⟩:=arr3 hf hc' l1 h1 h2 l2;refine wp_callE hE R' cc hd hC (fun h' R1=>?_) (fun p hp=>?_) _ m1 m2 hi (Ai hgo) (Lx hC.1 e2 e1 ef) fun B hΦ a' w' h' R2 hy=>hn _ a' w' h' (hk B hΦ) ?_ hy
   ·rcases hKs with hKs | hKs
    ·intro p hp;have:=(hE.ar R1);exact ⟨this.ok _ (List.mem_append.2 (.inl (hKs p hp))),this.lt _ (List.mem_append.2 (.inl (hKs p hp)))⟩
    ·exact hKs.1 _ _ _ _ _ R1.1.sur
   ·rcases hKs with hKs | hKs
    ·exact fun h=>hnd.2.2 _ (List.mem_map.2 ⟨_,hKs p hp,rfl⟩) _ h rfl
    ·exact hKs.2 p hp
   ·show E.relF _ _ _ _ _ _;have e:({(s.eff {v:=r,wb:=freeze s.fs.b ids}).put d r with log:=encA (F++B)}:St).fs=((s.fs.eff {v:=r,wb:=freeze s.fs.b ids}).put d r):=by
     cases d with
     | none=>exact Gc s _
     | some d=>show ((s.eff _).put (some d) r).fs=_;rw [Dj,Gc];rfl
    have e2:({(s.eff {v:=r,wb:=freeze s.fs.b ids}).put d r with log:=encA (F++B)}:St).stp=s.stp:=by
     show ((s.eff _).put d r).stp=_;rw [(Bq _ _ _).2,(G3 _ _).2]
    rw [e,e2];exact R2
end
end
section
open Go.RowKit
def A30 (P:Program) (rs:List ResultVar) (K:V→St→Prop):Exit→St→Prop
 | .ret,s | .normal,s=>∃r,K r s∧∃vs us ids,rs.mapM (resV P s)=some vs∧toDs s.fs.b vs=some (us,ids)∧r=D2 us
 | _,_=>False
theorem C8 {E:Env} {ro:Option Nat} {Q:Exit→St→Prop} {s:St} {P:Program} {rs:List ResultVar} {K:V→St→Prop} {vs us:List V} {ids:List Nat} (hQ:Q .ret=A30 P rs K .ret) (h:A69 P s rs=some vs) (hd:toDs s.fs.b vs=some (us,ids)) (hk:K (D2 us) s):Tr E ro .ret Q s :=
 Ea (by rw [hQ];exact ⟨_,hk,vs,us,ids,Ck h,hd,rfl⟩)
theorem Oy {E:Env} {f:FuncId} {fn:Func} {c:Code} {ic:IC} (hf:E.P.funcs[f]?=some fn) (hb:fn.body=some c) (hc:Ee E.P E.nt c=some ic) (hnt:fn.ntmps=E.nt) {args:List V} {xs:Array Value} {w:World} {φ:Nat→Nat} {y:Option Nat}
  (hlen:args.length≤E.nt) (hl:args.length=xs.size) (hrep:∀(i:Nat) v x,args[i]?=some v→xs[i]?=some x→Rep w φ (fun _=>none) y v x∧∀σ h,GrowV σ h w v x)
  (hS:E.S [] false (fun _=>False) w φ) (htop:∀b,w.heap.size≤b→φ b=0) (hy:∀l,y=some l→Fw E.P E.S E.ys l∧E.lk l) {K:V→St→Prop} (hT:Tr E none ic (A30 E.P fn.results.toList K) (entry args)) :
  Calls E.P f xs w fun e w'=>∃(r:V) (s':St) (h':Gh) (x:Value),e=.returned x∧RepR w' h'.φ r x∧E.S s'.log s'.stp h'.M w' h'.φ∧(∀b,w'.heap.size≤b→h'.φ b=0)∧K r s':=by
 rw [←callsIn_wide (n:=0)];refine callsIn_of_wp_marks hf hb trivial ?_;have R0:E.rel (entry args) {tmps:=xs++Array.replicate (fn.ntmps-xs.size) undef,defers:=[]} w {φ:=φ,β:=fun _=>none,γ:=fun _=>none,M:=fun _=>False,y:=⟨y,fun _=>none⟩}:=by
  refine ⟨{size:=by simp;omega,env:=fun t v hv=>?_,bx:=fun i bo hb=>?_,dom:=fun _ _ h=>((by cases h)),inj:=fun _ _ _ h=>((by cases h)),rows:=fun r n sz e hr=>?_,rdom:=fun _ _ h=>((by cases h)),rinj:=fun _ _ _ h=>((by cases h)),apart:=fun _ _ _ h=>((by cases h)),pins:=fun _ _ h=>((by cases h)),mine:=fun _ h=>((by cases h)),top:=htop,marks:=trivial,sur:=hS},hy,fun _ h=>((by cases h))⟩
  ·rw [fs_g] at hv;obtain ⟨_,h1⟩:=Ia 0 args t v hv;simp only [Nat.sub_zero] at h1;have ht:t<args.length:=(List.getElem?_eq_some_iff.1 h1).1;have ht':t<xs.size:=by omega
   have e:(xs++Array.replicate (fn.ntmps-xs.size) undef).getD t undef=xs[t]:=by
    simp [Array.getElem?_append_left ht',ht']
   rw [e];obtain ⟨h2,h3⟩:=hrep t v _ h1 (Array.getElem?_eq_getElem ht');exact ⟨by omega,h2,h3 _ _⟩
  ·rw [fs_b] at hb;simp [entry,get] at hb
  ·rw [fs_r] at hr;simp [entry,get] at hr
 refine hT c hc 0 _ w _ R0 _ fun e s' a' w' h' k R' ey=>?_;have fin:(∃r,K r s'∧∃vs us ids,fn.results.toList.mapM (resV E.P s')=some vs∧toDs s'.fs.b vs=some (us,ids)∧r=D2 us)→LeavesInM Fence.wide 0 E.P fn a'.tmps (fun e w'=>∃(r:V) (s':St) (h':Gh) (x:Value),e=.returned x∧RepR w' h'.φ r x∧E.S s'.log s'.stp h'.M w' h'.φ∧(∀b,w'.heap.size≤b→h'.φ b=0)∧K r s') a'.defers .returning w':=by
  rintro ⟨_,hk,vs,us,ids,e1,e2,rfl⟩;refine Ac1 a'.defers a' w' rfl R' fun a2 w2 ht R2=>?_;have hx:∃xs:List Value,vs.length=xs.length∧fn.results.toList.length=xs.length∧(∀(i:Nat) r x,fn.results.toList[i]?=some r→xs[i]?=some x→(match r with | .tmp t=>(pure (a2.tmps.getD t undef):Sem Value) | .cell b t=>do loadVar t (←asAddr (a2.tmps.getD b undef))).run E.P w2=.ok x w2) ∧ (∀(i:Nat) v x,vs[i]?=some v→xs[i]?=some x→Rep w2 h'.φ h'.β h'.y.l v x):=by
   clear e2;generalize fn.results.toList=rl at e1
   induction rl generalizing vs with
   | nil=>simp at e1;subst e1;exact ⟨[],rfl,rfl,fun i r x h=>by simp at h,fun i r x h=>by simp at h⟩
   | cons rv rl ih =>
     simp only [List.mapM_cons,Option.bind_eq_bind,Option.bind_eq_some_iff,Option.pure_def,Option.some.injEq] at e1;obtain ⟨v,hv,vs',hvs,rfl⟩:=e1;obtain ⟨x,hx1,hx2⟩:=A6a R2 hv;obtain ⟨xs,l1,l2,l3,l4⟩:=ih vs' hvs;refine ⟨x::xs,by simp [l1],by simp [l2],fun i r z h1 h2=>?_,fun i v z h1 h2=>?_⟩
     ·cases i with
      | zero=>simp at h1 h2;subst h1 h2;exact hx1
      | succ i=>simp at h1 h2;exact l3 i r z h1 h2
     ·cases i with
      | zero=>simp at h1 h2;subst h1 h2;exact hx2
      | succ i=>simp at h1 h2;exact l4 i v z h1 h2
  obtain ⟨xs,l1,l2,l3,l4⟩:=hx;obtain ⟨h3,R3,ext,q1,q2,q3,hrepL⟩:=De R2.1 e2;have hL:=hrepL xs.toArray (by simpa using l1) (fun i v x h1 h2=>l4 i v x h1 (by simpa using h2));have hrun:=Ie (P:=E.P) (w:=w2) (fn:=fn) (tmps:=a2.tmps) l2 l3;rw [ht] at hrun;refine ⟨_,hrun,_,s',h3,_,rfl,?_,R3.sur,R3.top,hk⟩;obtain ⟨m1,m2⟩:=hL;cases us with
  | nil =>
    cases xs with
    | nil=>exact .tuple [] #[] rfl (fun i v x h=>by simp at h)
    | cons x xs=>simp at m1
  | cons u us =>
    cases xs with
    | nil=>simp at m1
    | cons x xs =>
      cases us with
      | nil =>
        cases xs with
        | nil=>exact .data (m2 0 u x rfl rfl)
        | cons y xs=>simp at m1
      | cons u2 us =>
        cases xs with
        | nil=>simp at m1
        | cons y xs=>exact .tuple _ _ (by simpa using m1) (fun i v z h1 h2=>m2 i v z h1 h2)
 cases e with
 | normal=>exact fin k
 | ret=>exact fin k
 | _=>exact k.elim
def CX (P:Program) (f:FuncId) (A:Arena) (K:List (Nat×List V)) (args:List V) (Φ:V→Arena→Prop):Prop :=
 C9 P f=true∧∀(w:World) (φ:Nat→Nat) (xs:Array Value),(∀b,w.heap.size≤b→φ b=0)→Gl w φ→Ar w φ (fun _=>False) A→Kons w φ K→(∀p∈K,p.1∉A.map (·.1))→RepL w φ args xs →
  Calls P f xs w fun e w'=>∃φ' x r B,Φ r B∧e=.returned x∧RepR w' φ' r x∧Ar w' φ' (fun _=>False) B∧Moved (fun b=>b∈A.map (·.1)) w φ (fun b=>b∈B.map (·.1)) w' φ'
theorem Li {P:Program} {f nt:Nat} {ic:IC} {rs:List ResultVar} (hmix:P.follows .mixedOrders=true) (hch:chkF P f=some (nt,ic,rs)) {A:Arena} {K:List (Nat×List V)} {args:List V} {Φ:V→Arena→Prop} (hlen:args.length≤nt)
  (hT:∀(S:Sur) (ok:S.ok) (S1:Sur),InA (env0 P hmix nt S ok) S1 [] false→InK (env0 P hmix nt S ok) K→InKD (env0 P hmix nt S ok) K→Tr (env0 P hmix nt S ok) none ic (A30 P rs fun r s=>∃B,s.log=encA B∧Φ r B) {entry args with log:=encA A}):CX P f A K args Φ:=by
 obtain ⟨fn,c,hf,hb,hnt,hc,rfl,hcall⟩:=L6 hch;refine ⟨hcall,fun w φ xs htop hgl hA hK hKA hrep=>?_⟩;have okI:=Adh w φ A hgl;have hInK:InK (env0 P hmix nt (SA (SQ w φ A) [] false) (Ke okI [] false)) K:=by
  rintro log stp M w' φ' ⟨B',_,_,_,hm⟩ p hp;obtain ⟨h1,h2⟩:=hK p hp;have:=hm.old p.1 h2 (hKA p hp);exact ⟨h1.mono this.1 hm.ext,Nat.lt_of_lt_of_le h2 hm.size⟩
 have hKD:InKD (env0 P hmix nt (SA (SQ w φ A) [] false) (Ke okI [] false)) K:=by
  rintro B stp M w' φ' ⟨B',e,_,_,hm⟩ p hp hb;obtain rfl:=D3 e;rcases hm.mine p.1 (.inr hb) with h | h
  ·exact hKA p hp h
  ·have:=(hK p hp).2;omega
 have hT1:=hT (SA (SQ w φ A) [] false) (Ke okI [] false) (SQ w φ A) (⟨Sub.refl _,okI⟩) hInK hKD;have e0:(fun b=>False∨b∈A.map (·.1))=fun b=>b∈A.map (·.1):=by funext b;simp
 have hT2:Tr (env0 P hmix nt (SQ1 w φ A) (Ts w φ A hgl)) none ic (A30 P fn.results.toList fun r s=>∃B,s.log=encA B∧Φ r B) (entry args):=by
  intro c hc n a w1 g R Q' hq;obtain ⟨B0,h1,h2,h3,h4⟩:=R.1.sur;have hB0:B0=A:=by
   rcases h1 with ⟨_,h⟩ | h
   ·exact h
   ·exact absurd h.symm (Mg _)
  subst hB0;have R1:(env0 P hmix nt (SA (SQ w φ B0) [] false) (Ke okI [] false)).rel {entry args with log:=encA B0} a w1 g:=by
   refine ⟨{R.1 with sur:=⟨B0,rfl,rfl,h3,h4⟩},fun l hl=>⟨?_,trivial⟩,R.2.2⟩;intro log x M w φ xs hp;exact False.elim hp
  refine hT1 c hc n a w1 g R1 Q' fun e t a' w' h' hQ R' hy=>?_;refine hq e t a' w' h' hQ ?_ hy;obtain ⟨B',k1,k2,k3,k4⟩:=R'.1.sur;refine ⟨{R'.1 with sur:=⟨B',.inr k1,k2,k3,k4⟩},fun l hl=>⟨?_,trivial⟩,R'.2.2⟩;intro log x M w φ xs hp;exact False.elim hp
 refine (Oy (E:=env0 P hmix nt (SQ1 w φ A) (Ts w φ A hgl)) (φ:=φ) (y:=none) hf hb hc hnt hlen hrep.1 (fun i v x h1 h2=>⟨.data (hrep.2 i v x h1 h2),fun σ h=>Ap (hrep.2 i v x h1 h2)⟩)
  ⟨A,.inl ⟨rfl,rfl⟩,rfl,hA,by rw [e0];exact Moved.refl _ htop⟩ htop (fun _ h=>((by cases h))) hT2).mono ?_
 rintro e w' ⟨r,s',h',x,rfl,hr,⟨B',k1,k2,k3,k4⟩,ht,hk⟩;obtain ⟨B,hk,hΦ⟩:=hk;have hB:B'=B:=by
  rw [hk] at k1;rcases k1 with ⟨h,_⟩ | h
  ·exact absurd h (Mg _)
  ·exact (D3 h).symm
 subst hB;exact ⟨h'.φ,x,r,B',hΦ,rfl,hr,⟨k3.nd,k3.ok,fun _ _ h=>h,k3.lt,k3.z⟩,⟨k4.ext,k4.old,k4.size,k4.os,k4.tape,k4.output,fun b hb=>k4.mine b (.inr hb),k4.top⟩⟩
section
variable {E:Env} {S0:Sur} {l0:List (List V)} {s0:Bool} {A:Arena} {stp:Bool} {σ:FSt} {a:Act} {w:World} {h:Gh}
theorem wp_callX (hE:InA E S0 l0 s0) {F A1:Arena} {K:List (Nat×List V)} {ro:Option Nat} {n i:Nat} {ops:Array Oper} {slots:List (Option Nat)} {o:Oper} {ins:Ins} (R:E.relF (encA (F++A1)) stp σ a w h) {f:FuncId} {vs us:List V} {ids:List Nat} {Φ:V→Arena→Prop} {os:List Operand} (cc:Comp E.P E.nt slots o ins os) (hd:toDs σ.b vs=some (us,ids)) (hC:CX E.P f A1 K us Φ)
  (hK:∀h',E.relF (encA (F++A1)) stp ((freeze σ.b ids).foldl (fun τ p=>τ.set (.bx p.1) (.b p.2)) σ) a w h'→Kons w h'.φ K) (hKA:∀p∈K,p.1∉A1.map (·.1)) (xs:Array Value) (hl:vs.length=xs.size)
  (hr:∀(i:Nat) v x,vs[i]?=some v→xs[i]?=some x→Rep w h.φ h.β h.y.l v x) (hi:ops[i]?=some o) (hw:Region.wanted o (yielded ops a.tmps)=true) (hrun:(execOp a.eval o).run E.P w=.ok (.enter f xs) w)
  {Q:Exit→Act→World→Prop} {next:Act→World→Prop} (hn:∀r B,Φ r B→∀a' w' h',E.relF (encA (F++B)) stp ((σ.eff {v:=r,wb:=freeze σ.b ids}).put ins.d r) a' w' h'→h'.y=h.y→next a' w'):wpOpIn (Dm ro) n E.P ops Q i next a w:=by
 unfold wpOpIn;simp only [hi,hw,if_true,Oper.wpIn];refine ⟨fun _ _=>trivial,?_⟩;rw [Oper.semAt_eq _ _ _ (At cc.op),hrun];simp only [Oper.uponIn];refine ⟨fun e=>by simp [Dm,Fence.wide] at e,?_⟩;obtain ⟨h1,R1,ext1,q1,q2,q3,hrep⟩:=De R.1 hd;have R1':E.relF (encA (F++A1)) stp ((freeze σ.b ids).foldl (fun τ p=>τ.set (.bx p.1) (.b p.2)) σ) a w h1:=⟨R1,by rw [q3];exact R.2⟩;have hAr:=hE.ar R1';have hnd:=hAr.nd;rw [List.map_append,List.nodup_append] at hnd;have arA:Ar w h1.φ (fun _=>False) A1:=⟨hnd.2.1,fun p hp=>hAr.ok p (List.mem_append.2 (.inr hp)),fun _ _ h=>h,fun p hp=>hAr.lt p (List.mem_append.2 (.inr hp)),fun p hp=>hAr.z p (List.mem_append.2 (.inr hp))⟩;refine (Cd (hC.2 w h1.φ xs R1.top (E.ok.gl _ _ _ _ _ R1.sur) arA (hK h1 R1') hKA (hrep xs hl hr))).mono ?_;rintro e w' ⟨φ',x,r,B,hΦ,rfl,hres,hB,hm⟩;have R2:=hE.moved R1' hm hB;have hx:Rep w' φ' h1.β h1.y.l r x∧∀σ h w0,GrowV σ h w0 r x:=by
  cases hres with
  | data hh=>exact ⟨.data hh,fun σ h w0=>Ap hh⟩
  | tuple vs xs hl hh =>
    refine ⟨.tuple vs xs hl hh,fun σ h w0 j u z hu hz=>?_⟩;cases j with
    | zero=>simp [cells] at hu;subst hu;intro r' sz xs' e;cases e
    | succ j=>simp [cells] at hu
 have fin:Ok (σ.eff {v:=r,wb:=freeze σ.b ids}) {h1 with φ:=φ'} w' r x:=⟨hx.1,hx.2 _ _ _⟩;refine hn r B hΦ _ _ {h1 with φ:=φ'} ⟨?_,?_⟩ (by simpa using q3)
 ·rw [cc.d];cases hd:o.dst with
  | none=>exact R2.1
  | some d=>exact R2.1.put (cc.dst d hd) fin.1 fin.2
 ·exact R2.2
theorem Bf (hE:InA E S0 l0 s0) {K:St→Prop} {Ks:List (Nat×List V)} {s:St} {d:Option Nat} {f:FuncId} {xs:List X} {rest:List Ins} {vs us:List V} {ids:List Nat} {Φ:V→Arena→Prop} {F A1:Arena} (hx:evXs s.env xs=some vs) (hd:toDs s.fs.b vs=some (us,ids)) (hl:s.log=encA (F++A1))
  (hC:CX E.P f A1 Ks us Φ) (hKs:(∀p∈Ks,(p.1,Ob.cells p.2)∈F)∨InK E Ks∧∀p∈Ks,p.1∉A1.map (·.1))
  (hk:∀r B,Φ r B→Steps E rest K {(s.eff {v:=r,wb:=freeze s.fs.b ids}).put d r with log:=encA (F++B)}):Steps E (⟨d,.call f,xs,none⟩::rest) K s:=by
 refine Step1.raw fun slots ops o i ro n a w h hc hs hi R Q next hn=>?_
 obtain ⟨os,cc⟩:=Ba hc;have hgo:=Au cc rfl;obtain ⟨c,e1,e2,rfl⟩:=I1 cc.op;have R':E.relF (encA (F++A1)) s.stp s.fs a w h:=by rw [←hl];exact R
 have hAr:=hE.ar R';have hnd:=hAr.nd;rw [List.map_append,List.nodup_append] at hnd;obtain ⟨l1,l2⟩:=Do (B9 R.1 cc.xs (Ay hx));refine wp_callX hE R' cc hd hC (fun h' R1=>?_) (fun p hp=>?_) _ l1 l2 hi (Ai hgo) (I0 hC.1 e2 e1) fun r B hΦ a' w' h' R2 hy=>hn _ a' w' h' (hk r B hΦ) ?_ hy
 ·rcases hKs with hKs | hKs
  ·intro p hp;have:=(hE.ar R1);exact ⟨this.ok _ (List.mem_append.2 (.inl (hKs p hp))),this.lt _ (List.mem_append.2 (.inl (hKs p hp)))⟩
  ·exact hKs.1 _ _ _ _ _ R1.1.sur
 ·rcases hKs with hKs | hKs
  ·exact fun h=>hnd.2.2 _ (List.mem_map.2 ⟨_,hKs p hp,rfl⟩) _ h rfl
  ·exact hKs.2 p hp
 ·show E.relF _ _ _ _ _ _;have e:({(s.eff {v:=r,wb:=freeze s.fs.b ids}).put d r with log:=encA (F++B)}:St).fs=((s.fs.eff {v:=r,wb:=freeze s.fs.b ids}).put d r):=by
   cases d with
   | none=>exact Gc s _
   | some d=>show ((s.eff _).put (some d) r).fs=_;rw [Dj,Gc];rfl
  have e2:({(s.eff {v:=r,wb:=freeze s.fs.b ids}).put d r with log:=encA (F++B)}:St).stp=s.stp:=by
   show ((s.eff _).put d r).stp=_;rw [(Bq _ _ _).2,(G3 _ _).2]
  rw [e,e2];exact R2
end
end
section
open Go.RowKit
section
variable {P:Program} {o:Oper}
theorem opK_len {os:List Operand} (hk:opK P o.op=some (.len false,os)):∃c p t e,o.op=.call c∧c.callee=.builtin .len∧c.args.toList=[p]∧c.argTypes.toList=[t]∧P.underlying t=some (.slice e)∧os=[p]:=by
 replace hk:=Dw hk (by simp [Dv]);cases ho:o.op<;>rw [ho] at hk<;>simp only [opK0] at hk<;>(try (cases hk;done))<;>(try (repeat' (split at hk<;>(try (cases hk;done)))))
 all_goals first
  | (simp only [Option.map_eq_some_iff,Prod.mk.injEq] at hk;obtain ⟨_,_,h1,_⟩:=hk;cases h1;done)
  | (cases hk;exact ⟨_,_,_,_,rfl,by assumption,by assumption,by assumption,by assumption,rfl⟩)
  | (exfalso;simp only [E7] at hk;repeat' (split at hk<;>(try (cases hk;done))))
end
theorem Agr {E:Env} {σ:FSt} {d blk off n cap:Nat} {x:X} (hx:[x].mapM (evX σ)=some [.sref blk off n cap]):Does E σ ⟨some d,.len false,[x],none⟩ {v:=.int .i64 n} (Bp [x]):=by
 refine .ext rfl hx fun o os log stp σ' a w h ho R hO=>?_;obtain ⟨c,p,t,e,e1,hc,e2,e3,e4,rfl⟩:=opK_len ho;obtain ⟨u,hu,o1⟩:=hO.one;cases hu;have ea:c.args=#[p]:=by rw [←Array.toList_inj];simpa using e2
 have et:c.argTypes=#[t]:=by rw [←Array.toList_inj];simpa using e3
 refine ⟨.int .i64 n,?_,.data (.int _ _),Ap (w0:=w) (φ0:=h.φ) (.int _ _)⟩;simp only [execOp,e1,resolve,hc,ea,et,Sem.run_bind,Sem.run_pure,Result.andThen_ok,invoke,builtin];simp [Builtin.len_,run_underlying e4,Kt o1,goInt]
theorem Ne {E:Env} {s:St} {K:St→Prop} {d blk off n cap:Nat} {x:X} {rest:List Ins} (hx:evXs s.env [x]=some [.sref blk off n cap]) (hk:Steps E rest K (s.put (some d) (.int .i64 n))):Steps E (⟨some d,.len false,[x],none⟩::rest) K s :=
 Step1.does (ins:=⟨some d,.len false,[x],none⟩) (Agr (Ay hx)) hk
end
section
open Go.RowKit
section
variable {P:Program}
theorem Acd {op:BinOp} {t:TypeId} {x y:Operand} {k:K} {os:List Operand} (h:E7 P op t x y=some (k,os)):Dv k<9:=by
 unfold E7 at h;split at h
 ·split at h
  ·cases h;simp [Dv]
  ·cases h
 ·split at h
  ·cases h;simp [Dv]
  ·cases h
 ·cases h;simp [Dv]
 ·cases h;simp [Dv]
 ·cases h;simp [Dv]
 ·cases h;simp [Dv]
 ·cases h
theorem opK0_tag {o:Op} {k:K} {os:List Operand} (h:opK0 P o=some (k,os)):Dv k<9:=by
 cases o<;>simp only [opK0] at h<;>(try (cases h;done))<;>(try (repeat' (split at h<;>(try (cases h;done)))))
 all_goals first
  | (cases h;simp [Dv];done)
  | (simp only [Option.map_eq_some_iff,Prod.mk.injEq] at h;obtain ⟨_,_,rfl,_⟩:=h;simp [Dv];done)
  | (simp only [Option.some.injEq,Prod.mk.injEq] at h;obtain ⟨rfl,_⟩:=h;simp [Dv];done)
  | exact Acd h
theorem M8 {o:Op} {k:K} {os:List Operand} (h:opK P o=some (k,os)) (ht:9≤Dv k):opKr P o=some (k,os):=by
 rcases Vt h with h | h
 ·have:=opK0_tag h;omega
 ·exact h
end
section
variable {E:Env} {σ:FSt}
end
end
section
open Go.RowKit
section
variable {P:Program}
theorem Af5 {o:Op} {t u:Nat} {os:List Operand} (h:opK P o=some (.raw 20 t u,os)):∃x,o=.makeInterface t x∧os=[x]:=by
 have h:=M8 h (by simp [Dv]);unfold opKr at h;split at h<;>(try (repeat' (split at h)))<;>first
  | (simp at h;done)
  | (simp only [Option.some.injEq,Prod.mk.injEq,K.raw.injEq,true_and] at h;obtain ⟨⟨rfl,rfl⟩,rfl⟩:=h;exact ⟨_,rfl,rfl⟩)
theorem Af4 {o:Op} {t u:Nat} {os:List Operand} (h:opK P o=some (.raw 22 t u,os)):∃x,o=.typeAssert x t u true∧os=[x]:=by
 have h:=M8 h (by simp [Dv]);unfold opKr at h;split at h<;>(try (repeat' (split at h)))<;>first
  | (simp at h;done)
  | (simp only [Option.some.injEq,Prod.mk.injEq,K.raw.injEq,true_and] at h;obtain ⟨⟨rfl,rfl⟩,rfl⟩:=h;exact ⟨_,rfl,rfl⟩)
theorem Af3 {o:Op} {t u:Nat} {os:List Operand} (h:opK P o=some (.raw 23 t u,os)):∃c r m,o=.call c∧c.callee=.invoke r m∧t=strN m∧os=r::c.args.toList:=by
 have h:=M8 h (by simp [Dv]);unfold opKr at h;split at h<;>(try (repeat' (split at h)))<;>first
  | (simp at h;done)
  | (simp only [Option.some.injEq,Prod.mk.injEq,K.raw.injEq,true_and] at h;obtain ⟨⟨rfl,rfl⟩,rfl⟩:=h;exact ⟨_,_,_,rfl,by assumption,rfl,rfl⟩)
end
theorem Ah9 (c:Char):c.toNat<1114112:=by
 have:=c.valid;show c.val.toNat<1114112;rcases this with h | h
 ·omega
 ·omega
theorem char_inj {c d:Char} (h:c.toNat=d.toNat):c=d:=by
 apply Char.ext;exact UInt32.toNat_inj.1 h
theorem A9w:∀(a b:List Char),a.reverse.foldl (fun a c=>a*1114112+c.toNat+1) 0=b.reverse.foldl (fun a c=>a*1114112+c.toNat+1) 0→a=b
 | [],[],_=>rfl
 | [],d::b,h=>by
   rw [List.reverse_cons,List.foldl_append] at h;simp at h
 | c::a,[],h=>by
   rw [List.reverse_cons,List.foldl_append] at h;simp at h
 | c::a,d::b,h=>by
   rw [List.reverse_cons,List.foldl_append,List.reverse_cons,List.foldl_append] at h;simp only [List.foldl_cons,List.foldl_nil] at h;have h1:=Ah9 c;have h2:=Ah9 d;have e1:c.toNat=d.toNat:=by omega
   have e2:a.reverse.foldl (fun a c=>a*1114112+c.toNat+1) 0=b.reverse.foldl (fun a c=>a*1114112+c.toNat+1) 0:=by omega
   rw [char_inj e1,A9w a b e2]
theorem strN_inj {s t:String} (h:strN s=strN t):s=t:=by
 unfold strN at h;have e:s.toList.reverse=t.toList.reverse:=A9w _ _ (by rw [List.reverse_reverse,List.reverse_reverse];exact h);have e:=List.reverse_inj.1 e;exact String.ext e
section
variable {E:Env} {σ:FSt}
theorem A13 {h:Gh} {w:World} {t:Nat} {v:V} {x:Value} (o:Ok σ h w (.iface t v) x):∃y,x=.iface t y∧RepD w h.φ v y:=by
 obtain ⟨r,_⟩:=o;cases r with
 | data r=>cases r with
   | iface _ _ y hy=>exact ⟨y,rfl,hy⟩
def Y2 (P:Program) (t:TypeId):Bool:=match P.underlying t with
 | some (.interface _)=>false
 | some _=>true
 | none=>false
theorem Aa3 {d t u:Nat} {x:X} {v v':V} (hc:Y2 E.P t=true) (hx:[x].mapM (evX σ)=some [v]) (hd:∀b,toD b 6 v=some (v',[])):Does E σ ⟨some d,.raw 20 t u,[x],none⟩ {v:=.iface t v'} (Bp [x]):=by
 refine .ext rfl hx fun o os log stp σ' a w h ho R hO=>?_;obtain ⟨p,e1,rfl⟩:=Af5 ho;obtain ⟨v1,hu,o1⟩:=hO.one;simp only [List.cons.injEq,and_true] at hu;subst hu;have rd:=(Jn R.1 6 v v' _ [] (hd _) (by simp) o1.1).1;refine ⟨.iface t (a.eval p),?_,.data (.iface _ _ _ rd),Ap (.iface t v' _ rd)⟩;have hrun:(Instr.makeInterface t (a.eval p)).run E.P w=.ok (.iface t (a.eval p)) w:=by
  unfold Y2 at hc;split at hc
  ·cases hc
  ·rename_i dd hne hu;simp only [Instr.makeInterface,Sem.run_bind,run_underlying hu,Result.andThen_ok];rfl
  ·cases hc
 simp only [execOp,e1,Sem.run_bind,hrun];rfl
theorem X1 {s:St} {K:St→Prop} {d t u:Nat} {x:X} {v v':V} {rest:List Ins} (hc:Y2 E.P t=true) (hx:evXs s.env [x]=some [v]) (hd:∀b,toD b 6 v=some (v',[])) (hk:Steps E rest K (s.put (some d) (.iface t v'))):Steps E (⟨some d,.raw 20 t u,[x],none⟩::rest) K s :=
 Step1.does (ins:=⟨some d,.raw 20 t u,[x],none⟩) (Aa3 hc (Ay hx) hd) hk
theorem Yv {P:Program} {w:World} {t u a:Nat} {y:Value} (hc:Y2 P u=true) {z:Value} {i:TypeInfo} (hi:P.info? u=some i) (hz:i.zero=some z) :
  (Instr.typeAssert (.iface a y) t u true).run P w=.ok (if a=u then .tuple #[y,.bool true] else .tuple #[z,.bool false]) w:=by
 unfold Y2 at hc;split at hc
 ·cases hc
 ·rename_i dd hne hu;unfold Instr.typeAssert;simp only [Sem.run_bind,run_underlying hu,Result.andThen_ok];by_cases h:a=u
  ·subst h;cases dd<;>first | (exact absurd rfl (hne _)) | (simp;rfl) | simp
  ·cases dd<;>first | (exact absurd rfl (hne _)) | (simp [h,zeroValue,typeInfo,hi,hz];done)
 ·cases hc
theorem A7i {d t u a:Nat} {x:X} {v zv:V} {i:TypeInfo} {z:Value} (hc:Y2 E.P u=true) (hi:E.P.info? u=some i) (hz:i.zero=some z) (hzv:Abt z=some zv) (hx:[x].mapM (evX σ)=some [.iface a v]) :
  Does E σ ⟨some d,.raw 22 t u,[x],none⟩ {v:=if a=u then .tuple [v,.bool true] else .tuple [zv,.bool false]} (Bp [x]):=by
 refine .ext rfl hx fun o os log stp σ' ac w h ho R hO=>?_;obtain ⟨p,e1,rfl⟩:=Af4 ho;obtain ⟨v1,hu,o1⟩:=hO.one;simp only [List.cons.injEq,and_true] at hu;subst hu;obtain ⟨y,ey,ry⟩:=A13 o1;have hrun:=Yv (P:=E.P) (w:=w) (t:=t) (a:=a) (y:=y) hc hi hz;have ok:Ok σ' h w (if a=u then .tuple [v,.bool true] else .tuple [zv,.bool false]) (if a=u then Value.tuple #[y,.bool true] else .tuple #[z,.bool false]):=by
  by_cases h:a=u
  ·rw [if_pos h,if_pos h];exact ⟨.tuple _ _ rfl (fun i v x h1 h2=>by
    match i with
    | 0=>cases h1;cases h2;exact ry
    | 1=>cases h1;cases h2;exact .bool _),fun j u z hu hz=>by
    cases j with
    | zero=>simp [cells] at hu;subst hu;intro r sz xs e;cases e
    | succ j=>simp [cells] at hu⟩
  ·rw [if_neg h,if_neg h];exact ⟨.tuple _ _ rfl (fun i v x h1 h2=>by
    match i with
    | 0=>cases h1;cases h2;exact A3s hzv
    | 1=>cases h1;cases h2;exact .bool _),fun j u z hu hz=>by
    cases j with
    | zero=>simp [cells] at hu;subst hu;intro r sz xs e;cases e
    | succ j=>simp [cells] at hu⟩
 refine ⟨_,?_,ok⟩;simp only [execOp,e1,ey,Sem.run_bind,hrun];rfl
theorem A56 {s:St} {K:St→Prop} {d t u a:Nat} {x:X} {v zv:V} {i:TypeInfo} {z:Value} {rest:List Ins} (hc:Y2 E.P u=true) (hi:E.P.info? u=some i) (hz:i.zero=some z) (hzv:Abt z=some zv) (hx:evXs s.env [x]=some [.iface a v])
  (hk:Steps E rest K (s.put (some d) (if a=u then .tuple [v,.bool true] else .tuple [zv,.bool false]))):Steps E (⟨some d,.raw 22 t u,[x],none⟩::rest) K s :=
 Step1.does (ins:=⟨some d,.raw 22 t u,[x],none⟩) (A7i hc hi hz hzv (Ay hx)) hk
theorem Wm {d:Option Nat} {t N u:Nat} {name:String} {f:FuncId} {xr:X} {xs:List X} {v u0 r:V} {vs us:List V} (hx:(xr::xs).mapM (evX σ)=some (.iface t v::vs)) (hd:∀b,toDs b (u0::vs)=some (us,[])) (hN:N=strN name)
  (hm:∀(w:World) (φ:Nat→Nat) (x:Value),RepD w φ v x→∃y,(method (E.P.types.size+Made.depth) t x name).run E.P w=.ok (f,y) w∧RepD w φ u0 y) (hC:C E.P f us r):Does E σ ⟨d,.raw 23 N u,xr::xs,none⟩ {v:=r} (Bp (xr::xs)):=by
 refine .sem fun τ hτ=>?_;intro slots ops i o ro n log stp a w h hc hs hi R Q next hn
 have hx':(xr::xs).mapM (evX τ)=some (.iface t v::vs):=C5 hx (fun l hl=>hτ l hl);obtain ⟨os,cc⟩:=Ba hc;obtain ⟨c,rp,m,e1,e2,e3,rfl⟩:=Af3 cc.op;have hname:m=name:=strN_inj (by rw [←e3,hN]);subst hname;have hO:=B9 R.1 cc.xs hx';cases hO with
 | cons o1 hr =>
   obtain ⟨x,ex,rx⟩:=A13 o1;obtain ⟨y,hy1,hy2⟩:=hm w h.φ x rx;obtain ⟨l1,l2⟩:=Do hr;have hrun:(execOp a.eval o).run E.P w=.ok (.enter f (#[y]++c.args.map a.eval)) w:=by
    have hcall:=hC.1;unfold C9 at hcall;cases hf:E.P.funcs[f]? with
    | none=>simp [hf] at hcall
    | some fn =>
      simp only [hf,Bool.and_eq_true,bne_iff_ne,ne_eq] at hcall;have hb:fn.body.isNone=false:=by cases h:fn.body<;>simp_all
      have hnm:(fn.name== "runtime.NumGoroutine")=false:=by simpa using hcall.1
      have e5:(#[Value.iface t x]++c.args.map a.eval).extract 1 (#[Value.iface t x]++c.args.map a.eval).size=c.args.map a.eval:=by
       apply Array.ext';simp only [Array.toList_extract,Array.toList_append,Array.size_append,Array.size_map,Array.toList_map];simp;rw [List.take_of_length_le (by simp)]
      have e6:(#[Value.iface t x]++c.args.map a.eval)[0]?=some (.iface t x):=by
       rw [Array.getElem?_append_left (by simp)];rfl
      simp only [execOp,e1,resolve,e2,ex,Sem.run_bind,Sem.run_pure,Result.andThen_ok,invoke,e6,e5,callMethod,run_program,hy1,callFunc,hf,hnm,hb];simp
   refine V2 (vs:=u0::vs) (ids:=[]) R cc (hd _) hC (#[y]++c.args.map a.eval) (by simp at l1 ⊢;omega) (fun i v x h1 h2=>?_) hi (Ai (Au cc rfl)) hrun r (.inl rfl) fun a' w' h' R2 hy=>hn _ _ _ (by simpa [freeze] using R2) hy;cases i with
   | zero =>
     rw [Array.getElem?_append_left (by simp)] at h2;cases h1;cases h2;exact .data hy2
   | succ i =>
     rw [Array.getElem?_append_right (by simp)] at h2;exact l2 i v x (by simpa using h1) (by simpa using h2)
theorem A53 {s:St} {K:St→Prop} {d:Option Nat} {t N u:Nat} {name:String} {f:FuncId} {xr:X} {xs:List X} {v u0 r:V} {vs us:List V} {rest:List Ins} (hx:evXs s.env (xr::xs)=some (.iface t v::vs)) (hd:∀b,toDs b (u0::vs)=some (us,[])) (hN:N=strN name)
  (hm:∀(w:World) (φ:Nat→Nat) (x:Value),RepD w φ v x→∃y,(method (E.P.types.size+Made.depth) t x name).run E.P w=.ok (f,y) w∧RepD w φ u0 y) (hC:C E.P f us r) (hk:Steps E rest K (s.put d r)):Steps E (⟨d,.raw 23 N u,xr::xs,none⟩::rest) K s :=
 Step1.does (ins:=⟨d,.raw 23 N u,xr::xs,none⟩) (Wm (Ay hx) hd hN hm hC) hk
end
end
section
open Go.RowKit
def pinS (S:Sur) (A:Arena):Sur:=fun log stp M w φ=>log=encA A∧S log stp M w φ
theorem pinS_ok {S:Sur} (h:S.ok) (A:Arena):(pinS S A).ok:=⟨fun _ _ _ _ _ _ _ _ h1 mv=>⟨h1.1,h.move _ _ _ _ _ _ _ _ h1.2 mv⟩,fun _ _ _ _ _ h1=>h.gl _ _ _ _ _ h1.2⟩
abbrev Env.pinA (E:Env) (A:Arena):Env:={E with S:=pinS E.S A,ok:=pinS_ok E.ok A}
theorem Ae4 {E:Env} (hys:E.ys=noYs) (hlk:E.lk=fun _=>True) {A:Arena} {log:List (List V)} {stp:Bool} {σ:FSt} {a:Act} {w:World} {h:Gh} (hl:log=encA A) (R:E.relF log stp σ a w h):(E.pinA A).relF log stp σ a w h:=by
 refine ⟨{R.1 with sur:=⟨hl,R.1.sur⟩},fun l hl=>⟨?_,by show E.lk l;rw [hlk];trivial⟩,R.2.2⟩;intro log x M w φ xs hp;have hp:E.ys _:=hp;rw [hys] at hp;exact False.elim hp
theorem Z5 {E:Env} (hys:E.ys=noYs) (hlk:E.lk=fun _=>True) {A:Arena} {log:List (List V)} {stp:Bool} {σ:FSt} {a:Act} {w:World} {h:Gh} (R:(E.pinA A).relF log stp σ a w h):E.relF log stp σ a w h:=by
 refine ⟨{R.1 with sur:=R.1.sur.2},fun l hl=>⟨?_,by rw [hlk];trivial⟩,R.2.2⟩;intro log x M w φ xs hp;rw [hys] at hp;exact False.elim hp
theorem Abr {P:Program} {o:Oper} {os:List Operand} {off:Nat} (hk:opK P o.op=some (.faddr off,os)):∃t p f fs fd n,o.op=.fieldAddr t p f∧P.underlying t=some (.struct fs)∧fs[f]?=some fd∧szOf P fd.type=some n∧n≠0∧fd.offset=off∧os=[p]:=by
 replace hk:=Dw hk (by simp [Dv]);cases ho:o.op<;>rw [ho] at hk<;>simp only [opK0] at hk<;>(try (cases hk;done))<;>(try (repeat' (split at hk<;>(try (cases hk;done)))))
 all_goals first
  | (simp only [Option.map_eq_some_iff,Prod.mk.injEq] at hk;obtain ⟨_,_,h1,_⟩:=hk;cases h1;done)
  | (simp only [E7] at hk;repeat' (split at hk<;>(try (cases hk;done))))
  | (cases hk;exact ⟨_,_,_,_,_,_,rfl,by assumption,by assumption,by assumption,by assumption,rfl,rfl⟩)
section
variable {E:Env} {ro:Option Nat} {n:Nat} {ops:Array Oper}
theorem Abm (hys:E.ys=noYs) (hlk:E.lk=fun _=>True) {A:Arena} {K:St→Prop} {il1 il2:List Ins} {s s1:St} {fp:List (List Loc×List Loc)} (hc:Mh E.P E.nt ops=some (il1++il2)) (hl:Q8 ops=true) (t:Trace (E.pinA A) s il1 fp s1) (hlog:s.log=encA A)
  (hok:Gm (befs ops) fp=true) (ht:Eg (befs ops) il1.length ops.size=true) (hst:Steps E il2 K s1) {Q:Exit→Act→World→Prop} (y:Pin)
  (hn:∀s' a' w' h',K s'→E.rel s' a' w' h'→h'.y=y→Q .normal a' w') :
  ∃us:List FSt,∀(fuel:Nat) (listed:Array Bool) (a:Act) (w:World) (h:Gh),listed.toList.count false=fuel→listed.size=ops.size→Xf ops (fun i=>listed.getD i false)→(∀i,il1.length≤i→listed.getD i false=false) →
   E.relF s.log s.stp (FL us (fun i=>listed.getD i false) s.fs il1.length) a w h→h.y=y→wpAnyIn (Dm ro) n E.P .any ops Q fuel listed a w:=by
 obtain ⟨t1,t2,t3,us,t4,t5,t6⟩:=I9 t;obtain ⟨hlen,hg⟩:=E8 hc;have hle:il1.length≤ops.size:=by simp at hlen;omega
 have tot:∀k i,il1.length≤k→k<ops.size→i<k→((befs ops).getD k 0).testBit i=true:=by
  intro k i h1 h2 h3;unfold Eg at ht;rw [List.all_eq_true] at ht;have:=ht (k-il1.length) (by simp;omega);rw [List.all_eq_true] at this;have:=this i (by simp;omega)
  rwa [show il1.length+(k-il1.length)=k by omega] at this
 have ap:∀i j,i<j→j<il1.length→((befs ops).getD j 0).testBit i=false→E3 (fp.getD i ([],[])) (fp.getD j ([],[]))=true:=by
  intro i j h1 h2 h3;unfold Gm at hok;rw [List.all_eq_true] at hok;have:=hok j (by simp;omega);rw [List.all_eq_true] at this;have:=this i (by simp;omega);rw [h3] at this;simpa using this
 refine ⟨us,?_⟩;intro fuel
 induction fuel with
 | zero =>
   intro listed a w h hcn hs hcl hpre R hy;have all:∀i,i<ops.size→listed.getD i false=true:=by
    intro i hi;cases hL:listed.getD i false with
    | true=>rfl
    | false =>
      have:false∈listed.toList:=by
       simp only [Array.getD_eq_getD_getElem?,Array.getElem?_eq_getElem (show i<listed.size by omega),Option.getD_some] at hL;rw [←hL];simp
      exact absurd this (List.count_eq_zero.1 hcn)
   have hm:il1.length=ops.size:=by
    rcases Nat.lt_or_ge il1.length ops.size with h1 | h1
    ·have:=all il1.length h1;rw [hpre il1.length (Nat.le_refl _)] at this;cases this
    ·omega
   refine Rl hc hl ht y hn 0 ops.size listed s1 a w h (by omega) (by omega) hs hcl (fun i hi=>by rw [all i hi];simp [hi]) ?_ ?_ hy
   ·rw [List.drop_append_of_le_length (by omega),List.drop_eq_nil_of_le (by omega)];simpa using hst
   ·show E.relF _ _ _ a w h;rw [t2,t3,t5];have e:FL us (fun i=>listed.getD i false) s.fs il1.length=FL us (fun _=>true) s.fs il1.length:=by
     funext l;refine Yc (i:=il1.length) (fun k hk hL=>?_) (fun k hk hL=>?_) _ (Nat.le_refl _)
     ·rw [all k (by omega)] at hL;cases hL
     ·rw [hpre k hk] at hL;cases hL
    rw [e] at R;exact R
 | succ fuel ih =>
   intro listed a w h hcn hs hcl hpre R hy;by_cases hall:∀i,i<il1.length→listed.getD i false=true
   ·have e:FL us (fun i=>listed.getD i false) s.fs il1.length=FL us (fun _=>true) s.fs il1.length:=by
     funext l;refine Yc (i:=il1.length) (fun k hk hL=>?_) (fun k hk hL=>?_) _ (Nat.le_refl _)
     ·rw [hall k hk] at hL;cases hL
     ·rw [hpre k hk] at hL;cases hL
    rw [e] at R;have hLk:∀i,i<ops.size→listed.getD i false=decide (i<il1.length):=fun i hi=>by
     rcases Nat.lt_or_ge i il1.length with h1 | h1
     ·rw [hall i h1];simp [h1]
     ·rw [hpre i h1];simp;omega
    have hfuel:il1.length+(fuel+1)=ops.size:=by
     have e1:listed.toList=List.replicate il1.length true++List.replicate (ops.size-il1.length) false:=by
      apply List.ext_getElem?;intro k;have hk:listed.toList[k]?=if k<ops.size then some (listed.getD k false) else none:=by
       by_cases h1:k<ops.size
       ·simp [h1,show k<listed.size by omega]
       ·simp [h1,show listed.size≤k by omega]
      rw [hk,List.getElem?_append];simp only [List.length_replicate];by_cases h1:k<il1.length
      ·rw [if_pos h1,if_pos (by omega),hall k h1,List.getElem?_replicate,if_pos h1]
      ·rw [if_neg h1,List.getElem?_replicate];by_cases h2:k<ops.size
       ·rw [if_pos h2,if_pos (by omega),hpre k (by omega)]
       ·rw [if_neg h2,if_neg (by omega)]
     rw [e1] at hcn;simp [List.count_append,List.count_replicate] at hcn;omega
    refine Rl hc hl ht y hn (fuel+1) il1.length listed s1 a w h hfuel (Nat.le_refl _) hs hcl hLk ?_ ?_ hy
    ·simpa using hst
    ·show E.relF _ _ _ a w h;rw [t2,t3,t5];exact R
   ·obtain ⟨k0,hk0,hk0'⟩:∃k,k<il1.length∧listed.getD k false=false:=by
     apply Classical.byContradiction;intro hno;exact hall fun i hi=>by
      cases hL:listed.getD i false with
      | true=>rfl
      | false=>exact absurd ⟨i,hi,hL⟩ hno
    refine ⟨fun hr=>?_,fun i hi=>?_⟩
    ·have:=K4 hl hs hr k0 (by omega);rw [hk0'] at this;cases this
    ·obtain ⟨h1,h2,o,ho,h3⟩:=(Is hs).1 hi;have him:i<il1.length:=by
      rcases Nat.lt_or_ge i il1.length with h4 | h4
      ·exact h4
      ·have:=Hm hcl ho h3 (tot i k0 h4 h1 (by omega));rw [hk0'] at this;cases this
     obtain ⟨ins,eff,rd,g1,g2,g3,g4⟩:=t6 i him;obtain ⟨ins',e1,e2⟩:=hg i o ho;rw [List.getElem?_append_left him,g1] at e1;cases e1;have below:∀k,k<i→listed.getD k false=false→∀l,(l∈rd∨l∈wrOf ins eff)→us.getD k nof l=none:=by
      intro k hk hL l hlm;obtain ⟨insk,effk,rdk,q1,q2,q3,q4⟩:=t6 k (by omega);have hb:((befs ops).getD i 0).testBit k=false:=by
       cases hb:((befs ops).getD i 0).testBit k with
       | false=>rfl
       | true=>have:=Hm hcl ho h3 hb;rw [hL] at this;cases this
      have:=ap k i hk him hb;simp only [List.getD_eq_getElem?_getD,q2,g2,Option.getD_some,E3,Bool.and_eq_true,Bool.not_eq_true'] at this;rw [List.getD_eq_getElem?_getD,q3,Option.getD_some];refine Fo fun hm=>?_;rcases hlm with h5 | h5
      ·exact Bv this.1.2 l hm h5
      ·exact Bv this.1.1 l hm h5
     have above:∀k,i<k→listed.getD k false=true→k<il1.length∧∃insk effk rdk,fp[k]?=some (wrOf insk effk,rdk)∧us[k]?=some (wrF insk effk nof)∧E3 (wrOf ins eff,rd) (wrOf insk effk,rdk)=true:=by
      intro k hk hL;have hkm:k<il1.length:=by
       rcases Nat.lt_or_ge k il1.length with h4 | h4
       ·exact h4
       ·rw [hpre k h4] at hL;cases hL
      obtain ⟨insk,effk,rdk,q1,q2,q3,q4⟩:=t6 k hkm;have hks:k<ops.size:=by omega
      have hb:((befs ops).getD k 0).testBit i=false:=by
       cases hb:((befs ops).getD k 0).testBit i with
       | false=>rfl
       | true =>
         have:=Hm hcl (Array.getElem?_eq_getElem hks) (hcl k _ (Array.getElem?_eq_getElem hks) hL) hb;rw [h2] at this;cases this
      have:=ap i k hk hkm hb;simp only [List.getD_eq_getElem?_getD,q2,g2,Option.getD_some] at this;exact ⟨hkm,insk,effk,rdk,q2,q3,this⟩
     have at_i:∀l,(l∈rd∨l∈wrOf ins eff)→FL us (fun i=>listed.getD i false) s.fs il1.length l=FL us (fun _=>true) s.fs i l:=by
      intro l hlm;refine Yc (fun k hk hL=>below k hk hL l hlm) (fun k hk hL=>?_) _ (by omega);rcases Nat.lt_or_ge i k with h5 | h5
      ·obtain ⟨_,insk,effk,rdk,q2,q3,q4⟩:=above k h5 hL;rw [List.getD_eq_getElem?_getD,q3,Option.getD_some];simp only [E3,Bool.and_eq_true,Bool.not_eq_true'] at q4;refine Fo fun hm=>?_;rcases hlm with h6 | h6
       ·exact Bv q4.2 l h6 hm
       ·exact Bv q4.1.1 l h6 hm
      ·obtain rfl:k=i:=by omega
       rw [h2] at hL;cases hL
     have hd:=N8 (τ:=FL us (fun i=>listed.getD i false) s.fs il1.length) g4 (fun l hl=>at_i l (.inl hl));have R2:(E.pinA A).relF s.log s.stp (FL us (fun i=>listed.getD i false) s.fs il1.length) a w h:=Ae4 hys hlk hlog R;refine Wl (E:=E.pinA A) e2 rfl ho hd R2 fun a' w' h' R' hy'=>ih _ a' w' h' (N9 (by omega) h2 hcn) (by simpa using hs) ?_ ?_ ?_ (hy'.trans hy)
     ·intro j o' ho' hj d hd;simp only [Dp (show i<listed.size by omega),Bool.or_eq_true,beq_iff_eq] at hj ⊢;rcases hj with hj | rfl
      ·exact .inl (hcl j o' ho' hj d hd)
      ·rw [ho] at ho';cases ho';exact .inl (h3 d hd)
     ·intro j hj;rw [Dp (show i<listed.size by omega),hpre j hj];have:(j==i)=false:=by simpa using (show j≠i by omega)
      rw [this];rfl
     ·have e:(fun k=>(listed.setIfInBounds i true).getD k false)=fun k=>listed.getD k false||k==i:=by
       funext k;exact Dp (by omega)
      rw [e,Aao h2 (fun k hk hL l=>?_) _ him]
      ·rw [List.getD_eq_getElem?_getD,g3,Option.getD_some,←Jl];exact Z5 hys hlk R'
      ·obtain ⟨_,insk,effk,rdk,q2,q3,q4⟩:=above k hk hL;simp only [List.getD_eq_getElem?_getD,q3,g3,Option.getD_some];simp only [E3,Bool.and_eq_true,Bool.not_eq_true'] at q4;by_cases hm:l∈wrOf insk effk
       ·right
        exact Fo fun hm'=>Bv q4.1.1 l hm' hm
       ·left
        exact Fo hm
theorem Agm (hys:E.ys=noYs) (hlk:E.lk=fun _=>True) {A:Arena} {K:St→Prop} {il1 il2:List Ins} {s s1:St} {fp:List (List Loc×List Loc)} {id:Nat} {a:Act} {w:World} {h:Gh} (hc:Mh E.P E.nt ops=some (il1++il2)) (hl:Q8 ops=true) (t:Trace (E.pinA A) s il1 fp s1) (hlog:s.log=encA A)
  (hok:Gm (befs ops) fp=true) (ht:Eg (befs ops) il1.length ops.size=true) (hst:Steps E il2 K s1) (R:E.rel s a w h) {Q:Exit→Act→World→Prop}
  (hn:∀s' a' w' h',K s'→E.rel s' a' w' h'→h'.y=h.y→Q .normal a' w'):(Code.region id ops true).wpIn (Dm ro) n E.P Q a w:=by
 obtain ⟨us,key⟩:=Abm (ro:=ro) (n:=n) hys hlk hc hl t hlog hok ht hst h.y hn;refine wpIn_region_any E.mixed ?_;have e0:∀i,(Array.replicate ops.size false).getD i false=false:=fun i=>by
  simp only [Array.getD_eq_getD_getElem?,Array.getElem?_replicate];by_cases h:i<ops.size<;>simp [h]
 refine key ops.size _ a _ h (by simp [List.count_replicate]) (by simp) ?_ (fun i _=>e0 i) ⟨?_,R.2⟩ rfl
 ·intro j o ho hj;have hj:(Array.replicate ops.size false).getD j false=true:=hj;rw [e0] at hj;cases hj
 ·have:FL us (fun i=>(Array.replicate ops.size false).getD i false) s.fs il1.length=s.fs:=by
   have:∀m,FL us (fun i=>(Array.replicate ops.size false).getD i false) s.fs m=s.fs:=by
    intro m
    induction m with
    | zero=>rfl
    | succ m ih =>
      have e:FL us (fun i=>(Array.replicate ops.size false).getD i false) s.fs (m+1)=if (Array.replicate ops.size false).getD m false then upF (us.getD m nof) (FL us (fun i=>(Array.replicate ops.size false).getD i false) s.fs m) else FL us (fun i=>(Array.replicate ops.size false).getD i false) s.fs m:=rfl
      rw [e,e0 m,ih];rfl
   exact this _
  rw [this];exact R.1.drew E.ok
end
theorem Dz {E:Env} {ro:Option Nat} {Q:Exit→St→Prop} {s:St} {bef:List Nat} {il:List Ins} (hys:E.ys=noYs) (hlk:E.lk=fun _=>True) {A:Arena} (hlog:s.log=encA A)
  (t:TraceK (E.pinA A) s il fun fp s' r=>Gm bef fp=true∧Eg bef (il.length-r.length) il.length=true∧Steps E r (Q .normal) s'):Tr E ro (.draw bef il) Q s:=by
 obtain ⟨il1,fp,s',il2,e,t',hok,ht,h⟩:=t.spec;subst e;intro c hc n a w g R Q' hq;obtain ⟨id,ops,rfl,h1,hl,rfl⟩:=Cb hc;have hlen:=(E8 h1).1;have ht:Eg (befs ops) il1.length (il1++il2).length=true:=by simpa using ht
 rw [hlen] at ht;exact Agm hys hlk h1 hl t' hlog hok ht h R fun s' a' w' h' k R' e=>hq _ s' a' w' h' k R' e
section
variable {E:Env} {σ:FSt}
theorem A7g {d f:Nat} {x:X} {blk off:Nat} (hx:[x].mapM (evX σ)=some [.rptr blk off]):Does E σ ⟨some d,.faddr f,[x],none⟩ {v:=.rptr blk (off+f)} (Bp [x]):=by
 refine .sem fun τ hτ slots ops i o ro n log stp a w h hc hs hi R Q next hn=>?_
 have hx':[x].mapM (evX τ)=some [.rptr blk off]:=C5 hx fun l hl=>hτ l hl;obtain ⟨os,cc⟩:=Ba hc;obtain ⟨t,p,g,fs,fd,m,ho,h1,h2,h3,h4,rfl,rfl⟩:=Abr cc.op;obtain ⟨u,hu,o1⟩:=(B9 R.1 cc.xs hx').one;simp only [List.cons.injEq,and_true] at hu;subst hu;have ep:=F5 o1;have hex:(execOp a.eval o).run E.P w=.ok (.value (.pointer (some ⟨blk,off+fd.offset,none⟩))) w:=by
  simp only [execOp,ho,ep,Sem.run_bind,Ki h1 h2 h3 h4];rfl
 exact B5 hi (Ai (Au cc rfl)) (At cc.op) (.inl hex) (hn _ _ h (Bk (eff:={v:=.rptr blk (off+fd.offset)}) cc R R.1 (.data (.rptr _ _)) rfl) rfl)
theorem Acq {S0:Sur} {l0:List (List V)} {s0:Bool} {A:Arena} (hE:InA E S0 l0 s0) (hys:E.ys=noYs) (hlk:E.lk=fun _=>True) {d n:Nat} {agg:Bool} {x:X} {blk off:Nat} {cs:List V} (hx:[x].mapM (evX σ)=some [.rptr blk off]) (hA:(blk,Ob.cells cs)∈A) (hv:off+n≤cs.length) :
  Does (E.pinA A) σ ⟨some d,.load n agg,[x],none⟩ {v:=mkv agg n (cs.drop off)} (Bp [x]):=by
 refine .sem fun τ hτ slots ops i o ro n' log stp a w h hc hs hi R Q next hn=>?_
 have hx':[x].mapM (evX τ)=some [.rptr blk off]:=C5 hx fun l hl=>hτ l hl;obtain ⟨os,cc⟩:=Ba hc;have hll:log=encA A:=R.1.sur.1;have R':E.relF (encA A) stp τ a w h:=by rw [←hll];exact Z5 hys hlk R
 obtain ⟨vs,et,h1,h2,h3⟩:=(hE.ar R').ok _ hA;have hop:∃t p dd,o.op=.load t p∧szOf E.P t=some n∧E.P.underlying t=some dd∧aggB E.P t=agg∧os=[p]∧(agg=false→n=1):=by
  have hk:=cc.op;replace hk:=Dw hk (by simp [Dv]);cases ho:o.op<;>rw [ho] at hk<;>simp only [opK0] at hk<;>(try (cases hk;done))<;>(try (repeat' (split at hk<;>(try (cases hk;done)))))
  all_goals first
   | (simp only [Option.map_eq_some_iff,Prod.mk.injEq] at hk;obtain ⟨_,_,h1,_⟩:=hk;cases h1;done)
   | (simp only [E7] at hk;repeat' (split at hk<;>(try (cases hk;done))))
   | (cases hk;exact ⟨_,_,_,rfl,by assumption,by assumption,by assumption,rfl,by simp⟩)
   | (rename_i q1 q2 q3 q4;subst q4;cases hk;exact ⟨_,_,_,rfl,by assumption,by assumption,Bool.eq_false_iff.2 q3,rfl,by simp⟩)
 obtain ⟨t,p,dd,e1,e2,e3,e4,rfl,e5⟩:=hop;obtain ⟨u,hu,o1⟩:=(B9 R.1 cc.xs hx').one;simp only [List.cons.injEq,and_true] at hu;subst hu;have ep:=F5 o1;obtain ⟨y,hy1,hy2⟩:=Vy (σ:=τ) (h:=h) (w:=w) (agg:=agg) (n:=n) (l:=cs.drop off) (f:=fun j=>vs.getD (off+j) undef) (by simp;omega) e5 (fun j v hv=>by
  rw [List.getElem?_drop] at hv;have hlt:off+j<vs.size:=by
   have:=(List.getElem?_eq_some_iff.1 hv).1;omega
  have:=h3 (off+j) v vs[off+j] hv (by simp [hlt]);have e:vs.getD (off+j) undef=vs[off+j]:=by simp [hlt]
  rw [e];exact ⟨.data this.1,D5 this.1,this.2⟩)
 have hex:(execOp a.eval o).run E.P w=.ok (.value y) w:=by
  simp only [execOp,e1,ep,Sem.run_bind];rw [Gb (cs:=(List.range n).map fun j=>vs.getD (off+j) undef) e2 e3 (by simp) (fun j v hv=>by
   obtain ⟨hj,rfl⟩:=Eh hv;rw [cell_of_row w blk (off+j) vs et (0,0) h1];have:off+j<vs.size:=by omega
   simp [this]) (by rw [e4];exact hy1)]
  rfl
 exact B5 hi (Ai (Au cc rfl)) (At cc.op) (.inl hex) (hn _ _ h (Bk (eff:={v:=mkv agg n (cs.drop off)}) cc R R.1 hy2 rfl) rfl)
theorem Qp {s:St} {K:List (List Loc×List Loc)→St→List Ins→Prop} {d f:Nat} {x:X} {blk off:Nat} {rest:List Ins} (hx:evXs s.env [x]=some [.rptr blk off])
  (tr:TraceK E (s.put (some d) (.rptr blk (off+f))) rest fun fp s' r'=>K (([.slot d],Bp [x])::fp) s' r'):TraceK E s (⟨some d,.faddr f,[x],none⟩::rest) K :=
 .step (ins:=⟨some d,.faddr f,[x],none⟩) (eff:={v:=.rptr blk (off+f)}) (A7g (Ay hx)) tr
theorem Br {S0:Sur} {l0:List (List V)} {s0:Bool} {A:Arena} (hE:InA E S0 l0 s0) (hys:E.ys=noYs) (hlk:E.lk=fun _=>True) {s:St} {K:List (List Loc×List Loc)→St→List Ins→Prop} {d n:Nat} {agg:Bool} {x:X} {blk off:Nat} {cs:List V} {rest:List Ins} (hx:evXs s.env [x]=some [.rptr blk off]) (hA:(blk,Ob.cells cs)∈A) (hv:off+n≤cs.length)
  (tr:TraceK (E.pinA A) (s.put (some d) (mkv agg n (cs.drop off))) rest fun fp s' r'=>K (([.slot d],Bp [x])::fp) s' r'):TraceK (E.pinA A) s (⟨some d,.load n agg,[x],none⟩::rest) K :=
 .step (ins:=⟨some d,.load n agg,[x],none⟩) (eff:={v:=mkv agg n (cs.drop off)}) (Acq hE hys hlk (Ay hx) hA hv) tr
end
section
variable {E:Env} {S0:Sur} {l0:List (List V)} {s0:Bool} {A:Arena}
theorem Mw {α:Type} {l m:List α} {off:Nat} (h:off+m.length≤l.length) (j:Nat):(l.take off++m++l.drop (off+m.length))[j]?=if j<off then l[j]? else if j<off+m.length then m[j-off]? else l[j]?:=by
 rw [List.append_assoc,List.getElem?_append,List.length_take,Nat.min_eq_left (by omega)];by_cases h1:j<off
 ·rw [if_pos h1,if_pos h1,List.getElem?_take_of_lt h1]
 ·rw [if_neg h1,if_neg h1,List.getElem?_append];by_cases h2:j<off+m.length
  ·rw [if_pos (by omega),if_pos h2]
  ·rw [if_neg (by omega),if_neg h2,List.getElem?_drop];congr 1;omega
theorem A24 (hE:InA E S0 l0 s0) {K:St→Prop} {s:St} {n:Nat} {x y:X} {rest:List Ins} {blk off:Nat} {cs ds:List V} (hx:evXs s.env [x,y]=some [.rptr blk off,.agg ds]) (hl:s.log=encA A) (hA:(blk,Ob.cells cs)∈A) (hn:ds.length=n) (hoff:off+ds.length≤cs.length) (hd:ds.all isD=true) (hsc:ds.all Af=true)
  (hk:Steps E rest K {s with log:=encA (setA A blk (.cells (Aq cs off ds)))}):Steps E (⟨none,.store n,[x,y],none⟩::rest) K s:=by
 refine Step1.raw fun slots ops o i ro n' a w h hc hs hi R Q next hn'=>?_
 obtain ⟨os,cc⟩:=Ba hc;obtain ⟨t,p,q,e1,e2,rfl⟩:=K7 cc.op;obtain ⟨u,u',hu,o1,o2⟩:=(B9 R.1 cc.xs (Ay hx)).two;simp only [List.cons.injEq,and_true] at hu;obtain ⟨hu1,hu2⟩:=hu;subst hu1 hu2;have ep:=F5 o1;have R':E.relF (encA A) s.stp s.fs a w h:=by rw [←hl];exact R
 have hAr:=hE.ar R';obtain ⟨vs,et,h1,h2,h3⟩:=hAr.ok _ hA;obtain ⟨ws,hw,hlen,hh⟩:=Q4 o2;have hwl:ws.toList.length=ds.length:=by simpa using hlen.symm
 have hall:∀(j:Nat) v z,ds[j]?=some v→ws.toList[j]?=some z→RepD w h.φ v z∧Af v=true:=fun j v z hv hz=>by
  rw [List.all_eq_true] at hd hsc;exact ⟨Lz (hd v (List.mem_of_getElem? hv)) (hh j v z hv (by simpa using hz)).1,hsc v (List.mem_of_getElem? hv)⟩
 have hone:∀z∈ws.toList,z.oneCell'=true:=fun z hz=>by
  obtain ⟨j,hj,rfl⟩:=List.getElem_of_mem hz;have hjd:j<ds.length:=by omega
  obtain ⟨r,sc⟩:=hall j _ _ (List.getElem?_eq_getElem hjd) (List.getElem?_eq_getElem hj);exact (Cr (.data r:Rep w h.φ h.β h.y.l _ _) sc).1
 have hc1:(a.eval q).cells=ws:=by rw [hw];rfl
 have hrun:=run_storeCells_at E.P blk off et ws.toList 0 vs w h1 (by omega) hone;simp only [Nat.add_zero] at hrun;have R2:=hE.step R' (B:=setA A blk (.cells (Aq cs off ds))) (fun b hb hn=>setRow_other w blk b (vs.toList.take off++ws.toList++vs.toList.drop (off+ws.toList.length)).toArray (fun e=>hn (e▸List.mem_map.2 ⟨_,hA,rfl⟩))) (by simp) rfl rfl rfl (fun p hp=>.inl (by rw [←C4 A blk (.cells (Aq cs off ds))];exact List.mem_map.2 ⟨p,hp,rfl⟩)) (fun p hp=>by rw [C4];exact List.mem_map.2 ⟨p,hp,rfl⟩) (by rw [C4];exact hAr.nd) (fun ext p hp=>by
    rcases Mz hp with ⟨e,e'⟩ | ⟨hne,hp⟩
    ·rw [e,e'];refine ⟨_,et,setRow_heap w blk vs _ et (0,0) h1,by simp [Aq];omega,fun j u z hu hz=>?_⟩;rw [List.getElem?_toArray,Mw (by simp;omega)] at hz;unfold Aq at hu;rw [Mw (by omega)] at hu;by_cases c1:j<off
     ·rw [if_pos c1] at hu hz;have hz':vs[j]?=some z:=by simpa using hz
      exact ⟨(h3 j u z hu hz').1.mono ext,(h3 j u z hu hz').2⟩
     ·rw [if_neg c1] at hu hz;by_cases c2:j<off+ds.length
      ·rw [if_pos c2] at hu;rw [if_pos (by omega)] at hz;exact ⟨(hall _ u z hu hz).1.mono ext,(hall _ u z hu hz).2⟩
      ·rw [if_neg c2] at hu;rw [if_neg (by omega)] at hz;have hz':vs[j]?=some z:=by simpa using hz
       exact ⟨(h3 j u z hu hz').1.mono ext,(h3 j u z hu hz').2⟩
    ·exact (hAr.ok p hp).mono (setRow_other w blk p.1 _ hne) ext) (fun p hp=>by
    have hk:p.1∈A.map (·.1):=by rw [←C4 A blk (.cells (Aq cs off ds))];exact List.mem_map.2 ⟨p,hp,rfl⟩
    obtain ⟨q',hq',e⟩:=List.mem_map.1 hk;have:=hAr.lt q' hq';rw [←e];simpa using this)
 have hdn:o.dst=none:=cc.d.symm;have R3:E.rel {s with log:=encA (setA A blk (.cells (Aq cs off ds)))} (a.put o.dst undef) (w.setRow blk (vs.toList.take off++ws.toList++vs.toList.drop (off+ws.toList.length)).toArray) h:=by rw [hdn];exact R2
 refine B5 (x:=undef) hi (Ai (Au cc rfl)) (At cc.op) (.inr ⟨?_,rfl⟩) (hn' _ _ _ h hk R3 rfl);simp only [execOp,e1,ep,Instr.storeAt,Instr.sureAddr,Sem.run_bind,Sem.run_pure,Result.andThen_ok,storeVar,Ds e2];rw [if_neg (by rw [hc1];simp;omega),hc1];rw [hrun];rfl
end
end
section
open Go.RowKit
theorem Step1.mono {E:Env} {i:Ins} {K K':St→Prop} {s:St} (h:Step1 E i K s) (hK:∀s,K s→K' s):Step1 E i K' s:=by
 cases h with
 | raw hr=>exact .raw fun slots ops o i ro n a w h hc hs hi R Q next hn=>hr slots ops o i ro n a w h hc hs hi R Q next fun s' a' w' h' k=>hn s' a' w' h' (hK _ k)
 | does hd hk=>exact .does hd (hK _ hk)
 | off v hg hgv hgb hk=>exact .off v hg hgv hgb (hK _ hk)
 | yield hc hg hx hf hu hd hp hstp hvr hk=>exact .yield hc hg hx hf hu hd hp hstp hvr fun b=>hK _ (hk b)
theorem Adf {E:Env}:∀{il:List Ins} {K K':St→Prop} {s:St},Steps E il K s→(∀s,K s→K' s)→Steps E il K' s
 | [],_,_,_,h,hK=>hK _ h
 | _::_,_,_,_,h,hK=>Step1.mono h fun _ h1=>Adf h1 hK
def StepP (E:Env) (ins:Ins) (K:St→Prop) (Q:Exit→St→Prop) (s:St):Prop :=
 ∀(slots:List (Option Nat)) (ops:Array Oper) (o:Oper) (i:Nat) (ro:Option Nat) (n:Nat) (a:Act) (w:World) (h:Gh),Jd E.P E.nt slots o=some ins→slots=ops.toList.map (·.dst)→ops[i]?=some o→E.rel s a w h →
  ∀(Q':Exit→Act→World→Prop) (next:Act→World→Prop),(∀s' a' w' h',K s'→E.rel s' a' w' h'→h'.y=h.y→next a' w')→(∀ch s' a' w' h',Q (.panic ch) s'→E.rel s' a' w' h'→h'.y=h.y→Q' (.panic ch) a' w')→wpOpIn (Dm ro) n E.P ops Q' i next a w
def PSteps (E:Env) (Q:Exit→St→Prop):List Ins→St→Prop
 | [],s=>Q .normal s
 | i::r,s=>Step1 E i (PSteps E Q r) s∨StepP E i (PSteps E Q r) Q s
theorem PSteps.of {E:Env} {Q:Exit→St→Prop}:∀{il:List Ins} {s:St},Steps E il (Q .normal) s→PSteps E Q il s
 | [],_,h=>h
 | _::_,_,h=>.inl (Step1.mono h fun _ h1=>PSteps.of h1)
theorem H9 {E:Env} {Q:Exit→St→Prop}:∀(m:Nat) {il:List Ins} {s:St},Steps E (il.take m) (PSteps E Q (il.drop m)) s→PSteps E Q il s
 | 0,_,_,h=>by simpa [Steps] using h
 | m+1,[],_,h=>by simpa [Steps] using h
 | m+1,i::r,s,h=>.inl (Step1.mono h fun _ h1=>H9 m h1)
theorem Zz {E:Env} {Q:Exit→St→Prop} {i:Ins} {r:List Ins} {s:St} (h:StepP E i (PSteps E Q r) Q s):PSteps E Q (i::r) s:=.inr h
section
variable {E:Env} {a:Act} {w:World} {h:Gh} {ro:Option Nat} {n:Nat} {ops:Array Oper}
theorem Aet {Qs:Exit→St→Prop} {il:List Ins} (hc:Mh E.P E.nt ops=some il) {Q:Exit→Act→World→Prop} (y:Pin)
  (hn:∀e s' a' w' h',Qs e s'→E.rel s' a' w' h'→h'.y=y→Q e a' w') :
  ∀(m k:Nat) (s:St) (a:Act) (w:World) (h:Gh),k+m=ops.size→PSteps E Qs (il.drop k) s→E.rel s a w h→h.y=y→wpOpsIn (Dm ro) n E.P ops Q (List.range' k m) a w:=by
 obtain ⟨hl,hg⟩:=E8 hc;intro m
 induction m with
 | zero =>
   intro k s a w h hk hs R hy;rw [List.drop_eq_nil_of_le (by omega)] at hs;simp only [List.range'_zero,wpOpsIn];exact hn _ s a w h hs R hy
 | succ m ih =>
   intro k s a w h hk hs R hy;have hlt:k<ops.size:=by omega
   obtain ⟨ins,h1,h2⟩:=hg k ops[k] (Array.getElem?_eq_getElem hlt);rw [List.range'_succ,wpOpsIn_cons];rw [List.drop_eq_getElem_cons (by omega)] at hs;have e1:il[k]'(by omega)=ins:=by rw [List.getElem?_eq_getElem (by omega)] at h1;exact Option.some.inj h1
   rw [e1] at hs;rcases hs with hs | hs
   ·exact O6 hs h2 rfl (Array.getElem?_eq_getElem hlt) R fun s' a' w' h' k' R' hy'=>ih (k+1) s' a' w' h' (by omega) k' R' (hy'.trans hy)
   ·exact hs _ _ _ _ _ _ _ _ _ h2 rfl (Array.getElem?_eq_getElem hlt) R _ _ (fun s' a' w' h' k' R' hy'=>ih (k+1) s' a' w' h' (by omega) k' R' (hy'.trans hy)) fun ch s' a' w' h' q R' hy'=>hn _ s' a' w' h' q R' (hy'.trans hy)
theorem X0 {Q:Exit→St→Prop} {il:List Ins} {s:St} (hs:PSteps E Q il s):Tr E ro (.reg il) Q s:=by
 intro c hc n a w g R Q' hq;obtain ⟨id,ops,rfl,h1⟩:=Cb hc;refine wpIn_region ?_;have:=Aet (ro:=ro) (n:=n) h1 g.y (fun e s' a' w' h' k R' hy=>hq e s' a' w' h' k R' hy) ops.size 0 s a w g (by omega) (by simpa using hs) R rfl
 rwa [List.range_eq_range']
end
end
section
open Go.RowKit
theorem leaveP {E:Env} {s:St} {fn:Func} {h:Gh} {n:Nat} {R:Ending→World→Prop} {tm:Array Value} {ch:List PanicEntry}:∀(ds:List Deferred) (a:Act) (w:World),a.defers=ds→E.rel s a w h →
  (∀a' w',E.rel s a' w' h→R (.panicked ch) w')→LeavesInM Fence.wide n E.P fn tm R ds (.panicking ch) w
 | [],a,w,hd,hr,k=>k a w hr
 | d::ds,a,w,hd,hr,k=>by
   have hm:=hr.1.marks;rw [hd] at hm;obtain ⟨⟨r,e,hM,hh,hn⟩,hs⟩:=hm;refine ⟨by simp,.inl ⟨r,_,by rw [e],run_takeDeferred hh,?_⟩⟩;have hm':Marks h.M (w.putObj r (.deferred none)) ds:=hs.putObj hn;have R':=hr.1.poke E.ok (a':={a with defers:=ds}) hM hh (by intro _ _ _ e;cases e) (o:=.deferred none) (by intro _ _ _ e;cases e) (by intro _ _ e;cases e) (by intro _ _ e;cases e) rfl hm';exact leaveP ds {a with defers:=ds} _ rfl ⟨R',hr.2⟩ fun a' w' h2=>k a' w' h2
def qRetP (P:Program) (rs:List ResultVar) (K:V→St→Prop) (cv:Value) (KP:St→Prop):Exit→St→Prop
 | .ret,s | .normal,s=>∃r,K r s∧∃vs us ids,rs.mapM (resV P s)=some vs∧toDs s.fs.b vs=some (us,ids)∧r=D2 us
 | .panic ch,s=>ch=[{v:=cv,recovered:=false}]∧KP s
 | _,_=>False
theorem A7l {E:Env} {f:FuncId} {fn:Func} {c:Code} {ic:IC} (hf:E.P.funcs[f]?=some fn) (hb:fn.body=some c) (hc:Ee E.P E.nt c=some ic) (hnt:fn.ntmps=E.nt) {args:List V} {xs:Array Value} {w:World} {φ:Nat→Nat} {y:Option Nat}
  (hlen:args.length≤E.nt) (hl:args.length=xs.size) (hrep:∀(i:Nat) v x,args[i]?=some v→xs[i]?=some x→Rep w φ (fun _=>none) y v x∧∀σ h,GrowV σ h w v x)
  (hS:E.S [] false (fun _=>False) w φ) (htop:∀b,w.heap.size≤b→φ b=0) (hy:∀l,y=some l→Fw E.P E.S E.ys l∧E.lk l) {K:V→St→Prop} {cv:Value} {KP:St→Prop} (hT:Tr E none ic (qRetP E.P fn.results.toList K cv KP) (entry args)) :
  Calls E.P f xs w fun e w'=>∃(s':St) (h':Gh),E.S s'.log s'.stp h'.M w' h'.φ∧(∀b,w'.heap.size≤b→h'.φ b=0)∧((∃(r:V) (x:Value),e=.returned x∧RepR w' h'.φ r x∧K r s')∨(e=.panicked [{v:=cv,recovered:=false}]∧KP s')):=by
 rw [←callsIn_wide (n:=0)];refine callsIn_of_wp_marks hf hb trivial ?_;have R0:E.rel (entry args) {tmps:=xs++Array.replicate (fn.ntmps-xs.size) undef,defers:=[]} w {φ:=φ,β:=fun _=>none,γ:=fun _=>none,M:=fun _=>False,y:=⟨y,fun _=>none⟩}:=by
  refine ⟨{size:=by simp;omega,env:=fun t v hv=>?_,bx:=fun i bo hb=>?_,dom:=fun _ _ h=>((by cases h)),inj:=fun _ _ _ h=>((by cases h)),rows:=fun r n sz e hr=>?_,rdom:=fun _ _ h=>((by cases h)),rinj:=fun _ _ _ h=>((by cases h)),apart:=fun _ _ _ h=>((by cases h)),pins:=fun _ _ h=>((by cases h)),mine:=fun _ h=>((by cases h)),top:=htop,marks:=trivial,sur:=hS},hy,fun _ h=>((by cases h))⟩
  ·rw [fs_g] at hv;obtain ⟨_,h1⟩:=Ia 0 args t v hv;simp only [Nat.sub_zero] at h1;have ht:t<args.length:=(List.getElem?_eq_some_iff.1 h1).1;have ht':t<xs.size:=by omega
   have e:(xs++Array.replicate (fn.ntmps-xs.size) undef).getD t undef=xs[t]:=by
    simp [Array.getElem?_append_left ht',ht']
   rw [e];obtain ⟨h2,h3⟩:=hrep t v _ h1 (Array.getElem?_eq_getElem ht');exact ⟨by omega,h2,h3 _ _⟩
  ·rw [fs_b] at hb;simp [entry,get] at hb
  ·rw [fs_r] at hr;simp [entry,get] at hr
 refine hT c hc 0 _ w _ R0 _ fun e s' a' w' h' k R' ey=>?_;have fin:(∃r,K r s'∧∃vs us ids,fn.results.toList.mapM (resV E.P s')=some vs∧toDs s'.fs.b vs=some (us,ids)∧r=D2 us)→LeavesInM Fence.wide 0 E.P fn a'.tmps (fun e w'=>∃(s':St) (h':Gh),E.S s'.log s'.stp h'.M w' h'.φ∧(∀b,w'.heap.size≤b→h'.φ b=0)∧((∃(r:V) (x:Value),e=.returned x∧RepR w' h'.φ r x∧K r s')∨(e=.panicked [{v:=cv,recovered:=false}]∧KP s'))) a'.defers .returning w':=by
  rintro ⟨_,hk,vs,us,ids,e1,e2,rfl⟩;refine Ac1 a'.defers a' w' rfl R' fun a2 w2 ht R2=>?_;have hx:∃xs:List Value,vs.length=xs.length∧fn.results.toList.length=xs.length∧(∀(i:Nat) r x,fn.results.toList[i]?=some r→xs[i]?=some x→(match r with | .tmp t=>(pure (a2.tmps.getD t undef):Sem Value) | .cell b t=>do loadVar t (←asAddr (a2.tmps.getD b undef))).run E.P w2=.ok x w2) ∧ (∀(i:Nat) v x,vs[i]?=some v→xs[i]?=some x→Rep w2 h'.φ h'.β h'.y.l v x):=by
   clear e2;generalize fn.results.toList=rl at e1
   induction rl generalizing vs with
   | nil=>simp at e1;subst e1;exact ⟨[],rfl,rfl,fun i r x h=>by simp at h,fun i r x h=>by simp at h⟩
   | cons rv rl ih =>
     simp only [List.mapM_cons,Option.bind_eq_bind,Option.bind_eq_some_iff,Option.pure_def,Option.some.injEq] at e1;obtain ⟨v,hv,vs',hvs,rfl⟩:=e1;obtain ⟨x,hx1,hx2⟩:=A6a R2 hv;obtain ⟨xs,l1,l2,l3,l4⟩:=ih vs' hvs;refine ⟨x::xs,by simp [l1],by simp [l2],fun i r z h1 h2=>?_,fun i v z h1 h2=>?_⟩
     ·cases i with
      | zero=>simp at h1 h2;subst h1 h2;exact hx1
      | succ i=>simp at h1 h2;exact l3 i r z h1 h2
     ·cases i with
      | zero=>simp at h1 h2;subst h1 h2;exact hx2
      | succ i=>simp at h1 h2;exact l4 i v z h1 h2
  obtain ⟨xs,l1,l2,l3,l4⟩:=hx;obtain ⟨h3,R3,ext,q1,q2,q3,hrepL⟩:=De R2.1 e2;have hL:=hrepL xs.toArray (by simpa using l1) (fun i v x h1 h2=>l4 i v x h1 (by simpa using h2));have hrun:=Ie (P:=E.P) (w:=w2) (fn:=fn) (tmps:=a2.tmps) l2 l3;rw [ht] at hrun;refine ⟨_,hrun,s',h3,R3.sur,R3.top,.inl ⟨_,_,rfl,?_,hk⟩⟩;obtain ⟨m1,m2⟩:=hL;cases us with
  | nil =>
    cases xs with
    | nil=>exact .tuple [] #[] rfl (fun i v x h=>by simp at h)
    | cons x xs=>simp at m1
  | cons u us =>
    cases xs with
    | nil=>simp at m1
    | cons x xs =>
      cases us with
      | nil =>
        cases xs with
        | nil=>exact .data (m2 0 u x rfl rfl)
        | cons y xs=>simp at m1
      | cons u2 us =>
        cases xs with
        | nil=>simp at m1
        | cons y xs=>exact .tuple _ _ (by simpa using m1) (fun i v z h1 h2=>m2 i v z h1 h2)
 cases e with
 | normal=>exact fin k
 | ret=>exact fin k
 | panic ch =>
   obtain ⟨rfl,hkp⟩:=k;exact leaveP a'.defers a' w' rfl R' fun a2 w2 R2=>⟨s',h',R2.1.sur,R2.1.top,.inr ⟨rfl,hkp⟩⟩
 | _=>exact k.elim
def CP (P:Program) (f:FuncId) (A:Arena) (K:List (Nat×List V)) (args:List V) (Φ:V→Arena→Prop) (cv:Value) (Ψ:Arena→Prop):Prop :=
 C9 P f=true∧∀(w:World) (φ:Nat→Nat) (xs:Array Value),(∀b,w.heap.size≤b→φ b=0)→Gl w φ→Ar w φ (fun _=>False) A→Kons w φ K→(∀p∈K,p.1∉A.map (·.1))→RepL w φ args xs →
  Calls P f xs w fun e w'=>∃φ' B,Ar w' φ' (fun _=>False) B∧Moved (fun b=>b∈A.map (·.1)) w φ (fun b=>b∈B.map (·.1)) w' φ'∧((∃r x,e=.returned x∧RepR w' φ' r x∧Φ r B)∨(e=.panicked [{v:=cv,recovered:=false}]∧Ψ B))
theorem Aid {P:Program} {f nt:Nat} {ic:IC} {rs:List ResultVar} (hmix:P.follows .mixedOrders=true) (hch:chkF P f=some (nt,ic,rs)) {A:Arena} {K:List (Nat×List V)} {args:List V} {Φ:V→Arena→Prop} {cv:Value} {Ψ:Arena→Prop} (hlen:args.length≤nt)
  (hT:∀(S:Sur) (ok:S.ok) (S1:Sur),InA (env0 P hmix nt S ok) S1 [] false→InK (env0 P hmix nt S ok) K→InKD (env0 P hmix nt S ok) K→Tr (env0 P hmix nt S ok) none ic (qRetP P rs (fun r s=>∃B,s.log=encA B∧Φ r B) cv fun s=>∃B,s.log=encA B∧Ψ B) {entry args with log:=encA A}):CP P f A K args Φ cv Ψ:=by
 obtain ⟨fn,c,hf,hb,hnt,hc,rfl,hcall⟩:=L6 hch;refine ⟨hcall,fun w φ xs htop hgl hA hK hKA hrep=>?_⟩;have okI:=Adh w φ A hgl;have hInK:InK (env0 P hmix nt (SA (SQ w φ A) [] false) (Ke okI [] false)) K:=by
  rintro log stp M w' φ' ⟨B',_,_,_,hm⟩ p hp;obtain ⟨h1,h2⟩:=hK p hp;have:=hm.old p.1 h2 (hKA p hp);exact ⟨h1.mono this.1 hm.ext,Nat.lt_of_lt_of_le h2 hm.size⟩
 have hKD:InKD (env0 P hmix nt (SA (SQ w φ A) [] false) (Ke okI [] false)) K:=by
  rintro B stp M w' φ' ⟨B',e,_,_,hm⟩ p hp hb;obtain rfl:=D3 e;rcases hm.mine p.1 (.inr hb) with h | h
  ·exact hKA p hp h
  ·have:=(hK p hp).2;omega
 have hT1:=hT (SA (SQ w φ A) [] false) (Ke okI [] false) (SQ w φ A) (⟨Sub.refl _,okI⟩) hInK hKD;have e0:(fun b=>False∨b∈A.map (·.1))=fun b=>b∈A.map (·.1):=by funext b;simp
 have hT2:Tr (env0 P hmix nt (SQ1 w φ A) (Ts w φ A hgl)) none ic (qRetP P fn.results.toList (fun r s=>∃B,s.log=encA B∧Φ r B) cv fun s=>∃B,s.log=encA B∧Ψ B) (entry args):=by
  intro c hc n a w1 g R Q' hq;obtain ⟨B0,h1,h2,h3,h4⟩:=R.1.sur;have hB0:B0=A:=by
   rcases h1 with ⟨_,h⟩ | h
   ·exact h
   ·exact absurd h.symm (Mg _)
  subst hB0;have R1:(env0 P hmix nt (SA (SQ w φ B0) [] false) (Ke okI [] false)).rel {entry args with log:=encA B0} a w1 g:=by
   refine ⟨{R.1 with sur:=⟨B0,rfl,rfl,h3,h4⟩},fun l hl=>⟨?_,trivial⟩,R.2.2⟩;intro log x M w φ xs hp;exact False.elim hp
  refine hT1 c hc n a w1 g R1 Q' fun e t a' w' h' hQ R' hy=>?_;refine hq e t a' w' h' hQ ?_ hy;obtain ⟨B',k1,k2,k3,k4⟩:=R'.1.sur;refine ⟨{R'.1 with sur:=⟨B',.inr k1,k2,k3,k4⟩},fun l hl=>⟨?_,trivial⟩,R'.2.2⟩;intro log x M w φ xs hp;exact False.elim hp
 refine (A7l (E:=env0 P hmix nt (SQ1 w φ A) (Ts w φ A hgl)) (φ:=φ) (y:=none) hf hb hc hnt hlen hrep.1 (fun i v x h1 h2=>⟨.data (hrep.2 i v x h1 h2),fun σ h=>Ap (hrep.2 i v x h1 h2)⟩)
  ⟨A,.inl ⟨rfl,rfl⟩,rfl,hA,by rw [e0];exact Moved.refl _ htop⟩ htop (fun _ h=>((by cases h))) hT2).mono ?_
 rintro e w' ⟨s',h',⟨B',k1,k2,k3,k4⟩,ht,hk⟩;have fin:∀B,s'.log=encA B→Ar w' h'.φ (fun _=>False) B∧Moved (fun b=>b∈A.map (·.1)) w φ (fun b=>b∈B.map (·.1)) w' h'.φ:=fun B hk=>by
  have hB:B'=B:=by
   rw [hk] at k1;rcases k1 with ⟨h,_⟩ | h
   ·exact absurd h (Mg _)
   ·exact (D3 h).symm
  subst hB;exact ⟨⟨k3.nd,k3.ok,fun _ _ h=>h,k3.lt,k3.z⟩,⟨k4.ext,k4.old,k4.size,k4.os,k4.tape,k4.output,fun b hb=>k4.mine b (.inr hb),k4.top⟩⟩
 rcases hk with ⟨r,x,rfl,hr,B,hk,hΦ⟩ | ⟨rfl,B,hk,hΨ⟩
 ·obtain ⟨f1,f2⟩:=fin B hk;exact ⟨h'.φ,B,f1,f2,.inl ⟨r,x,rfl,hr,hΦ⟩⟩
 ·obtain ⟨f1,f2⟩:=fin B hk;exact ⟨h'.φ,B,f1,f2,.inr ⟨rfl,hΨ⟩⟩
section
variable {E:Env} {S0:Sur} {l0:List (List V)} {s0:Bool} {A:Arena} {stp:Bool} {σ:FSt} {a:Act} {w:World} {h:Gh}
theorem A8s (hE:InA E S0 l0 s0) {F A1:Arena} {K:List (Nat×List V)} {ro:Option Nat} {n i:Nat} {ops:Array Oper} {slots:List (Option Nat)} {o:Oper} {ins:Ins} (R:E.relF (encA (F++A1)) stp σ a w h) {f:FuncId} {vs us:List V} {ids:List Nat} {Φ:V→Arena→Prop} {cv:Value} {Ψ:Arena→Prop} {os:List Operand} (cc:Comp E.P E.nt slots o ins os) (hd:toDs σ.b vs=some (us,ids)) (hC:CP E.P f A1 K us Φ cv Ψ)
  (hK:∀h',E.relF (encA (F++A1)) stp ((freeze σ.b ids).foldl (fun τ p=>τ.set (.bx p.1) (.b p.2)) σ) a w h'→Kons w h'.φ K) (hKA:∀p∈K,p.1∉A1.map (·.1)) (xs:Array Value) (hl:vs.length=xs.size)
  (hr:∀(i:Nat) v x,vs[i]?=some v→xs[i]?=some x→Rep w h.φ h.β h.y.l v x) (hi:ops[i]?=some o) (hw:Region.wanted o (yielded ops a.tmps)=true) (hrun:(execOp a.eval o).run E.P w=.ok (.enter f xs) w)
  {Q:Exit→Act→World→Prop} {next:Act→World→Prop} (hn:∀r B,Φ r B→∀a' w' h',E.relF (encA (F++B)) stp ((σ.eff {v:=r,wb:=freeze σ.b ids}).put ins.d r) a' w' h'→h'.y=h.y→next a' w')
  (hp:∀B,Ψ B→∀a' w' h',E.relF (encA (F++B)) stp (σ.eff {v:=Cz,wb:=freeze σ.b ids}) a' w' h'→h'.y=h.y→Q (.panic [{v:=cv,recovered:=false}]) a' w'):wpOpIn (Dm ro) n E.P ops Q i next a w:=by
 unfold wpOpIn;simp only [hi,hw,if_true,Oper.wpIn];refine ⟨fun _ _=>trivial,?_⟩;rw [Oper.semAt_eq _ _ _ (At cc.op),hrun];simp only [Oper.uponIn];refine ⟨fun e=>by simp [Dm,Fence.wide] at e,?_⟩;obtain ⟨h1,R1,ext1,q1,q2,q3,hrep⟩:=De R.1 hd;have R1':E.relF (encA (F++A1)) stp ((freeze σ.b ids).foldl (fun τ p=>τ.set (.bx p.1) (.b p.2)) σ) a w h1:=⟨R1,by rw [q3];exact R.2⟩;have hAr:=hE.ar R1';have hnd:=hAr.nd;rw [List.map_append,List.nodup_append] at hnd;have arA:Ar w h1.φ (fun _=>False) A1:=⟨hnd.2.1,fun p hp=>hAr.ok p (List.mem_append.2 (.inr hp)),fun _ _ h=>h,fun p hp=>hAr.lt p (List.mem_append.2 (.inr hp)),fun p hp=>hAr.z p (List.mem_append.2 (.inr hp))⟩;refine (Cd (hC.2 w h1.φ xs R1.top (E.ok.gl _ _ _ _ _ R1.sur) arA (hK h1 R1') hKA (hrep xs hl hr))).mono ?_;rintro e w' ⟨φ',B,hB,hm,⟨r,x,rfl,hres,hΦ⟩ | ⟨rfl,hΨ⟩⟩;rotate_left
 ·have R2:=hE.moved R1' hm hB;exact hp B hΨ _ _ {h1 with φ:=φ'} ⟨R2.1,R2.2⟩ (by simpa using q3)
 have R2:=hE.moved R1' hm hB;have hx:Rep w' φ' h1.β h1.y.l r x∧∀σ h w0,GrowV σ h w0 r x:=by
  cases hres with
  | data hh=>exact ⟨.data hh,fun σ h w0=>Ap hh⟩
  | tuple vs xs hl hh =>
    refine ⟨.tuple vs xs hl hh,fun σ h w0 j u z hu hz=>?_⟩;cases j with
    | zero=>simp [cells] at hu;subst hu;intro r' sz xs' e;cases e
    | succ j=>simp [cells] at hu
 have fin:Ok (σ.eff {v:=r,wb:=freeze σ.b ids}) {h1 with φ:=φ'} w' r x:=⟨hx.1,hx.2 _ _ _⟩;refine hn r B hΦ _ _ {h1 with φ:=φ'} ⟨?_,?_⟩ (by simpa using q3)
 ·rw [cc.d];cases hd:o.dst with
  | none=>exact R2.1
  | some d=>exact R2.1.put (cc.dst d hd) fin.1 fin.2
 ·exact R2.2
theorem Tt (hE:InA E S0 l0 s0) {Q:Exit→St→Prop} {Ks:List (Nat×List V)} {s:St} {d:Option Nat} {f:FuncId} {xs:List X} {rest:List Ins} {vs us:List V} {ids:List Nat} {Φ:V→Arena→Prop} {cv:Value} {Ψ:Arena→Prop} {F A1:Arena} (hx:evXs s.env xs=some vs) (hd:toDs s.fs.b vs=some (us,ids)) (hl:s.log=encA (F++A1))
  (hC:CP E.P f A1 Ks us Φ cv Ψ) (hKs:(∀p∈Ks,(p.1,Ob.cells p.2)∈F)∨InK E Ks∧∀p∈Ks,p.1∉A1.map (·.1))
  (hk:∀r B,Φ r B→PSteps E Q rest {(s.eff {v:=r,wb:=freeze s.fs.b ids}).put d r with log:=encA (F++B)})
  (hp:∀B,Ψ B→Q (.panic [{v:=cv,recovered:=false}]) {s.eff {v:=Cz,wb:=freeze s.fs.b ids} with log:=encA (F++B)}):PSteps E Q (⟨d,.call f,xs,none⟩::rest) s:=by
 refine Zz fun slots ops o i ro n a w h hc hs hi R Q' next hn hpn=>?_
 obtain ⟨os,cc⟩:=Ba hc;have hgo:=Au cc rfl;obtain ⟨c,e1,e2,rfl⟩:=I1 cc.op;have R':E.relF (encA (F++A1)) s.stp s.fs a w h:=by rw [←hl];exact R
 have hAr:=hE.ar R';have hnd:=hAr.nd;rw [List.map_append,List.nodup_append] at hnd;obtain ⟨l1,l2⟩:=Do (B9 R.1 cc.xs (Ay hx));refine A8s hE R' cc hd hC (fun h' R1=>?_) (fun p hp=>?_) _ l1 l2 hi (Ai hgo) (I0 hC.1 e2 e1) (fun r B hΦ a' w' h' R2 hy=>hn _ a' w' h' (hk r B hΦ) ?_ hy) fun B hΨ a' w' h' R2 hy=>hpn _ _ a' w' h' (hp B hΨ) ?_ hy
 ·rcases hKs with hKs | hKs
  ·intro p hp;have:=(hE.ar R1);exact ⟨this.ok _ (List.mem_append.2 (.inl (hKs p hp))),this.lt _ (List.mem_append.2 (.inl (hKs p hp)))⟩
  ·exact hKs.1 _ _ _ _ _ R1.1.sur
 ·rcases hKs with hKs | hKs
  ·exact fun h=>hnd.2.2 _ (List.mem_map.2 ⟨_,hKs p hp,rfl⟩) _ h rfl
  ·exact hKs.2 p hp
 ·show E.relF _ _ _ _ _ _;have e:({(s.eff {v:=r,wb:=freeze s.fs.b ids}).put d r with log:=encA (F++B)}:St).fs=((s.fs.eff {v:=r,wb:=freeze s.fs.b ids}).put d r):=by
   cases d with
   | none=>exact Gc s _
   | some d=>show ((s.eff _).put (some d) r).fs=_;rw [Dj,Gc];rfl
  have e2:({(s.eff {v:=r,wb:=freeze s.fs.b ids}).put d r with log:=encA (F++B)}:St).stp=s.stp:=by
   show ((s.eff _).put d r).stp=_;rw [(Bq _ _ _).2,(G3 _ _).2]
  rw [e,e2];exact R2
 ·show E.relF _ _ _ _ _ _;have e:({s.eff {v:=Cz,wb:=freeze s.fs.b ids} with log:=encA (F++B)}:St).fs=s.fs.eff {v:=Cz,wb:=freeze s.fs.b ids}:=Gc s _;have e2:({s.eff {v:=Cz,wb:=freeze s.fs.b ids} with log:=encA (F++B)}:St).stp=s.stp:=(G3 _ _).2;rw [e,e2];exact R2
end
end
section
open Go.RowKit
section
variable {P:Program}
theorem Af6 {o:Op} {t u:Nat} {os:List Operand} (h:opK P o=some (.raw 18 t u,os)):∃x,o=.panic x∧os=[x]:=by
 have h:=M8 h (by simp [Dv]);unfold opKr at h;split at h<;>(try (repeat' (split at h)))<;>first
  | (simp at h;done)
  | (simp only [Option.some.injEq,Prod.mk.injEq,K.raw.injEq,true_and] at h;obtain ⟨⟨rfl,rfl⟩,rfl⟩:=h;exact ⟨_,rfl,rfl⟩)
end
section
variable {E:Env}
theorem PSteps.panic {Q:Exit→St→Prop} {s:St} {t u:Nat} {d:Option Nat} {x:X} {v:V} {ty:Nat} {y:Value} {rest:List Ins} (hx:evXs s.env [x]=some [.iface ty v]) (hv:∀w φ z,RepD w φ v z→z=y) (hp:Q (.panic [{v:=.iface ty y,recovered:=false}]) s):PSteps E Q (⟨d,.raw 18 t u,[x],none⟩::rest) s:=by
 refine Zz fun slots ops o i ro n a w h hc hs hi R Q' next hn hpn=>?_
 obtain ⟨os,cc⟩:=Ba hc;obtain ⟨p,e1,rfl⟩:=Af6 cc.op;obtain ⟨v1,hu,o1⟩:=(B9 R.1 cc.xs (Ay hx)).one;simp only [List.cons.injEq,and_true] at hu;subst hu;obtain ⟨z,ez,rz⟩:=A13 o1;have hz:=hv _ _ _ rz;subst hz;unfold wpOpIn;simp only [hi,Ai (Au cc rfl),if_true,Oper.wpIn];refine ⟨fun _ _=>trivial,?_⟩;rw [Oper.semAt_eq _ _ _ (At cc.op)];have hrun:(execOp a.eval o).run E.P w=.halt (.panic (.iface ty z)) w:=by
  simp only [execOp,e1,Sem.run_bind,ez];rfl
 rw [hrun];exact hpn _ _ a w h hp R rfl
end
end
section
open Go.RowKit
theorem Abs {P:Program} {o:Oper} {os:List Operand} {off:Nat} (hk:opK P o.op=some (.faddr off,os)):∃t p f fs fd n,o.op=.fieldAddr t p f∧P.underlying t=some (.struct fs)∧fs[f]?=some fd∧szOf P fd.type=some n∧n≠0∧fd.offset=off∧os=[p]:=by
 replace hk:=Dw hk (by simp [Dv]);cases ho:o.op<;>rw [ho] at hk<;>simp only [opK0] at hk<;>(try (cases hk;done))<;>(try (repeat' (split at hk<;>(try (cases hk;done)))))
 all_goals first
  | (simp only [Option.map_eq_some_iff,Prod.mk.injEq] at hk;obtain ⟨_,_,h1,_⟩:=hk;cases h1;done)
  | (simp only [E7] at hk;repeat' (split at hk<;>(try (cases hk;done))))
  | (cases hk;exact ⟨_,_,_,_,_,_,rfl,by assumption,by assumption,by assumption,by assumption,rfl,rfl⟩)
theorem opK_box0 {P:Program} {o:Oper} {os:List Operand} (hk:opK P o.op=some (.box,os)):∃e p,o.op=.box e p∧os=[p]:=by
 replace hk:=Dw hk (by simp [Dv]);cases ho:o.op<;>rw [ho] at hk<;>simp only [opK0] at hk<;>(try (cases hk;done))<;>(try (repeat' (split at hk<;>(try (cases hk;done)))))
 all_goals first
  | (simp only [Option.map_eq_some_iff,Prod.mk.injEq] at hk;obtain ⟨_,_,h1,_⟩:=hk;cases h1;done)
  | (simp only [E7] at hk;repeat' (split at hk<;>(try (cases hk;done))))
  | (cases hk;exact ⟨_,_,rfl,rfl⟩)
theorem Afb {P:Program} {o:Oper} {os:List Operand} {n:Nat} (hk:opK P o.op=some (.load n true,os)):∃t p d,o.op=.load t p∧szOf P t=some n∧P.underlying t=some d∧aggB P t=true∧os=[p]:=by
 replace hk:=Dw hk (by simp [Dv]);cases ho:o.op<;>rw [ho] at hk<;>simp only [opK0] at hk<;>(try (cases hk;done))<;>(try (repeat' (split at hk<;>(try (cases hk;done)))))
 all_goals first
  | (simp only [Option.map_eq_some_iff,Prod.mk.injEq] at hk;obtain ⟨_,_,h1,_⟩:=hk;cases h1;done)
  | (simp only [E7] at hk;repeat' (split at hk<;>(try (cases hk;done))))
  | (cases hk;exact ⟨_,_,_,rfl,by assumption,by assumption,by assumption,rfl⟩)
section
variable {E:Env} {S0:Sur} {l0:List (List V)} {s0:Bool} {A:Arena}
theorem Hg {K:St→Prop} {s:St} {d f:Nat} {x:X} {rest:List Ins} {blk off:Nat} (hx:evXs s.env [x]=some [.rptr blk off]) (hk:Steps E rest K (s.put (some d) (.rptr blk (off+f)))):Steps E (⟨some d,.faddr f,[x],none⟩::rest) K s:=by
 refine Step1.raw fun slots ops o i ro n a w h hc hs hi R Q next hn=>?_
 obtain ⟨os,cc⟩:=Ba hc;obtain ⟨t,p,g,fs,fd,m,ho,h1,h2,h3,h4,rfl,rfl⟩:=Abs cc.op;obtain ⟨u,hu,o1⟩:=(B9 R.1 cc.xs (Ay hx)).one;simp only [List.cons.injEq,and_true] at hu;subst hu;have ep:=F5 o1;have hex:(execOp a.eval o).run E.P w=.ok (.value (.pointer (some ⟨blk,off+fd.offset,none⟩))) w:=by
  simp only [execOp,ho,ep,Sem.run_bind,Ki h1 h2 h3 h4];rfl
 refine B5 hi (Ai (Au cc rfl)) (At cc.op) (.inl hex) (hn _ _ _ h hk ?_ rfl);show E.relF _ _ _ _ _ _;rw [(Bq _ _ _).1,(Bq _ _ _).2,Dj];exact Bk (eff:={v:=_}) cc R R.1 (.data (.rptr _ _)) rfl
theorem Tq (hE:InA E S0 l0 s0) {K:St→Prop} {s:St} {d n:Nat} {x:X} {rest:List Ins} {blk off:Nat} {cs:List V} (hx:evXs s.env [x]=some [.rptr blk off]) (hl:s.log=encA A) (hA:(blk,.cells cs)∈A) (hv:off+n≤cs.length)
  (hk:Steps E rest K (s.put (some d) (.agg ((cs.drop off).take n)))):Steps E (⟨some d,.load n true,[x],none⟩::rest) K s:=by
 refine Step1.raw fun slots ops o i ro n' a w h hc hs hi R Q next hn=>?_
 obtain ⟨os,cc⟩:=Ba hc;obtain ⟨t,p,dd,e1,e2,e3,e4,rfl⟩:=Afb cc.op;obtain ⟨u,hu,o1⟩:=(B9 R.1 cc.xs (Ay hx)).one;simp only [List.cons.injEq,and_true] at hu;subst hu;have ep:=F5 o1;have R':E.relF (encA A) s.stp s.fs a w h:=by rw [←hl];exact R
 obtain ⟨vs,et,h1,h2,h3⟩:=(hE.ar R').ok _ hA;obtain ⟨y,hy1,hy2⟩:=Vy (σ:=s.fs) (h:=h) (w:=w) (agg:=true) (n:=n) (l:=cs.drop off) (f:=fun j=>vs.getD (off+j) undef) (by simp;omega) (by simp) (fun j v hv=>by
  rw [List.getElem?_drop] at hv;have hlt:off+j<vs.size:=by
   have:=(List.getElem?_eq_some_iff.1 hv).1;omega
  have:=h3 (off+j) v vs[off+j] hv (by simp [hlt]);have e:vs.getD (off+j) undef=vs[off+j]:=by simp [hlt]
  rw [e];exact ⟨.data this.1,D5 this.1,this.2⟩)
 have hex:(execOp a.eval o).run E.P w=.ok (.value y) w:=by
  simp only [execOp,e1,ep,Sem.run_bind];rw [Gb (cs:=(List.range n).map fun j=>vs.getD (off+j) undef) e2 e3 (by simp) (fun j v hv=>by
   obtain ⟨hj,rfl⟩:=Eh hv;rw [cell_of_row w blk (off+j) vs et (0,0) h1];have:off+j<vs.size:=by omega
   simp [this]) (by rw [e4];exact hy1)]
  rfl
 refine B5 hi (Ai (Au cc rfl)) (At cc.op) (.inl hex) (hn _ _ _ h hk ?_ rfl);show E.relF _ _ _ _ _ _;rw [(Bq _ _ _).1,(Bq _ _ _).2,Dj];exact Bk (eff:={v:=_}) cc R R.1 hy2 rfl
theorem Sv (hE:InA E S0 l0 s0) {K:St→Prop} {s:St} {d:Nat} {x:X} {rest:List Ins} {v:V} (hx:evXs s.env [x]=some [v]) (hl:s.log=encA A) (hs:(cells v).all Af=true) (hd:(cells v).all isD=true)
  (hk:∀b,b∉A.map (·.1)→Steps E rest K {s.put (some d) (.rptr b 0) with log:=encA ((b,.cells (cells v))::A)}):Steps E (⟨some d,.box,[x],none⟩::rest) K s:=by
 refine Step1.raw fun slots ops o i ro n a w h hc hsl hi R Q next hn=>?_
 obtain ⟨os,cc⟩:=Ba hc;obtain ⟨e,p,ho,rfl⟩:=opK_box0 cc.op;obtain ⟨u,hu,o1⟩:=(B9 R.1 cc.xs (Ay hx)).one;simp only [List.cons.injEq,and_true] at hu;subst hu;have R':E.relF (encA A) s.stp s.fs a w h:=by rw [←hl];exact R
 obtain ⟨q1,q2⟩:=o1.cells hs;obtain ⟨R2,hnm⟩:=hE.fresh R' (.cells (a.eval p).cells e) (.cells (cells v)) (fun ext=>⟨(a.eval p).cells,e,heap_alloc_new w _,by omega,fun j u z hu hz=>by
  obtain ⟨r1,_,r3⟩:=q2 j u z hu hz;have hD:isD u=true:=by
   rw [List.all_eq_true] at hd;exact hd u (List.mem_of_getElem? hu)
  exact ⟨(Lz hD r1).mono ext,r3⟩⟩)
 refine B5 hi (Ai (Au cc rfl)) (At cc.op) (.inl ?_) (hn _ _ _ h (hk _ hnm) (Fc cc R2 (.data (.rptr _ _)) rfl) rfl);simp [execOp,ho,Instr.box,newVar,newRow]
theorem Steps.mov {K:St→Prop} {s:St} {d:Nat} {x:X} {rest:List Ins} {v:V} (hx:evXs s.env [x]=some [v]) (hk:Steps E rest K (s.put (some d) v)):Steps E (⟨some d,.mov,[x],none⟩::rest) K s :=
 Step1.does (ins:=⟨some d,.mov,[x],none⟩) (eff:={v:=v}) (.op rfl (Ay hx) rfl trivial (fun e=>by cases e)) hk
end
end
section
open Go.RowKit
def SemX (E:Env) (lg lg':List (List V)) (τ:FSt) (ins:Ins) (eff:Eff):Prop :=
 ∀(slots:List (Option Nat)) (ops:Array Oper) (i:Nat) (o:Oper) (ro:Option Nat) (n:Nat) (stp:Bool) (a:Act) (w:World) (h:Gh),Jd E.P E.nt slots o=some ins→slots=ops.toList.map (·.dst)→ops[i]?=some o→E.relF lg stp τ a w h →
  ∀(Q:Exit→Act→World→Prop) (next:Act→World→Prop),(∀a' w' h',E.relF lg' stp ((τ.eff eff).put ins.d eff.v) a' w' h'→h'.y=h.y→next a' w')→wpOpIn (Dm ro) n E.P ops Q i next a w
def DX (E:Env) (lg lg':List (List V)) (k1 k:Nat) (σ:FSt) (ins:Ins) (eff:Eff) (rd:List Loc):Prop :=
 (k≠k1∧Does E σ ins eff rd)∨(k=k1∧∀τ:FSt,(∀l∈rd,τ l=σ l)→SemX E lg lg' τ ins eff)
inductive GT (D:Nat→FSt→Ins→Eff→List Loc→Prop):Nat→FSt→List Ins→List (List Loc×List Loc)→FSt→Prop
 | nil {k:Nat} {σ:FSt}:GT D k σ [] [] σ
 | cons {k:Nat} {σ σ':FSt} {ins:Ins} {il:List Ins} {eff:Eff} {rd:List Loc} {fp:List (List Loc×List Loc)} (hd:D k σ ins eff rd) (t:GT D (k+1) (upF (wrF ins eff nof) σ) il fp σ'):GT D k σ (ins::il) ((wrOf ins eff,rd)::fp) σ'
theorem gt_spec' {D:Nat→FSt→Ins→Eff→List Loc→Prop} {k0:Nat} {σ σ':FSt} {il:List Ins} {fp:List (List Loc×List Loc)} (t:GT D k0 σ il fp σ'):fp.length=il.length ∧
  ∃us:List FSt,us.length=il.length∧σ'=FL us (fun _=>true) σ il.length ∧
   ∀i,i<il.length→∃ins eff rd,il[i]?=some ins∧fp[i]?=some (wrOf ins eff,rd)∧us[i]?=some (wrF ins eff nof)∧D (k0+i) (FL us (fun _=>true) σ i) ins eff rd:=by
 induction t with
 | nil=>exact ⟨rfl,[],rfl,rfl,fun i hi=>absurd hi (by simp)⟩
 | @cons k σ σ' ins il eff rd fp hd t ih =>
   obtain ⟨h1,us,h4,h5,h6⟩:=ih;refine ⟨by simp [h1],wrF ins eff nof::us,by simp [h4],?_,?_⟩
   ·rw [h5,List.length_cons,X4]
   ·intro i hi;cases i with
    | zero=>exact ⟨ins,eff,rd,rfl,rfl,rfl,hd⟩
    | succ i =>
      obtain ⟨ins',eff',rd',g1,g2,g3,g4⟩:=h6 i (by simpa using hi);refine ⟨ins',eff',rd',by simpa using g1,by simpa using g2,by simpa using g3,?_⟩;rw [X4,show k+(i+1)=k+1+i by omega];exact g4
theorem Ag2 {D:Nat→FSt→Ins→Eff→List Loc→Prop} {σ σ':FSt} {il:List Ins} {fp:List (List Loc×List Loc)} (t:GT D 0 σ il fp σ'):fp.length=il.length ∧
  ∃us:List FSt,us.length=il.length∧σ'=FL us (fun _=>true) σ il.length ∧
   ∀i,i<il.length→∃ins eff rd,il[i]?=some ins∧fp[i]?=some (wrOf ins eff,rd)∧us[i]?=some (wrF ins eff nof)∧D i (FL us (fun _=>true) σ i) ins eff rd:=by
 obtain ⟨h1,us,h2,h3,h4⟩:=gt_spec' t;refine ⟨h1,us,h2,h3,fun i hi=>?_⟩;have:=h4 i hi
 rwa [Nat.zero_add] at this
section
variable {E:Env} {ro:Option Nat} {n:Nat} {ops:Array Oper}
theorem Abl {lg lg':List (List V)} {k1:Nat} {K:St→Prop} {il1 il2:List Ins} {s s1:St} {fp:List (List Loc×List Loc)} (hc:Mh E.P E.nt ops=some (il1++il2)) (hl:Q8 ops=true) (t:GT (DX E lg lg' k1) 0 s.fs il1 fp s1.fs) (hlog1:s1.log=lg') (hstp:s1.stp=s.stp) (hk1:k1<il1.length)
  (hok:Gm (befs ops) fp=true) (ht:Eg (befs ops) il1.length ops.size=true) (hst:Steps E il2 K s1) {Q:Exit→Act→World→Prop} (y:Pin)
  (hn:∀s' a' w' h',K s'→E.rel s' a' w' h'→h'.y=y→Q .normal a' w') :
  ∃us:List FSt,∀(fuel:Nat) (listed:Array Bool) (a:Act) (w:World) (h:Gh),listed.toList.count false=fuel→listed.size=ops.size→Xf ops (fun i=>listed.getD i false)→(∀i,il1.length≤i→listed.getD i false=false) →
   E.relF (if listed.getD k1 false then lg' else lg) s.stp (FL us (fun i=>listed.getD i false) s.fs il1.length) a w h→h.y=y→wpAnyIn (Dm ro) n E.P .any ops Q fuel listed a w:=by
 obtain ⟨t1,us,t4,t5,t6⟩:=Ag2 t;obtain ⟨hlen,hg⟩:=E8 hc;have hle:il1.length≤ops.size:=by simp at hlen;omega
 have tot:∀k i,il1.length≤k→k<ops.size→i<k→((befs ops).getD k 0).testBit i=true:=by
  intro k i h1 h2 h3;unfold Eg at ht;rw [List.all_eq_true] at ht;have:=ht (k-il1.length) (by simp;omega);rw [List.all_eq_true] at this;have:=this i (by simp;omega)
  rwa [show il1.length+(k-il1.length)=k by omega] at this
 have ap:∀i j,i<j→j<il1.length→((befs ops).getD j 0).testBit i=false→E3 (fp.getD i ([],[])) (fp.getD j ([],[]))=true:=by
  intro i j h1 h2 h3;unfold Gm at hok;rw [List.all_eq_true] at hok;have:=hok j (by simp;omega);rw [List.all_eq_true] at this;have:=this i (by simp;omega);rw [h3] at this;simpa using this
 refine ⟨us,?_⟩;intro fuel
 induction fuel with
 | zero =>
   intro listed a w h hcn hs hcl hpre R hy;have all:∀i,i<ops.size→listed.getD i false=true:=by
    intro i hi;cases hL:listed.getD i false with
    | true=>rfl
    | false =>
      have:false∈listed.toList:=by
       simp only [Array.getD_eq_getD_getElem?,Array.getElem?_eq_getElem (show i<listed.size by omega),Option.getD_some] at hL;rw [←hL];simp
      exact absurd this (List.count_eq_zero.1 hcn)
   have hm:il1.length=ops.size:=by
    rcases Nat.lt_or_ge il1.length ops.size with h1 | h1
    ·have:=all il1.length h1;rw [hpre il1.length (Nat.le_refl _)] at this;cases this
    ·omega
   refine Rl hc hl ht y hn 0 ops.size listed s1 a w h (by omega) (by omega) hs hcl (fun i hi=>by rw [all i hi];simp [hi]) ?_ ?_ hy
   ·rw [List.drop_append_of_le_length (by omega),List.drop_eq_nil_of_le (by omega)];simpa using hst
   ·show E.relF _ _ _ a w h;rw [hlog1,hstp,t5];rw [if_pos (all k1 (by omega))] at R;have e:FL us (fun i=>listed.getD i false) s.fs il1.length=FL us (fun _=>true) s.fs il1.length:=by
     funext l;refine Yc (i:=il1.length) (fun k hk hL=>?_) (fun k hk hL=>?_) _ (Nat.le_refl _)
     ·rw [all k (by omega)] at hL;cases hL
     ·rw [hpre k hk] at hL;cases hL
    rw [e] at R;exact R
 | succ fuel ih =>
   intro listed a w h hcn hs hcl hpre R hy;by_cases hall:∀i,i<il1.length→listed.getD i false=true
   ·have e:FL us (fun i=>listed.getD i false) s.fs il1.length=FL us (fun _=>true) s.fs il1.length:=by
     funext l;refine Yc (i:=il1.length) (fun k hk hL=>?_) (fun k hk hL=>?_) _ (Nat.le_refl _)
     ·rw [hall k hk] at hL;cases hL
     ·rw [hpre k hk] at hL;cases hL
    rw [e] at R;have hLk:∀i,i<ops.size→listed.getD i false=decide (i<il1.length):=fun i hi=>by
     rcases Nat.lt_or_ge i il1.length with h1 | h1
     ·rw [hall i h1];simp [h1]
     ·rw [hpre i h1];simp;omega
    have hfuel:il1.length+(fuel+1)=ops.size:=by
     have e1:listed.toList=List.replicate il1.length true++List.replicate (ops.size-il1.length) false:=by
      apply List.ext_getElem?;intro k;have hk:listed.toList[k]?=if k<ops.size then some (listed.getD k false) else none:=by
       by_cases h1:k<ops.size
       ·simp [h1,show k<listed.size by omega]
       ·simp [h1,show listed.size≤k by omega]
      rw [hk,List.getElem?_append];simp only [List.length_replicate];by_cases h1:k<il1.length
      ·rw [if_pos h1,if_pos (by omega),hall k h1,List.getElem?_replicate,if_pos h1]
      ·rw [if_neg h1,List.getElem?_replicate];by_cases h2:k<ops.size
       ·rw [if_pos h2,if_pos (by omega),hpre k (by omega)]
       ·rw [if_neg h2,if_neg (by omega)]
     rw [e1] at hcn;simp [List.count_append,List.count_replicate] at hcn;omega
    refine Rl hc hl ht y hn (fuel+1) il1.length listed s1 a w h hfuel (Nat.le_refl _) hs hcl hLk ?_ ?_ hy
    ·simpa using hst
    ·show E.relF _ _ _ a w h;rw [if_pos (hall k1 hk1)] at R;rw [hlog1,hstp,t5];exact R
   ·obtain ⟨k0,hk0,hk0'⟩:∃k,k<il1.length∧listed.getD k false=false:=by
     apply Classical.byContradiction;intro hno;exact hall fun i hi=>by
      cases hL:listed.getD i false with
      | true=>rfl
      | false=>exact absurd ⟨i,hi,hL⟩ hno
    refine ⟨fun hr=>?_,fun i hi=>?_⟩
    ·have:=K4 hl hs hr k0 (by omega);rw [hk0'] at this;cases this
    ·obtain ⟨h1,h2,o,ho,h3⟩:=(Is hs).1 hi;have him:i<il1.length:=by
      rcases Nat.lt_or_ge i il1.length with h4 | h4
      ·exact h4
      ·have:=Hm hcl ho h3 (tot i k0 h4 h1 (by omega));rw [hk0'] at this;cases this
     obtain ⟨ins,eff,rd,g1,g2,g3,g4⟩:=t6 i him;obtain ⟨ins',e1,e2⟩:=hg i o ho;rw [List.getElem?_append_left him,g1] at e1;cases e1;have below:∀k,k<i→listed.getD k false=false→∀l,(l∈rd∨l∈wrOf ins eff)→us.getD k nof l=none:=by
      intro k hk hL l hlm;obtain ⟨insk,effk,rdk,q1,q2,q3,q4⟩:=t6 k (by omega);have hb:((befs ops).getD i 0).testBit k=false:=by
       cases hb:((befs ops).getD i 0).testBit k with
       | false=>rfl
       | true=>have:=Hm hcl ho h3 hb;rw [hL] at this;cases this
      have:=ap k i hk him hb;simp only [List.getD_eq_getElem?_getD,q2,g2,Option.getD_some,E3,Bool.and_eq_true,Bool.not_eq_true'] at this;rw [List.getD_eq_getElem?_getD,q3,Option.getD_some];refine Fo fun hm=>?_;rcases hlm with h5 | h5
      ·exact Bv this.1.2 l hm h5
      ·exact Bv this.1.1 l hm h5
     have above:∀k,i<k→listed.getD k false=true→k<il1.length∧∃insk effk rdk,fp[k]?=some (wrOf insk effk,rdk)∧us[k]?=some (wrF insk effk nof)∧E3 (wrOf ins eff,rd) (wrOf insk effk,rdk)=true:=by
      intro k hk hL;have hkm:k<il1.length:=by
       rcases Nat.lt_or_ge k il1.length with h4 | h4
       ·exact h4
       ·rw [hpre k h4] at hL;cases hL
      obtain ⟨insk,effk,rdk,q1,q2,q3,q4⟩:=t6 k hkm;have hks:k<ops.size:=by omega
      have hb:((befs ops).getD k 0).testBit i=false:=by
       cases hb:((befs ops).getD k 0).testBit i with
       | false=>rfl
       | true =>
         have:=Hm hcl (Array.getElem?_eq_getElem hks) (hcl k _ (Array.getElem?_eq_getElem hks) hL) hb;rw [h2] at this;cases this
      have:=ap i k hk hkm hb;simp only [List.getD_eq_getElem?_getD,q2,g2,Option.getD_some] at this;exact ⟨hkm,insk,effk,rdk,q2,q3,this⟩
     have at_i:∀l,(l∈rd∨l∈wrOf ins eff)→FL us (fun i=>listed.getD i false) s.fs il1.length l=FL us (fun _=>true) s.fs i l:=by
      intro l hlm;refine Yc (fun k hk hL=>below k hk hL l hlm) (fun k hk hL=>?_) _ (by omega);rcases Nat.lt_or_ge i k with h5 | h5
      ·obtain ⟨_,insk,effk,rdk,q2,q3,q4⟩:=above k h5 hL;rw [List.getD_eq_getElem?_getD,q3,Option.getD_some];simp only [E3,Bool.and_eq_true,Bool.not_eq_true'] at q4;refine Fo fun hm=>?_;rcases hlm with h6 | h6
       ·exact Bv q4.2 l h6 hm
       ·exact Bv q4.1.1 l h6 hm
      ·obtain rfl:k=i:=by omega
       rw [h2] at hL;cases hL
     have step:∀next:Act→World→Prop,(∀a' w' h',E.relF (if listed.getD k1 false||k1==i then lg' else lg) s.stp (((FL us (fun i=>listed.getD i false) s.fs il1.length).eff eff).put ins.d eff.v) a' w' h'→h'.y=h.y→next a' w')→wpOpIn (Dm ro) n E.P ops Q i next a w:=by
      intro next hnx
      rcases g4 with ⟨hne,g4⟩ | ⟨rfl,g4⟩
      ·have hne':(k1==i)=false:=by simpa using fun h=>hne h.symm
       rw [hne',Bool.or_false] at hnx;exact Wl e2 rfl ho (N8 (τ:=FL us (fun i=>listed.getD i false) s.fs il1.length) g4 (fun l hl=>at_i l (.inl hl))) R hnx
      ·rw [h2] at R hnx;refine g4 _ (fun l hl=>at_i l (.inl hl)) _ ops i o ro n s.stp a w h e2 rfl ho (by simpa using R) _ next (by simpa using hnx)
     refine step _ fun a' w' h' R' hy'=>ih _ a' w' h' (N9 (by omega) h2 hcn) (by simpa using hs) ?_ ?_ ?_ (hy'.trans hy)
     ·intro j o' ho' hj d hd;simp only [Dp (show i<listed.size by omega),Bool.or_eq_true,beq_iff_eq] at hj ⊢;rcases hj with hj | rfl
      ·exact .inl (hcl j o' ho' hj d hd)
      ·rw [ho] at ho';cases ho';exact .inl (h3 d hd)
     ·intro j hj;rw [Dp (show i<listed.size by omega),hpre j hj];have:(j==i)=false:=by simpa using (show j≠i by omega)
      rw [this];rfl
     ·have e:(fun k=>(listed.setIfInBounds i true).getD k false)=fun k=>listed.getD k false||k==i:=by
       funext k;exact Dp (by omega)
      rw [e,Dp (show i<listed.size by omega),Aao h2 (fun k hk hL l=>?_) _ him]
      ·rw [List.getD_eq_getElem?_getD,g3,Option.getD_some,←Jl];exact R'
      ·obtain ⟨_,insk,effk,rdk,q2,q3,q4⟩:=above k hk hL;simp only [List.getD_eq_getElem?_getD,q3,g3,Option.getD_some];simp only [E3,Bool.and_eq_true,Bool.not_eq_true'] at q4;by_cases hm:l∈wrOf insk effk
       ·right
        exact Fo fun hm'=>Bv q4.1.1 l hm' hm
       ·left
        exact Fo hm
theorem Agl {lg lg':List (List V)} {k1:Nat} {K:St→Prop} {il1 il2:List Ins} {s s1:St} {fp:List (List Loc×List Loc)} {id:Nat} {a:Act} {w:World} {h:Gh} (hc:Mh E.P E.nt ops=some (il1++il2)) (hl:Q8 ops=true) (t:GT (DX E lg lg' k1) 0 s.fs il1 fp s1.fs) (hlog:s.log=lg) (hlog1:s1.log=lg') (hstp:s1.stp=s.stp) (hk1:k1<il1.length)
  (hok:Gm (befs ops) fp=true) (ht:Eg (befs ops) il1.length ops.size=true) (hst:Steps E il2 K s1) (R:E.rel s a w h) {Q:Exit→Act→World→Prop}
  (hn:∀s' a' w' h',K s'→E.rel s' a' w' h'→h'.y=h.y→Q .normal a' w'):(Code.region id ops true).wpIn (Dm ro) n E.P Q a w:=by
 obtain ⟨us,key⟩:=Abl (ro:=ro) (n:=n) hc hl t hlog1 hstp hk1 hok ht hst h.y hn;refine wpIn_region_any E.mixed ?_;have e0:∀i,(Array.replicate ops.size false).getD i false=false:=fun i=>by
  simp only [Array.getD_eq_getD_getElem?,Array.getElem?_replicate];by_cases h:i<ops.size<;>simp [h]
 refine key ops.size _ a _ h (by simp [List.count_replicate]) (by simp) ?_ (fun i _=>e0 i) ⟨?_,R.2⟩ rfl
 ·intro j o ho hj;have hj:(Array.replicate ops.size false).getD j false=true:=hj;rw [e0] at hj;cases hj
 ·have:FL us (fun i=>(Array.replicate ops.size false).getD i false) s.fs il1.length=s.fs:=by
   have:∀m,FL us (fun i=>(Array.replicate ops.size false).getD i false) s.fs m=s.fs:=by
    intro m
    induction m with
    | zero=>rfl
    | succ m ih =>
      have e:FL us (fun i=>(Array.replicate ops.size false).getD i false) s.fs (m+1)=if (Array.replicate ops.size false).getD m false then upF (us.getD m nof) (FL us (fun i=>(Array.replicate ops.size false).getD i false) s.fs m) else FL us (fun i=>(Array.replicate ops.size false).getD i false) s.fs m:=rfl
      rw [e,e0 m,ih];rfl
   exact this _
  rw [this,if_neg (by rw [e0];simp),←hlog];exact R.1.drew E.ok
theorem Aal {Q:Exit→St→Prop} {s s1:St} {bef:List Nat} {il:List Ins} {lg':List (List V)} (k1 m:Nat) {fp:List (List Loc×List Loc)} (t:GT (DX E s.log lg' k1) 0 s.fs (il.take m) fp s1.fs) (hlog1:s1.log=lg') (hstp:s1.stp=s.stp) (hk1:k1<m) (hm:m≤il.length)
  (hok:Gm bef fp=true) (ht:Eg bef m il.length=true) (hst:Steps E (il.drop m) (Q .normal) s1):Tr E ro (.draw bef il) Q s:=by
 intro c hc n a w g R Q' hq;obtain ⟨id,ops,rfl,h1,hl,rfl⟩:=Cb hc;have hlen:=(E8 h1).1;rw [←List.take_append_drop m il] at h1;have hml:(il.take m).length=m:=by simp;omega
 refine Agl h1 hl t rfl hlog1 hstp (by omega) hok (by rw [hml,←hlen];exact ht) hst R fun s' a' w' h' k R' e=>hq _ s' a' w' h' k R' e
end
section
variable {E:Env} {S0:Sur} {l0:List (List V)} {s0:Bool}
theorem Aeg (hE:InA E S0 l0 s0) {Ks:List (Nat×List V)} {σ:FSt} {d:Option Nat} {f:FuncId} {xs:List X} {vs us:List V} {r:V} {F A1 B:Arena} (hx:xs.mapM (evX σ)=some vs) (hd:toDs σ.b vs=some (us,[]))
  (hC:CA E.P f A1 Ks us r B) (hKs:(∀p∈Ks,(p.1,Ob.cells p.2)∈F)∨InK E Ks∧∀p∈Ks,p.1∉A1.map (·.1)):∀τ:FSt,(∀l∈Bp xs,τ l=σ l)→SemX E (encA (F++A1)) (encA (F++B)) τ ⟨d,.call f,xs,none⟩ {v:=r}:=by
 intro τ hτ slots ops i o ro n stp a w h hc hs hi R Q next hn
 have hx':xs.mapM (evX τ)=some vs:=C5 hx fun l hl=>hτ l hl;have hd':toDs τ.b vs=some (us,[]):=H3 hd (by simp);obtain ⟨os,cc⟩:=Ba hc;have hgo:=Au cc rfl;obtain ⟨c,e1,e2,rfl⟩:=I1 cc.op;have hAr:=hE.ar R;have hnd:=hAr.nd;rw [List.map_append,List.nodup_append] at hnd;obtain ⟨l1,l2⟩:=Do (B9 R.1 cc.xs hx');refine A05 hE R cc hd' hC (fun h' R1=>?_) (fun p hp=>?_) _ l1 l2 hi (Ai hgo) (I0 hC.1 e2 e1) fun a' w' h' R2 hy=>hn _ _ _ (by simpa [freeze] using R2) hy
 ·rcases hKs with hKs | hKs
  ·intro p hp;have:=(hE.ar R1);exact ⟨this.ok _ (List.mem_append.2 (.inl (hKs p hp))),this.lt _ (List.mem_append.2 (.inl (hKs p hp)))⟩
  ·exact hKs.1 _ _ _ _ _ R1.1.sur
 ·rcases hKs with hKs | hKs
  ·exact fun h=>hnd.2.2 _ (List.mem_map.2 ⟨_,hKs p hp,rfl⟩) _ h rfl
  ·exact hKs.2 p hp
theorem gt_of {lg lg':List (List V)} {k1:Nat}:∀{s s':St} {il:List Ins} {fp:List (List Loc×List Loc)} (t:Trace E s il fp s') (k:Nat),(k+il.length≤k1∨k1<k)→∀{il2:List Ins} {fp2:List (List Loc×List Loc)} {σ:FSt},GT (DX E lg lg' k1) (k+il.length) s'.fs il2 fp2 σ→GT (DX E lg lg' k1) k s.fs (il++il2) (fp++fp2) σ:=by
 intro s s' il fp t
 induction t with
 | nil=>intro k _ il2 fp2 σ g;simpa using g
 | @cons s s' ins il eff rd fp hd t ih =>
   intro k hk il2 fp2 σ g;have e:((s.eff eff).put ins.d eff.v).fs=upF (wrF ins eff nof) s.fs:=by rw [Me,←Jl];rfl
   refine .cons (.inl ⟨by simp at hk;omega,hd⟩) ?_;rw [←e];refine ih (k+1) (by simp at hk;omega) ?_;rw [List.length_cons,show k+(il.length+1)=k+1+il.length by omega] at g;exact g
def AtCall (E:Env) (bef:List Nat) (len:Nat) (Q:St→Prop) (fpA:List (List Loc×List Loc)) (sA:St) (r:List Ins):Prop :=
 ∃(d:Nat) (f:FuncId) (xs:List X) (rest:List Ins) (vs us:List V) (v:V) (F A1 B:Arena) (Ks:List (Nat×List V)),r=⟨some d,.call f,xs,none⟩::rest∧evXs sA.env xs=some vs∧toDs sA.fs.b vs=some (us,[])∧sA.log=encA (F++A1)∧CA E.P f A1 Ks us v B ∧
  ((∀p∈Ks,(p.1,Ob.cells p.2)∈F)∨InK E Ks∧∀p∈Ks,p.1∉A1.map (·.1)) ∧
  TraceK E {(sA.eff {v:=v}).put (some d) v with log:=encA (F++B)} rest fun fpB s1 r2=>Gm bef (fpA++(wrOf ⟨some d,.call f,xs,none⟩ {v:=v},Bp xs)::fpB)=true∧Eg bef (len-r2.length) len=true∧Steps E r2 Q s1
theorem Tr.drawC (hE:InA E S0 l0 s0) {ro:Option Nat} {Q:Exit→St→Prop} {s:St} {bef:List Nat} {il:List Ins} (t:TraceK E s il (AtCall E bef il.length (Q .normal))):Tr E ro (.draw bef il) Q s:=by
 obtain ⟨ilA,fpA,sA,il2,rfl,tA,d,f,xs,rest,vs,us,v,F,A1,B,Ks,rfl,hx,hd,hl,hC,hKs,tB⟩:=t.spec;obtain ⟨ilB,fpB,s1,r2,rfl,tB,hok,ht,hst⟩:=tB.spec;obtain ⟨_,a2,a3,_⟩:=I9 tA;obtain ⟨_,b2,b3,_⟩:=I9 tB;have e:({(sA.eff {v:=v}).put (some d) v with log:=encA (F++B)}:St).fs=upF (wrF ⟨some d,.call f,xs,none⟩ {v:=v} nof) sA.fs:=by
  rw [←Jl];show ((sA.eff _).put (some d) v).fs=_;rw [Dj,Gc];rfl
 have hlg:s.log=encA (F++A1):=by rw [←a2];exact hl
 have gB:=gt_of (lg:=encA (F++A1)) (lg':=encA (F++B)) (k1:=ilA.length) tB (ilA.length+1) (.inr (by omega)) (il2:=[]) (fp2:=[]) .nil;rw [List.append_nil,List.append_nil,e] at gB;have gC:GT (DX E (encA (F++A1)) (encA (F++B)) ilA.length) ilA.length sA.fs (⟨some d,.call f,xs,none⟩::ilB) ((wrOf ⟨some d,.call f,xs,none⟩ {v:=v},Bp xs)::fpB) s1.fs:=.cons (.inr ⟨rfl,Aeg hE (Ay hx) hd hC hKs⟩) gB;have gA:=gt_of (lg:=encA (F++A1)) (lg':=encA (F++B)) (k1:=ilA.length) tA 0 (.inl (by omega)) (by rw [Nat.zero_add];exact gC);refine Aal (lg':=encA (F++B)) ilA.length (ilA.length+1+ilB.length) (fp:=_) (s1:=s1) (il:=ilA++⟨some d,.call f,xs,none⟩::(ilB++r2)) (by rw [hlg];rw [show ilA++⟨some d,.call f,xs,none⟩::(ilB++r2)=(ilA++⟨some d,.call f,xs,none⟩::ilB)++r2 by simp,List.take_left' (by simp;omega)];exact gA) b2 ?_ (by omega) (by simp;omega) hok ?_ ?_
 ·rw [b3,show ({(sA.eff {v:=v}).put (some d) v with log:=encA (F++B)}:St).stp=((sA.eff {v:=v}).put (some d) v).stp from rfl,(Bq _ _ _).2,(G3 _ _).2,a3]
 ·have:(ilA++(⟨some d,.call f,xs,none⟩:Ins)::(ilB++r2)).length-r2.length=ilA.length+1+ilB.length:=by simp;omega
  rw [←this];exact ht
 ·rw [show ilA++(⟨some d,.call f,xs,none⟩:Ins)::(ilB++r2)=(ilA++⟨some d,.call f,xs,none⟩::ilB)++r2 by simp,List.drop_left' (by simp;omega)];exact hst
end
end
section
open Go.RowKit
section
variable {P:Program}
end
section
variable {E:Env} {σ:FSt}
theorem I6 {s:St} {K:List (List Loc×List Loc)→St→List Ins→Prop} {d:Nat} {t N u:Nat} {name:String} {f:FuncId} {xr:X} {xs:List X} {v u0 r:V} {vs us:List V} {rest:List Ins} (hx:evXs s.env (xr::xs)=some (.iface t v::vs)) (hd:∀b,toDs b (u0::vs)=some (us,[])) (hN:N=strN name)
  (hm:∀(w:World) (φ:Nat→Nat) (x:Value),RepD w φ v x→∃y,(method (E.P.types.size+Made.depth) t x name).run E.P w=.ok (f,y) w∧RepD w φ u0 y) (hC:C E.P f us r)
  (tr:TraceK E (s.put (some d) r) rest fun fp s' r'=>K (([.slot d],Bp (xr::xs))::fp) s' r'):TraceK E s (⟨some d,.raw 23 N u,xr::xs,none⟩::rest) K :=
 .step (ins:=⟨some d,.raw 23 N u,xr::xs,none⟩) (eff:={v:=r}) (Wm (Ay hx) hd hN hm hC) tr
end
end
section
open Go.RowKit
def SemPn (E:Env) (lg:List (List V)) (ch:List PanicEntry) (τ:FSt) (ins:Ins):Prop :=
 ∀(slots:List (Option Nat)) (ops:Array Oper) (i:Nat) (o:Oper) (ro:Option Nat) (n:Nat) (stp:Bool) (a:Act) (w:World) (h:Gh),Jd E.P E.nt slots o=some ins→slots=ops.toList.map (·.dst)→ops[i]?=some o→E.relF lg stp τ a w h →
  ∀(Q:Exit→Act→World→Prop) (next:Act→World→Prop),(∀τ' a' w' h',E.relF lg stp τ' a' w' h'→h'.y=h.y→Q (.panic ch) a' w')→wpOpIn (Dm ro) n E.P ops Q i next a w
def DPn (E:Env) (A:Arena) (ch:List PanicEntry) (k1 k:Nat) (σ:FSt) (ins:Ins) (eff:Eff) (rd:List Loc):Prop :=
 (k≠k1∧Does (E.pinA A) σ ins eff rd)∨(k=k1∧∀τ:FSt,(∀l∈rd,τ l=σ l)→SemPn E (encA A) ch τ ins)
theorem getD_out {l:Array Bool} {k:Nat} (h:l.size≤k):l.getD k false=false:=by
 simp only [Array.getD_eq_getD_getElem?,Array.getElem?_eq_none h,Option.getD_none]
section
variable {E:Env} {ro:Option Nat} {n:Nat} {ops:Array Oper}
theorem Abn (hys:E.ys=noYs) (hlk:E.lk=fun _=>True) {A:Arena} {ch:List PanicEntry} {k1:Nat} {il1:List Ins} {s s1:St} {fp:List (List Loc×List Loc)} (hc:Mh E.P E.nt ops=some il1) (hl:Q8 ops=true) (hlog:s.log=encA A) (t:GT (DPn E A ch k1) 0 s.fs il1 fp s1.fs) (hk1:k1<il1.length)
  (hok:Gm (befs ops) fp=true) {Q:Exit→Act→World→Prop} (y:Pin)
  (hp:∀τ a' w' h',E.relF (encA A) s.stp τ a' w' h'→h'.y=y→Q (.panic ch) a' w') :
  ∃us:List FSt,∀(fuel:Nat) (listed:Array Bool) (a:Act) (w:World) (h:Gh),listed.toList.count false=fuel→listed.size=ops.size→Xf ops (fun i=>listed.getD i false)→listed.getD k1 false=false →
   E.relF (encA A) s.stp (FL us (fun i=>listed.getD i false) s.fs il1.length) a w h→h.y=y→wpAnyIn (Dm ro) n E.P .any ops Q fuel listed a w:=by
 obtain ⟨t1,us,t4,t5,t6⟩:=Ag2 t;obtain ⟨hlen,hg⟩:=E8 hc;have ap:∀i j,i<j→j<il1.length→((befs ops).getD j 0).testBit i=false→E3 (fp.getD i ([],[])) (fp.getD j ([],[]))=true:=by
  intro i j h1 h2 h3;unfold Gm at hok;rw [List.all_eq_true] at hok;have:=hok j (by simp;omega);rw [List.all_eq_true] at this;have:=this i (by simp;omega);rw [h3] at this;simpa using this
 refine ⟨us,?_⟩;intro fuel
 induction fuel with
 | zero =>
   intro listed a w h hcn hs hcl hk1' R hy;have:false∈listed.toList:=by
    simp only [Array.getD_eq_getD_getElem?,Array.getElem?_eq_getElem (show k1<listed.size by omega),Option.getD_some] at hk1';rw [←hk1'];simp
   exact absurd this (List.count_eq_zero.1 hcn)
 | succ fuel ih =>
   intro listed a w h hcn hs hcl hk1' R hy;refine ⟨fun hr=>?_,fun i hi=>?_⟩
   ·have:=K4 hl hs hr k1 (by omega);rw [hk1'] at this;cases this
   ·obtain ⟨h1,h2,o,ho,h3⟩:=(Is hs).1 hi;have him:i<il1.length:=by omega
    obtain ⟨ins,eff,rd,g1,g2,g3,g4⟩:=t6 i him;obtain ⟨ins',e1,e2⟩:=hg i o ho;rw [g1] at e1;cases e1;have below:∀k,k<i→listed.getD k false=false→∀l,(l∈rd∨l∈wrOf ins eff)→us.getD k nof l=none:=by
     intro k hk hL l hlm;obtain ⟨insk,effk,rdk,q1,q2,q3,q4⟩:=t6 k (by omega);have hb:((befs ops).getD i 0).testBit k=false:=by
      cases hb:((befs ops).getD i 0).testBit k with
      | false=>rfl
      | true=>have:=Hm hcl ho h3 hb;rw [hL] at this;cases this
     have:=ap k i hk him hb;simp only [List.getD_eq_getElem?_getD,q2,g2,Option.getD_some,E3,Bool.and_eq_true,Bool.not_eq_true'] at this;rw [List.getD_eq_getElem?_getD,q3,Option.getD_some];refine Fo fun hm=>?_;rcases hlm with h5 | h5
     ·exact Bv this.1.2 l hm h5
     ·exact Bv this.1.1 l hm h5
    have above:∀k,i<k→listed.getD k false=true→k<il1.length∧∃insk effk rdk,fp[k]?=some (wrOf insk effk,rdk)∧us[k]?=some (wrF insk effk nof)∧E3 (wrOf ins eff,rd) (wrOf insk effk,rdk)=true:=by
     intro k hk hL;have hkm:k<il1.length:=by
      rcases Nat.lt_or_ge k il1.length with h4 | h4
      ·exact h4
      ·exact absurd hL (by rw [getD_out (by omega)];simp)
     obtain ⟨insk,effk,rdk,q1,q2,q3,q4⟩:=t6 k hkm;have hks:k<ops.size:=by omega
     have hb:((befs ops).getD k 0).testBit i=false:=by
      cases hb:((befs ops).getD k 0).testBit i with
      | false=>rfl
      | true =>
        have:=Hm hcl (Array.getElem?_eq_getElem hks) (hcl k _ (Array.getElem?_eq_getElem hks) hL) hb;rw [h2] at this;cases this
     have:=ap i k hk hkm hb;simp only [List.getD_eq_getElem?_getD,q2,g2,Option.getD_some] at this;exact ⟨hkm,insk,effk,rdk,q2,q3,this⟩
    have at_i:∀l,(l∈rd∨l∈wrOf ins eff)→FL us (fun i=>listed.getD i false) s.fs il1.length l=FL us (fun _=>true) s.fs i l:=by
     intro l hlm;refine Yc (fun k hk hL=>below k hk hL l hlm) (fun k hk hL=>?_) _ (by omega);rcases Nat.lt_or_ge i k with h5 | h5
     ·obtain ⟨_,insk,effk,rdk,q2,q3,q4⟩:=above k h5 hL;rw [List.getD_eq_getElem?_getD,q3,Option.getD_some];simp only [E3,Bool.and_eq_true,Bool.not_eq_true'] at q4;refine Fo fun hm=>?_;rcases hlm with h6 | h6
      ·exact Bv q4.2 l h6 hm
      ·exact Bv q4.1.1 l h6 hm
     ·obtain rfl:k=i:=by omega
      rw [h2] at hL;cases hL
    rcases g4 with ⟨hne,g4⟩ | ⟨rfl,g4⟩;rotate_left
    ·exact g4 _ (fun l hl=>at_i l (.inl hl)) _ ops i o ro n s.stp a w h e2 rfl ho R _ _ fun τ' a' w' h' R' hy'=>hp τ' a' w' h' R' (hy'.trans hy)
    refine Wl (E:=E.pinA A) e2 rfl ho (N8 (τ:=FL us (fun i=>listed.getD i false) s.fs il1.length) g4 (fun l hl=>at_i l (.inl hl))) (Ae4 hys hlk rfl R) fun a' w' h' R' hy'=>ih _ a' w' h' (N9 (by omega) h2 hcn) (by simpa using hs) ?_ ?_ ?_ (hy'.trans hy)
    ·intro j o' ho' hj d hd;simp only [Dp (show i<listed.size by omega),Bool.or_eq_true,beq_iff_eq] at hj ⊢;rcases hj with hj | rfl
     ·exact .inl (hcl j o' ho' hj d hd)
     ·rw [ho] at ho';cases ho';exact .inl (h3 d hd)
    ·rw [Dp (show i<listed.size by omega),hk1'];have:(k1==i)=false:=by simpa using fun h=>hne h.symm
     rw [this];rfl
    ·have e:(fun k=>(listed.setIfInBounds i true).getD k false)=fun k=>listed.getD k false||k==i:=by
      funext k;exact Dp (by omega)
     rw [e,Aao h2 (fun k hk hL l=>?_) _ him]
     ·rw [List.getD_eq_getElem?_getD,g3,Option.getD_some,←Jl];exact Z5 hys hlk R'
     ·obtain ⟨_,insk,effk,rdk,q2,q3,q4⟩:=above k hk hL;simp only [List.getD_eq_getElem?_getD,q3,g3,Option.getD_some];simp only [E3,Bool.and_eq_true,Bool.not_eq_true'] at q4;by_cases hm:l∈wrOf insk effk
      ·right
       exact Fo fun hm'=>Bv q4.1.1 l hm' hm
      ·left
       exact Fo hm
theorem gt_ofN {A:Arena} {ch:List PanicEntry} {k1:Nat}:∀{s s':St} {il:List Ins} {fp:List (List Loc×List Loc)} (t:Trace (E.pinA A) s il fp s') (k:Nat),(k+il.length≤k1∨k1<k)→∀{il2:List Ins} {fp2:List (List Loc×List Loc)} {σ:FSt},GT (DPn E A ch k1) (k+il.length) s'.fs il2 fp2 σ→GT (DPn E A ch k1) k s.fs (il++il2) (fp++fp2) σ:=by
 intro s s' il fp t
 induction t with
 | nil=>intro k _ il2 fp2 σ g;simpa using g
 | @cons s s' ins il eff rd fp hd t ih =>
   intro k hk il2 fp2 σ g;have e:((s.eff eff).put ins.d eff.v).fs=upF (wrF ins eff nof) s.fs:=by rw [Me,←Jl];rfl
   refine .cons (.inl ⟨by simp at hk;omega,hd⟩) ?_;rw [←e];refine ih (k+1) (by simp at hk;omega) ?_;rw [List.length_cons,show k+(il.length+1)=k+1+il.length by omega] at g;exact g
end
section
variable {E:Env} {S0:Sur} {l0:List (List V)} {s0:Bool}
theorem rel_bare {E:Env} (hpin:E.pin=[]) {lg:List (List V)} {stp:Bool} {τ:FSt} {a:Act} {w:World} {h:Gh} (R:E.relF lg stp τ a w h):∃h',E.rel ⟨[],[],[],lg,stp⟩ a w h'∧h'.y=h.y:=by
 have e1:∀t,(⟨[],[],[],lg,stp⟩:St).fs.g t=none:=fun t=>by rw [fs_g];rfl
 have e2:∀t,(⟨[],[],[],lg,stp⟩:St).fs.b t=none:=fun t=>by rw [fs_b];rfl
 have e3:∀t,(⟨[],[],[],lg,stp⟩:St).fs.r t=none:=fun t=>by rw [fs_r];rfl
 obtain ⟨h',R',hy⟩:=R.1.weak (σ':=(⟨[],[],[],lg,stp⟩:St).fs) (fun t u hu=>by rw [e1] at hu;cases hu) (fun i bo hb=>by rw [e2] at hb;cases hb) (fun r q hq=>by rw [e3] at hq;cases hq) (fun i hi=>by
  have:=R.2.2 i hi;rw [hpin] at this;cases this)
 exact ⟨h',⟨R',by rw [hy];exact R.2⟩,hy⟩
theorem Aax (hE:InA E S0 l0 s0) {A:Arena} {σ:FSt} {d:Option Nat} {f:FuncId} {xs:List X} {vs us:List V} {cv:Value} (hx:xs.mapM (evX σ)=some vs) (hd:toDs σ.b vs=some (us,[]))
  (hC:CP E.P f [] [] us (fun _ _=>False) cv (fun B=>B=[])):∀τ:FSt,(∀l∈Bp xs,τ l=σ l)→SemPn E (encA A) [{v:=cv,recovered:=false}] τ ⟨d,.call f,xs,none⟩:=by
 intro τ hτ slots ops i o ro n stp a w h hc hs hi R Q next hp
 have hx':xs.mapM (evX τ)=some vs:=C5 hx fun l hl=>hτ l hl;have hd':toDs τ.b vs=some (us,[]):=H3 hd (by simp);obtain ⟨os,cc⟩:=Ba hc;have hgo:=Au cc rfl;obtain ⟨c,e1,e2,rfl⟩:=I1 cc.op;obtain ⟨l1,l2⟩:=Do (B9 R.1 cc.xs hx');refine A8s hE (F:=A) (A1:=[]) (by rw [List.append_nil];exact R) cc hd' hC (fun h' R1 p hp=>by cases hp) (fun p hp=>by cases hp) _ l1 l2 hi (Ai hgo) (I0 hC.1 e2 e1) (fun r B hF=>hF.elim) fun B hB a' w' h' R2 hy=>?_;subst hB;rw [List.append_nil] at R2;exact hp _ _ _ _ R2 hy
def AtPan (E:Env) (A:Arena) (bef:List Nat) (cv:Value) (fpA:List (List Loc×List Loc)) (sA:St) (r:List Ins):Prop :=
 ∃(d:Nat) (f:FuncId) (xs:List X) (rest:List Ins) (vs us:List V) (v:V),r=⟨some d,.call f,xs,none⟩::rest∧evXs sA.env xs=some vs∧toDs sA.fs.b vs=some (us,[])∧CP E.P f [] [] us (fun _ _=>False) cv (fun B=>B=[]) ∧
  TraceK (E.pinA A) ((sA.eff {v:=v}).put (some d) v) rest fun fpB s1 r2=>r2=[]∧Gm bef (fpA++(wrOf ⟨some d,.call f,xs,none⟩ {v:=v},Bp xs)::fpB)=true
theorem Aam (hE:InA E S0 l0 s0) (hys:E.ys=noYs) (hlk:E.lk=fun _=>True) (hpin:E.pin=[]) {ro:Option Nat} {Q:Exit→St→Prop} {s:St} {bef:List Nat} {il:List Ins} {A:Arena} {cv:Value} (hlog:s.log=encA A)
  (hQ:Q (.panic [{v:=cv,recovered:=false}]) ⟨[],[],[],encA A,s.stp⟩) (t:TraceK (E.pinA A) s il (AtPan E A bef cv)):Tr E ro (.draw bef il) Q s:=by
 obtain ⟨ilA,fpA,sA,il2,rfl,tA,d,f,xs,rest,vs,us,v,rfl,hx,hd,hC,tB⟩:=t.spec;obtain ⟨ilB,fpB,s1,r2,rfl,tB',rfl,hok⟩:=tB.spec;have e:((sA.eff {v:=v}).put (some d) v).fs=upF (wrF ⟨some d,.call f,xs,none⟩ {v:=v} nof) sA.fs:=by
  rw [←Jl];show ((sA.eff _).put (some d) v).fs=_;rw [Dj,Gc];rfl
 have gB:=gt_ofN (E:=E) (A:=A) (ch:=[{v:=cv,recovered:=false}]) (k1:=ilA.length) tB' (ilA.length+1) (.inr (by omega)) (il2:=[]) (fp2:=[]) .nil;rw [List.append_nil,List.append_nil,e] at gB;have gC:GT (DPn E A [{v:=cv,recovered:=false}] ilA.length) ilA.length sA.fs (⟨some d,.call f,xs,none⟩::ilB) ((wrOf ⟨some d,.call f,xs,none⟩ {v:=v},Bp xs)::fpB) s1.fs:=.cons (.inr ⟨rfl,Aax hE (Ay hx) hd hC⟩) gB;have gA:=gt_ofN (E:=E) (A:=A) (ch:=[{v:=cv,recovered:=false}]) (k1:=ilA.length) tA 0 (.inl (by omega)) (by rw [Nat.zero_add];exact gC);intro c hc n a w g R Q' hq;obtain ⟨id,ops,rfl,h1,hl,rfl⟩:=Cb hc;rw [List.append_nil] at h1;have hlen:=(E8 h1).1;obtain ⟨us',key⟩:=Abn (ro:=ro) (n:=n) (E:=E) (s:=s) (s1:=s1) hys hlk h1 hl hlog gA (by simp) hok (Q:=Q') g.y (fun τ a' w' h' R' hy=>by
  obtain ⟨h2,R2,hy2⟩:=rel_bare hpin R';exact hq _ _ a' w' h2 hQ R2 (hy2.trans hy))
 refine wpIn_region_any E.mixed ?_;have e0:∀i,(Array.replicate ops.size false).getD i false=false:=fun i=>by
  simp only [Array.getD_eq_getD_getElem?,Array.getElem?_replicate];by_cases h:i<ops.size<;>simp [h]
 refine key ops.size _ a _ g (by simp [List.count_replicate]) (by simp) ?_ (e0 _) ⟨?_,R.2⟩ rfl
 ·intro j o ho hj;have hj:(Array.replicate ops.size false).getD j false=true:=hj;rw [e0] at hj;cases hj
 ·have:∀m,FL us' (fun i=>(Array.replicate ops.size false).getD i false) s.fs m=s.fs:=by
   intro m
   induction m with
   | zero=>rfl
   | succ m ih =>
     have e:FL us' (fun i=>(Array.replicate ops.size false).getD i false) s.fs (m+1)=if (Array.replicate ops.size false).getD m false then upF (us'.getD m nof) (FL us' (fun i=>(Array.replicate ops.size false).getD i false) s.fs m) else FL us' (fun i=>(Array.replicate ops.size false).getD i false) s.fs m:=rfl
     rw [e,e0 m,ih];rfl
  rw [this,←hlog];exact R.1.drew E.ok
end
end
section
open Go.RowKit
theorem Vv {σ:FSt} {h:Gh} {w:World} {v:V} {x:Value} (o:Ok σ h w (.cond true v) x) (hd:∀x,Rep w h.φ h.β h.y.l v x→RepD w h.φ v x):Ok σ h w v x:=by
 obtain ⟨r,_⟩:=o;cases r with
 | data r=>cases r
 | cond b v x hh h0=>exact ⟨.data (hd _ (hh rfl)),Ap (hd _ (hh rfl))⟩
theorem A1g {P:Program} {nt:Nat} {slots:List (Option Nat)} {o:Oper} {ins:Ins} {os:List Operand} (cc:Comp P nt slots o ins os) {t:Nat} {want:Bool} (hg:ins.g=some (t,want)):∃j,o.guard=some (j,want)∧slots[j]?=some (some t):=by
 rcases cc.guard with ⟨e,_⟩ | ⟨j,want1,t1,e1,e2,e3⟩
 ·rw [hg] at e;cases e
 ·rw [hg] at e3;cases e3;exact ⟨j,e1,e2⟩
section
variable {E:Env} {σ:FSt}
theorem does_off {d t:Nat} {k:K} {xs:List X} {want:Bool} {gv:V} (v:V) (hgv:σ.g t=some gv) (hgb:Cg want gv=some false):Does E σ ⟨some d,k,xs,some (t,want)⟩ {v:=.cond false v} [.slot t]:=by
 refine .sem fun τ hτ slots ops i o ro n log stp a w h hc hs hi R Q next hnx=>?_
 have hgv':τ.g t=some gv:=by rw [g_eq (hτ (.slot t) (by simp))];exact hgv
 obtain ⟨os,cc⟩:=Ba hc;obtain ⟨j',g1,g2⟩:=A1g cc rfl;obtain ⟨wt,wf⟩:=Cs R hs g1 g2 hgv' hgb;exact F2 cc R hi (wf rfl) R.1 rfl v hnx
theorem Gf {s:St} {K:List (List Loc×List Loc)→St→List Ins→Prop} {d t:Nat} {k:Am.K} {xs:List X} {want:Bool} {gv:V} {rest:List Ins} (v:V) (hgv:get s.env t=some gv) (hgb:Cg want gv=some false)
  (tr:TraceK E (s.put (some d) (.cond false v)) rest fun fp s' r'=>K (([.slot d],[.slot t])::fp) s' r'):TraceK E s (⟨some d,k,xs,some (t,want)⟩::rest) K :=
 .step (ins:=⟨some d,k,xs,some (t,want)⟩) (eff:={v:=.cond false v}) (does_off v (by rw [fs_g];exact hgv) hgb) tr
theorem Aco {d t blk off n cap sz:Nat} {want:Bool} {gv:V} {k:IntKind} {i:Int} {j:Nat} {x y:X} (hgv:σ.g t=some gv) (hgb:Cg want gv=some true) (hx:[x,y].mapM (evX σ)=some [.cond true (.sref blk off n cap),.cond true (.int k i)]) (hi:i=(j:Int)) (hj:j<n):Does E σ ⟨some d,.iaddrS sz,[x,y],some (t,want)⟩ {v:=.cond true (.rptr blk (off+j*sz))} (.slot t::Bp [x,y]):=by
 subst hi;refine .sem fun τ hτ slots ops i o ro n' log stp a w h hc hs hi R Q next hnx=>?_
 have hx':[x,y].mapM (evX τ)=some [.cond true (.sref blk off n cap),.cond true (.int k (j:Int))]:=C5 hx fun l hl=>hτ l (by simp [hl]);have hgv':τ.g t=some gv:=by rw [g_eq (hτ (.slot t) (by simp))];exact hgv
 obtain ⟨os,cc⟩:=Ba hc;obtain ⟨j',g1,g2⟩:=A1g cc rfl;obtain ⟨wt,wf⟩:=Cs R hs g1 g2 hgv' hgb;obtain ⟨tt,p,q,e,e1,e2,e3,rfl⟩:=Z3 cc.op;obtain ⟨u,v,huv,hu,hv'⟩:=(B9 R.1 cc.xs hx').two;cases huv;have hu:=Vv hu (by intro x r;cases r;assumption);have hv':=Vv hv' (by intro x r;cases r;assumption);have h1:(j:Int)<(n:Int):=by omega
 have hex:(execOp a.eval o).run E.P w=.ok (.value (.pointer (some ⟨blk,off+j*sz,none⟩))) w:=by
  simp only [execOp,e1,Kt hu,Dx hv'];simp [Instr.indexAt,asIntOf,run_underlying e2,Ds e3,h1,hj,Addr.add_lit]
 refine B5 hi (wt rfl) (At cc.op) (.inl hex) (hnx _ _ h (Bk (eff:={v:=.cond true (.rptr blk (off+j*sz))}) cc R R.1 ⟨.cond true _ _ (fun _=>.data (.rptr _ _)) (fun e=>(by cases e)),fun j u z hu hz=>?_⟩ rfl) rfl);cases j with
 | zero=>simp [cells] at hu;subst hu;intro r' sz xs' e;cases e
 | succ j=>simp [cells] at hu
theorem A4w {s:St} {K:List (List Loc×List Loc)→St→List Ins→Prop} {d t blk off n cap sz:Nat} {want:Bool} {gv:V} {k:IntKind} {i:Int} {j:Nat} {x y:X} {rest:List Ins} (hgv:get s.env t=some gv) (hgb:Cg want gv=some true) (hx:evXs s.env [x,y]=some [.cond true (.sref blk off n cap),.cond true (.int k i)]) (hi:i=(j:Int)) (hj:j<n)
  (tr:TraceK E (s.put (some d) (.cond true (.rptr blk (off+j*sz)))) rest fun fp s' r'=>K (([.slot d],.slot t::Bp [x,y])::fp) s' r'):TraceK E s (⟨some d,.iaddrS sz,[x,y],some (t,want)⟩::rest) K :=
 .step (ins:=⟨some d,.iaddrS sz,[x,y],some (t,want)⟩) (eff:={v:=.cond true (.rptr blk (off+j*sz))}) (Aco (by rw [fs_g];exact hgv) hgb (Ay hx) hi hj) tr
theorem A4a {S0:Sur} {l0:List (List V)} {s0:Bool} {A:Arena} (hE:InA E S0 l0 s0) (hys:E.ys=noYs) (hlk:E.lk=fun _=>True) {d n tg:Nat} {want:Bool} {gv:V} {agg:Bool} {x:X} {blk off:Nat} {cs:List V} (hgv:σ.g tg=some gv) (hgb:Cg want gv=some true) (hx:[x].mapM (evX σ)=some [.cond true (.rptr blk off)]) (hA:(blk,Ob.cells cs)∈A) (hv:off+n≤cs.length) :
  Does (E.pinA A) σ ⟨some d,.load n agg,[x],some (tg,want)⟩ {v:=.cond true (mkv agg n (cs.drop off))} (.slot tg::Bp [x]):=by
 refine .sem fun τ hτ slots ops i o ro n' log stp a w h hc hs hi R Q next hn=>?_
 have hx':[x].mapM (evX τ)=some [.cond true (.rptr blk off)]:=C5 hx fun l hl=>hτ l (by simp [hl]);have hgv':τ.g tg=some gv:=by rw [g_eq (hτ (.slot tg) (by simp))];exact hgv
 obtain ⟨os,cc⟩:=Ba hc;obtain ⟨j',g1,g2⟩:=A1g cc rfl;obtain ⟨wt,wf⟩:=Cs R hs g1 g2 hgv' hgb;have hll:log=encA A:=R.1.sur.1;have R':E.relF (encA A) stp τ a w h:=by rw [←hll];exact Z5 hys hlk R
 obtain ⟨vs,et,h1,h2,h3⟩:=(hE.ar R').ok _ hA;have hop:∃t p dd,o.op=.load t p∧szOf E.P t=some n∧E.P.underlying t=some dd∧aggB E.P t=agg∧os=[p]∧(agg=false→n=1):=by
  have hk:=cc.op;replace hk:=Dw hk (by simp [Dv]);cases ho:o.op<;>rw [ho] at hk<;>simp only [opK0] at hk<;>(try (cases hk;done))<;>(try (repeat' (split at hk<;>(try (cases hk;done)))))
  all_goals first
   | (simp only [Option.map_eq_some_iff,Prod.mk.injEq] at hk;obtain ⟨_,_,h1,_⟩:=hk;cases h1;done)
   | (simp only [E7] at hk;repeat' (split at hk<;>(try (cases hk;done))))
   | (cases hk;exact ⟨_,_,_,rfl,by assumption,by assumption,by assumption,rfl,by simp⟩)
   | (rename_i q1 q2 q3 q4;subst q4;cases hk;exact ⟨_,_,_,rfl,by assumption,by assumption,Bool.eq_false_iff.2 q3,rfl,by simp⟩)
 obtain ⟨t,p,dd,e1,e2,e3,e4,rfl,e5⟩:=hop;obtain ⟨u,hu,o1⟩:=(B9 R.1 cc.xs hx').one;simp only [List.cons.injEq,and_true] at hu;subst hu;have o1:=Vv o1 (by intro x r;cases r;assumption);have ep:=F5 o1;obtain ⟨y,hy1,hy2⟩:=Vy (σ:=τ) (h:=h) (w:=w) (agg:=agg) (n:=n) (l:=cs.drop off) (f:=fun j=>vs.getD (off+j) undef) (by simp;omega) e5 (fun j v hv=>by
  rw [List.getElem?_drop] at hv;have hlt:off+j<vs.size:=by
   have:=(List.getElem?_eq_some_iff.1 hv).1;omega
  have:=h3 (off+j) v vs[off+j] hv (by simp [hlt]);have e:vs.getD (off+j) undef=vs[off+j]:=by simp [hlt]
  rw [e];exact ⟨.data this.1,D5 this.1,this.2⟩)
 have hex:(execOp a.eval o).run E.P w=.ok (.value y) w:=by
  simp only [execOp,e1,ep,Sem.run_bind];rw [Gb (cs:=(List.range n).map fun j=>vs.getD (off+j) undef) e2 e3 (by simp) (fun j v hv=>by
   obtain ⟨hj,rfl⟩:=Eh hv;rw [cell_of_row w blk (off+j) vs et (0,0) h1];have:off+j<vs.size:=by omega
   simp [this]) (by rw [e4];exact hy1)]
  rfl
 refine B5 hi (wt rfl) (At cc.op) (.inl hex) (hn _ _ h (Bk (eff:={v:=.cond true (mkv agg n (cs.drop off))}) cc R R.1 ⟨.cond true _ _ (fun _=>hy2.1) (fun e=>(by cases e)),fun j u z hu hz=>?_⟩ rfl) rfl);cases j with
 | zero=>simp [cells] at hu;subst hu;intro r' sz xs' e;cases e
 | succ j=>simp [cells] at hu
theorem Y6 {S0:Sur} {l0:List (List V)} {s0:Bool} {A:Arena} (hE:InA E S0 l0 s0) (hys:E.ys=noYs) (hlk:E.lk=fun _=>True) {s:St} {K:List (List Loc×List Loc)→St→List Ins→Prop} {d n t:Nat} {want:Bool} {gv:V} {agg:Bool} {x:X} {blk off:Nat} {cs:List V} {rest:List Ins} (hgv:get s.env t=some gv) (hgb:Cg want gv=some true) (hx:evXs s.env [x]=some [.cond true (.rptr blk off)]) (hA:(blk,Ob.cells cs)∈A) (hv:off+n≤cs.length)
  (tr:TraceK (E.pinA A) (s.put (some d) (.cond true (mkv agg n (cs.drop off)))) rest fun fp s' r'=>K (([.slot d],.slot t::Bp [x])::fp) s' r'):TraceK (E.pinA A) s (⟨some d,.load n agg,[x],some (t,want)⟩::rest) K :=
 .step (ins:=⟨some d,.load n agg,[x],some (t,want)⟩) (eff:={v:=.cond true (mkv agg n (cs.drop off))}) (A4a hE hys hlk (by rw [fs_g];exact hgv) hgb (Ay hx) hA hv) tr
end
section
variable {E:Env} {S0:Sur} {l0:List (List V)} {s0:Bool} {A:Arena}
theorem Aaw (hE:InA E S0 l0 s0) {σ:FSt} {n:Nat} {x y:X} {blk off:Nat} {cs ds:List V} (hx:[x,y].mapM (evX σ)=some [.rptr blk off,.agg ds]) (hA:(blk,Ob.cells cs)∈A) (hn:ds.length=n) (hoff:off+ds.length≤cs.length) (hd:ds.all isD=true) (hsc:ds.all Af=true) :
  ∀τ:FSt,(∀l∈Bp [x,y],τ l=σ l)→SemX E (encA A) (encA (setA A blk (.cells (Aq cs off ds)))) τ ⟨none,.store n,[x,y],none⟩ {v:=Cz}:=by
 intro τ hτ slots ops i o ro n' stp a w h hc hs hi R Q next hn'
 have hx':[x,y].mapM (evX τ)=some [.rptr blk off,.agg ds]:=C5 hx fun l hl=>hτ l hl;obtain ⟨os,cc⟩:=Ba hc;obtain ⟨t,p,q,e1,e2,rfl⟩:=K7 cc.op;obtain ⟨u,u',hu,o1,o2⟩:=(B9 R.1 cc.xs hx').two;simp only [List.cons.injEq,and_true] at hu;obtain ⟨hu1,hu2⟩:=hu;subst hu1 hu2;have ep:=F5 o1;have R':=R;have hAr:=hE.ar R';obtain ⟨vs,et,h1,h2,h3⟩:=hAr.ok _ hA;obtain ⟨ws,hw,hlen,hh⟩:=Q4 o2;have hwl:ws.toList.length=ds.length:=by simpa using hlen.symm
 have hall:∀(j:Nat) v z,ds[j]?=some v→ws.toList[j]?=some z→RepD w h.φ v z∧Af v=true:=fun j v z hv hz=>by
  rw [List.all_eq_true] at hd hsc;exact ⟨Lz (hd v (List.mem_of_getElem? hv)) (hh j v z hv (by simpa using hz)).1,hsc v (List.mem_of_getElem? hv)⟩
 have hone:∀z∈ws.toList,z.oneCell'=true:=fun z hz=>by
  obtain ⟨j,hj,rfl⟩:=List.getElem_of_mem hz;have hjd:j<ds.length:=by omega
  obtain ⟨r,sc⟩:=hall j _ _ (List.getElem?_eq_getElem hjd) (List.getElem?_eq_getElem hj);exact (Cr (.data r:Rep w h.φ h.β h.y.l _ _) sc).1
 have hc1:(a.eval q).cells=ws:=by rw [hw];rfl
 have hrun:=run_storeCells_at E.P blk off et ws.toList 0 vs w h1 (by omega) hone;simp only [Nat.add_zero] at hrun;have R2:=hE.step R' (B:=setA A blk (.cells (Aq cs off ds))) (fun b hb hn=>setRow_other w blk b (vs.toList.take off++ws.toList++vs.toList.drop (off+ws.toList.length)).toArray (fun e=>hn (e▸List.mem_map.2 ⟨_,hA,rfl⟩))) (by simp) rfl rfl rfl (fun p hp=>.inl (by rw [←C4 A blk (.cells (Aq cs off ds))];exact List.mem_map.2 ⟨p,hp,rfl⟩)) (fun p hp=>by rw [C4];exact List.mem_map.2 ⟨p,hp,rfl⟩) (by rw [C4];exact hAr.nd) (fun ext p hp=>by
    rcases Mz hp with ⟨e,e'⟩ | ⟨hne,hp⟩
    ·rw [e,e'];refine ⟨_,et,setRow_heap w blk vs _ et (0,0) h1,by simp [Aq];omega,fun j u z hu hz=>?_⟩;rw [List.getElem?_toArray,Mw (by simp;omega)] at hz;unfold Aq at hu;rw [Mw (by omega)] at hu;by_cases c1:j<off
     ·rw [if_pos c1] at hu hz;have hz':vs[j]?=some z:=by simpa using hz
      exact ⟨(h3 j u z hu hz').1.mono ext,(h3 j u z hu hz').2⟩
     ·rw [if_neg c1] at hu hz;by_cases c2:j<off+ds.length
      ·rw [if_pos c2] at hu;rw [if_pos (by omega)] at hz;exact ⟨(hall _ u z hu hz).1.mono ext,(hall _ u z hu hz).2⟩
      ·rw [if_neg c2] at hu;rw [if_neg (by omega)] at hz;have hz':vs[j]?=some z:=by simpa using hz
       exact ⟨(h3 j u z hu hz').1.mono ext,(h3 j u z hu hz').2⟩
    ·exact (hAr.ok p hp).mono (setRow_other w blk p.1 _ hne) ext) (fun p hp=>by
    have hk:p.1∈A.map (·.1):=by rw [←C4 A blk (.cells (Aq cs off ds))];exact List.mem_map.2 ⟨p,hp,rfl⟩
    obtain ⟨q',hq',e⟩:=List.mem_map.1 hk;have:=hAr.lt q' hq';rw [←e];simpa using this)
 have hdn:o.dst=none:=cc.d.symm;refine B5 (x:=undef) hi (Ai (Au cc rfl)) (At cc.op) (.inr ⟨?_,rfl⟩) (hn' _ _ h (by rw [hdn];exact R2) rfl);simp only [execOp,e1,ep,Instr.storeAt,Instr.sureAddr,Sem.run_bind,Sem.run_pure,Result.andThen_ok,storeVar,Ds e2];rw [if_neg (by rw [hc1];simp;omega),hc1];rw [hrun];rfl
def AtStore (E:Env) (bef:List Nat) (len:Nat) (Q:St→Prop) (fpA:List (List Loc×List Loc)) (sA:St) (r:List Ins):Prop :=
 ∃(n:Nat) (x y:X) (rest:List Ins) (A:Arena) (blk off:Nat) (cs ds:List V),r=⟨none,.store n,[x,y],none⟩::rest∧evXs sA.env [x,y]=some [.rptr blk off,.agg ds]∧sA.log=encA A∧(blk,Ob.cells cs)∈A∧ds.length=n∧off+ds.length≤cs.length∧ds.all isD=true∧ds.all Af=true ∧
  TraceK E {sA with log:=encA (setA A blk (.cells (Aq cs off ds)))} rest fun fpB s1 r2=>Gm bef (fpA++(wrOf ⟨none,.store n,[x,y],none⟩ {v:=Cz},Bp [x,y])::fpB)=true∧Eg bef (len-r2.length) len=true∧Steps E r2 Q s1
theorem Tr.drawS (hE:InA E S0 l0 s0) {ro:Option Nat} {Q:Exit→St→Prop} {s:St} {bef:List Nat} {il:List Ins} (t:TraceK E s il (AtStore E bef il.length (Q .normal))):Tr E ro (.draw bef il) Q s:=by
 obtain ⟨ilA,fpA,sA,il2,rfl,tA,n,x,y,rest,A,blk,off,cs,ds,rfl,hx,hl,hA,hn,hoff,hd,hsc,tB⟩:=t.spec;obtain ⟨ilB,fpB,s1,r2,rfl,tB',hok,ht,hst⟩:=tB.spec;obtain ⟨_,a2,a3,_⟩:=I9 tA;obtain ⟨_,b2,b3,_⟩:=I9 tB';have e:({sA with log:=encA (setA A blk (.cells (Aq cs off ds)))}:St).fs=upF (wrF ⟨none,.store n,[x,y],none⟩ {v:=Cz} nof) sA.fs:=by
  rw [←Jl];rfl
 have hlg:s.log=encA A:=by rw [←a2];exact hl
 have gB:=gt_of (lg:=encA A) (lg':=encA (setA A blk (.cells (Aq cs off ds)))) (k1:=ilA.length) tB' (ilA.length+1) (.inr (by omega)) (il2:=[]) (fp2:=[]) .nil;rw [List.append_nil,List.append_nil,e] at gB;have gC:GT (DX E (encA A) (encA (setA A blk (.cells (Aq cs off ds)))) ilA.length) ilA.length sA.fs (⟨none,.store n,[x,y],none⟩::ilB) ((wrOf ⟨none,.store n,[x,y],none⟩ {v:=Cz},Bp [x,y])::fpB) s1.fs:=.cons (.inr ⟨rfl,Aaw hE (Ay hx) hA hn hoff hd hsc⟩) gB;have gA:=gt_of (lg:=encA A) (lg':=encA (setA A blk (.cells (Aq cs off ds)))) (k1:=ilA.length) tA 0 (.inl (by omega)) (by rw [Nat.zero_add];exact gC);refine Aal (lg':=encA (setA A blk (.cells (Aq cs off ds)))) ilA.length (ilA.length+1+ilB.length) (fp:=_) (s1:=s1) (il:=ilA++⟨none,.store n,[x,y],none⟩::(ilB++r2)) (by rw [hlg];rw [show ilA++(⟨none,.store n,[x,y],none⟩:Ins)::(ilB++r2)=(ilA++⟨none,.store n,[x,y],none⟩::ilB)++r2 by simp,List.take_left' (by simp;omega)];exact gA) b2 ?_ (by omega) (by simp;omega) hok ?_ ?_
 ·rw [b3];exact a3
 ·have:(ilA++(⟨none,.store n,[x,y],none⟩:Ins)::(ilB++r2)).length-r2.length=ilA.length+1+ilB.length:=by simp;omega
  rw [←this];exact ht
 ·rw [show ilA++(⟨none,.store n,[x,y],none⟩:Ins)::(ilB++r2)=(ilA++⟨none,.store n,[x,y],none⟩::ilB)++r2 by simp,List.drop_left' (by simp;omega)];exact hst
end
end
section
open Go.RowKit
def News (E:Env) (A:Arena) (sz:Nat) (ys:List V) (v:V):Prop :=
 ∀(σ:FSt) (stp:Bool) (a:Act) (w:World) (h:Gh) (z:Value),E.relF (encA A) stp σ a w h→Ok σ h w v z →
  ∃(ad:Addr) (cap:Nat) (news:List Value),z=.slice (some ad) ys.length cap∧news.length=ys.length*sz∧(ys.flatMap cells).length=ys.length*sz∧(∀j u,news[j]?=some u→w.cell? (ad.add j)=some u)∧∀(j:Nat) v x,(ys.flatMap cells)[j]?=some v→news[j]?=some x→RepD w h.φ v x∧Af v=true
section
variable {E:Env} {S0:Sur} {l0:List (List V)} {s0:Bool} {A:Arena}
theorem News.slice {sz r:Nat} {ys:List V} (hne:ys≠[]):News E A sz ys (.slice r sz ys):=by
 intro σ stp a w h z R o;obtain ⟨ad,cp,news,ey,nl,fl,ncell,none1,nrep⟩:=A21 o hne;exact ⟨ad,cp,news,ey,nl,fl,ncell,nrep⟩
theorem News.sref (hE:InA E S0 l0 s0) {sz bn cap:Nat} {ys cs:List V} (hA:(bn,Ob.cells cs)∈A) (hfl:(ys.flatMap cells).length=ys.length*sz) (htk:cs.take (ys.length*sz)=ys.flatMap cells):News E A sz ys (.sref bn 0 ys.length cap):=by
 intro σ stp a w h z R o;obtain ⟨vs,et,h1,h2,h3⟩:=(hE.ar R).ok _ hA;have hle:ys.length*sz≤cs.length:=by
  have:=congrArg List.length htk;rw [List.length_take,hfl] at this;omega
 refine ⟨⟨bn,0,none⟩,cap,vs.toList.take (ys.length*sz),Kt o,by rw [List.length_take];simp;omega,hfl,fun j u hu=>?_,fun j v x hv hx=>?_⟩
 ·have hj:j<ys.length*sz:=by have:=(List.getElem?_eq_some_iff.1 hu).1;rw [List.length_take] at this;omega
  rw [List.getElem?_take_of_lt hj] at hu;rw [Addr.add_lit,Nat.zero_add,cell_of_row w bn j vs et (0,0) h1];simpa using hu
 ·have hj:j<ys.length*sz:=by have:=(List.getElem?_eq_some_iff.1 hx).1;rw [List.length_take] at this;omega
  rw [List.getElem?_take_of_lt hj] at hx;rw [←htk,List.getElem?_take_of_lt hj] at hv;exact h3 j v x hv (by simpa using hx)
theorem Add {s:St} {K:St→Prop} {d t blk off n cap:Nat} {x y:X} {rest:List Ins} (hx:evXs s.env [x,y]=some [.sref blk off n cap,.nils]) (hk:Steps E rest K (s.put (some d) (.bool false))):Steps E (⟨some d,.raw 8 0 t,[x,y],none⟩::rest) K s:=by
 refine Step1.raw fun slots ops o i ro n' a w h hc hs hi R Q next hn=>?_
 obtain ⟨os,cc⟩:=Ba hc;have hgo:=Au cc rfl;obtain ⟨p,q,u,e,e1,e2,rfl⟩:=A10 cc.op;obtain ⟨v1,v2,hu,o1,o2⟩:=(B9 R.1 cc.xs (Ay hx)).two;simp only [List.cons.injEq,and_true] at hu;obtain ⟨hu1,hu2⟩:=hu;subst hu1 hu2;have hq:=Ku o2;have ep:=Kt o1;have hex:(execOp a.eval o).run E.P w=.ok (.value (.bool false)) w:=by
  have g1:(eqGuard .eql t p q (.slice (some ⟨blk,off,none⟩) n cap) (.slice none 0 0)).run E.P w=.ok () w:=by rfl
  have g2:(binOp .eql t (.slice (some ⟨blk,off,none⟩) n cap) (.slice none 0 0)).run E.P w=.ok (.bool false) w:=Lib.run_eql_slice_nil w t e (some ⟨blk,off,none⟩) n cap 0 0 e2;simp only [execOp,e1,ep,hq,Sem.run_bind,g1,g2,Result.andThen_ok,Sem.run_pure]
 refine B5 (x:=.bool false) (w':=w) hi (Ai hgo) (At cc.op) (.inl hex) (hn _ _ w h hk ?_ rfl);show E.relF _ _ _ _ _ _;rw [(Bq _ _ _).1,(Bq _ _ _).2,Dj];exact Bk (eff:={v:=.bool false}) cc R R.1 (.data (.bool _)) rfl
theorem Qv (hE:InA E S0 l0 s0) {K:St→Prop} {s:St} {d:Nat} {x y:X} {sz bytes e b0:Nat} {v:V} {ys zs:List V} {rest:List Ins} (hx:evXs s.env [x,y]=some [.sref b0 0 0 0,v]) (hl:s.log=encA A) (hN:News E A sz ys v) (hz0:V0 E.P e=some zs) (h0:0<sz) (hb:ys.length*bytes≤2^47) (hm:ys.length≤2^47) (hne:ys≠[])
  (hk:∀blk cap,ys.length≤cap→blk∉A.map (·.1)→Steps E rest K {s.put (some d) (.sref blk 0 ys.length cap) with log:=encA ((blk,.cells (ys.flatMap cells++(List.replicate (cap-ys.length) zs).flatten))::A)}):Steps E (⟨some d,.append sz bytes e,[x,y],none⟩::rest) K s:=by
 refine Step1.raw fun slots ops o i ro n a w h hc hs hi R Q next hn=>?_
 obtain ⟨os,cc⟩:=Ba hc;obtain ⟨c,p,q,t,ie,z,ho,hcal,hca,hct,ht,hie,hz,hzs,rfl,rfl,rfl⟩:=A6y cc.op;obtain ⟨u,v',huv,hu,hv'⟩:=(B9 R.1 cc.xs (Ay hx)).two;cases huv;have R':E.relF (encA A) s.stp s.fs a w h:=by rw [←hl];exact R
 have hzs0:K9 z.cells.toList=some zs:=by unfold V0 at hz0;rw [hie] at hz0;simp only [hz] at hz0;exact hz0
 obtain ⟨ad,cp,news,ey,nl,fl,ncell,nrep⟩:=hN _ _ _ _ _ _ R' hv';have hpos:0<ys.length:=List.length_pos_iff.2 hne;have ea:c.args=#[p,q]:=by rw [←Array.toList_inj];simpa using hca
 have et:c.argTypes=#[t,t]:=by rw [←Array.toList_inj];simpa using hct
 have hrun:=run_append_grow (P:=E.P) w t o.type e ie z ht hie hz ⟨b0,0,none⟩ 0 0 [] (by simp) (fun j v hv=>by simp at hv) ad ys.length cp news nl ncell (by omega) (by omega) (by rw [Nat.zero_add,nextslicecap_zero hpos];omega);simp only [Nat.zero_add] at hrun;have hge:=grownCap_ge w ys.length 0 e;obtain ⟨g,hg⟩:∃g,grownCap w ys.length 0 e=g:=⟨_,rfl⟩;rw [hg] at hrun hge;have e0:(([]:List Value).toArray++news.toArray++Builtin.zeroCells z.cells (g-ys.length))=(news.toArray++Builtin.zeroCells z.cells (g-ys.length)):=by simp
 rw [e0] at hrun;have hex:(execOp a.eval o).run E.P w=.ok (.value (.slice (some ⟨w.heap.size,0,none⟩) ys.length g)) (w.drew.alloc (.cells (news.toArray++Builtin.zeroCells z.cells (g-ys.length)) e)):=by
  simp only [execOp,ho,resolve,hcal,ea,et,Sem.run_bind,Sem.run_pure,Result.andThen_ok,Go.invoke,builtin];simp [Kt hu,ey,hrun]
 have R1:=M3 R';have zr:=A03 (w:=w.drew.alloc (.cells (news.toArray++Builtin.zeroCells z.cells (g-ys.length)) e)) (φ:=h.φ) hzs0 (g-ys.length);obtain ⟨R2,hnm⟩:=hE.fresh R1 (.cells (news.toArray++Builtin.zeroCells z.cells (g-ys.length)) e) (.cells (ys.flatMap cells++(List.replicate (g-ys.length) zs).flatten)) (fun ext=>⟨_,e,heap_alloc_new w.drew _,by rw [Array.size_append,List.length_append,zr.1];simp [nl,fl],fun j v x hv hx=>by
  rw [List.getElem?_append] at hv;rw [Array.getElem?_append] at hx;simp only [List.size_toArray,nl] at hx;rw [fl] at hv;by_cases hj:j<ys.length*ie.size
  ·rw [if_pos hj] at hv hx;simp only [List.getElem?_toArray] at hx;have:=nrep j v x hv hx;exact ⟨this.1.mono (Ext.trans (fun _ _ ho=>⟨ho,rfl,rfl⟩) ext),this.2⟩
  ·rw [if_neg hj] at hv hx;exact zr.2 _ v x hv hx⟩)
 exact B5 hi (Ai (Au cc rfl)) (At cc.op) (.inl hex) (hn _ _ _ h (hk w.heap.size g hge hnm) (Fc cc R2 ⟨.data (.sref _ _ _ _),Ap (w0:=w) (φ0:=h.φ) (.sref _ _ _ _)⟩ rfl) rfl)
end
end
section
open Go.RowKit
theorem Uy {P:Program} {f:FuncId} {A:Arena} {K:List (Nat×List V)} {args:List V} {r:V} {Φ:Arena→Prop} (h:CX P f A K args fun r' B=>r'=r∧Φ B):CE P f A K args r Φ:=by
 refine ⟨h.1,fun w φ xs h1 h2 h3 h4 h5 h6=>(h.2 w φ xs h1 h2 h3 h4 h5 h6).mono ?_⟩;rintro e w' ⟨φ',x,r',B,⟨rfl,hΦ⟩,he,hx,hB,mv⟩;exact ⟨φ',x,B,hΦ,he,hx,hB,mv⟩
section
variable {E:Env} {S0:Sur} {l0:List (List V)} {s0:Bool} {A:Arena}
theorem Wk.sub (hE:InA E S0 l0 s0) {s:St} {B D:Arena} (hl:s.log=encA A) (hp:A.Perm (B++D)):Wk E s {s with log:=encA B}:=fun a w h R=>by
 have R':E.relF (encA A) s.stp s.fs a w h:=by rw [←hl];exact R
 have hnd:=((hp.map (·.1)).nodup_iff).1 (hE.ar R').nd;rw [List.map_append,List.nodup_append] at hnd;exact Sp hE hl (fun p hm=>hp.symm.subset (List.mem_append.2 (.inl hm))) hnd.1 a w h R
theorem Ju (hE:InA E S0 l0 s0) {s:St} {B:Arena} (hl:s.log=encA A) (hp:A.Perm B):Wk E s {s with log:=encA B} :=
 Wk.sub hE (D:=[]) hl (by rw [List.append_nil];exact hp)
theorem Adc (hE:InA E S0 l0 s0) {ro:Option Nat} {ic:IC} {Q:Exit→St→Prop} {s:St} (hl:s.log=encA A) (k:(A.map (·.1)).Nodup→Tr E ro ic Q s):Tr E ro ic Q s:=by
 intro c hc n a w g R Q' hq;have R':E.relF (encA A) s.stp s.fs a w g:=by rw [←hl];exact R
 exact k (hE.ar R').nd c hc n a w g R Q' hq
end
end
section
open Go.RowKit
theorem Aav {A:Arena} {b:Nat} {o:Ob} (hnd:(A.map (·.1)).Nodup) (h:(b,o)∈A):setA A b o=A:=by
 unfold setA;have e:A.map (fun p=>if p.1=b then (b,o) else p)=A.map id:=List.map_congr_left fun p hp=>by
  by_cases hb:p.1=b
  ·rw [if_pos hb]
   induction A with
   | nil=>cases hp
   | cons q A ih =>
     rw [List.map_cons,List.nodup_cons] at hnd;rcases List.mem_cons.1 hp with rfl | hp'<;>rcases List.mem_cons.1 h with h' | h'
     ·exact h'
     ·exact absurd (List.mem_map.2 ⟨_,h',hb.symm⟩) hnd.1
     ·subst h';exact absurd (List.mem_map.2 ⟨_,hp',hb⟩) hnd.1
     ·exact ih hnd.2 h' hp'
  ·rw [if_neg hb];rfl
 rw [e,List.map_id]
section
variable {E:Env} {σ:FSt} {S0:Sur} {l0:List (List V)} {s0:Bool} {A:Arena}
theorem Acp (hE:InA E S0 l0 s0) (hys:E.ys=noYs) (hlk:E.lk=fun _=>True) {x y:X} {blk off:Nat} {cs:List V} {v:V} (hx:[x,y].mapM (evX σ)=some [.rptr blk off,v]) (hA:(blk,Ob.cells cs)∈A) (hoff:off<cs.length) (hcs:cs.set off v=cs) (hv:isD v=true) (hsc:Af v=true) :
  Does (E.pinA A) σ ⟨none,.store 1,[x,y],none⟩ {v:=Cz} (Bp [x,y]):=by
 refine .sem fun τ hτ slots ops i o ro n log stp a w h hc hs hi R Q next hn=>?_
 have hx':[x,y].mapM (evX τ)=some [.rptr blk off,v]:=C5 hx fun l hl=>hτ l hl;obtain ⟨os,cc⟩:=Ba hc;have hgo:=Au cc rfl;have hdf:=At cc.op;obtain ⟨t,p,q,e1,e2,rfl⟩:=K7 cc.op;obtain ⟨u,u',hu,o1,o2⟩:=(B9 R.1 cc.xs hx').two;simp only [List.cons.injEq,and_true] at hu;obtain ⟨hu1,rfl⟩:=hu;subst hu1;have ep:=F5 o1;have hll:log=encA A:=R.1.sur.1;have R':E.relF (encA A) stp τ a w h:=by rw [←hll];exact Z5 hys hlk R
 have hAr:=hE.ar R';obtain ⟨vs,et,h1,h2,h3⟩:=hAr.ok _ hA;have rv:RepD w h.φ v (a.eval q):=Lz hv o2.1;have hc1:(a.eval q).cells=#[a.eval q]:=(Cr o2.1 hsc).2;have hone:∀z∈[a.eval q],z.oneCell'=true:=fun z hz=>by
  obtain rfl:z=a.eval q:=by simpa using hz
  exact (Cr o2.1 hsc).1
 have hrun:=run_storeCells_at E.P blk off et [a.eval q] 0 vs w h1 (by simp;omega) hone;simp only [Nat.add_zero] at hrun;have R2:=hE.step R' (B:=setA A blk (.cells (cs.set off v))) (fun b hb hn=>setRow_other w blk b (vs.toList.take off++[a.eval q]++vs.toList.drop (off+[a.eval q].length)).toArray (fun e=>hn (e▸List.mem_map.2 ⟨_,hA,rfl⟩))) (by simp) rfl rfl rfl (fun p hp=>.inl (by rw [←C4 A blk (.cells (cs.set off v))];exact List.mem_map.2 ⟨p,hp,rfl⟩)) (fun p hp=>by rw [C4];exact List.mem_map.2 ⟨p,hp,rfl⟩) (by rw [C4];exact hAr.nd) (fun ext p hp=>by
    rcases Mz hp with ⟨e,e'⟩ | ⟨hne,hp⟩
    ·rw [e,e'];refine ⟨_,et,setRow_heap w blk vs _ et (0,0) h1,by simp;omega,fun j u z hu hz=>?_⟩;rw [List.getElem?_toArray,Ga (by simp;omega)] at hz;by_cases ej:j=off
     ·subst ej;rw [List.getElem?_set_self hoff] at hu;rw [if_neg (by omega),if_pos (by simp)] at hz;cases hu;simp at hz;subst hz;exact ⟨rv.mono ext,hsc⟩
     ·rw [List.getElem?_set_ne (fun h=>ej h.symm)] at hu;have hz':vs[j]?=some z:=by
       by_cases h5:j<off
       ·rw [if_pos h5] at hz;simpa using hz
       ·rw [if_neg h5,if_neg (by simp;omega)] at hz;simpa using hz
      exact ⟨(h3 j u z hu hz').1.mono ext,(h3 j u z hu hz').2⟩
    ·exact (hAr.ok p hp).mono (setRow_other w blk p.1 _ hne) ext) (fun p hp=>by
    have hk:p.1∈A.map (·.1):=by rw [←C4 A blk (.cells (cs.set off v))];exact List.mem_map.2 ⟨p,hp,rfl⟩
    obtain ⟨q',hq',e⟩:=List.mem_map.1 hk;have:=hAr.lt q' hq';rw [←e];simpa using this)
 have hd:o.dst=none:=cc.d.symm;rw [hcs,Aav hAr.nd hA] at R2;have R3:=Ae4 hys hlk rfl R2;refine B5 (x:=undef) hi (Ai hgo) hdf (.inr ⟨?_,rfl⟩) (hn _ _ h (by rw [hd,hll];exact R3) rfl);simp only [execOp,e1,ep,Instr.storeAt,Instr.sureAddr,Sem.run_bind,Sem.run_pure,Result.andThen_ok,storeVar,Ds e2];rw [if_neg (by rw [hc1];simp),hc1];rw [hrun];rfl
theorem Ml (hE:InA E S0 l0 s0) (hys:E.ys=noYs) (hlk:E.lk=fun _=>True) {s:St} {K:List (List Loc×List Loc)→St→List Ins→Prop} {x y:X} {blk off:Nat} {cs:List V} {v:V} {rest:List Ins} (hx:evXs s.env [x,y]=some [.rptr blk off,v]) (hA:(blk,Ob.cells cs)∈A) (hoff:off<cs.length) (hcs:cs.set off v=cs) (hv:isD v=true) (hsc:Af v=true)
  (tr:TraceK (E.pinA A) s rest fun fp s' r'=>K (([],Bp [x,y])::fp) s' r'):TraceK (E.pinA A) s (⟨none,.store 1,[x,y],none⟩::rest) K :=
 .step (ins:=⟨none,.store 1,[x,y],none⟩) (eff:={v:=Cz}) (Acp hE hys hlk (Ay hx) hA hoff hcs hv hsc) tr
end
end
section
open Go.RowKit
def SY (S0:Sur):Sur:=fun log stp M w φ=>∃A ys,log=encA A++ys∧Ar w φ M A∧S0 ys stp (fun b=>M b∨b∈A.map (·.1)) w φ
theorem Ut {A B:Arena} {ys zs:List (List V)} (h:encA A++ys=encA B++zs):A=B∧ys=zs:=by
 simp only [encA,List.cons_append,List.nil_append,List.cons.injEq] at h;exact ⟨D3 (by unfold encA;rw [h.1]),h.2⟩
theorem Ai8 {S0:Sur} (h0:S0.ok):(SY S0).ok:=by
 refine ⟨?_,fun _ _ _ _ _ ⟨_,_,_,_,h4⟩=>h0.gl _ _ _ _ _ h4⟩;rintro log s M w φ M' w' φ' ⟨A,ys,rfl,h3,h4⟩ mv;obtain ⟨B,e,_,hB,hS⟩:=(Ke h0 ys s).move (encA A) s M w φ M' w' φ' ⟨A,rfl,rfl,h3,h4⟩ mv;obtain rfl:=D3 e;exact ⟨A,ys,rfl,hB,hS⟩
structure InY (E:Env) (S0:Sur) (l:Nat) (yl:YL):Prop where
 sub:Sub E.S (SY S0)
 ok:S0.ok
 yl:Fw E.P S0 yl l
def shS (S:Sur) (ys:List (List V)) (s0:Bool):Sur:=fun log stp M w φ=>stp=s0∧(∃A,log=encA A)∧S (log++ys) s0 M w φ
theorem shS_ok {S:Sur} (h:S.ok) (ys:List (List V)) (s0:Bool):(shS S ys s0).ok:=by
 refine ⟨?_,fun _ _ _ _ _ ⟨_,_,h3⟩=>h.gl _ _ _ _ _ h3⟩;rintro log s M w φ M' w' φ' ⟨h1,h2,h3⟩ mv;exact ⟨h1,h2,h.move _ _ _ _ _ _ _ _ h3 mv⟩
abbrev Env.atA (E:Env) (ys:List (List V)) (s0:Bool):Env:={E with S:=shS E.S ys s0,ys:=noYs,ok:=shS_ok E.ok ys s0,lk:=fun _=>True}
theorem InY.inA {E:Env} {S0:Sur} {l:Nat} {yl:YL} (hE:InY E S0 l yl) (ys:List (List V)) (s0:Bool):InA (E.atA ys s0) S0 ys s0:=by
 refine ⟨?_,hE.ok⟩;rintro log stp M w φ ⟨rfl,⟨A,rfl⟩,h⟩ hM;obtain ⟨M1,h1,h2,⟨A',ys',e,hA,hS⟩,back⟩:=hE.sub _ _ _ _ _ h hM;obtain ⟨rfl,rfl⟩:=Ut e;refine ⟨M1,h1,h2,⟨A,rfl,rfl,hA,hS⟩,?_⟩;rintro log' stp' w' φ' ⟨B,rfl,e2,hB,hS'⟩ ext own hs ht ho htp hou;exact ⟨e2,⟨B,rfl⟩,back _ _ _ _ ⟨B,ys,rfl,hB,hS'⟩ ext own hs ht ho htp hou⟩
theorem InY.inner {E:Env} {S0 S2:Sur} {l:Nat} {yl:YL} {cc:LC} (hE:InY E S0 l yl) (h:SurIn E.S S2):InY (E.inner cc S2 h.ok) S0 l yl:=⟨h.sub.trans hE.sub,hE.ok,hE.yl⟩
section
variable {E:Env} {A:Arena} {ys:List (List V)} {stp s0:Bool} {σ:FSt} {a:Act} {w:World} {h:Gh}
theorem Ae5 (R:E.relF (encA A++ys) stp σ a w h):(E.atA ys stp).relF (encA A) stp σ a w h:=by
 refine ⟨{R.1 with sur:=⟨rfl,⟨A,rfl⟩,R.1.sur⟩},fun l hl=>⟨?_,trivial⟩,R.2.2⟩;intro log x M w φ xs hp;exact False.elim hp
theorem Afj (hys:E.ys=noYs) (hlk:E.lk=fun _=>True) {log:List (List V)} (R:(E.atA ys s0).relF log stp σ a w h):∃B,log=encA B∧stp=s0∧E.relF (encA B++ys) s0 σ a w h:=by
 obtain ⟨e1,⟨B,rfl⟩,e3⟩:=R.1.sur;refine ⟨B,rfl,e1,{R.1 with sur:=e3},fun l hl=>⟨?_,by rw [hlk];trivial⟩,R.2.2⟩;intro log x M w φ xs hp;rw [hys] at hp;exact False.elim hp
end
section
variable {E:Env}
theorem Tr.inA (hys:E.ys=noYs) (hlk:E.lk=fun _=>True) {ro:Option Nat} {ic:IC} {Q:Exit→St→Prop} {s:St} {A:Arena} {ys:List (List V)} (hl:s.log=encA A++ys)
  (h:Tr (E.atA ys s.stp) ro ic (fun e t=>∃B,t.log=encA B∧Q e {t with log:=encA B++ys}) {s with log:=encA A}):Tr E ro ic Q s:=fun c hc n a w g R Q' hq=>by
 have R0:E.relF (encA A++ys) s.stp s.fs a w g:=by rw [←hl];exact R
 refine h c hc n a w g (Ae5 R0) Q' fun e t a' w' h' ⟨B,hB,hQ⟩ R' hy=>hq e _ a' w' h' hQ ?_ hy;obtain ⟨B',e1,e2,R2⟩:=Afj hys hlk R';rw [hB] at e1;obtain rfl:=D3 e1;show E.relF (encA B++ys) t.stp _ a' w' h';rw [e2];exact R2
theorem Wk.inA (hys:E.ys=noYs) (hlk:E.lk=fun _=>True) {s t:St} {A B:Arena} {ys:List (List V)} (hl:s.log=encA A++ys) (h:Wk (E.atA ys s.stp) {s with log:=encA A} {t with log:=encA B}):Wk E s {t with log:=encA B++ys}:=fun a w g R=>by
 have R0:E.relF (encA A++ys) s.stp s.fs a w g:=by rw [←hl];exact R
 obtain ⟨h',R',hy⟩:=h a w g (Ae5 R0);obtain ⟨B',e1,e2,R2⟩:=Afj hys hlk R';obtain rfl:=D3 e1;refine ⟨h',?_,hy⟩;show E.relF (encA B++ys) t.stp _ a w h';have e2:t.stp=s.stp:=e2;rw [e2];exact R2
theorem Zy (hys:E.ys=noYs) (hlk:E.lk=fun _=>True) {ys:List (List V)} {s0:Bool} {il2:List Ins} {K:St→Prop}:∀{il1:List Ins} {s:St} {A:Arena},s.log=encA A++ys→s.stp=s0 →
  Steps (E.atA ys s0) il1 (fun t=>∃B,t.log=encA B∧Steps E il2 K {t with log:=encA B++ys}) {s with log:=encA A}→Steps E (il1++il2) K s
 | [],s,A,hl,hs,h=>by
   obtain ⟨B,e,h⟩:=h;have e:encA A=encA B:=e;obtain rfl:=D3 e;have es:({{s with log:=encA A} with log:=encA A++ys}:St)=s:=by cases s;simp only at hl ⊢;rw [hl]
   rw [es] at h;exact h
 | i::r,s,A,hl,hs,h=>by
   refine Step1.raw fun slots ops o j ro n a w g hc hsl hi R Q next hn=>?_
   have R0:E.relF (encA A++ys) s0 s.fs a w g:=by rw [←hl,←hs];exact R
   have R1:(E.atA ys s0).rel {s with log:=encA A} a w g:=by
    show (E.atA ys s0).relF (encA A) s.stp s.fs a w g;rw [hs];exact Ae5 R0
   refine O6 h hc hsl hi R1 fun s' a' w' h' k' R' hy=>?_;obtain ⟨B,e1,e2,R2⟩:=Afj hys hlk R';have es:({{s' with log:=encA B++ys} with log:=encA B}:St)=s':=by cases s';simp only at e1 ⊢;rw [e1]
   refine hn {s' with log:=encA B++ys} a' w' h' (Zy hys hlk (A:=B) rfl e2 (by rw [es];exact k')) ?_ hy;show E.relF (encA B++ys) s'.stp s'.fs a' w' h';rw [e2];exact R2
theorem Hh (m:Nat) (hys:E.ys=noYs) (hlk:E.lk=fun _=>True) {ys:List (List V)} {il:List Ins} {K:St→Prop} {s:St} {A:Arena} (hl:s.log=encA A++ys)
  (h:Steps (E.atA ys s.stp) (il.take m) (fun t=>∃B,t.log=encA B∧Steps E (il.drop m) K {t with log:=encA B++ys}) {s with log:=encA A}):Steps E il K s:=by
 have:=Zy hys hlk hl rfl h
 rwa [List.take_append_drop] at this
end
section
variable {E:Env} {S0:Sur} {l:Nat} {yl:YL}
theorem Aaq {P:Program} {S2 S:Sur} (hs:Sub S2 S) (hy:Fw P S yl l):Fw P S2 yl l:=by
 intro log x M w φ xs hp h htop hM hrep;obtain ⟨M1,h1,h2,h3,back⟩:=hs log false M w φ h hM;obtain ⟨fn,tmps,asg,body,hrun,hround⟩:=hy log x M1 w φ xs hp h3 htop h2 hrep;refine ⟨fn,tmps,asg,body,hrun,fun n=>(hround n).mono ?_⟩;rintro e w' ⟨b,φ',rfl,sur,ext,own,hs,ht,hos,htp,hou⟩;exact ⟨b,φ',rfl,back _ _ _ _ sur ext own hs ht hos htp hou,ext,fun k hk=>own k (h1 k hk),hs,ht,hos,htp,hou⟩
def yaL (yl:YL):YL:=fun log=>∃A ys,log=encA A++ys∧yl ys
theorem Adz {P:Program} (hy:Fw P S0 yl l):Fw P (SY S0) (yaL yl) l:=by
 rintro log x M w φ xs ⟨A',ys',e',hp⟩ ⟨A,ys,rfl,hA,hS⟩ htop hM hrep;rw [List.append_assoc] at e';obtain ⟨rfl,rfl⟩:=Ut e';obtain ⟨fn,tmps,asg,body,hrun,hround⟩:=hy ys x (fun b=>M b∨b∈A.map (·.1)) w φ xs hp hS htop (fun b hb=>by
  rcases hb with hb | hb
  ·exact hM b hb
  ·obtain ⟨p,hp,rfl⟩:=List.mem_map.1 hb;exact hA.lt p hp) hrep
 refine ⟨fn,tmps,asg,body,hrun,fun n=>(hround n).mono ?_⟩;rintro e w' ⟨b,φ',rfl,sur,ext,own,hs,ht,hos,htp,hou⟩;refine ⟨b,φ',rfl,⟨A,ys++[x],by rw [List.append_assoc],⟨hA.nd,fun p hp=>(hA.ok p hp).mono (own p.1 (.inr (List.mem_map.2 ⟨p,hp,rfl⟩))).1 ext,hA.fr,fun p hp=>Nat.lt_of_lt_of_le (hA.lt p hp) hs,fun p hp=>(own p.1 (.inr (List.mem_map.2 ⟨p,hp,rfl⟩))).2.trans (hA.z p hp)⟩,sur⟩,ext,fun k hk=>own k (.inl hk),hs,ht,hos,htp,hou⟩
theorem ok_yldN {h:Gh} {w:World} {σ:FSt} {x:Value} (o:Ok σ h w (.func (.yield l) [] []) x):x=.func (.yield l) #[] #[]:=by
 obtain ⟨q,_⟩:=o;have hz:∀f' c':Array Value,([]:List V).length=f'.size→([]:List V).length=c'.size→f'=#[]∧c'=#[]:=fun f' c' h1 h2=>⟨Array.eq_empty_of_size_eq_zero (by simpa using h1.symm),Array.eq_empty_of_size_eq_zero (by simpa using h2.symm)⟩;cases q with
 | data q=>cases q with
   | func _ _ _ f' c' hf hc h1 h2=>obtain ⟨rfl,rfl⟩:=hz f' c' hf hc;rfl
 | func _ _ _ f' c' hf hc h1 h2=>obtain ⟨rfl,rfl⟩:=hz f' c' hf hc;rfl
theorem Mn (hE:InY E S0 l yl) {K:St→Prop} {s:St} {d:Option Nat} {xs:List X} {rest:List Ins} {vs us:List V} {ids:List Nat} {A:Arena} {ys:List (List V)} (hx:evXs s.env xs=some (.func (.yield l) [] []::vs)) (hd:toDs s.fs.b vs=some (us,ids)) (hl:s.log=encA A++ys) (hstp:s.stp=false) (hp:yl (ys++[us]))
  (hk:∀b:Bool,Steps E rest K ((({s with log:=encA A++(ys++[us]),stp:=!b}:St).eff {v:=.bool b,wb:=freeze s.fs.b ids}).put d (.bool b))):Steps E (⟨d,.callv,xs,none⟩::rest) K s:=by
 refine Step1.raw fun slots ops o i ro n a w h hc hs hi R Q next hn=>?_
 obtain ⟨os,cc⟩:=Ba hc;have hgo:=Au cc rfl;obtain ⟨c,t,e1,e2,rfl⟩:=Io cc.op;have hO:=B9 R.1 cc.xs (Ay hx);have R':E.relF (encA A++ys) false s.fs a w h:=by rw [←hl,←hstp];exact R
 cases hO with
 | cons o1 o2 =>
   have ef:=ok_yldN o1;obtain ⟨l1,l2⟩:=Do o2;obtain ⟨h1,R1,ext1,q1,q2,q3,hrep⟩:=De R'.1 hd;obtain ⟨fn,tmps,asg,body,hrun,hround⟩:=(Aaq hE.sub (Adz hE.yl)) (encA A++ys) us h1.M w h1.φ (c.args.map a.eval) ⟨A,ys++[us],by rw [List.append_assoc],hp⟩ R1.sur R1.top R1.mine (hrep _ l1 l2);have hr:(execOp a.eval o).run E.P w=.ok (.round l fn tmps asg body) w:=by
    simp only [execOp,e1,resolve,e2,Sem.run_bind,ef,Deferred.ofValue,Sem.run_pure,Result.andThen_ok,Go.invoke];simpa using hrun
   unfold wpOpIn;simp only [hi,Ai hgo,if_true,Oper.wpIn];refine ⟨fun _ _=>trivial,?_⟩;rw [Oper.semAt_eq _ _ _ (At cc.op),hr];simp only [Oper.uponIn];refine ⟨fun e=>by simp [Dm,Fence.wide] at e,?_⟩;have hR:RoundIn (Dm ro) (n-1) E.P l fn tmps asg body w _:=hround (n-1);refine hR.mono ?_;rintro e w' ⟨b,φ',rfl,sur,ext,own,hs,ht,_⟩;have R2:=If R1 ext own hs ht sur;refine hn _ _ _ {h1 with φ:=φ'} (hk b) ?_ q3;have ed:d=o.dst:=cc.d;have efs:((({s with log:=encA A++(ys++[us]),stp:=!b}:St).eff {v:=.bool b,wb:=freeze s.fs.b ids}).put d (.bool b)).fs=(s.fs.eff {v:=.bool b,wb:=freeze s.fs.b ids}).put d (.bool b):=by
    cases d with
    | none=>exact Gc _ _
    | some d=>show ((St.eff _ _).put (some d) _).fs=_;rw [Dj,Gc];rfl
   show E.relF _ _ _ _ _ _;rw [efs,(Bq _ _ _).1,(Bq _ _ _).2,(G3 _ _).1,(G3 _ _).2];refine ⟨?_,by rw [show ({h1 with φ:=φ'}:Gh).y=h.y from q3];exact R.2⟩;rw [ed];have R3:Rel E.nt E.S (encA A++(ys++[us])) (!b) (s.fs.eff {v:=.bool b,wb:=freeze s.fs.b ids}) a w' {h1 with φ:=φ'}:=by rw [←List.append_assoc];exact R2
   cases hd:o.dst with
   | none=>exact R3
   | some d =>
     refine R3.put (cc.dst d (by rw [hd])) (.data (.bool b)) ?_;intro j u z hu hz;cases j with
     | zero=>simp [cells] at hu;subst hu;intro r' sz xs' e;cases e
     | succ j=>simp [cells] at hu
end
end
section
open Go.RowKit
def CY (P:Program) (f:FuncId) (l:Nat) (yl:YL) (ys0:List (List V)) (A:Arena) (args:List V) (Φ:V→List (List V)→Bool→Arena→Prop):Prop :=
 C9 P f=true∧∀(S:Sur),S.ok→Fw P S yl l→∀(w:World) (φ:Nat→Nat) (xs:Array Value),(∀b,w.heap.size≤b→φ b=0)→Ar w φ (fun _=>False) A→S ys0 false (fun b=>b∈A.map (·.1)) w φ→RepL w φ args xs →
  Calls P f xs w fun e w'=>∃φ' x r ys stp B,Φ r ys stp B∧e=.returned x∧RepR w' φ' r x∧Ar w' φ' (fun _=>False) B∧S ys stp (fun b=>b∈B.map (·.1)) w' φ'∧∀b,w'.heap.size≤b→φ' b=0
def SY1 (S:Sur) (A:Arena) (ys0:List (List V)):Sur:=fun log stp M w φ=>(log=[]∧SY S (encA A++ys0) stp M w φ)∨(log≠[]∧SY S log stp M w φ)
theorem SY1_ok {S:Sur} (h:S.ok) (A:Arena) (ys0:List (List V)):(SY1 S A ys0).ok:=by
 refine ⟨?_,fun l s M w φ hs=>?_⟩
 ·rintro log s M w φ M' w' φ' (⟨h1,h2⟩ | ⟨h1,h2⟩) mv
  ·exact .inl ⟨h1,(Ai8 h).move _ _ _ _ _ _ _ _ h2 mv⟩
  ·exact .inr ⟨h1,(Ai8 h).move _ _ _ _ _ _ _ _ h2 mv⟩
 ·rcases hs with ⟨_,h2⟩ | ⟨_,h2⟩<;>exact (Ai8 h).gl _ _ _ _ _ h2
theorem Age (A:Arena) (ys:List (List V)):encA A++ys≠[]:=by simp [encA]
theorem Ady {P:Program} {f nt:Nat} {ic:IC} {rs:List ResultVar} (hmix:P.follows .mixedOrders=true) (hch:chkF P f=some (nt,ic,rs)) {l:Nat} {yl:YL} {ys0:List (List V)} {A:Arena} {args:List V} {Φ:V→List (List V)→Bool→Arena→Prop} (hlen:args.length≤nt)
  (hT:∀(S:Sur) (ok:S.ok) (S1:Sur),InY (env0 P hmix nt S ok) S1 l yl→Tr (env0 P hmix nt S ok) none ic (A30 P rs fun r s=>∃B ys,s.log=encA B++ys∧Φ r ys s.stp B) {entry args with log:=encA A++ys0}):CY P f l yl ys0 A args Φ:=by
 obtain ⟨fn,c,hf,hb,hnt,hc,rfl,hcall⟩:=L6 hch;refine ⟨hcall,fun S ok hy w φ xs htop hA hS hrep=>?_⟩;have hT1:=hT (SY S) (Ai8 ok) S ⟨Sub.refl _,ok,hy⟩;have e0:(fun b=>False∨b∈A.map (·.1))=fun b=>b∈A.map (·.1):=by funext b;simp
 have hT2:Tr (env0 P hmix nt (SY1 S A ys0) (SY1_ok ok A ys0)) none ic (A30 P fn.results.toList fun r s=>∃B ys,s.log=encA B++ys∧Φ r ys s.stp B) (entry args):=by
  intro c hc n a w1 g R Q' hq;have hs0:SY S (encA A++ys0) false g.M w1 g.φ:=by
   rcases R.1.sur with ⟨_,h2⟩ | ⟨h1,_⟩
   ·exact h2
   ·exact absurd rfl h1
  have R1:(env0 P hmix nt (SY S) (Ai8 ok)).rel {entry args with log:=encA A++ys0} a w1 g:=by
   refine ⟨{R.1 with sur:=hs0},fun l hl=>⟨?_,trivial⟩,R.2.2⟩;intro log x M w φ xs hp;exact False.elim hp
  refine hT1 c hc n a w1 g R1 Q' fun e t a' w' h' hQ R' hy=>?_;refine hq e t a' w' h' hQ ?_ hy;obtain ⟨B,ys,k1,k2⟩:=R'.1.sur;have k1:t.log=encA B++ys:=k1;refine ⟨{R'.1 with sur:=.inr ⟨by rw [k1];exact Age _ _,R'.1.sur⟩},fun l hl=>⟨?_,trivial⟩,R'.2.2⟩;intro log x M w φ xs hp;exact False.elim hp
 refine (Oy (E:=env0 P hmix nt (SY1 S A ys0) (SY1_ok ok A ys0)) (φ:=φ) (y:=none) hf hb hc hnt hlen hrep.1 (fun i v x h1 h2=>⟨.data (hrep.2 i v x h1 h2),fun σ h=>Ap (hrep.2 i v x h1 h2)⟩)
  (.inl ⟨rfl,A,ys0,rfl,hA,by rw [e0];exact hS⟩) htop (fun _ h=>((by cases h))) hT2).mono ?_
 rintro e w' ⟨r,s',h',x,rfl,hr,hsur,ht,B,ys,hk,hΦ⟩;have hs':SY S s'.log s'.stp h'.M w' h'.φ:=by
  rcases hsur with ⟨h1,_⟩ | ⟨_,h2⟩
  ·rw [hk] at h1;exact absurd h1 (Age _ _)
  ·exact h2
 obtain ⟨B',ys',k1,k3,k4⟩:=hs';rw [hk] at k1;obtain ⟨rfl,rfl⟩:=Ut k1;exact ⟨h'.φ,x,r,ys,s'.stp,B,hΦ,rfl,hr,⟨k3.nd,k3.ok,fun _ _ h=>h,k3.lt,k3.z⟩,ok.move _ _ _ _ _ _ _ _ k4 ⟨Ext.refl _ _,fun _ _ _=>⟨rfl,rfl⟩,Nat.le_refl _,rfl,rfl,rfl,fun b hb=>.inl (.inr hb),ht⟩,ht⟩
structure SC (S0:Sur) (F:Arena) (M1:Nat→Prop) (w0:World) (φ0:Nat→Nat) (ys:List (List V)) (stp:Bool) (M:Nat→Prop) (w:World) (φ:Nat→Nat):Prop where
 ar:Ar w φ (fun b=>M1 b∨M b) F
 sur:S0 ys stp (fun b=>(M1 b∨M b)∨b∈F.map (·.1)) w φ
 ext:Ext w0 φ0 w φ
 own:∀b,M1 b→¬M b∧w.heap[b]?=w0.heap[b]?∧φ b=φ0 b
 lt:∀b,M1 b→b<w0.heap.size
 size:w0.heap.size≤w.heap.size
 os:w.os=w0.os
 tape:w.tape=w0.tape
 output:w.output=w0.output
 top:∀b,w.heap.size≤b→φ b=0
theorem SC_ok {S0:Sur} (h0:S0.ok) {F:Arena} {M1:Nat→Prop} {w0:World} {φ0:Nat→Nat}:Sur.ok (SC S0 F M1 w0 φ0):=by
 refine ⟨?_,fun _ _ _ _ _ h=>h0.gl _ _ _ _ _ h.sur⟩;intro ys stp M w φ M' w' φ' h mv;have old:∀p∈F,w'.heap[p.1]?=w.heap[p.1]?∧φ' p.1=φ p.1:=fun p hp=>mv.old _ (h.ar.lt p hp) fun hM=>h.ar.fr p hp (.inr hM);have own:∀b,M1 b→w'.heap[b]?=w.heap[b]?∧φ' b=φ b:=fun b hb=>mv.old b (Nat.lt_of_lt_of_le (h.lt b hb) h.size) (h.own b hb).1;exact {
  ar:=⟨h.ar.nd,fun p hp=>(h.ar.ok p hp).mono (old p hp).1 mv.ext,fun p hp hM=>by
   rcases hM with hM | hM
   ·exact h.ar.fr p hp (.inl hM)
   ·rcases mv.mine _ hM with h1 | h1
    ·exact h.ar.fr p hp (.inr h1)
    ·have:=h.ar.lt p hp;omega,fun p hp=>Nat.lt_of_lt_of_le (h.ar.lt p hp) mv.size,fun p hp=>(old p hp).2.trans (h.ar.z p hp)⟩
  sur:=h0.move _ _ _ _ _ _ _ _ h.sur ⟨mv.ext,fun b hb hn=>mv.old b hb fun hM=>hn (.inl (.inr hM)),mv.size,mv.os,mv.tape,mv.output,fun b hb=>by
   rcases hb with (hb | hb) | hb
   ·exact .inl (.inl (.inl hb))
   ·exact (mv.mine b hb).imp (fun h=>.inl (.inr h)) id
   ·exact .inl (.inr hb),mv.top⟩
  ext:=h.ext.trans mv.ext
  own:=fun b hb=>⟨fun hM=>by
   rcases mv.mine b hM with h1 | h1
   ·exact (h.own b hb).1 h1
   ·have:=h.lt b hb;have:=h.size;omega,(own b hb).1.trans (h.own b hb).2.1,(own b hb).2.trans (h.own b hb).2.2⟩
  lt:=h.lt
  size:=Nat.le_trans h.size mv.size
  os:=mv.os.trans h.os
  tape:=mv.tape.trans h.tape
  output:=mv.output.trans h.output
  top:=mv.top}
theorem Ai9 {P:Program} {S0:Sur} {l:Nat} {yl:YL} (hy:Fw P S0 yl l) {F:Arena} {M1:Nat→Prop} {w0:World} {φ0:Nat→Nat}:Fw P (SC S0 F M1 w0 φ0) yl l:=by
 intro ys x M w φ xs hp h htop hM hrep;obtain ⟨fn,tmps,asg,body,hrun,hround⟩:=hy ys x (fun b=>(M1 b∨M b)∨b∈F.map (·.1)) w φ xs hp h.sur htop (fun b hb=>by
  rcases hb with (hb | hb) | hb
  ·exact Nat.lt_of_lt_of_le (h.lt b hb) h.size
  ·exact hM b hb
  ·obtain ⟨p,hp,rfl⟩:=List.mem_map.1 hb;exact h.ar.lt p hp) hrep
 refine ⟨fn,tmps,asg,body,hrun,fun n=>(hround n).mono ?_⟩;rintro e w' ⟨b,φ',rfl,sur,ext,own,hs,ht,hos,htp,hou⟩;refine ⟨b,φ',rfl,?_,ext,fun k hk=>own k (.inl (.inr hk)),hs,ht,hos,htp,hou⟩;have oF:∀p∈F,w'.heap[p.1]?=w.heap[p.1]?∧φ' p.1=φ p.1:=fun p hp=>own p.1 (.inr (List.mem_map.2 ⟨p,hp,rfl⟩));exact {
  ar:=⟨h.ar.nd,fun p hp=>(h.ar.ok p hp).mono (oF p hp).1 ext,h.ar.fr,fun p hp=>Nat.lt_of_lt_of_le (h.ar.lt p hp) hs,fun p hp=>(oF p hp).2.trans (h.ar.z p hp)⟩
  sur:=sur
  ext:=h.ext.trans ext
  own:=fun k hk=>⟨(h.own k hk).1,(own k (.inl (.inl hk))).1.trans (h.own k hk).2.1,(own k (.inl (.inl hk))).2.trans (h.own k hk).2.2⟩
  lt:=h.lt
  size:=Nat.le_trans h.size hs
  os:=hos.trans h.os
  tape:=htp.trans h.tape
  output:=hou.trans h.output
  top:=ht}
section
variable {E:Env} {S0:Sur} {l:Nat} {yl:YL} {σ:FSt} {a:Act} {w:World} {h:Gh}
theorem wp_callY (hE:InY E S0 l yl) {F A1:Arena} {ys:List (List V)} {ro:Option Nat} {n i:Nat} {ops:Array Oper} {slots:List (Option Nat)} {o:Oper} {ins:Ins} (R:E.relF (encA (F++A1)++ys) false σ a w h) {f:FuncId} {vs us:List V} {ids:List Nat} {Φ:V→List (List V)→Bool→Arena→Prop} {os:List Operand} (cc:Comp E.P E.nt slots o ins os) (hd:toDs σ.b vs=some (us,ids)) (hC:CY E.P f l yl ys A1 us Φ)
  (xs:Array Value) (hl:vs.length=xs.size) (hr:∀(i:Nat) v x,vs[i]?=some v→xs[i]?=some x→Rep w h.φ h.β h.y.l v x) (hi:ops[i]?=some o) (hw:Region.wanted o (yielded ops a.tmps)=true) (hrun:(execOp a.eval o).run E.P w=.ok (.enter f xs) w)
  {Q:Exit→Act→World→Prop} {next:Act→World→Prop} (hn:∀r ys' stp' B,Φ r ys' stp' B→∀a' w' h',E.relF (encA (F++B)++ys') stp' ((σ.eff {v:=r,wb:=freeze σ.b ids}).put ins.d r) a' w' h'→h'.y=h.y→next a' w'):wpOpIn (Dm ro) n E.P ops Q i next a w:=by
 unfold wpOpIn;simp only [hi,hw,if_true,Oper.wpIn];refine ⟨fun _ _=>trivial,?_⟩;rw [Oper.semAt_eq _ _ _ (At cc.op),hrun];simp only [Oper.uponIn];refine ⟨fun e=>by simp [Dm,Fence.wide] at e,?_⟩;obtain ⟨h1,R1,ext1,q1,q2,q3,hrep⟩:=De R.1 hd;obtain ⟨M1,hM1,hlt1,⟨A0,ys0,e,hA,hS⟩,back⟩:=hE.sub _ _ _ _ _ R1.sur R1.mine;obtain ⟨rfl,rfl⟩:=Ut e;have hnd:=hA.nd;rw [List.map_append,List.nodup_append] at hnd;have arA:Ar w h1.φ (fun _=>False) A1:=⟨hnd.2.1,fun p hp=>hA.ok p (List.mem_append.2 (.inr hp)),fun _ _ h=>h,fun p hp=>hA.lt p (List.mem_append.2 (.inr hp)),fun p hp=>hA.z p (List.mem_append.2 (.inr hp))⟩;have sc0:SC S0 F M1 w h1.φ ys false (fun b=>b∈A1.map (·.1)) w h1.φ:={
  ar:=⟨hnd.1,fun p hp=>hA.ok p (List.mem_append.2 (.inl hp)),fun p hp hM=>by
   rcases hM with hM | hM
   ·exact hA.fr p (List.mem_append.2 (.inl hp)) hM
   ·exact hnd.2.2 _ (List.mem_map.2 ⟨p,hp,rfl⟩) _ hM rfl,fun p hp=>hA.lt p (List.mem_append.2 (.inl hp)),fun p hp=>hA.z p (List.mem_append.2 (.inl hp))⟩
  sur:=hE.ok.move _ _ _ _ _ _ _ _ hS ⟨Ext.refl _ _,fun _ _ _=>⟨rfl,rfl⟩,Nat.le_refl _,rfl,rfl,rfl,fun b hb=>.inl (by
   rw [List.map_append,List.mem_append];rcases hb with (hb | hb) | hb
   ·exact .inl hb
   ·exact .inr (.inr hb)
   ·exact .inr (.inl hb)),R1.top⟩
  ext:=Ext.refl _ _
  own:=fun b hb=>⟨fun hm=>by
   obtain ⟨p,hp,rfl⟩:=List.mem_map.1 hm;exact hA.fr p (List.mem_append.2 (.inr hp)) hb,rfl,rfl⟩
  lt:=hlt1
  size:=Nat.le_refl _
  os:=rfl
  tape:=rfl
  output:=rfl
  top:=R1.top}
 refine (Cd (hC.2 (SC S0 F M1 w h1.φ) (SC_ok hE.ok) (Ai9 hE.yl) w h1.φ xs R1.top arA sc0 (hrep xs hl hr))).mono ?_;rintro e w' ⟨φ',x,r,ys',stp',B,hΦ,rfl,hres,hB,sc,ht⟩;have ar2:Ar w' φ' M1 (F++B):=by
  refine ⟨?_,fun p hp=>?_,fun p hp hM=>?_,fun p hp=>?_,fun p hp=>?_⟩
  ·rw [List.map_append,List.nodup_append];refine ⟨sc.ar.nd,hB.nd,fun x hx y hy e=>?_⟩;subst e;obtain ⟨p,hp,rfl⟩:=List.mem_map.1 hx;exact sc.ar.fr p hp (.inr hy)
  ·rcases List.mem_append.1 hp with hp | hp
   ·exact sc.ar.ok p hp
   ·exact hB.ok p hp
  ·rcases List.mem_append.1 hp with hp | hp
   ·exact sc.ar.fr p hp (.inl hM)
   ·exact (sc.own _ hM).1 (List.mem_map.2 ⟨p,hp,rfl⟩)
  ·rcases List.mem_append.1 hp with hp | hp
   ·exact sc.ar.lt p hp
   ·exact hB.lt p hp
  ·rcases List.mem_append.1 hp with hp | hp
   ·exact sc.ar.z p hp
   ·exact hB.z p hp
 have sy:SY S0 (encA (F++B)++ys') stp' M1 w' φ':=⟨F++B,ys',rfl,ar2,hE.ok.move _ _ _ _ _ _ _ _ sc.sur ⟨Ext.refl _ _,fun _ _ _=>⟨rfl,rfl⟩,Nat.le_refl _,rfl,rfl,rfl,fun b hb=>.inl (by
   rw [List.map_append,List.mem_append] at hb;rcases hb with hb | hb | hb
   ·exact .inl (.inl hb)
   ·exact .inr hb
   ·exact .inl (.inr hb)),ht⟩⟩
 have own:∀b,M1 b→w'.heap[b]?=w.heap[b]?∧φ' b=h1.φ b:=fun b hb=>(sc.own b hb).2;have sur':=back _ _ w' φ' sy sc.ext own sc.size ht sc.os sc.tape sc.output;have R2:=If R1 sc.ext (fun b hb=>own b (hM1 b hb)) sc.size ht sur';have hx:Rep w' φ' h1.β h1.y.l r x∧∀σ h w0,GrowV σ h w0 r x:=by
  cases hres with
  | data hh=>exact ⟨.data hh,fun σ h w0=>Ap hh⟩
  | tuple vs xs hl hh =>
    refine ⟨.tuple vs xs hl hh,fun σ h w0 j u z hu hz=>?_⟩;cases j with
    | zero=>simp [cells] at hu;subst hu;intro r' sz xs' e;cases e
    | succ j=>simp [cells] at hu
 refine hn r ys' stp' B hΦ _ _ {h1 with φ:=φ'} ⟨?_,by rw [show ({h1 with φ:=φ'}:Gh).y=h.y from q3];exact R.2⟩ q3;rw [cc.d];cases hd:o.dst with
 | none=>exact R2
 | some d=>exact Rel.put R2 (cc.dst d hd) hx.1 (hx.2 _ _ _)
theorem fs_callY {s:St} {r:V} {wb:List (Nat×Box)} {d:Option Nat} {log:List (List V)} {stp:Bool}:({(s.eff {v:=r,wb:=wb}).put d r with log:=log,stp:=stp}:St).fs=((s.fs.eff {v:=r,wb:=wb}).put d r):=by
 cases d with
 | none=>exact Gc s _
 | some d=>show ((s.eff _).put (some d) r).fs=_;rw [Dj,Gc];rfl
theorem Mo (hE:InY E S0 l yl) {K:St→Prop} {s:St} {d:Option Nat} {f:FuncId} {xs:List X} {rest:List Ins} {vs first cap us:List V} {ids:List Nat} {Φ:V→List (List V)→Bool→Arena→Prop} {F A1:Arena} {ys:List (List V)} (hx:evXs s.env xs=some (.func (.func f) first cap::vs)) (hd:toDs s.fs.b (first++vs++cap)=some (us,ids)) (hl:s.log=encA (F++A1)++ys) (hstp:s.stp=false)
  (hC:CY E.P f l yl ys A1 us Φ) (hk:∀r ys' stp' B,Φ r ys' stp' B→Steps E rest K {(s.eff {v:=r,wb:=freeze s.fs.b ids}).put d r with log:=encA (F++B)++ys',stp:=stp'}):Steps E (⟨d,.callv,xs,none⟩::rest) K s:=by
 refine Step1.raw fun slots ops o i ro n a w h hc hs hi R Q next hn=>?_
 obtain ⟨os,cc⟩:=Ba hc;have hgo:=Au cc rfl;obtain ⟨c,t,e1,e2,rfl⟩:=Io cc.op;have R':E.relF (encA (F++A1)++ys) false s.fs a w h:=by rw [←hl,←hstp];exact R
 have hO:=B9 R.1 cc.xs (Ay hx);cases hO with
 | cons o1 o2 =>
   obtain ⟨f',c',ef,hf,hc',h1,h2⟩:=Kv o1;obtain ⟨l1,l2⟩:=Do o2;obtain ⟨m1,m2⟩:=arr3 hf hc' l1 h1 h2 l2;refine wp_callY hE R' cc hd hC _ m1 m2 hi (Ai hgo) (Lx hC.1 e2 e1 ef) fun r ys' stp' B hΦ a' w' h' R2 hy=>hn _ a' w' h' (hk r ys' stp' B hΦ) ?_ hy;show E.relF _ _ _ _ _ _;rw [fs_callY];exact R2
end
end
end Go.Am
