/-
  Parts of the proof: the abstract machine, the compiled code, contracts of the functions, plain laws (spelled short by a program).
-/
import Derived.Test.YtabedohjkillfaaGreatDoorX6
import Derived.RangeFuncNested
set_option maxRecDepth 100000
set_option maxHeartbeats 4000000
set_option linter.unusedVariables false
set_option linter.unusedSimpArgs false
namespace Go.Proofs.YtabedohjkillfaaGreatDoor
section
open Go.Am
def befC (a b:Int×Int):Prop:=a.1<b.1∨(a.1=b.1∧a.2<b.2)
def A1o (c:Int×Int):Prop:=(-1≤c.1∧c.1≤1022)∧-1≤c.2∧c.2≤14
theorem Iy {a:Int×Int} (h:befC a a):False:=by unfold befC at h;omega
theorem Zx {a b c:Int×Int} (h:befC a b) (k:befC b c):befC a c:=by unfold befC at *;omega
theorem Pg:∀(l m:List (Int×Int)),l.Pairwise befC→m.Pairwise befC→(∀x,x∈l↔x∈m)→l=m
 | [],[],_,_,_=>rfl
 | [],b::m,_,_,h=>absurd ((h b).2 (by simp)) (by simp)
 | a::l,[],_,_,h=>absurd ((h a).1 (by simp)) (by simp)
 | a::l,b::m,hl,hm,h=>by
   rw [List.pairwise_cons] at hl hm;have hab:a=b:=by
    rcases List.mem_cons.1 ((h a).1 (by simp)) with e | h1
    ·exact e
    rcases List.mem_cons.1 ((h b).2 (by simp)) with e | h2
    ·exact e.symm
    exact absurd (Zx (hl.1 b h2) (hm.1 a h1)) (fun h=>Iy h)
   subst hab;congr 1;refine Pg l m hl.2 hm.2 fun x=>?_;have hx:=h x;simp only [List.mem_cons] at hx;constructor
   ·intro h1;rcases hx.1 (.inr h1) with e | h2
    ·exact absurd (hl.1 x h1) (fun h=>Iy (e▸h))
    ·exact h2
   ·intro h1;rcases hx.2 (.inr h1) with e | h2
    ·exact absurd (hm.1 x h1) (fun h=>Iy (e▸h))
    ·exact h2
def toSC (c:Int×Int):SC:=(⟨(c.1+1).toNat%1024,by omega⟩,⟨(c.2+1).toNat%16,by omega⟩)
theorem scB_to {c:Int×Int} (h:A1o c):scB (toSC c)=c:=by
 unfold A1o at h;unfold scB toSC;refine Prod.ext ?_ ?_<;>simp only<;>omega
theorem A75:∀(xs:List (Int×Int)) (j:Nat) (h:j/2<xs.length),((xs.map eB).flatMap cells)[j]?=some (I (if j%2=0 then xs[j/2].1 else xs[j/2].2))
 | [],j,h=>by simp at h
 | x::xs,0,h=>rfl
 | x::xs,1,h=>rfl
 | x::xs,j+2,h=>by
   have hj:j/2<xs.length:=by simp at h;omega
   have ih:=A75 xs j hj;have e1:((x::xs).map eB).flatMap cells=I x.1::I x.2::(xs.map eB).flatMap cells:=rfl;have e2:(j+2)/2=j/2+1:=by omega
   have e3:(j+2)%2=j%2:=by omega
   rw [e1];simp only [List.getElem?_cons_succ,e3];rw [ih];congr 3
   ·congr 1;simp [e2]
   ·congr 1;simp [e2]
theorem Ot (xs:List (Int×Int)):((xs.map eB).flatMap cells).length=xs.length*2:=by
 induction xs with
 | nil=>rfl
 | cons x xs ih=>rw [List.map_cons,List.flatMap_cons,List.length_append,ih,List.length_cons];simp [eB,cells];omega
open Go.Sort in
theorem ca_sort {blk cap:Nat} {xs ys:List (Int×Int)} {cs:List V} (hcs:cs.take (xs.length*2)=(xs.map eB).flatMap cells) (hlen:xs.length*2≤cs.length) (hsm:xs.length≤100000) (hb:∀c∈xs,A1o c) (hnd:xs.Nodup) (hp:∀x,x∈ys↔x∈xs) (hs:ys.Pairwise befC) :
  CA Tryz.prog G4 [(blk,.cells cs)] [] [.sref blk 0 xs.length cap,.func (.func Rj) [] []] (.tuple []) [(blk,.cells ((ys.map eB).flatMap cells++cs.drop (xs.length*2)))]:=by
 refine ⟨by kernel_rfl,fun w φ vals htop hgl hA hK hKA hrep=>?_⟩;obtain ⟨hl,hr⟩:=hrep;obtain ⟨vals⟩:=vals
 match vals,hl with
 | [v1,v2],_ =>
 have r1:v1=.slice (some ⟨blk,0,none⟩) xs.length cap:=by
  have:=hr 0 _ v1 rfl rfl;cases this;rfl
 have r2:v2=.func (.func Rj) #[] #[]:=by
  have:=hr 1 _ v2 rfl rfl;cases this with
  | func fn first cap f c h1 h2 _ _ =>
    have e1:f=#[]:=Array.eq_empty_of_size_eq_zero (by simpa using h1.symm);have e2:c=#[]:=Array.eq_empty_of_size_eq_zero (by simpa using h2.symm);rw [e1,e2]
 subst r1 r2;obtain ⟨vs,et,w1,w2,w3⟩:=hA.ok (blk,.cells cs) (by simp);have hblk:=hA.lt (blk,.cells cs) (by simp);simp only at hblk;obtain ⟨d,hd⟩:∃d:Array SC,d=(xs.map toSC).toArray:=⟨_,rfl⟩;have hds:d.size=xs.length:=by rw [hd];simp
 have hdget:∀i (hi:i<xs.length),scB d[i]! =xs[i]:=fun i hi=>by
  have:d[i]! =toSC xs[i]:=by rw [hd];simp [hi]
  rw [this,scB_to (hb _ (List.getElem_mem hi))]
 have valat:∀j,j<xs.length*2→vs[j]?=some (.int .i64 (if j%2=0 then (scB d[j/2]!).1 else (scB d[j/2]!).2)):=fun j hj=>by
  have hj2:j/2<xs.length:=by omega
  have hc:cs[j]?=some (I (if j%2=0 then xs[j/2].1 else xs[j/2].2)):=by
   rw [←A75 xs j hj2,←hcs,List.getElem?_take_of_lt hj]
  have hjs:j<vs.size:=by omega
  have:=(w3 j _ _ hc (Array.getElem?_eq_getElem hjs)).1;have hv:vs[j]=.int .i64 (if j%2=0 then xs[j/2].1 else xs[j/2].2):=by
   generalize vs[j]=z at this;cases this;rfl
  rw [Array.getElem?_eq_getElem hjs,hv,hdget _ hj2]
 have hH:HoldsK Ua 2 w blk 0 d:=fun j hj=>by
  rw [size_flatK,hds] at hj;have hj2:j/2<xs.length:=by omega
  refine ⟨?_,?_⟩
  ·rw [get_flatK _ _ _ _ (by rw [hds];exact hj),Nat.zero_add,cell_of_row w blk j vs et (0,0) w1,valat j hj];unfold Ua;by_cases h:j%2=0
   ·rw [if_pos h,h];rfl
   ·have h1:j%2=1:=by omega
    rw [if_neg h,h1];rfl
  ·simp [World.frozen?,w1]
 have hcall:=Aat blk 0 cap d w hH hblk (by omega);rw [hds] at hcall;refine hcall.mono ?_;rintro e w' ⟨rfl,d',n,os,hperm,hsort,rfl⟩;obtain ⟨hps,_,hpp⟩:=hperm;have hd's:d'.size=xs.length:=by rw [hps,hds]
 have hpp:d'.toList.Perm d.toList:=by
  have e1:d'.extract 0 xs.length=d':=by rw [←hd's];simp
  have e2:d.extract 0 xs.length=d:=by rw [←hds];simp
  rw [e1,e2] at hpp;exact hpp
 have hxs:d.toList.map scB=xs:=by
  rw [hd];simp only [List.map_map]
  conv=>rhs;rw [←List.map_id xs]
  exact List.map_congr_left fun c hc=>scB_to (hb c hc)
 have hzp:(d'.toList.map scB).Perm xs:=by
  have:=hpp.map scB
  rwa [hxs] at this
 have hzl:(d'.toList.map scB).length=xs.length:=hzp.length_eq;have hzn:(d'.toList.map scB).Nodup:=hzp.nodup_iff.2 hnd;have hzs:(d'.toList.map scB).Pairwise befC:=by
  rw [List.pairwise_iff_getElem];intro i j hi hj hij;simp only [List.length_map,Array.length_toList] at hi hj;have h1:=hsort i j (Nat.zero_le _) hij (by omega);have h2:(d'.toList.map scB)[i]'(by simpa using hi)≠(d'.toList.map scB)[j]'(by simpa using hj):=(List.pairwise_iff_getElem.1 hzn) i j (by simpa using hi) (by simpa using hj) hij;have e1:(d'.toList.map scB)[i]'(by simpa using hi)=scB d'[i]!:=by simp [hi]
  have e2:(d'.toList.map scB)[j]'(by simpa using hj)=scB d'[j]!:=by simp [hj]
  rw [e1,e2] at h2 ⊢;unfold ltOf cfSC at h1;generalize scB d'[i]! =a at h1 h2 ⊢;generalize scB d'[j]! =b at h1 h2 ⊢;simp only [decide_eq_false_iff_not,ne_eq,ite_not] at h1;unfold befC;by_cases h3:a.1=b.1
  ·have h4:a.2≠b.2:=fun h4=>h2 (Prod.ext h3 h4);rw [if_pos h3.symm] at h1;omega
  ·rw [if_neg (fun h=>h3 h.symm)] at h1;omega
 have hys:d'.toList.map scB=ys:=Pg _ _ hzs hs fun x=>by rw [hzp.mem_iff,hp x]
 have hyl:ys.length=xs.length:=by rw [←hys,hzl]
 have hyget:∀i (hi:i<ys.length),scB d'[i]! =ys[i]:=fun i hi=>by
  have h1:i<d'.size:=by omega
  have:(d'.toList.map scB)[i]?=some ys[i]:=by rw [hys];simp
  rw [List.getElem?_map] at this;simp [h1] at this;rw [←this];simp [h1]
 obtain ⟨w',hw'⟩:∃w',sortWorldK Ua 2 w blk 0 n d' os=w':=⟨_,rfl⟩;rw [hw'];have hheap:w'.heap=(w.heap.modify blk (onCells (putCells id 0 (flatK Ua 2 d'))))++os:=by rw [←hw'];rfl
 have hsz:w'.heap.size=w.heap.size+os.size:=by rw [hheap];simp
 have hold:∀b,b<w.heap.size→b≠blk→w'.heap[b]?=w.heap[b]?:=fun b h1 h2=>by
  rw [hheap,Array.getElem?_append_left (by simpa using h1),Array.getElem?_modify,if_neg (fun e=>h2 e.symm)]
 have hnew:w'.heap[blk]?=some (.cells (putCells id 0 (flatK Ua 2 d') vs) et (0,0)):=by
  rw [hheap,Array.getElem?_append_left (by simpa using hblk),Array.getElem?_modify,if_pos rfl,w1];rfl
 have ext:Ext w φ w' φ:=fun b o ho=>by
  have h1:b<w.heap.size:=by
   rcases Nat.lt_or_ge b w.heap.size with h1 | h1
   ·exact h1
   ·rw [htop b h1] at ho;omega
  have h2:b≠blk:=fun e=>by
   have:=hA.z (blk,.cells cs) (by simp);simp only at this;rw [e,this] at ho;omega
  exact ⟨ho,World.cell?_of_block (hold b h1 h2),Bn (hold b h1 h2)⟩
 refine ⟨φ,.tuple #[],rfl,.tuple [] #[] rfl (fun i v x h=>by simp at h),⟨by simp,fun p hp'=>?_,fun _ _ h=>h,fun p hp'=>?_,fun p hp'=>?_⟩,⟨ext,fun b h1 h2=>⟨hold b h1 fun e=>h2 (by simp [e]),rfl⟩,by omega,by rw [←hw'];rfl,by rw [←hw'];rfl,by rw [←hw'];rfl,fun b hb'=>.inl (by simpa using hb'),fun b hb'=>htop b (by omega)⟩⟩
 ·obtain rfl:=List.mem_singleton.1 hp';refine ⟨_,et,hnew,?_,fun j v x hv hx=>?_⟩
  ·have e1:(putCells id 0 (flatK Ua 2 d') vs).size=vs.size:=by simp [putCells]
   rw [e1,List.length_append,Ot,hyl,List.length_drop];omega
  ·rw [List.getElem?_append,Ot,hyl] at hv;unfold putCells at hx;rw [Array.getElem?_mapIdx] at hx;simp only [Nat.zero_le,true_and,Nat.zero_add,Nat.sub_zero,size_flatK,hd's,id] at hx;by_cases hj:j<xs.length*2
   ·rw [if_pos hj] at hv;have hj2:j/2<ys.length:=by omega
    rw [A75 ys j hj2] at hv;have hjs:j<vs.size:=by omega
    rw [Array.getElem?_eq_getElem hjs] at hx;simp only [Option.map_some,if_pos hj,Option.some.injEq] at hx hv;rw [get_flatK _ _ _ _ (by rw [hd's];exact hj)] at hx;subst hv hx;unfold Ua;rw [hyget _ hj2];by_cases h:j%2=0
    ·rw [if_pos h,h];exact ⟨.int _ _,rfl⟩
    ·have h1:j%2=1:=by omega
     rw [if_neg h,h1];exact ⟨.int _ _,rfl⟩
   ·rw [if_neg hj,List.getElem?_drop] at hv;have e:xs.length*2+(j-xs.length*2)=j:=by omega
    rw [e] at hv;cases hvj:vs[j]? with
    | none=>rw [hvj] at hx;simp at hx
    | some z =>
      rw [hvj] at hx;simp only [Option.map_some,if_neg hj,Option.some.injEq] at hx;subst hx;have:=w3 j v z hv hvj;exact ⟨this.1.mono ext,this.2⟩
 ·obtain rfl:=List.mem_singleton.1 hp';simp only;omega
 ·obtain rfl:=List.mem_singleton.1 hp';exact hA.z (blk,.cells cs) (by simp)
end
end Go.Proofs.YtabedohjkillfaaGreatDoor
namespace Go.Am
section
open Go.RowKit
section
variable {E:Env} {S0:Sur} {l0:List (List V)} {s0:Bool} {A:Arena}
theorem A88 (hE:InA E S0 l0 s0) {K:St→Prop} {Ks:List (Nat×List V)} {s:St} {d:Option Nat} {f:FuncId} {xs:List X} {rest:List Ins} {vs us:List V} {ids:List Nat} {r:V} {F A1 B:Arena} (hx:evXs s.env xs=some vs) (hd:toDs s.fs.b vs=some (us,ids)) (hl:s.log=encA (F++A1))
  (hC:CA E.P f A1 Ks us r B) (hKs:(∀p∈Ks,(p.1,Ob.cells p.2)∈F)∨InK E Ks∧∀p∈Ks,p.1∉A1.map (·.1))
  (hk:Steps E rest K {(s.eff {v:=r,wb:=freeze s.fs.b ids}).put d r with log:=encA (F++B)}):Steps E (⟨d,.call f,xs,none⟩::rest) K s:=by
 refine Step1.raw fun slots ops o i ro n a w h hc hs hi R Q next hn=>?_
 obtain ⟨os,cc⟩:=Ba hc;have hgo:=Au cc rfl;obtain ⟨c,e1,e2,rfl⟩:=I1 cc.op;have R':E.relF (encA (F++A1)) s.stp s.fs a w h:=by rw [←hl];exact R
 have hAr:=hE.ar R';have hnd:=hAr.nd;rw [List.map_append,List.nodup_append] at hnd;obtain ⟨l1,l2⟩:=Do (B9 R.1 cc.xs (Ay hx));refine A05 hE R' cc hd hC (fun h' R1=>?_) (fun p hp=>?_) _ l1 l2 hi (Ai hgo) (I0 hC.1 e2 e1) fun a' w' h' R2 hy=>hn _ a' w' h' hk ?_ hy
 ·rcases hKs with hKs | hKs
  ·intro p hp;have:=(hE.ar R1);exact ⟨this.ok _ (List.mem_append.2 (.inl (hKs p hp))),this.lt _ (List.mem_append.2 (.inl (hKs p hp)))⟩
  ·exact hKs.1 _ _ _ _ _ R1.1.sur
 ·rcases hKs with hKs | hKs
  ·exact fun h=>hnd.2.2 _ (List.mem_map.2 ⟨_,hKs p hp,rfl⟩) _ h rfl
  ·exact hKs.2 p hp
 ·show E.relF _ _ _ _ _ _;have e:({(s.eff {v:=r,wb:=freeze s.fs.b ids}).put d r with log:=encA (F++B)}:St).fs=((s.fs.eff {v:=r,wb:=freeze s.fs.b ids}).put d r):=by
   cases d with
   | none=>exact Gc s _
   | some d=>show ((s.eff _).put (some d) r).fs=_;rw [Dj,Gc];rfl
  have e2:({(s.eff {v:=r,wb:=freeze s.fs.b ids}).put d r with log:=encA (F++B)}:St).stp=s.stp:=by
   show ((s.eff _).put d r).stp=_;rw [(Bq _ _ _).2,(G3 _ _).2]
  rw [e,e2];exact R2
def cut (φ:Nat→Nat) (blk len:Nat):Nat→Nat:=fun b=>if b=blk then len else φ b
theorem InA.close (hE:InA E S0 l0 s0) {stp:Bool} {σ:FSt} {a:Act} {w:World} {h:Gh} (R:E.relF (encA A) stp σ a w h) {blk:Nat} {o:Ob} (hA:(blk,o)∈A) (len:Nat) {B:Arena} (hkeys:∀p∈B,p.1∈A.map (·.1)∧p.1≠blk) (hnd:(B.map (·.1)).Nodup)
  (hB:Ext w h.φ w (cut h.φ blk len)→∀p∈B,ObOk w (cut h.φ blk len) p.1 p.2):Ext w h.φ w (cut h.φ blk len)∧E.relF (encA B) stp σ a w {h with φ:=cut h.φ blk len}:=by
 obtain ⟨M1,hM1,hlt1,⟨A0,e,hs,hAr,hS⟩,back⟩:=hE.sub _ _ _ _ _ R.1.sur R.1.mine;obtain rfl:=D3 e;have hz:=hAr.z _ hA;simp only at hz;have other:∀b,b≠blk→cut h.φ blk len b=h.φ b:=fun b hb=>by unfold cut;rw [if_neg hb]
 have ext:Ext w h.φ w (cut h.φ blk len):=fun b o ho=>by
  have hb:b≠blk:=fun e=>by rw [e,hz] at ho;omega
  exact ⟨by rw [other b hb];exact ho,rfl,rfl⟩
 have top':∀b,w.heap.size≤b→cut h.φ blk len b=0:=fun b hb=>by
  have:=hAr.lt _ hA;simp only at this;rw [other b (by omega)];exact R.1.top b hb
 have own:∀b,M1 b→w.heap[b]?=w.heap[b]?∧cut h.φ blk len b=h.φ b:=fun b hb=>⟨rfl,other b fun e=>by
  have:=hAr.fr _ hA;exact this (e▸hb)⟩
 have keyOld:∀p∈B,∃q∈A,q.1=p.1:=fun p hp=>by
  obtain ⟨q,hq,e⟩:=List.mem_map.1 (hkeys p hp).1;exact ⟨q,hq,e⟩
 have sa:SA S0 l0 s0 (encA B) stp M1 w (cut h.φ blk len):=by
  refine ⟨B,rfl,hs,⟨hnd,hB ext,fun p hp hM=>?_,fun p hp=>?_,fun p hp=>?_⟩,hE.ok _ _ _ _ _ _ _ _ hS ⟨ext,fun b hb hn=>⟨rfl,other b fun e=>hn (.inr (List.mem_map.2 ⟨_,hA,e.symm⟩))⟩,Nat.le_refl _,rfl,rfl,rfl,fun b hb=>.inl ?_,top'⟩⟩
  ·obtain ⟨q,hq,e⟩:=keyOld p hp;exact hAr.fr q hq (e▸hM)
  ·obtain ⟨q,hq,e⟩:=keyOld p hp;rw [←e];exact hAr.lt q hq
  ·obtain ⟨q,hq,e⟩:=keyOld p hp;rw [other _ (hkeys p hp).2,←e];exact hAr.z q hq
  ·rcases hb with hb | hb
   ·exact .inl hb
   ·obtain ⟨p,hp,rfl⟩:=List.mem_map.1 hb;exact .inr (hkeys p hp).1
 have sur':=back (encA B) stp w (cut h.φ blk len) sa ext own (Nat.le_refl _) top' rfl rfl rfl;exact ⟨ext,If R.1 ext (fun b hb=>own b (hM1 b hb)) (Nat.le_refl _) top' sur',R.2⟩
theorem A4j {w:World} {φ:Nat→Nat} {blk cap sz:Nat} {cs xs:List V} (ho:ObOk w φ blk (.cells cs)) (h0:0<sz) (hcap:xs.length≤cap) (hxs:∀x∈xs,(cells x).length=sz) (htk:cs.take (xs.length*sz)=xs.flatMap cells) (ext:Ext w φ w (cut φ blk (xs.length*sz))) :
  RepD w (cut φ blk (xs.length*sz)) (.slice 0 sz xs) (.slice (some ⟨blk,0,none⟩) xs.length cap):=by
 obtain ⟨vs,et,h1,h2,h3⟩:=ho;have fl:=Kz hxs;have at':∀(j:Nat) v,(xs.flatMap cells)[j]?=some v→j<xs.length*sz∧j<vs.size∧cs[j]?=some v:=fun j v hv=>by
  have hj:j<xs.length*sz:=by have:=(List.getElem?_eq_some_iff.1 hv).1;omega
  rw [←htk,List.getElem?_take_of_lt hj] at hv;have:=(List.getElem?_eq_some_iff.1 hv).1;exact ⟨hj,by omega,hv⟩
 refine .slice sz xs blk 0 xs.length cap (fun j=>vs.getD j undef) h0 rfl hcap hxs (fun j v hv=>?_) (fun j v hv=>?_)
 ·obtain ⟨a1,a2,a3⟩:=at' j v hv;have e:vs[j]?=some (vs.getD j undef):=by simp [a2]
  refine ⟨by unfold cut;rw [if_pos rfl];omega,?_,(h3 j v _ a3 e).2⟩;rw [Nat.zero_add,cell_of_row w blk j vs et (0,0) h1,e]
 ·obtain ⟨a1,a2,a3⟩:=at' j v hv;have e:vs[j]?=some (vs.getD j undef):=by simp [a2]
  exact (h3 j v _ a3 e).1.mono ext
def Ov (A:Arena) (blk:Nat):Arena:=A.filter fun p=>p.1 != blk
theorem dropA_mem {A:Arena} {blk:Nat} {p:Nat×Ob}:p∈Ov A blk↔p∈A∧p.1≠blk:=by
 unfold Ov;rw [List.mem_filter];simp
theorem A1j {A:Arena} {blk:Nat} (h:(A.map (·.1)).Nodup):((Ov A blk).map (·.1)).Nodup:=h.sublist (List.Sublist.map _ List.filter_sublist)
theorem Wk.close (hE:InA E S0 l0 s0) {s:St} {t blk cap sz:Nat} {cs xs:List V} (ht:get s.env t=some (.sref blk 0 xs.length cap)) (hl:s.log=encA A) (hA:(blk,Ob.cells cs)∈A) (h0:0<sz) (hcap:xs.length≤cap) (hxs:∀x∈xs,(cells x).length=sz) (htk:cs.take (xs.length*sz)=xs.flatMap cells) :
  Wk E s {s.put (some t) (.slice 0 sz xs) with log:=encA (Ov A blk)}:=by
 intro a w h R;obtain ⟨q1,q2,_⟩:=R.1.env t _ (by rw [fs_g];exact ht);have R':E.relF (encA A) s.stp s.fs a w h:=by rw [←hl];exact R
 have hAr:=hE.ar R';obtain ⟨ext,R2⟩:=hE.close R' hA (xs.length*sz) (B:=Ov A blk) (fun p hp=>⟨List.mem_map.2 ⟨p,(dropA_mem.1 hp).1,rfl⟩,(dropA_mem.1 hp).2⟩) (A1j hAr.nd) (fun ext p hp=>(hAr.ok p (dropA_mem.1 hp).1).mono rfl ext);have rd:=A4j (cap:=cap) (hAr.ok _ hA) h0 hcap hxs htk ext;have e:a.tmps.getD t undef=.slice (some ⟨blk,0,none⟩) xs.length cap:=by
  revert q2;generalize a.tmps.getD t undef=x1;intro q2;cases q2 with
  | data r=>cases r;rfl
 have R3:=R2.1.put (d:=t) (v:=.slice 0 sz xs) (x:=a.tmps.getD t undef) q1 (by rw [e];exact .data rd) (by rw [e];exact Ap rd);rw [N0 (by rw [R.1.size];exact q1)] at R3;refine ⟨_,⟨?_,R2.2⟩,rfl⟩;show Rel E.nt E.S _ s.stp (s.put (some t) (.slice 0 sz xs)).fs _ _ _;rw [Dj];exact R3
theorem Sp (hE:InA E S0 l0 s0) {s:St} {B:Arena} (hl:s.log=encA A) (hsub:∀p∈B,p∈A) (hnd:(B.map (·.1)).Nodup):Wk E s {s with log:=encA B}:=by
 intro a w h R;have R':E.relF (encA A) s.stp s.fs a w h:=by rw [←hl];exact R
 obtain ⟨M1,hM1,hlt1,⟨A0,e,hs,hAr,hS⟩,back⟩:=hE.sub _ _ _ _ _ R'.1.sur R'.1.mine;obtain rfl:=D3 e;have sa:SA S0 l0 s0 (encA B) s.stp M1 w h.φ:=by
  refine ⟨B,rfl,hs,⟨hnd,fun p hp=>hAr.ok p (hsub p hp),fun p hp=>hAr.fr p (hsub p hp),fun p hp=>hAr.lt p (hsub p hp),fun p hp=>hAr.z p (hsub p hp)⟩,hE.ok _ _ _ _ _ _ _ _ hS ⟨Ext.refl _ _,fun _ _ _=>⟨rfl,rfl⟩,Nat.le_refl _,rfl,rfl,rfl,fun b hb=>.inl ?_,R'.1.top⟩⟩;rcases hb with hb | hb
  ·exact .inl hb
  ·obtain ⟨p,hp,rfl⟩:=List.mem_map.1 hb;exact .inr (List.mem_map.2 ⟨p,hsub p hp,rfl⟩)
 have sur':=back (encA B) s.stp w h.φ sa (Ext.refl _ _) (fun _ _=>⟨rfl,rfl⟩) (Nat.le_refl _) R'.1.top rfl rfl rfl;exact ⟨h,⟨{R'.1 with sur:=sur'},R'.2⟩,rfl⟩
theorem Ir {b:Nat} {o:Ob} {p:Nat×Ob} (h:p∈A) (hne:p.1≠b):p∈setA A b o:=List.mem_map.2 ⟨p,h,by rw [if_neg hne]⟩
theorem I2 {b:Nat} {o o':Ob} (h:(b,o')∈A):(b,o)∈setA A b o:=List.mem_map.2 ⟨_,h,by rw [if_pos rfl]⟩
theorem Mp (hE:InA E S0 l0 s0) {K:St→Prop} {s:St} {d:Nat} {x y:X} {v:V} {sz bytes e r:Nat} {xs ys zs:List V} {rest:List Ins} (hx:evXs s.env [x,y]=some [v,.slice r sz ys]) (hl:s.log=encA A) (hO:OwnS A sz xs v) (hz0:V0 E.P e=some zs) (h0:0<sz) (hb:(xs.length+ys.length)*bytes≤2^47) (hm:xs.length+ys.length≤2^47) (hne:ys≠[])
  (hk:∀v' A',OwnS A' sz (xs++ys) v'→(∀p∈A,offS v p.1→p∈A'∧offS v' p.1)→Steps E rest K {s.put (some d) v' with log:=encA A'}):Steps E (⟨some d,.append sz bytes e,[x,y],none⟩::rest) K s:=by
 rcases hO with ⟨rfl,rfl⟩ | ⟨blk,cap,cs,rfl,h2,h3,h4,h5⟩
 ·refine Y8 hE hx hl hz0 h0 (by simpa using hb) (by simpa using hm) hne fun blk cap A' hO hp=>hk _ A' hO fun p hpA _=>⟨(hp p hpA).1,fun b o n c e=>?_⟩;cases e;exact (hp p hpA).2
 ·refine A26 hE hx hl (.inr ⟨blk,cap,cs,rfl,h2,h3,h4,h5⟩) hz0 h0 hb hm hne fun blk' cap' A' hO hp=>hk _ A' hO fun p hpA hoff=>?_;have:=hp p hpA (hoff _ _ _ _ rfl);refine ⟨this.1,fun b o n c e=>?_⟩;cases e;exact this.2
end
end
end Go.Am
namespace Go.Proofs.YtabedohjkillfaaGreatDoor
section
open Go.Am
attribute [local simp] cells Af mkv Aq B6 under dem dem1 eB Ed sB Fg
def insC (c:Int×Int):List (Int×Int)→List (Int×Int)
 | []=>[c]
 | x::r=>if c=x then x::r else if c.1<x.1∨(c.1=x.1∧c.2<x.2) then c::x::r else x::insC c r
theorem A17 {c x:Int×Int}:∀(l:List (Int×Int)),x∈insC c l↔x=c∨x∈l
 | []=>by simp [insC]
 | y::r=>by
   simp only [insC];split
   ·rename_i h;subst h;simp
   ·split
    ·simp
    ·simp only [List.mem_cons,A17 r];constructor
     ·rintro (h | h | h)
      ·exact .inr (.inl h)
      ·exact .inl h
      ·exact .inr (.inr h)
     ·rintro (h | h | h)
      ·exact .inr (.inl h)
      ·exact .inl h
      ·exact .inr (.inr h)
theorem V9 {c:Int×Int}:∀(l:List (Int×Int)),l.Pairwise befC→(insC c l).Pairwise befC
 | [],_=>by simp [insC]
 | y::r,h=>by
   rw [List.pairwise_cons] at h;simp only [insC];split
   ·exact List.pairwise_cons.2 h
   ·rename_i hne;split
    ·rename_i hb;refine List.pairwise_cons.2 ⟨fun z hz=>?_,List.pairwise_cons.2 h⟩;rcases List.mem_cons.1 hz with rfl | hz
     ·exact hb
     ·exact Zx hb (h.1 z hz)
    ·rename_i hb;refine List.pairwise_cons.2 ⟨fun z hz=>?_,V9 r h.2⟩;rcases (A17 r).1 hz with rfl | hz
     ·have hne':z.1≠y.1∨z.2≠y.2:=by
       rcases Int.lt_or_le z.1 y.1 with h1 | h1
       ·exact .inl (by omega)
       ·by_cases h2:z.1=y.1
        ·exact .inr fun h3=>hne (Prod.ext h2 h3)
        ·exact .inl h2
      unfold befC;omega
     ·exact h.1 z hz
def A9u (l:List (Int×Int)):List (Int×Int):=l.foldl (fun acc c=>insC c acc) []
theorem W6:∀(l acc:List (Int×Int)),acc.Pairwise befC→(l.foldl (fun acc c=>insC c acc) acc).Pairwise befC∧∀x,x∈l.foldl (fun acc c=>insC c acc) acc↔x∈acc∨x∈l
 | [],acc,h=>⟨h,fun x=>by simp⟩
 | c::l,acc,h=>by
   have ih:=W6 l (insC c acc) (V9 acc h);refine ⟨ih.1,fun x=>?_⟩;simp only [List.foldl_cons];rw [ih.2 x,A17];simp only [List.mem_cons];constructor
   ·rintro ((h | h) | h)
    ·exact .inr (.inl h)
    ·exact .inl h
    ·exact .inr (.inr h)
   ·rintro (h | h | h)
    ·exact .inl (.inr h)
    ·exact .inl (.inl h)
    ·exact .inr h
theorem Kx (l:List (Int×Int)):(A9u l).Pairwise befC:=(W6 l [] List.Pairwise.nil).1
theorem mem_hitsOf {l:List (Int×Int)} {x:Int×Int}:x∈A9u l↔x∈l:=by
 have:=(W6 l [] List.Pairwise.nil).2 x;unfold A9u;rw [this];simp
def A4n (g:Gd) (p:(Int×Int)×(Int×Int)):Int×Int:=Kd g p.1 p.2
def Si (g:Gd) (l m:List (Int×Int)):List (Int×Int):=A9u ((D1 l m).map (A4n g))
theorem A1m {n:Int}:∀(l:List (Int×Int)) (k i:Nat),Y3 n l k=some i→k≤i∧i<k+l.length
 | [],k,i,h=>by simp [Y3] at h
 | c::r,k,i,h=>by
   simp only [Y3] at h;split at h
   ·cases h;simp
   ·have:=A1m r (k+1) i h;simp;omega
theorem Ahd {g:Gd} (hg:El g=true) (a b:Int×Int):A1o (Kd g a b):=by
 obtain ⟨_,_,ha,hd,hc,_⟩:=F6 hg;unfold Kd;split
 ·rename_i h;rw [Bool.and_eq_true,Bu,Bu] at h;split
  ·rename_i i hi;have:=A1m _ _ _ hi;have m1:0≤rowN g a b*g.a:=Int.mul_nonneg (by omega) (by omega);have m2:rowN g a b*g.a≤15*16:=Int.mul_le_mul (by omega) (by omega) (by omega) (by omega);unfold A1o;simp only;omega
  ·unfold A1o;simp only;omega
 ·unfold A1o;simp only;omega
theorem Vs (l m:List (Int×Int)):(D1 l m).length=l.length*m.length:=by
 induction l with
 | nil=>simp [D1]
 | cons a l ih =>
   have e:D1 (a::l) m=(m.map fun b=>(a,b))++D1 l m:=rfl;rw [e,List.length_append,ih];simp [Nat.add_mul];omega
theorem mem_pairs {l m:List (Int×Int)} {p:(Int×Int)×(Int×Int)}:p∈D1 l m↔p.1∈l∧p.2∈m:=by
 unfold D1;simp only [List.mem_flatMap,List.mem_map];constructor
 ·rintro ⟨a,ha,b,hb,rfl⟩;exact ⟨ha,hb⟩
 ·rintro ⟨h1,h2⟩;exact ⟨p.1,h1,p.2,h2,rfl⟩
end
section
open Go.Am
attribute [local simp] cells Af mkv Aq B6 under dem dem1 eB Ed sB Fg
structure LdOk (L:Ld):Prop where
 g:El L.g=true
 n:L.places.length≤16
 t:L.traces.length≤64
 p:∀l∈L.places,(1≤l.length∧l.length≤64)∧∀q∈l,B7 q=true
 tr:∀t∈L.traces,∃i j:Nat,t=((i:Int),(j:Int))∧i<L.places.length∧j<L.places.length
def pl (L:Ld) (i:Int):List (Int×Int):=L.places.getD i.toNat []
def Nr (L:Ld) (t:Nat):List (Int×Int):=Si L.g (pl L (L.traces.getD t (0,0)).1) (pl L (L.traces.getD t (0,0)).2)
theorem Afu {E:Env} {S0 S2:Sur} {l0:List (List V)} {s0:Bool} {cc:LC} (hA:InA E S0 l0 s0) (h:SurIn E.S S2):InA (E.inner cc S2 h.ok) S0 l0 s0:=⟨h.sub.trans hA.sub,hA.ok⟩
theorem key_eq {l:List MapEntry} (h:l.Pairwise fun x y=>x.key≠y.key) {x y:MapEntry} (hx:x∈l) (hy:y∈l) (e:x.key=y.key):x=y:=by
 induction l with
 | nil=>cases hx
 | cons a l ih =>
   rw [List.pairwise_cons] at h;rcases List.mem_cons.1 hx with h1 | h1<;>rcases List.mem_cons.1 hy with h2 | h2
   ·rw [h1,h2]
   ·rw [h1] at e;exact absurd e (h.1 _ h2)
   ·rw [h2] at e;exact absurd e.symm (h.1 _ h1)
   ·exact ih h.2 h1 h2
theorem born_eq {l:List MapEntry} (h:l.Pairwise fun x y=>x.born≠y.born) {x y:MapEntry} (hx:x∈l) (hy:y∈l) (e:x.born=y.born):x=y:=by
 induction l with
 | nil=>cases hx
 | cons a l ih =>
   rw [List.pairwise_cons] at h;rcases List.mem_cons.1 hx with h1 | h1<;>rcases List.mem_cons.1 hy with h2 | h2
   ·rw [h1,h2]
   ·rw [h1] at e;exact absurd e (h.1 _ h2)
   ·rw [h2] at e;exact absurd e.symm (h.1 _ h1)
   ·exact ih h.2 h1 h2
theorem vlen (es:Array MapEntry) (vis:List MapEntry) {n:Nat} (h:es.size≤n) (hs:∀e∈vis,e∈es.toList) (hn:(vis.map (·.key)).Nodup) (hb:n≤4096):vis.length≤4096:=by
 have hv:vis.Nodup:=by
  unfold List.Nodup at hn ⊢;rw [List.pairwise_map] at hn;exact hn.imp fun hne e=>hne (by rw [e])
 have h2:vis.length≤es.toList.length:=hv.length_le_of_subset fun x hx=>hs x hx;have h3:es.toList.length=es.size:=by simp
 omega
theorem setA_one (b:Nat) (o o':Ob):setA [(b,o)] b o'=[(b,o')]:=by simp [setA]
theorem c_hits {L:Ld} (hL:LdOk L) {t:Nat} (ht:t<L.traces.length):C Tryz.prog Mu [.agg (Fg L),I (t:Nat)] (sB (Nr L t)):=by
 obtain ⟨i,j,hij,hi,hj⟩:=hL.tr _ (List.getElem_mem ht);have hT:Nr L t=Si L.g L.places[i] L.places[j]:=by
  unfold Nr pl;have e:L.traces.getD t (0,0)=((i:Int),(j:Int)):=by simp [ht,hij]
  rw [e];simp [hi,hj]
 rw [hT];have hpi:=hL.p _ (List.getElem_mem hi);have hpj:=hL.p _ (List.getElem_mem hj);obtain ⟨l,el⟩:∃l,L.places[i]=l:=⟨_,rfl⟩;obtain ⟨m,em⟩:∃m,L.places[j]=m:=⟨_,rfl⟩;rw [el] at hpi ⊢;rw [em] at hpj ⊢;have hpl:(D1 l m).length≤4096:=by
  rw [Vs];have:l.length*m.length≤64*64:=Nat.mul_le_mul hpi.1.2 hpj.1.2;omega
 refine C_of mixed Vn.2 (by simp) fun S ok=>?_;refine Qr rfl rfl ?_;have hA:=Qw (E:=env0 Tryz.prog mixed 51 S ok) [] false;refine TsR rfl (A2 (Ae ?_));refine A86 hA rfl fun mb _=>Sfn rfl ?_;refine A2 (Ae (Az 4 rfl (by simp;omega) ?_));rw [Aj ht,hij];refine Sfn rfl ?_;refine A2 (A2 (Ab (Ah 5 rfl (by simp;omega) ?_)));rw [Aj hi,el];refine Ah 6 rfl (by simp;omega) ?_;rw [Aj hj,em];refine Krn rfl (A6 rfl rfl (c_pairs l m) (Krn rfl (.done (KrT ?_))));refine A4 ?_;refine Aa (s':=⟨[(2,.ptr 2 0),(5,.ptr 5 0),(29,.func (.func Lh) [] [.vptr [sB l] 0,.vptr [sB m] 0])],[(2,⟨Fg L,false⟩),(5,⟨[.rmap mb],false⟩)],[],encA [(mb,.raw (.map #[] 0))],false⟩) (Ad (.k rfl (.k rfl (.k rfl .nil))) (.k rfl (.k rfl .nil)) .nil rfl rfl) ?_;refine Fz rfl rfl (i_pairs (l:=l) (m:=m) (by omega) (by omega)) rfl rfl rfl (by intro x hx;obtain ⟨b,_,rfl⟩:=List.mem_map.1 hx;rfl) (fun pre t=>∃k es clock,k≤(D1 l m).length∧pre=((D1 l m).take k).map eP2∧SetIs es clock (((D1 l m).take k).map (A4n L.g))∧es.size≤k∧t.bx=[(2,⟨Fg L,false⟩),(5,⟨[.rmap mb],false⟩)]∧t.rw=[]∧t.log=encA [(mb,.raw (.map es clock))]) (fun _ _=>False) ⟨0,#[],0,by omega,rfl,Adg,by simp,rfl,rfl,rfl⟩ ?_ ?_ ?_
 ·rintro a0 L0 rc0 h0 S1 S2 ok1 ok2 pre q t lp hpre ⟨k,es,clock,hk,rfl,hS,hes,hbx,hrw,hlog⟩ henv hstp;obtain ⟨env,bx,rw,log,stp⟩:=t;simp only at hbx hrw hlog henv hstp;subst hbx hrw hlog henv hstp;have hmx:k<(D1 l m).length∧∃b,(D1 l m)[k]?=some b∧q=eP2 b:=by
   have h1:(((D1 l m).take k).map eP2).length=k:=by simp;omega
   have h2:=hpre.length_le;simp at h2;have hml:k<(D1 l m).length:=by omega
   refine ⟨hml,_,List.getElem?_eq_getElem hml,?_⟩;have h3:=List.IsPrefix.getElem hpre (i:=k) (by simp;omega);simp only [List.getElem_map] at h3;rw [List.getElem_append_right (by omega)] at h3;simpa using h3
  obtain ⟨hkl,p,hp,rfl⟩:=hmx;have hpm:=mem_pairs.1 (List.mem_of_getElem? hp);have kc:=c_cell hL.g (hpi.2 _ hpm.1) (hpj.2 _ hpm.2);have hcb:=Ahd hL.g p.1 p.2;refine TsR rfl (TrR rfl ?_);refine A4 (Ab (Krn rfl (A6 rfl rfl kc (.done (KrT ?_)))));refine A50 (A:=[(mb,.raw (.map es clock))]) (k:=Kd L.g p.1 p.2) (Afu hA ok2) rfl rfl (by simp) hS ?_ (by omega) fun es' clock' hS' hsz=>?_
  ·unfold A1o at hcb;unfold inI;omega
  rw [setA_one];refine Sfn rfl ?_;have eT:((D1 l m).take (k+1)).map (A4n L.g)=((D1 l m).take k).map (A4n L.g)++[Kd L.g p.1 p.2]:=by
   rw [List.take_add_one,hp,List.map_append];rfl
  refine ⟨⟨[],[(2,⟨Fg L,false⟩),(5,⟨[.rmap mb],false⟩)],[],encA [(mb,.raw (.map es' clock'))],false⟩,Ad .nil (.k rfl (.k rfl .nil)) .nil rfl rfl,⟨k+1,es',clock',by omega,?_,by rw [eT];exact hS',by omega,rfl,rfl,rfl⟩,rfl⟩;rw [List.take_add_one,hp];simp
 ·rintro ⟨env,bx,rw,log,stp⟩ henv hstp ⟨k,es,clock,hk,hpre,hS,hes,hbx,hrw,hlog⟩;simp only at hbx hrw hlog henv hstp;subst hbx hrw hlog henv hstp;have hml:k=(D1 l m).length:=by
   have:=congrArg List.length hpre;simp at this;omega
  subst hml;rw [List.take_length] at hS;refine TsR rfl ?_;refine A2 (A2 (Ae (Srn rfl ?_)));refine A51 (A:=[(mb,.raw (.map es clock))]) (mb:=mb) (es:=es) (clock:=clock) hA rfl rfl (by simp) fun ib hib=>Sfn rfl (A4 ?_);have hmi:mb≠ib:=fun e=>hib (by simp [e]);refine Bc (α:=List MapEntry×List (Int×Int)×Array Nat×Nat×V×Arena) (fun p st=>(p.1.map (·.key)=p.2.1.map keyV∧p.2.2.1.toList=p.1.map (·.born)∧(∀e∈p.1,e∈es.toList)∧(p.1.map (·.key)).Nodup∧(∀c∈p.2.1,c∈(D1 l m).map (A4n L.g))∧p.1.length≤4096 ∧
    (mb,Ob.raw (.map es clock))∈p.2.2.2.2.2∧(ib,Ob.raw (.mapIter (some mb) clock p.2.2.1 p.2.2.2.1))∈p.2.2.2.2.2∧clock≤p.2.2.2.1∧OwnS p.2.2.2.2.2 2 (p.2.1.map eB) p.2.2.2.2.1∧offS p.2.2.2.2.1 mb∧offS p.2.2.2.2.1 ib) ∧
    st=⟨[(9,p.2.2.2.2.1),(39,.rptr ib 0)],[],[],encA p.2.2.2.2.2,false⟩) (fun p=>(leftOf es p.2.2.1).size) ([],[],#[],clock,.nils,[(ib,.raw (.mapIter (some mb) clock #[] clock)),(mb,.raw (.map es clock))])
   (Ad (.k rfl (.k rfl .nil)) .nil .nil rfl rfl) ⟨⟨rfl,rfl,by simp,by simp,by simp,by simp,by simp,by simp,Nat.le_refl _,.inl ⟨rfl,rfl⟩,fun _ _ _ _ h=>(by cases h),fun _ _ _ _ h=>(by cases h)⟩,rfl⟩ ?_
  rintro ⟨vis,out,seen,c0,v,A⟩ st ⟨⟨i1,i2,i3,i4,i5,i6,i7,i8,i9,i10,i11,i12⟩,rfl⟩;simp only at i1 i2 i3 i4 i5 i6 i7 i8 i9 i10 i11 i12;have hlen:vis.length=out.length:=by have:=congrArg List.length i1;simpa using this
  refine A2 (Ae ?_);refine A85 (A:=A) (ib:=ib) (mb:=mb) (since:=clock) (c0:=c0) (seen:=seen) (es:=es) (clock:=clock) hA rfl rfl i8 i7 hS (fun e he=>hS.st.1 e he) i9 (fun hz=>?_) (fun e he k hk hkey hval=>?_)
  ·refine Sfn rfl (A2 (A7 rfl (Ak ?_)));have hall:∀x∈es.toList,x∈vis:=fun x hx=>by
    have h1:=all_seen es seen hz x hx;rw [←Array.contains_toList,i2] at h1;have h1:x.born∈vis.map (·.born):=by simpa using h1
    obtain ⟨y,hy,ey⟩:=List.mem_map.1 h1;have h2:=hS.st.2.1;unfold List.Nodup at h2;rw [List.pairwise_map] at h2;exact born_eq h2 (i3 y hy) hx ey▸hy
   have hout:∀x,x∈out↔x∈(D1 l m).map (A4n L.g):=fun x=>by
    refine ⟨i5 x,fun hx=>?_⟩;obtain ⟨_,e,he,ek⟩:=hS.all x hx;have h1:e.key∈vis.map (·.key):=List.mem_map.2 ⟨e,hall e he,rfl⟩;rw [i1,ek] at h1;obtain ⟨c,hc,ec⟩:=List.mem_map.1 h1;exact A9r ec▸hc
   have hnd:out.Nodup:=by
    rw [i1] at i4;unfold List.Nodup at i4 ⊢;rw [List.pairwise_map] at i4;exact i4.imp fun hne e=>hne (by rw [e])
   have hne:out≠[]:=fun e=>by
    have h1:0<(D1 l m).length:=by rw [Vs];exact Nat.mul_pos (by omega) (by omega)
    have h2:=(hout (A4n L.g (D1 l m)[0])).2 (List.mem_map.2 ⟨_,List.getElem_mem h1,rfl⟩);rw [e] at h2;cases h2
   obtain ⟨blk,cap,cs,rfl,hm2,hm3,hm4,hm5⟩:∃(blk cap:Nat) (cs:List V),v=.sref blk 0 out.length cap∧(blk,Ob.cells cs)∈A∧cs.length=cap*2∧out.length≤cap∧cs.take (out.length*2)=(out.map eB).flatMap cells:=by
    rcases i10 with ⟨h,_⟩ | ⟨blk,cap,cs,h1,h2,h3,h4,h5⟩
    ·simp at h;exact absurd h hne
    ·rw [List.length_map] at h1 h4 h5;exact ⟨blk,cap,cs,h1,h2,h3,h4,h5⟩
   have hcb:∀c∈out,A1o c:=fun c hc=>by
    obtain ⟨p,_,rfl⟩:=List.mem_map.1 (i5 c hc);exact Ahd hL.g p.1 p.2
   have hcsl:out.length*2≤cs.length:=by rw [hm3];exact Nat.mul_le_mul_right _ hm4
   have hys:∀x,x∈Si L.g l m↔x∈out:=fun x=>by unfold Si;rw [mem_hitsOf,hout x]
   have hsort:=ca_sort (blk:=blk) (cap:=cap) (xs:=out) (ys:=Si L.g l m) (cs:=cs) hm5 hcsl (by omega) hcb hnd hys (Kx _);have hyl:(Si L.g l m).length=out.length:=by
    have n1:(Si L.g l m).Nodup:=by
     unfold List.Nodup Si;exact (Kx _).imp fun {a b} h (e:a=b)=>Iy (by rw [e] at h;exact h)
    exact Nat.le_antisymm (n1.length_le_of_subset fun x hx=>(hys x).1 hx) (hnd.length_le_of_subset fun x hx=>(hys x).2 hx)
   refine Aa (s':=⟨[(9,.sref blk 0 out.length cap)],[],[],encA A,false⟩) (Ad (.k rfl .nil) .nil .nil rfl rfl) ?_;refine Aa (Sp hA (B:=[(blk,.cells cs)]) rfl (by simpa using hm2) (by simp)) ?_;refine A2 (Ae (Srn rfl ?_));refine A88 (F:=[]) hA rfl rfl rfl hsort (.inl (by simp)) (Sfn rfl ?_);refine TsR rfl ?_;refine Aa (s':=⟨[(4,.sref blk 0 ((Si L.g l m).map eB).length cap)],[],[],encA [(blk,.cells (((Si L.g l m).map eB).flatMap cells++cs.drop (out.length*2)))],false⟩) (Ad (.cons rfl (.of_eq ?_) .nil) .nil .nil rfl rfl) ?_
   ·rw [List.length_map,hyl]
   refine Aa (Wk.close hA (t:=4) (sz:=2) rfl rfl (by simp;rfl) (by omega) (by rw [List.length_map,hyl];exact hm4) (fun x hx=>by obtain ⟨c,_,rfl⟩:=List.mem_map.1 hx;rfl) ?_) ?_
   ·rw [List.length_map,←Ot,List.take_left]
   exact Ea ⟨trivial,_,_,_,Ck rfl,rfl,rfl⟩
  ·refine Sfn rfl (A2 (A9 rfl (A5 (A4 (A2 (Ae ?_))))));have heL:=mem_left he;refine A52 (A:=setA A ib (.raw (.mapIter (some mb) clock (seen.push e.born) clock))) (ib:=ib) (mb:=mb) (since:=clock) (seen:=seen) (es:=es) (clock:=clock) (e:=e) (k:=k) hA rfl rfl (I2 i8) (Ir i7 hmi) hS.st heL.1 hkey hval (Sfn rfl (Ae (SrN 3 rfl ?_)));have hol:(out.map eB).length≤4096:=by rw [List.length_map];omega
   have hO:OwnS (setA A ib (.raw (.mapIter (some mb) clock (seen.push e.born) clock))) 2 (out.map eB) v:=by
    rcases i10 with h | ⟨blk,cap,cs,h1,h2,h3⟩
    ·exact .inl h
    ·exact .inr ⟨blk,cap,cs,h1,Ir h2 (fun e=>i12 _ _ _ _ h1 e.symm),h3⟩
   refine Mp (A:=setA A ib (.raw (.mapIter (some mb) clock (seen.push e.born) clock))) (v:=v) (xs:=out.map eB) (ys:=[eB k]) (zs:=[I 0,I 0]) hA rfl rfl hO (by kernel_rfl) (by omega) (by simp only [List.length_cons,List.length_nil];omega) (by simp only [List.length_cons,List.length_nil];omega) (by simp) fun v' A' hO' hkeep=>?_;refine Sfn rfl ?_;have hnew:e∉vis:=fun hm=>by
    have h1:e.born∈seen.toList:=by rw [i2];exact List.mem_map.2 ⟨e,hm,rfl⟩
    have h2:=heL.2;rw [←Array.contains_toList] at h2;simp at h2;exact h2 (by simpa using h1)
   have hknew:e.key∉vis.map (·.key):=fun hm=>by
    obtain ⟨x,hx,ex⟩:=List.mem_map.1 hm;exact hnew (key_eq hS.nd heL.1 (i3 x hx) ex.symm▸hx)
   refine ⟨(vis++[e],out++[k],seen.push e.born,clock,v',A'),_,Ad (.k rfl (.k rfl .nil)) .nil .nil (by simp only [E4,List.all_cons,A3o hO'];rfl) rfl,⟨⟨?_,?_,?_,?_,?_,?_,?_,?_,Nat.le_refl _,?_,?_,?_⟩,rfl⟩,?_⟩
   ·rw [List.map_append,List.map_append,i1];simp [hkey]
   ·rw [Array.toList_push,i2,List.map_append];rfl
   ·intro x hx;rcases List.mem_append.1 hx with hx | hx
    ·exact i3 x hx
    ·obtain rfl:=List.mem_singleton.1 hx;exact heL.1
   ·rw [List.map_append,List.nodup_append];refine ⟨i4,by simp,fun x hx y hy e'=>?_⟩;obtain rfl:=List.mem_singleton.1 hy;subst e';exact hknew hx
   ·intro c hc;rcases List.mem_append.1 hc with hc | hc
    ·exact i5 c hc
    ·obtain rfl:=List.mem_singleton.1 hc;exact hk
   ·exact vlen es (vis++[e]) hes (fun x hx=>by
     rcases List.mem_append.1 hx with hx | hx
     ·exact i3 x hx
     ·obtain rfl:=List.mem_singleton.1 hx;exact heL.1) (by
     rw [List.map_append,List.nodup_append];refine ⟨i4,by simp,fun x hx y hy e'=>?_⟩;obtain rfl:=List.mem_singleton.1 hy;subst e';exact hknew hx) hpl
   ·exact (hkeep _ (Ir i7 hmi) i11).1
   ·exact (hkeep _ (I2 i8) i12).1
   ·rw [List.map_append];exact hO'
   ·exact (hkeep _ (Ir i7 hmi) i11).2
   ·exact (hkeep _ (I2 (o:=.raw (.mapIter (some mb) clock (seen.push e.born) clock)) i8) i12).2
   ·exact left_shrinks es seen e he
 ·intro e t _ h;exact h.elim
end
end Go.Proofs.YtabedohjkillfaaGreatDoor
namespace Go.Am
section
open Go.RowKit
theorem Afa {P:Program} {o:Oper} {os:List Operand} {sz bytes:Nat} {zs:List V} (hk:opK P o.op=some (.mkbox sz bytes zs,os)):∃t p q e ie z,o.op=.makeSlice t p q∧P.underlying t=some (.slice e)∧P.info? e=some ie∧ie.zero=some z∧z.cells.size=ie.size∧K9 z.cells.toList=some zs∧ie.size=sz∧ie.bytes=bytes∧os=[p,q]:=by
 replace hk:=Dw hk (by simp [Dv]);cases ho:o.op<;>rw [ho] at hk<;>simp only [opK0] at hk<;>(try (cases hk;done))<;>(try (repeat' (split at hk<;>(try (cases hk;done)))))
 all_goals first
  | (simp only [Option.map_eq_some_iff,Prod.mk.injEq,K.mkbox.injEq] at hk
     obtain ⟨zs',hof,⟨rfl,rfl,rfl⟩,rfl⟩:=hk;exact ⟨_,_,_,_,_,_,rfl,by assumption,by assumption,by assumption,beq_iff_eq.1 (by assumption),hof,rfl,rfl,rfl⟩)
  | (simp only [Option.map_eq_some_iff,Prod.mk.injEq] at hk;obtain ⟨_,_,h1,_⟩:=hk;cases h1;done)
  | (simp only [E7] at hk;repeat' (split at hk<;>(try (cases hk;done))))
theorem Z3 {P:Program} {o:Oper} {os:List Operand} {sz:Nat} (hk:opK P o.op=some (.iaddrS sz,os)):∃t p q e,o.op=.indexAddr t p q∧P.underlying t=some (.slice e)∧szOf P e=some sz∧os=[p,q]:=by
 replace hk:=Dw hk (by simp [Dv]);cases ho:o.op<;>rw [ho] at hk<;>simp only [opK0] at hk<;>(try (cases hk;done))<;>(try (repeat' (split at hk<;>(try (cases hk;done)))))
 all_goals first
  | (simp only [Option.map_eq_some_iff,Prod.mk.injEq,K.iaddrS.injEq] at hk
     obtain ⟨m,hm,rfl,rfl⟩:=hk;exact ⟨_,_,_,_,rfl,by assumption,hm,rfl⟩)
  | (simp only [Option.map_eq_some_iff,Prod.mk.injEq] at hk;obtain ⟨_,_,h1,_⟩:=hk;cases h1;done)
  | (simp only [E7] at hk;repeat' (split at hk<;>(try (cases hk;done))))
section
variable {E:Env} {S0:Sur} {l0:List (List V)} {s0:Bool} {A:Arena}
theorem Mq (hE:InA E S0 l0 s0) {K:St→Prop} {s:St} {d N:Nat} {k1 k2:IntKind} {n1 n2:Int} {x y:X} {sz bytes:Nat} {zs:List V} {rest:List Ins} (hx:evXs s.env [x,y]=some [.int k1 n1,.int k2 n2]) (e1:n1=(N:Int)) (e2:n2=(N:Int)) (hN:N≤1000000) (hb:bytes≤1000000) (hs:N*sz≤1000000) (hl:s.log=encA A)
  (hk:∀b,b∉A.map (·.1)→Steps E rest K {s.put (some d) (.sref b 0 N N) with log:=encA ((b,.cells (List.replicate N zs).flatten)::A)}):Steps E (⟨some d,.mkbox sz bytes zs,[x,y],none⟩::rest) K s:=by
 subst e1 e2;refine Step1.raw fun slots ops o i ro n a w h hc hsl hi R Q next hn=>?_
 obtain ⟨os,cc⟩:=Ba hc;obtain ⟨t,p,q,e,ie,z,ho,ht,hie,hz,hzs,hof,rfl,rfl,rfl⟩:=Afa cc.op;obtain ⟨u,v,huv,hu,hv'⟩:=(B9 R.1 cc.xs (Ay hx)).two;cases huv;have R':E.relF (encA A) s.stp s.fs a w h:=by rw [←hl];exact R
 have hbb:(ie.bytes:Int)*(N:Int)≤281474976710656:=by
  have:ie.bytes*N≤1000000*1000000:=Nat.mul_le_mul hb hN;have h2:((ie.bytes*N:Nat):Int)≤281474976710656:=by omega
  push_cast at h2;exact h2
 have hr:=run_make (P:=E.P) w t e ie z ht hie hz k1 k2 N N (by omega) (Int.le_refl _) hbb (by omega);simp only [Int.toNat_natCast] at hr;obtain ⟨R2,hnm⟩:=hE.fresh R' (.cells (madeCells z.cells (N*ie.size)) e) (.cells (List.replicate N zs).flatten) (fun ext=>by
  obtain ⟨g1,g2⟩:=Ft (w:=w.alloc (.cells (madeCells z.cells (N*ie.size)) e)) (φ:=h.φ) hof;have hcl:zs.length=z.cells.size:=by rw [g1];simp
  refine ⟨_,e,heap_alloc_new w _,by rw [size_madeCells];simp [hcl,hzs],fun j v x hv hx=>?_⟩;rw [A0h] at hv;split at hv
  ·rename_i hj;have hx':x=z.cells[j%z.cells.size]!:=by
    have hj':j<N*ie.size:=by rw [←hzs,←hcl];exact hj
    unfold madeCells at hx;simp [hj'] at hx;exact hx.symm
   have hpos:0<zs.length:=by
    rcases Nat.eq_zero_or_pos zs.length with h | h
    ·rw [h] at hj;simp at hj
    ·exact h
   have hjm:j%zs.length<zs.length:=Nat.mod_lt _ hpos;exact g2 (j%zs.length) v x hv (by
    rw [hcl,hx'];have:j%z.cells.size<z.cells.size:=by rw [←hcl];exact hjm
    simp [this])
  ·cases hv)
 refine B5 hi (Ai (Au cc rfl)) (At cc.op) (.inl ?_) (hn _ _ _ h (hk _ hnm) (Fc cc R2 (.data (.sref _ _ _ _)) rfl) rfl);simp [execOp,ho,Dx hu,Dx hv',hr]
end
theorem A49 {E:Env} {σ:FSt} {d blk off n cap sz:Nat} {k:IntKind} {i:Int} {j:Nat} {x y:X} (hx:[x,y].mapM (evX σ)=some [.sref blk off n cap,.int k i]) (hi:i=(j:Int)) (hj:j<n):Does E σ ⟨some d,.iaddrS sz,[x,y],none⟩ {v:=.rptr blk (off+j*sz)} (Bp [x,y]):=by
 subst hi;refine .ext rfl hx fun o os log stp σ' a w h ho R hO=>?_;obtain ⟨t,p,q,e,e1,e2,e3,rfl⟩:=Z3 ho;obtain ⟨u,v,huv,hu,hv'⟩:=hO.two;cases huv;refine ⟨.pointer (some ⟨blk,off+j*sz,none⟩),?_,.data (.rptr _ _),Ap (w0:=w) (φ0:=h.φ) (.rptr _ _)⟩;have h1:(j:Int)<(n:Int):=by omega
 simp only [execOp,e1,Kt hu,Dx hv'];simp [Instr.indexAt,asIntOf,run_underlying e2,Ds e3,h1,hj,Addr.add_lit]
theorem Fi {E:Env} {s:St} {K:St→Prop} {d blk off n cap sz:Nat} {k:IntKind} {i:Int} {j:Nat} {x y:X} {rest:List Ins} (hx:evXs s.env [x,y]=some [.sref blk off n cap,.int k i]) (hi:i=(j:Int)) (hj:j<n) (hk:Steps E rest K (s.put (some d) (.rptr blk (off+j*sz)))):Steps E (⟨some d,.iaddrS sz,[x,y],none⟩::rest) K s :=
 Step1.does (ins:=⟨some d,.iaddrS sz,[x,y],none⟩) (A49 (Ay hx) hi hj) hk
theorem Co {E:Env} {s:St} {K:List (List Loc×List Loc)→St→List Ins→Prop} {d blk off n cap sz:Nat} {k:IntKind} {i:Int} {j:Nat} {x y:X} {rest:List Ins} (hx:evXs s.env [x,y]=some [.sref blk off n cap,.int k i]) (hi:i=(j:Int)) (hj:j<n)
  (tr:TraceK E (s.put (some d) (.rptr blk (off+j*sz))) rest fun fp s' r'=>K (([.slot d],Bp [x,y])::fp) s' r'):TraceK E s (⟨some d,.iaddrS sz,[x,y],none⟩::rest) K :=
 .step (ins:=⟨some d,.iaddrS sz,[x,y],none⟩) (eff:={v:=.rptr blk (off+j*sz)}) (A49 (Ay hx) hi hj) tr
section
variable {E:Env} {S0:Sur} {l0:List (List V)} {s0:Bool} {A:Arena}
theorem Ad8 (hE:InA E S0 l0 s0) {s:St} {t r blk cap sz j:Nat} {cs xs ys:List V} (ht:get s.env t=some (.slice r 1 ys)) (hj:ys[j]?=some (.sref blk 0 xs.length cap)) (hl:s.log=encA A) (hA:(blk,Ob.cells cs)∈A) (h0:0<sz) (hcap:xs.length≤cap) (hxs:∀x∈xs,(cells x).length=sz) (htk:cs.take (xs.length*sz)=xs.flatMap cells) (h1:∀y∈ys,cells y=[y]) :
  Wk E s {s.put (some t) (.slice 0 1 (ys.set j (.slice 0 sz xs))) with log:=encA (Ov A blk)}:=by
 intro a w h R;obtain ⟨q1,q2,q3⟩:=R.1.env t _ (by rw [fs_g];exact ht);have R':E.relF (encA A) s.stp s.fs a w h:=by rw [←hl];exact R
 have hAr:=hE.ar R';obtain ⟨ext,R2⟩:=hE.close R' hA (xs.length*sz) (B:=Ov A blk) (fun p hp=>⟨List.mem_map.2 ⟨p,(dropA_mem.1 hp).1,rfl⟩,(dropA_mem.1 hp).2⟩) (A1j hAr.nd) (fun ext p hp=>(hAr.ok p (dropA_mem.1 hp).1).mono rfl ext);have rd:=A4j (cap:=cap) (hAr.ok _ hA) h0 hcap hxs htk ext;have rs:=Ff ⟨q2,q3⟩;obtain ⟨x,hx⟩:∃x,a.tmps.getD t undef=x:=⟨_,rfl⟩;rw [hx] at rs;have hjl:j<ys.length:=(List.getElem?_eq_some_iff.1 hj).1;have rd2:RepD w (cut h.φ blk (xs.length*sz)) (.slice 0 1 (ys.set j (.slice 0 sz xs))) x:=by
  have rs:=rs.mono ext;rcases Ex rs with ⟨_,e0⟩ | ⟨yb,yo,ycap,cvy,rfl,hp,hcy,hys,ay⟩
  ·rw [e0] at hjl;simp at hjl
  have hset:∀x∈ys.set j (.slice 0 sz xs),cells x=[x]:=fun x hx=>by
   rcases List.mem_or_eq_of_mem_set hx with hx | rfl
   ·exact h1 x hx
   ·rfl
  rw [Ur h1] at ay;refine .slice 1 _ yb yo ys.length ycap cvy (by omega) (by simp) hcy (fun x hx=>by rw [hset x hx];rfl) (fun k v hk=>?_) (fun k v hk=>?_)
  ·rw [Ur hset] at hk;by_cases ek:k=j
   ·subst ek;rw [List.getElem?_set_self hjl] at hk;cases hk;obtain ⟨a1,a2,_,_⟩:=ay k _ hj;exact ⟨a1,a2,rfl⟩
   ·rw [List.getElem?_set_ne (fun h=>ek h.symm)] at hk;obtain ⟨a1,a2,_,a4⟩:=ay k _ hk;exact ⟨a1,a2,a4⟩
  ·rw [Ur hset] at hk;by_cases ek:k=j
   ·subst ek;rw [List.getElem?_set_self hjl] at hk;cases hk;obtain ⟨_,_,a3,_⟩:=ay k _ hj;generalize hz:cvy k=z at a3;cases a3;exact rd
   ·rw [List.getElem?_set_ne (fun h=>ek h.symm)] at hk;exact (ay k _ hk).2.2.1
 have R3:=R2.1.put (d:=t) (v:=.slice 0 1 (ys.set j (.slice 0 sz xs))) (x:=a.tmps.getD t undef) q1 (by rw [hx];exact .data rd2) (by rw [hx];exact Ap rd2);rw [N0 (by rw [R.1.size];exact q1)] at R3;refine ⟨_,⟨?_,R2.2⟩,rfl⟩;show Rel E.nt E.S _ s.stp (s.put (some t) (.slice 0 1 (ys.set j (.slice 0 sz xs)))).fs _ _ _;rw [Dj];exact R3
end
end
end Go.Am
namespace Go.Proofs.YtabedohjkillfaaGreatDoor
section
open Go.Am
def C1 (m:Nat) (P:List (Int×Int)) (b:Nat):List Int:=(List.range m).map fun (c:Nat)=>((P.count ((b:Int),(c:Int)):Nat):Int)
def E6 (g:Gd):Nat:=(g.a*g.d).toNat
def C0 (g:Gd) (P:List (Int×Int)):List (List Int):=(List.range (E6 g)).map (C1 g.cls.length P)
def allH (h:Nat→List (Int×Int)) (n:Nat):List (Int×Int):=(List.range n).flatMap h
def cntN (L:Ld) (h:Nat→List (Int×Int)):List (List Int):=C0 L.g (allH h L.traces.length)
def noneC:Int×Int:=(-1,-1)
def inG (g:Gd) (c:Int×Int):Prop:=(0≤c.1∧c.1<g.a*g.d)∧0≤c.2∧c.2<(g.cls.length:Int)
theorem Es (m:Nat) (P:List (Int×Int)) (b:Nat):(C1 m P b).length=m:=by simp [C1]
theorem Er (g:Gd) (P:List (Int×Int)):(C0 g P).length=E6 g:=by simp [C0]
theorem H5 {g:Gd} {P:List (Int×Int)} {b:Nat} (h:b<E6 g):(C0 g P)[b]?=some (C1 g.cls.length P b):=by simp [C0,h]
theorem H6 {m:Nat} {P:List (Int×Int)} {b c:Nat} (h:c<m):(C1 m P b)[c]?=some ((P.count ((b:Int),(c:Int)):Nat):Int):=by simp [C1,h]
theorem Zq {m:Nat} {P:List (Int×Int)} {c:Int×Int} {b:Nat} (h:c.1≠b):C1 m (P++[c]) b=C1 m P b:=by
 unfold C1;refine List.map_congr_left fun k _=>?_;rw [List.count_append,List.count_singleton];have:(c==((b:Int),(k:Int)))=false:=by
  rw [beq_eq_false_iff_ne];intro e;rw [e] at h;exact h rfl
 rw [this];simp
theorem Ah6 {m:Nat} {P:List (Int×Int)} {b k:Nat} (h:k<m):C1 m (P++[((b:Int),(k:Int))]) b=(C1 m P b).set k (((P.count ((b:Int),(k:Int)):Nat):Int)+1):=by
 refine List.ext_getElem? fun i=>?_;by_cases hi:i<m
 ·rw [H6 hi];by_cases e:i=k
  ·subst e;rw [List.getElem?_set_self (by rw [Es];exact hi),List.count_append,List.count_singleton];simp
  ·rw [List.getElem?_set_ne (fun h=>e h.symm),H6 hi,List.count_append,List.count_singleton];have:((((b:Int),(k:Int)):Int×Int)==((b:Int),(i:Int)))=false:=by
    rw [beq_eq_false_iff_ne];intro h;injection h with _ h;exact e (by omega)
   rw [this];simp
 ·rw [List.getElem?_eq_none (by rw [Es];omega),List.getElem?_eq_none (by rw [List.length_set,Es];omega)]
theorem Wr (g:Gd) (P:List (Int×Int)):C0 g (P++[noneC])=C0 g P:=by
 unfold C0;refine List.map_congr_left fun b _=>Zq ?_;unfold noneC;simp only;omega
theorem A4h {g:Gd} {P:List (Int×Int)} {b k:Nat} (hb:b<E6 g) (hk:k<g.cls.length) :
  C0 g (P++[((b:Int),(k:Int))])=(C0 g P).set b ((C1 g.cls.length P b).set k (((P.count ((b:Int),(k:Int)):Nat):Int)+1)):=by
 refine List.ext_getElem? fun i=>?_;by_cases hi:i<E6 g
 ·rw [H5 hi];by_cases e:i=b
  ·subst e;rw [List.getElem?_set_self (by rw [Er];exact hi),Ah6 hk]
  ·rw [List.getElem?_set_ne (fun h=>e h.symm),H5 hi,Zq];simp only;omega
 ·rw [List.getElem?_eq_none (by rw [Er];omega),List.getElem?_eq_none (by rw [List.length_set,Er];omega)]
def arn (rbs:List Nat) (rows:List (List Int)):Arena:=List.zipWith (fun b r=>(b,Ob.cells (r.map I))) rbs rows
theorem L7:∀{rbs:List Nat} {rows:List (List Int)},rbs.length=rows.length→(arn rbs rows).map (·.1)=rbs
 | [],[],_=>rfl
 | b::rbs,r::rows,h=>by
   have:=L7 (rbs:=rbs) (rows:=rows) (by simpa using h);simp [arn] at this ⊢;exact this
theorem A20:∀{rbs:List Nat} {rows:List (List Int)} (b:Nat) (r:List Int),rbs.length=rows.length→arn (rbs++[b]) (rows++[r])=arn rbs rows++[(b,.cells (r.map I))]
 | [],[],b,r,_=>rfl
 | c::rbs,q::rows,b,r,h=>by
   have:=A20 (rbs:=rbs) (rows:=rows) b r (by simpa using h);simp [arn] at this ⊢;exact this
theorem A81:∀{rbs:List Nat} {rows:List (List Int)} {j b:Nat} {r:List Int},rbs[j]?=some b→rows[j]?=some r→(b,Ob.cells (r.map I))∈arn rbs rows
 | [],_,_,_,_,h,_=>by simp at h
 | _::_,[],_,_,_,_,h=>by simp at h
 | c::rbs,q::rows,0,b,r,h,k=>by simp at h k;subst h k;simp [arn]
 | c::rbs,q::rows,j+1,b,r,h,k=>by
   have:=A81 (rbs:=rbs) (rows:=rows) (j:=j) (b:=b) (r:=r) (by simpa using h) (by simpa using k);simp only [arn] at this ⊢;simp only [List.zipWith_cons_cons];exact List.mem_cons_of_mem _ this
theorem setA_out {A:Arena} {b:Nat} {o:Ob} (h:b∉A.map (·.1)):setA A b o=A:=by
 unfold setA
 conv=>rhs;rw [←List.map_id A]
 refine List.map_congr_left fun p hp=>?_;rw [if_neg fun e=>h (List.mem_map.2 ⟨p,hp,e⟩)];rfl
theorem A80:∀{rbs:List Nat} {rows:List (List Int)} {j b:Nat} (r:List Int),rbs.Nodup→rbs.length=rows.length→rbs[j]?=some b→setA (arn rbs rows) b (.cells (r.map I))=arn rbs (rows.set j r)
 | [],_,_,_,_,_,_,h=>by simp at h
 | _::_,[],_,_,_,_,h,_=>by simp at h
 | c::rbs,q::rows,0,b,r,hn,hl,h=>by
   simp at h;subst h;rw [List.nodup_cons] at hn;have e:arn (c::rbs) (q::rows)=(c,.cells (q.map I))::arn rbs rows:=rfl;have e2:arn (c::rbs) ((q::rows).set 0 r)=(c,.cells (r.map I))::arn rbs rows:=rfl;rw [e,e2];have:=setA_out (A:=arn rbs rows) (b:=c) (o:=.cells (r.map I)) (by rw [L7 (by simpa using hl)];exact hn.1);unfold setA at this ⊢;rw [List.map_cons,this];simp
 | c::rbs,q::rows,j+1,b,r,hn,hl,h=>by
   rw [List.nodup_cons] at hn;have h':rbs[j]?=some b:=by simpa using h
   have ih:=A80 (rbs:=rbs) (rows:=rows) (j:=j) (b:=b) r hn.2 (by simpa using hl) h';have hcb:c≠b:=fun e=>hn.1 (e▸List.mem_of_getElem? h');have e:arn (c::rbs) (q::rows)=(c,.cells (q.map I))::arn rbs rows:=rfl;have e2:arn (c::rbs) ((q::rows).set (j+1) r)=(c,.cells (q.map I))::arn rbs (rows.set j r):=rfl;rw [e,e2,←ih];unfold setA;rw [List.map_cons,if_neg hcb]
theorem arn_drop {b:Nat} {r:List Int} {rbs:List Nat} {rows:List (List Int)} (hn:(b::rbs).Nodup) (hl:rbs.length=rows.length):Ov (arn (b::rbs) (r::rows)) b=arn rbs rows:=by
 rw [List.nodup_cons] at hn;have e:arn (b::rbs) (r::rows)=(b,.cells (r.map I))::arn rbs rows:=rfl;rw [e];unfold Ov;rw [List.filter_cons];simp only [bne_self_eq_false,Bool.false_eq_true,if_false];refine List.filter_eq_self.2 fun p hp=>?_;have:p.1∈rbs:=by rw [←L7 hl];exact List.mem_map.2 ⟨p,hp,rfl⟩
 have:p.1≠b:=fun e=>hn.1 (e▸this);simpa using this
section
variable {E:Env} {S0:Sur} {l0:List (List V)} {s0:Bool}
def Gw (m:Nat) (rbs:List Nat):List V:=rbs.map fun b=>.sref b 0 m m
theorem get_upd1 {l:List (Nat×V)} {t u:Nat} {v:V} (h:u≠t):get ((t,v)::l) u=get l u:=by
 rw [A1h,if_neg h]
theorem Sk (hE:InA E S0 l0 s0) {t m:Nat}:∀(rbs:List Nat) (rows:List (List Int)) (pre:List V) (s:St),rbs.Nodup→rbs.length=rows.length→(∀r∈rows,r.length=m)→(∀y∈pre,cells y=[y])→get s.env t=some (.slice 0 1 (pre++Gw m rbs))→s.log=encA (arn rbs rows) →
  ∃s',Wk E s s'∧get s'.env t=some (.slice 0 1 (pre++rows.map As))∧s'.log=encA []∧s'.stp=s.stp∧s'.bx=s.bx∧∀u,u≠t→get s'.env u=get s.env u
 | [],[],pre,s,_,_,_,_,ht,hl=>⟨s,Wk.refl s,by simpa [Gw] using ht,hl,rfl,rfl,fun _ _=>rfl⟩
 | b::rbs,r::rows,pre,s,hn,hlen,hm,hpre,ht,hl=>by
   have hlen':rbs.length=rows.length:=by simpa using hlen
   have hrl:r.length=m:=hm r (by simp);have h1:∀y∈pre++Gw m (b::rbs),cells y=[y]:=fun y hy=>by
    rcases List.mem_append.1 hy with hy | hy
    ·exact hpre y hy
    ·obtain ⟨_,_,rfl⟩:=List.mem_map.1 hy;rfl
   have w1:=Ad8 (E:=E) (S0:=S0) (l0:=l0) (s0:=s0) (A:=arn (b::rbs) (r::rows)) hE (s:=s) (t:=t) (r:=0) (blk:=b) (cap:=m) (sz:=1) (j:=pre.length) (cs:=r.map I) (xs:=r.map I) (ys:=pre++Gw m (b::rbs)) ht
    (by rw [List.length_map,hrl,List.getElem?_append_right (Nat.le_refl _),Nat.sub_self];rfl) hl (by simp [arn]) (by omega) (by rw [List.length_map,hrl];exact Nat.le_refl _) (fun x hx=>by obtain ⟨_,_,rfl⟩:=List.mem_map.1 hx;rfl)
    (by rw [Nat.mul_one,List.take_length];induction r with
        | nil=>rfl
        | cons a r _=>rw [List.flatMap_def,List.map_map];induction (a::r) with
          | nil=>rfl
          | cons a r ih=>simp [cells] at ih ⊢;exact ih) h1
   have eset:(pre++Gw m (b::rbs)).set pre.length (.slice 0 1 (r.map I))=(pre++[As r])++Gw m rbs:=by
    rw [List.set_append_right _ _ (Nat.le_refl _),Nat.sub_self];simp [Gw,As]
   rw [eset,arn_drop hn hlen'] at w1;rw [List.nodup_cons] at hn;obtain ⟨s',w2,g1,g2,g3,g4,g5⟩:=Sk hE (t:=t) rbs rows (pre++[As r]) hn.2 hlen' (fun q hq=>hm q (by simp [hq])) (fun y hy=>by
    rcases List.mem_append.1 hy with hy | hy
    ·exact hpre y hy
    ·rw [List.mem_singleton.1 hy];rfl) (s:={s.put (some t) (.slice 0 1 ((pre++[As r])++Gw m rbs)) with log:=encA (arn rbs rows)}) (by show Am.get ((t,_)::s.env) t=_;simp [Am.get]) rfl
   exact ⟨s',w1.trans w2,by rw [g1];simp,g2,by rw [g3];rfl,by rw [g4];rfl,fun u hu=>by rw [g5 u hu];exact get_upd1 hu⟩
theorem Ah7 (hE:InA E S0 l0 s0) {t m:Nat} (rbs:List Nat) (rows:List (List Int)) (pre:List V) (s:St) (h1:rbs.Nodup) (h2:rbs.length=rows.length) (h3:∀r∈rows,r.length=m) (h4:∀y∈pre,cells y=[y]) (h5:get s.env t=some (.slice 0 1 (pre++Gw m rbs))) (h6:s.log=encA (arn rbs rows)) :
  ∃s',Wk E s s'∧get s'.env t=some (.slice 0 1 (pre++rows.map As))∧s'.log=encA []∧s'.stp=s.stp∧s'.bx=s.bx :=
 let ⟨s',a,b,c,d,e,_⟩:=Sk hE rbs rows pre s h1 h2 h3 h4 h5 h6
 ⟨s',a,b,c,d,e⟩
end
end
section
open Go.Am
attribute [local simp] cells Af mkv Aq B6 under dem dem1 eB Ed sB Fg
def Rm:List (Int×Int)→List (Int×Int)
 | [c]=>if c=noneC then [] else [c]
 | _=>[]
def Xg (L:Ld) (t:Nat):List (Int×Int):=Rm (Nr L t)
theorem c_surely {L:Ld} (hL:LdOk L) {t:Nat} (ht:t<L.traces.length):C Tryz.prog Kh [.agg (Fg L),I (t:Nat)] (sB (Xg L t)):=by
 have kc:=c_hits hL ht;unfold Xg;generalize Nr L t=l at kc;refine C_of mixed S6.2 (by simp) fun S ok=>?_;refine TsR rfl (A2 (TsC rfl (A3 rfl rfl kc (Sfn rfl ?_))));rcases l with _ | ⟨c,_ | ⟨c2,r⟩⟩
 ·refine A2 (Ab (KrN 7 rfl (L8 (g:=0) (cs:=[I (-1),I (-1)]) (gb:=false) (by simp [Fy]) rfl rfl rfl (by simp) ?_)));refine .done ⟨by kernel_rfl,by kernel_rfl,Cx (want:=true) (.bool true) rfl rfl rfl (Sfn rfl ?_)⟩;refine A7 rfl (A5 (TsR rfl ?_));refine Aa (s':=⟨[(4,.slice 0 2 [])],[],[],[],false⟩) (Ad (.cons rfl (.nil 0 2) .nil) .nil .nil rfl rfl) ?_;exact A8 rfl rfl rfl rfl trivial
 ·refine A2 (Ab (KrN 7 rfl (L8 (g:=0) (cs:=[I (-1),I (-1)]) (gb:=true) (by simp [Fy]) rfl rfl rfl (by simp) ?_)));refine Krn rfl (.done ⟨by kernel_rfl,by kernel_rfl,Sfn rfl ?_⟩);refine An rfl rfl (fun h=>?_) (fun h=>A5 ?_)
  ·have hc:c≠noneC:=by
    rintro rfl;revert h;show (!((((-1:Int)==-1)&&((-1:Int)==-1)):Bool))=true→False;decide
   refine TsR rfl (A8 rfl rfl rfl ?_ trivial);simp [Rm,hc,D2]
  ·have hc:c=noneC:=by
    have h:(!((c.1==-1)&&(c.2==-1)))=false:=by simpa using h
    simp at h;exact Prod.ext h.1 h.2
   refine TsR rfl ?_;refine Aa (s':=⟨[(4,.slice 0 2 [])],[],[],[],false⟩) (Ad (.cons rfl (.nil 0 2) .nil) .nil .nil rfl rfl) ?_;refine A8 rfl rfl rfl ?_ trivial;simp [Rm,hc,D2]
 ·have hne:((((c::c2::r:List (Int×Int)).map eB).length:Int)==1)=false:=by
   rw [beq_eq_false_iff_ne];simp;omega
  refine A2 (Ab (KrN 4 rfl ?_));refine Ah 3 rfl (by simp;omega) (L8 (g:=0) (cs:=[I (-1),I (-1)]) (by simp [Fy]) rfl rfl rfl (by simp) ?_);refine .done ⟨by kernel_rfl,by kernel_rfl,Cx (want:=true) (.bool true) rfl rfl (congrArg some hne) (Al rfl (by simp;omega) ?_)⟩;refine An rfl rfl (fun h=>?_) (fun h=>A5 (TsR rfl ?_))
  ·have h:(bif ((((c::c2::r:List (Int×Int)).map eB).length:Int)==1) then true else false)=true:=h;rw [hne] at h;cases h
  refine Aa (s':=⟨[(4,.slice 0 2 [])],[],[],[],false⟩) (Ad (.cons rfl (.nil 0 2) .nil) .nil .nil rfl rfl) ?_;exact A8 rfl rfl rfl rfl trivial
end
section
open Go.Am
theorem Ahb {g:Gd} (hg:El g=true) (a b:Int×Int):Kd g a b=noneC∨inG g (Kd g a b):=by
 obtain ⟨_,_,ha,hd,hc,_⟩:=F6 hg;unfold Kd;split
 ·rename_i h;rw [Bool.and_eq_true,Bu,Bu] at h;split
  ·rename_i i hi;have:=A1m _ _ _ hi;have m1:0≤rowN g a b*g.a:=Int.mul_nonneg (by omega) (by omega);have m2:rowN g a b*g.a≤(g.d-1)*g.a:=Int.mul_le_mul_of_nonneg_right (by omega) (by omega);rw [Int.sub_mul,Int.mul_comm g.d g.a] at m2;refine .inr ⟨⟨?_,?_⟩,?_,?_⟩<;>simp only<;>omega
  ·exact .inl rfl
 ·exact .inl rfl
theorem Q5 {g:Gd} (hg:El g=true):(E6 g:Int)=g.a*g.d∧1≤E6 g∧E6 g≤256:=by
 obtain ⟨_,_,ha,hd,hc,_⟩:=F6 hg;have h1:1*1≤g.a*g.d:=Int.mul_le_mul (by omega) (by omega) (by omega) (by omega);have h2:g.a*g.d≤16*16:=Int.mul_le_mul (by omega) (by omega) (by omega) (by omega);unfold E6;omega
theorem Afv {g:Gd} (hg:El g=true) {c:Int×Int} (h:inG g c):∃b k:Nat,c=((b:Int),(k:Int))∧b<E6 g∧k<g.cls.length:=by
 obtain ⟨⟨h1,h2⟩,h3,h4⟩:=h;have:=(Q5 hg).1;exact ⟨c.1.toNat,c.2.toNat,Prod.ext (by simp;omega) (by simp;omega),by omega,by omega⟩
end
section
open Go.Am
attribute [local simp] cells Af mkv Aq B6 under dem dem1 eB Ed sB Fg
def Ng (m:Nat) (rbs:List Nat) (k:Nat):List V:=(rbs.map fun b=>V.sref b 0 m m)++List.replicate k .nils
theorem Ab1 (m:Nat) (rbs:List Nat) (k:Nat) (B:Nat→Bool) (R:Nat→Option (Nat×Nat×Nat)):(Ng m rbs k).all (Bw B R 6)=true:=by
 rw [List.all_eq_true];intro x hx;rcases List.mem_append.1 hx with hx | hx
 ·obtain ⟨_,_,rfl⟩:=List.mem_map.1 hx;rfl
 ·rw [List.eq_of_mem_replicate hx];rfl
theorem Afi {j m k:Nat} {rbs:List Nat} {env:List (Nat×V)} {bx:List (Nat×Box)} {rw:List (Nat×Nat×Nat×Nat)} (h:E4 env ((j,⟨[],false⟩)::bx) rw=true):E4 env ((j,⟨Ng m rbs k,false⟩)::bx) rw=true:=by
 have e:C6 ((j,(⟨Ng m rbs k,false⟩:Box))::bx)=C6 ((j,(⟨[],false⟩:Box))::bx):=rfl;unfold E4 at h ⊢;rw [e];rw [Bool.and_eq_true] at h ⊢;refine ⟨h.1,?_⟩;have h2:=h.2;rw [List.all_cons,Bool.and_eq_true] at h2 ⊢;exact ⟨Ab1 _ _ _ _ _,h2.2⟩
theorem A2u (m:Nat) (rbs:List Nat) (k:Nat):(Ng m rbs k).length=rbs.length+k:=by simp [Ng]
theorem Aek (m:Nat) (rbs:List Nat) (k b:Nat):(Ng m rbs (k+1)).set rbs.length (.sref b 0 m m)=Ng m (rbs++[b]) k:=by
 unfold Ng;rw [List.set_append_right _ _ (by simp),List.length_map,Nat.sub_self,List.replicate_succ];simp
theorem Ab2 (m:Nat) (rbs:List Nat):∀l:List V,l=(rbs.map fun b=>V.sref b 0 m m)→l.flatMap cells=l:=by
 induction rbs with
 | nil=>rintro l rfl;rfl
 | cons b r ih=>rintro l rfl;rw [List.map_cons,List.flatMap_cons,ih _ rfl];rfl
theorem A66 (m:Nat) (rbs:List Nat):Holds (Ng m rbs 0) 0 1 rbs.length (rbs.map fun b=>V.sref b 0 m m):=by
 refine ⟨by omega,by simp,fun x hx=>?_,?_,fun x hx=>?_⟩
 ·obtain ⟨_,_,rfl⟩:=List.mem_map.1 hx;rfl
 ·rw [Ab2 m rbs _ rfl];simp [Ng,List.take_of_length_le]
 ·obtain ⟨_,_,rfl⟩:=List.mem_map.1 hx;rfl
theorem Qn (h:Nat→List (Int×Int)) (k:Nat):allH h (k+1)=allH h k++h k:=by
 unfold allH;rw [List.range_succ,List.flatMap_append];simp
theorem Aa7 {L:Ld} {h:Nat→List (Int×Int)} (hn:L.traces.length≤64) (hr:∀t<L.traces.length,(h t).length≤4096):∀k≤L.traces.length,(allH h k).length≤k*4096
 | 0,_=>by simp [allH]
 | k+1,hk=>by
   have:=Aa7 hn hr k (by omega);have h2:=hr k (by omega);rw [Qn,List.length_append];omega
theorem Aas {cs:List V} {i:Nat} (h:i<cs.length) (v:V):Aq cs i [v]=cs.set i v:=by
 rw [List.set_eq_take_append_cons_drop,if_pos h];simp [Aq]
theorem Ahw {L:Ld} (hL:LdOk L) {f:FuncId} {h:Nat→List (Int×Int)} (hf:∀t<L.traces.length,C Tryz.prog f [.agg (Fg L),I (t:Nat)] (sB (h t))) (hr:∀t<L.traces.length,(h t).length≤4096∧∀c∈h t,c=noneC∨inG L.g c) :
  C Tryz.prog Hp [.agg (Fg L),.func (.func f) [.agg (Fg L)] []] (Iv (cntN L h)):=by
 obtain ⟨_,hsz,hga,hgd,hcl,_⟩:=F6 hL.g;have nb:=Q5 hL.g;have hab:IntKind.wrap .i64 (L.g.a*L.g.d)=(E6 L.g:Int):=by rw [nb.1];exact w64 (by omega) (by omega)
 refine C_of mixed U7.2 (by simp) fun S ok=>?_;refine Qr rfl rfl ?_;have hA:=Qw (E:=env0 Tryz.prog mixed 63 S ok) [] false;refine TsR rfl ?_;refine Aw rfl (by simp;omega) ?_;refine A2 (TsR rfl (A4 ?_));refine Bc (α:=Nat×List Nat) (fun p st=>(p.1≤E6 L.g∧p.2.length=p.1∧p.2.Nodup) ∧
   st=⟨[(1,.func (.func f) [.agg (Fg L)] []),(2,.ptr 2 0),(5,.bsl 17 0 1 (E6 L.g)),(18,.bsl 17 0 1 (E6 L.g)),(19,I (E6 L.g:Nat)),(20,I (p.1:Nat))],[(17,⟨Ng L.g.cls.length p.2 (E6 L.g-p.1),false⟩),(2,⟨Fg L,false⟩)],[],encA (arn p.2 ((List.range p.1).map (C1 L.g.cls.length []))),false⟩) (fun p=>E6 L.g-p.1) (0,[])
  (Bi (.k rfl (.k rfl (.cons rfl (.of_eq ?_) (.cons rfl (.of_eq ?_) (.cons rfl (VLe.i ?_) (.k rfl .nil)))))) (.cons rfl ?_ (.k rfl .nil)) .nil (Afi rfl) rfl rfl) ⟨⟨by omega,rfl,List.Pairwise.nil⟩,rfl⟩ ?_
 ·show V.bsl 17 0 1 (IntKind.wrap .i64 (L.g.a*L.g.d)).toNat=_;rw [hab];rfl
 ·show V.bsl 17 0 1 (IntKind.wrap .i64 (L.g.a*L.g.d)).toNat=_;rw [hab];rfl
 ·rw [hab];rfl
 ·show LLe (List.replicate (IntKind.wrap .i64 (L.g.a*L.g.d)).toNat [V.nils]).flatten _;rw [hab];have e:(List.replicate (E6 L.g) [V.nils]).flatten=Ng L.g.cls.length [] (E6 L.g-0):=by simp [Ng]
  rw [Int.toNat_natCast,e];exact LLe.refl _
 rintro ⟨k,rbs⟩ st ⟨⟨hk,hlen,hnd⟩,rfl⟩;simp only at hk hlen hnd;have hlr:rbs.length=((List.range k).map (C1 L.g.cls.length [])).length:=by simp [hlen]
 refine TsR rfl (By rfl (fun h1=>?_) (fun h1=>?_))
 ·have h1:k<E6 L.g:=by simpa using h1
  refine Bg (A2 (A4 (TsR rfl (Ae ?_))));refine SrN 6 rfl (Mq hA (N:=L.g.cls.length) rfl (by simp) (by simp) (by omega) (by omega) (by omega) rfl fun b hb=>?_);rw [L7 hlr] at hb;refine Al rfl (by simp [A2u,hlen];omega) (TrR rfl ?_);have ez:(List.replicate L.g.cls.length [I 0]).flatten=(C1 L.g.cls.length [] k).map I:=by
   have:C1 L.g.cls.length [] k=List.replicate L.g.cls.length 0:=by
    refine List.ext_getElem (by simp [C1]) fun i h1 h2=>by simp [C1]
   rw [this];simp
  have eA:arn (rbs++[b]) ((List.range (k+1)).map (C1 L.g.cls.length []))=arn rbs ((List.range k).map (C1 L.g.cls.length []))++[(b,.cells ((C1 L.g.cls.length [] k).map I))]:=by
   rw [List.range_succ,List.map_append];exact A20 _ _ hlr
  have hnd2:(rbs++[b]).Nodup:=by
   rw [List.nodup_append];exact ⟨hnd,by simp,fun x hx y hy e=>by rw [List.mem_singleton.1 hy] at e;exact hb (e▸hx)⟩
  refine ⟨(k+1,rbs++[b]),_,Wk.trans (Bi (env:=[(1,.func (.func f) [.agg (Fg L)] []),(2,.ptr 2 0),(5,.bsl 17 0 1 (E6 L.g)),(18,.bsl 17 0 1 (E6 L.g)),(19,I (E6 L.g:Nat)),(20,I ((k+1:Nat):Int))]) (bx:=[(17,⟨Ng L.g.cls.length (rbs++[b]) (E6 L.g-(k+1)),false⟩),(2,⟨Fg L,false⟩)]) (rw:=[])
    (.k rfl (.k rfl (.k rfl (.k rfl (.k rfl (.cons rfl (VLe.i (w64 (by omega) (by omega))) .nil)))))) (.cons rfl ?_ (.k rfl .nil)) .nil (Afi rfl) rfl rfl) (Sp hA (B:=arn (rbs++[b]) ((List.range (k+1)).map (C1 L.g.cls.length []))) rfl ?_ ?_),⟨⟨by simp only;omega,by simp [hlen],hnd2⟩,rfl⟩,by simp only;omega⟩
  ·have e1:E6 L.g-k=(E6 L.g-(k+1))+1:=by omega
   have e2:(0:Nat)+((k:Nat):Int).toNat*1=rbs.length:=by simp [hlen]
   show LLe (Aq (Ng L.g.cls.length rbs (E6 L.g-k)) (0+((k:Nat):Int).toNat*1) [.sref b 0 L.g.cls.length L.g.cls.length]) _;rw [e1,e2,Aas (by rw [A2u];omega),Aek];exact LLe.refl _
  ·intro p hp;rw [eA] at hp;rcases List.mem_append.1 hp with hp | hp
   ·exact List.mem_cons_of_mem _ hp
   ·rw [List.mem_singleton.1 hp,ez];exact List.mem_cons_self
  ·rw [L7 (by simp [hlen])];exact hnd2
 have h1:k=E6 L.g:=by simp at h1;omega
 subst h1;clear hlr;refine Ak ?_;refine Aa (s':=⟨[(1,.func (.func f) [.agg (Fg L)] []),(2,.ptr 2 0),(5,.bsl 17 0 1 rbs.length)],[(17,⟨Ng L.g.cls.length rbs 0,false⟩),(2,⟨Fg L,false⟩)],[],encA (arn rbs (C0 L.g (allH h 0))),false⟩) (Bi (.k rfl (.k rfl (.cons rfl (.of_eq (by rw [hlen])) .nil))) (.cons rfl (by rw [Nat.sub_self];exact LLe.refl _) (.k rfl .nil)) .nil (Afi rfl) rfl rfl) ?_;refine Aa (Wk.bsl (t:=5) rfl rfl (A66 _ _)) ?_;refine A2 (TsR rfl (A4 ?_));refine Bc (fun (k:Nat) st=>k≤L.traces.length∧st=⟨[(1,.func (.func f) [.agg (Fg L)] []),(2,.ptr 2 0),(5,.slice 0 1 (rbs.map fun b=>V.sref b 0 L.g.cls.length L.g.cls.length)),(33,sB L.traces),(34,I (L.traces.length:Nat)),(35,I (k:Nat))],[(2,⟨Fg L,false⟩)],[],encA (arn rbs (C0 L.g (allH h k))),false⟩) (fun k=>L.traces.length-k) 0 (Bi (.k rfl (.k rfl (.k rfl (.k rfl (.cons rfl (VLe.i (by simp)) (.k rfl .nil)))))) (.k rfl .nil) .nil rfl rfl rfl) ⟨by omega,rfl⟩ ?_;rintro k st ⟨hk,rfl⟩;refine TsR rfl (By rfl (fun h1=>?_) (fun h1=>?_))
 ·have h1:k<L.traces.length:=by simpa using h1
  have hb:=Aa7 hL.t (fun t ht=>(hr t ht).1) k hk;have hr1:=hr k h1;have hLt:=hL.t;refine Bg (A2 (A4 (TsR rfl (TsC rfl (Dr rfl rfl (hf k h1) (Sfn rfl (A4 ?_)))))));refine Bc (fun (j:Nat) st=>j≤(h k).length∧st=⟨[(1,.func (.func f) [.agg (Fg L)] []),(2,.ptr 2 0),(5,.slice 0 1 (rbs.map fun b=>V.sref b 0 L.g.cls.length L.g.cls.length)),(33,sB L.traces),(34,I (L.traces.length:Nat)),(35,I (k:Nat)),(40,sB (h k)),(41,I ((h k).length:Nat)),(42,I (j:Nat))],[(2,⟨Fg L,false⟩)],[],encA (arn rbs (C0 L.g (allH h k++(h k).take j))),false⟩) (fun j=>(h k).length-j) 0 (Bi (.k rfl (.k rfl (.k rfl (.k rfl (.k rfl (.k rfl (.k rfl (.cons rfl (VLe.i (by simp)) (.k rfl .nil))))))))) (.k rfl .nil) .nil rfl rfl (by show encA (arn rbs (C0 L.g (allH h k)))=_;rw [List.take_zero,List.append_nil])) ⟨by omega,rfl⟩ ?_;rintro j st ⟨hj,rfl⟩;refine TsR rfl (By rfl (fun h2=>?_) (fun h2=>?_))
  ·have h2:j<(h k).length:=by simpa using h2
   refine Bg (A2 (A4 (A2 (Ae (Az 1 rfl (by simp;omega) ?_)))));rw [Aj h2];refine Sfn rfl ?_;refine A2 (Ae (SrN 1 rfl (X2 (g:=0) (cs:=[I (-1),I (-1)]) (by simp [Fy]) rfl (by simp) (Sfn rfl ?_))));have hmem:=List.getElem_mem h2;have eT:(h k).take (j+1)=(h k).take j++[(h k)[j]]:=by rw [List.take_add_one,List.getElem?_eq_getElem h2];rfl
   obtain ⟨c,hc⟩:∃c,(h k)[j]=c:=⟨_,rfl⟩;rw [hc] at hmem eT ⊢;rcases hr1.2 c hmem with rfl | hin
   ·refine A7 rfl (A5 (TrR rfl ?_));exact ⟨j+1,_,Bi (.k rfl (.k rfl (.k rfl (.k rfl (.k rfl (.k rfl (.k rfl (.k rfl (.cons rfl (VLe.i (w64 (by omega) (by omega))) .nil))))))))) (.k rfl .nil) .nil rfl rfl (by rw [eT,←List.append_assoc,Wr];rfl),⟨by omega,rfl⟩,by omega⟩
   ·obtain ⟨b,q,rfl,hbb,hq⟩:=Afv hL.g hin;have hbl:b<rbs.length:=by omega
    obtain ⟨P,hP⟩:∃P,allH h k++(h k).take j=P:=⟨_,rfl⟩;have hPl:P.length≤300000:=by
     have h3:((h k).take j).length≤4096:=by simp;omega
     rw [←hP,List.length_append];omega
    obtain ⟨n0,hn0⟩:∃n0,P.count ((b:Int),(q:Int))=n0:=⟨_,rfl⟩;have hn1:n0≤300000:=by rw [←hn0];exact Nat.le_trans List.count_le_length hPl
    have hcl2:=Er L.g P;have hrow:=H5 (P:=P) hbb;have hcell:((C1 L.g.cls.length P b).map I)[q]?=some (I n0):=by rw [List.getElem?_map,H6 hq,hn0];rfl
    have hrb:rbs[b]?=some rbs[b]:=List.getElem?_eq_getElem hbl;have hmA:=A81 (rbs:=rbs) hrb hrow;rw [hP];refine A9 rfl ?_;refine Ab (Ah 4 rfl (by simp;omega) ?_);rw [Aj hbl];refine KrN 3 rfl (.done (KrT ?_));refine Fi (blk:=rbs[b]) (off:=0) (j:=q) rfl rfl hq ?_;refine Bz hA (v:=I n0) rfl rfl hmA (by simpa using hcell) (SrN 1 rfl ?_);refine Fi (blk:=rbs[b]) (off:=0) (j:=q) rfl rfl hq ?_;refine Bx hA rfl rfl hmA (by simp [Es];omega) rfl rfl (Sfn rfl ?_);have eL:setA (arn rbs (C0 L.g P)) rbs[b] (.cells (((C1 L.g.cls.length P b).map I).set (0+q*1) (I (IntKind.wrap .i64 ((n0:Int)+1)))))=arn rbs (C0 L.g (P++[((b:Int),(q:Int))])):=by
     rw [A4h hbb hq,hn0,w64 (by omega) (by omega),←A80 _ hnd (by rw [hcl2,hlen]) hrb,List.map_set,Nat.zero_add,Nat.mul_one]
    refine TrR rfl ?_;exact ⟨j+1,_,Bi (.k rfl (.k rfl (.k rfl (.k rfl (.k rfl (.k rfl (.k rfl (.k rfl (.cons rfl (VLe.i (w64 (by omega) (by omega))) .nil))))))))) (.k rfl .nil) .nil rfl rfl (by rw [eT,←List.append_assoc,hP,←eL];rfl),⟨by omega,rfl⟩,by omega⟩
  ·have h2:j=(h k).length:=by simp at h2;omega
   subst h2;refine Ak (TrR rfl ?_);exact ⟨k+1,_,Bi (.k rfl (.k rfl (.k rfl (.k rfl (.k rfl (.cons rfl (VLe.i (w64 (by omega) (by omega))) .nil)))))) (.k rfl .nil) .nil rfl rfl (by rw [Qn,List.take_length];rfl),⟨by omega,rfl⟩,by omega⟩
 ·have h1:k=L.traces.length:=by simp at h1;omega
  subst h1;refine Ak (TsR rfl ?_);obtain ⟨s',w1,g1,g2,g3,g4⟩:=Ah7 hA (t:=4) (m:=L.g.cls.length) rbs (C0 L.g (allH h L.traces.length)) [] ⟨[(4,.slice 0 1 (Gw L.g.cls.length rbs))],[],[],encA (arn rbs (C0 L.g (allH h L.traces.length))),false⟩ hnd (by rw [Er,hlen]) (fun r hr=>by obtain ⟨b,_,rfl⟩:=List.mem_map.1 hr;exact Es _ _ _) (by simp) rfl rfl;have w2:=Bi (E:=(env0 Tryz.prog mixed 63 S ok).withA [] false) (s:=s') (env:=[(4,Iv (cntN L h))]) (bx:=[]) (rw:=[]) (.cons g1 (.of_eq rfl) .nil) .nil .nil rfl rfl g2;refine Aa (s':=⟨[(4,.slice 0 1 (Gw L.g.cls.length rbs))],[],[],encA (arn rbs (C0 L.g (allH h L.traces.length))),false⟩) (Ad (.k rfl .nil) .nil .nil rfl rfl) ?_;refine Aa (w1.trans w2) ?_;exact Ea ⟨trivial,_,_,_,Ck rfl,rfl,rfl⟩
end
section
open Go.Am
attribute [local simp] cells Af mkv Aq B6 under dem dem1 eB Ed sB Fg Ac eF layC
theorem A9o {x:Int} {q:Int×Int}:∀(n:Nat) (y:Int),q∈ptsN x n y↔q.1=x∧y≤q.2∧q.2<y+n
 | 0,y=>by simp [ptsN]
 | n+1,y=>by
   rw [ptsN,List.mem_cons,A9o n (y+1)];constructor
   ·rintro (rfl | ⟨h1,h2,h3⟩)
    ·simp;omega
    ·refine ⟨h1,?_,?_⟩<;>push_cast<;>omega
   ·rintro ⟨h1,h2,h3⟩
    push_cast at h3
    by_cases h:q.2=y
    ·exact .inl (Prod.ext h1 h)
    ·exact .inr ⟨h1,by omega,by omega⟩
theorem A3t {f:Fr} {q:Int×Int}:∀(n:Nat) (x:Int),q∈(G0 f n x).flatMap colP↔(x≤q.1∧q.1<x+n)∧lowY f q.1≤q.2∧q.2≤Dd f q.1
 | 0,x=>by simp [G0];omega
 | n+1,x=>by
   rw [Yy,List.mem_append,A3t n (x+1)];unfold Ah5;rw [A9o];constructor
   ·rintro (⟨h1,h2,h3⟩ | ⟨⟨h1,h2⟩,h3⟩)
    ·subst h1;refine ⟨⟨by omega,by push_cast;omega⟩,by omega,by omega⟩
    ·exact ⟨⟨by omega,by push_cast;omega⟩,h3⟩
   ·rintro ⟨⟨h1,h2⟩,h3,h4⟩
    push_cast at h2
    by_cases h:q.1=x
    ·subst h;exact .inl ⟨rfl,by omega,by omega⟩
    ·exact .inr ⟨⟨by omega,by omega⟩,h3,h4⟩
theorem mem_placesL {f:Fr} {q:Int×Int}:q∈Df f↔(f.x.1≤q.1∧q.1≤f.x.2)∧lowY f q.1≤q.2∧q.2≤Dd f q.1:=by
 unfold Df Bo;rw [A3t];constructor
 ·rintro ⟨⟨h1,h2⟩,h3⟩;exact ⟨⟨h1,by omega⟩,h3⟩
 ·rintro ⟨⟨h1,h2⟩,h3⟩;exact ⟨⟨h1,by omega⟩,h3⟩
theorem Abw {f:Fr} (h:Iq f=true) {q:Int×Int} (hq:q∈Df f):B7 q=true:=by
 simp only [Iq,Bool.and_eq_true,Bh,Ez,decide_eq_true_eq] at h;have:=mem_placesL.1 hq;simp only [B7,Bool.and_eq_true,Bu];unfold lowY Dd at this;omega
theorem lay_ok {g:Gd} {s:Ly} (hg:El g=true) (hs:I3 s=true):LdOk (layD g s):=by
 obtain ⟨⟨h1,h2⟩,h3,h4⟩:=Sh hs;refine ⟨hg,by simpa [layD] using h1,h2,fun l hl=>?_,fun t ht=>?_⟩
 ·obtain ⟨f,hf,rfl⟩:=List.mem_map.1 hl;have hn:=h3 f hf;have hn2:=hn;simp only [Iq,Bool.and_eq_true,Bu] at hn2;have:=Wq (Hs hn2.1);exact ⟨⟨by omega,by omega⟩,fun q hq=>Abw hn hq⟩
 ·have:=h4 t ht;simp only [Jm,Bool.and_eq_true,Bu] at this;refine ⟨t.1.toNat,t.2.toNat,Prod.ext (by simp;omega) (by simp;omega),?_,?_⟩<;>simp [layD]<;>omega
theorem Ag1 {L:Ld} (hL:LdOk L) {t:Nat} (ht:t<L.traces.length):(Nr L t).length≤4096∧∀c∈Nr L t,c=noneC∨inG L.g c:=by
 obtain ⟨i,j,hij,hi,hj⟩:=hL.tr _ (List.getElem_mem ht);have hT:Nr L t=Si L.g L.places[i] L.places[j]:=by
  unfold Nr pl;have e:L.traces.getD t (0,0)=((i:Int),(j:Int)):=by simp [ht,hij]
  rw [e];simp [hi,hj]
 have hpi:=(hL.p _ (List.getElem_mem hi)).1;have hpj:=(hL.p _ (List.getElem_mem hj)).1;rw [hT];refine ⟨?_,fun c hc=>?_⟩
 ·have n1:(Si L.g L.places[i] L.places[j]).Nodup:=by
   unfold List.Nodup Si;exact (Kx _).imp fun {a b} h (e:a=b)=>Iy (by rw [e] at h;exact h)
  have:=n1.length_le_of_subset (l₂:=(D1 L.places[i] L.places[j]).map (A4n L.g)) fun x hx=>mem_hitsOf.1 hx;rw [List.length_map,Vs] at this;have h2:L.places[i].length*L.places[j].length≤64*64:=Nat.mul_le_mul (by omega) (by omega);omega
 ·obtain ⟨p,_,rfl⟩:=List.mem_map.1 (mem_hitsOf.1 hc);exact Ahb hL.g p.1 p.2
theorem Ae8 {l:List (Int×Int)}:(∀c∈Rm l,c∈l∧c≠noneC)∧(Rm l).length≤l.length∧(Rm l).length≤1:=by
 rcases l with _ | ⟨c,_ | ⟨d,r⟩⟩
 ·simp [Rm]
 ·simp only [Rm];split<;>simp_all
 ·simp [Rm]
theorem sure_in {L:Ld} (hL:LdOk L) {t:Nat} (ht:t<L.traces.length):(Xg L t).length≤4096∧∀c∈Xg L t,c=noneC∨inG L.g c:=by
 obtain ⟨h1,h2⟩:=Ag1 hL ht;have h3:=Ae8 (l:=Nr L t);exact ⟨by unfold Xg;omega,fun c hc=>h2 c (h3.1 c hc).1⟩
theorem c_countS {L:Ld} (hL:LdOk L):C Tryz.prog Hp [.agg (Fg L),.func (.func Kh) [.agg (Fg L)] []] (Iv (cntN L (Xg L))) :=
 Ahw hL (fun t ht=>c_surely hL ht) fun t ht=>sure_in hL ht
theorem c_countM {L:Ld} (hL:LdOk L):C Tryz.prog Hp [.agg (Fg L),.func (.func Mu) [.agg (Fg L)] []] (Iv (cntN L (Nr L))) :=
 Ahw hL (fun t ht=>c_hits hL ht) fun t ht=>Ag1 hL ht
def FoldR (g:Gd) (s:Ly):V:=if El g then (if I3 s then .tuple [Iv (cntN (layD g s) (Xg (layD g s))),Iv (cntN (layD g s) (Nr (layD g s))),I 0] else .tuple [Iv [],Iv [],I 71]) else .tuple [Iv [],Iv [],I 70]
theorem c_Fold {g:Gd} {s:Ly} (hl:g.cls.length≤9223372036854775807) (hn:s.nodes.length≤9223372036854775807) (ht:s.traces.length≤9223372036854775807):C Tryz.prog Adx [.agg (Ed g),.agg (layC s)] (FoldR g s):=by
 have kb:=c_begun hl hn ht;unfold FoldR;refine C_of mixed Abi.2 (by simp) fun S ok=>?_;refine TsR rfl ?_;by_cases hg:El g=true;rotate_left
 ·rw [if_neg hg] at kb ⊢;refine TsC rfl (A3 rfl rfl kb (Sfn rfl (A2 (TsR rfl (A9 rfl (TsR rfl ?_))))));refine Aa (s':=⟨[(4,.slice 0 1 []),(5,.slice 0 1 []),(6,I 70)],[],[],[],false⟩) (Ad (.cons rfl (.nil 0 1) (.cons rfl (.nil 0 1) (.k rfl .nil))) .nil .nil rfl rfl) ?_;exact A8 rfl rfl rfl rfl trivial
 rw [if_pos hg] at kb ⊢;by_cases hs:I3 s=true;rotate_left
 ·rw [if_neg hs] at kb ⊢;refine TsC rfl (A3 rfl rfl kb (Sfn rfl (A2 (TsR rfl (A9 rfl (TsR rfl ?_))))));refine Aa (s':=⟨[(4,.slice 0 1 []),(5,.slice 0 1 []),(6,I 71)],[],[],[],false⟩) (Ad (.cons rfl (.nil 0 1) (.cons rfl (.nil 0 1) (.k rfl .nil))) .nil .nil rfl rfl) ?_;exact A8 rfl rfl rfl rfl trivial
 rw [if_pos hs] at kb ⊢;have hL:=lay_ok hg hs;refine TsC rfl (A3 rfl rfl kb (Al rfl (by simp [Fg]) (A2 (TsR rfl (A7 rfl (A5 ?_))))));refine Jv rfl (by simp [Fg,layD]) (by kernel_rfl) ?_;refine A2 (Ab (Bm rfl (by simp [Fg,layD]) (A6 rfl rfl (c_countS hL) (Bm rfl (by simp [Fg,layD]) (A6 rfl rfl (c_countM hL) (Krn rfl (.done (KrT ?_))))))));exact A8 rfl rfl rfl rfl trivial
end
section
open Go.Am
theorem Pd {E:Env} {s s':St} {i:Ins} {r:List Ins} {K:St→Prop} (h:Wk E s s') (k:Am.Steps E (i::r) K s'):Am.Steps E (i::r) K s:=by
 refine Step1.raw fun slots ops o j ro n a w hh hc hs hi R Q next hn=>?_
 obtain ⟨h',R',hy⟩:=h a w hh R;exact O6 (k:Step1 E i (Am.Steps E r K) s') hc hs hi R' fun s'' a' w' h'' k R ey=>hn s'' a' w' h'' k R (ey.trans hy)
end
section
open Go.Am
attribute [local simp] cells Af mkv Aq B6 under dem dem1 eB As
def Nh (n m:Int):Int:=if m<1 then 0 else n%m
theorem Aem {n m:Int} (hm:1≤m):(n.tmod m<0→n.tmod m+m=n%m)∧(¬n.tmod m<0→n.tmod m=n%m):=by
 have h1:=Int.emod_nonneg n (show m≠0 by omega);have h2:=Int.emod_lt_of_pos n (show 0<m by omega);have h3:=Int.tmod_eq_emod (a:=n) (b:=m);split at h3
 ·omega
 ·have:(m.natAbs:Int)=m:=by omega
  omega
theorem Pl {n m:Int} (hm:1≤m):0≤Nh n m∧Nh n m<m:=by
 unfold Nh;rw [if_neg (by omega)];exact ⟨Int.emod_nonneg n (by omega),Int.emod_lt_of_pos n (by omega)⟩
theorem Ai0 (n m:Int) (hm:m≤9223372036854775807):C Tryz.prog A5k [I n,I m] (I (Nh n m)):=by
 refine C_of mixed A3c.2 (by simp) fun S ok=>?_;refine TsR rfl (A2 (TsR rfl (An rfl rfl (fun h1=>TsR rfl (A8 rfl rfl rfl ?_ trivial)) (fun h1=>A5 ?_))))
 ·have h1:m<1:=by simpa using h1
  simp [D2,Nh,h1]
 have h1:¬m<1:=by simpa using h1
 have hr:=Pl (n:=n) (m:=m) (by omega);obtain ⟨k1,k2⟩:=Aem (n:=n) (m:=m) (by omega);have e:Nh n m=n%m:=by unfold Nh;rw [if_neg h1]
 refine Aw rfl (by simp;omega) (A2 (TsR rfl (An rfl rfl (fun h2=>TrR rfl ?_) (fun h2=>A5 ?_))))
 ·have h2:n.tmod m<0:=by simpa using h2
  refine TsR rfl (A8 rfl rfl rfl ?_ trivial);show I (Nh n m)=I (IntKind.i64.wrap (n.tmod m+m));rw [e,k1 h2,w64 (by omega) (by omega)]
 ·have h2:¬n.tmod m<0:=by simpa using h2
  refine TsR rfl (A8 rfl rfl rfl ?_ trivial);show I (Nh n m)=I (n.tmod m);rw [e,k2 h2]
end
section
open Go.Am
attribute [local simp] cells Af mkv Aq B6 under dem dem1 eB Ac As
structure HullOk (T:Fr) (l:List (Int×Int)):Prop where
 i:∀p∈l,(T.x.1≤p.1∧p.1≤T.x.2)∧(T.y.1≤p.2∧p.2≤T.y.2)∧(T.s.1≤p.1+p.2∧p.1+p.2≤T.s.2)∧T.d.1≤p.1-p.2∧p.1-p.2≤T.d.2
 a1:∃p∈l,p.1=T.x.1
 a2:∃p∈l,p.1=T.x.2
 b1:∃p∈l,p.2=T.y.1
 b2:∃p∈l,p.2=T.y.2
 c1:∃p∈l,p.1+p.2=T.s.1
 c2:∃p∈l,p.1+p.2=T.s.2
 d1:∃p∈l,p.1-p.2=T.d.1
 d2:∃p∈l,p.1-p.2=T.d.2
theorem Z6 {p:Int×Int} (h:B7 p=true):ofF p=⟨(p.1,p.1),(p.2,p.2),(p.1+p.2,p.1+p.2),(p.1-p.2,p.1-p.2)⟩:=by
 simp only [B7,Bool.and_eq_true,Bu] at h;unfold ofF w;rw [w64 (n:=p.1+p.2) (by omega) (by omega),w64 (n:=p.1-p.2) (by omega) (by omega)]
theorem Tn {l:List (Int×Int)} {f:Int×Int→Int} {m:Int} {p:Int×Int} (h:∃q∈l,f q=m):(∃q∈l++[p],f q=min m (f p))∧∃q∈l++[p],f q=max m (f p):=by
 obtain ⟨q,hq,rfl⟩:=h;constructor
 ·by_cases h:f q≤f p
  ·exact ⟨q,by simp [hq],by omega⟩
  ·exact ⟨p,by simp,by omega⟩
 ·by_cases h:f q≤f p
  ·exact ⟨p,by simp,by omega⟩
  ·exact ⟨q,by simp [hq],by omega⟩
theorem hull_one {p:Int×Int} (hp:B7 p=true):Ec [p]=(⟨(p.1,p.1),(p.2,p.2),(p.1+p.2,p.1+p.2),(p.1-p.2,p.1-p.2)⟩,true):=by
 simp [Ec,I4,comb,A2o,Z6 hp]
theorem A71:∀(n:Nat) (l:List (Int×Int)),l.length=n+1→(∀p∈l,B7 p=true)→(Ec l).2=true∧HullOk (Ec l).1 l
 | 0,l,hl,hp=>by
   match l,hl with
   | [p],_ =>
     rw [hull_one (hp p (by simp))];refine ⟨rfl,⟨?_,?_,?_,?_,?_,?_,?_,?_,?_⟩⟩
     ·intro q hq;rw [List.mem_singleton.1 hq];simp
     all_goals exact ⟨p,by simp,rfl⟩
 | n+1,l,hl,hp=>by
   have hne:l≠[]:=fun e=>by rw [e] at hl;simp at hl
   obtain ⟨m,p,rfl⟩:∃m p,l=m++[p]:=⟨l.dropLast,l.getLast hne,(List.dropLast_concat_getLast hne).symm⟩;obtain ⟨h2,ih⟩:=A71 n m (by simpa using hl) fun q hq=>hp q (by simp [hq]);have e:Ec (m++[p])=I4 (Ec m) p:=by unfold Ec;rw [List.foldl_append];rfl
   rw [e];obtain ⟨⟨T,b⟩,hT⟩:∃T,Ec m=T:=⟨_,rfl⟩;rw [hT] at h2 ih ⊢;simp only at h2 ih;subst h2;refine ⟨rfl,?_⟩;have eT:(I4 (T,true) p).1=⟨(min T.x.1 p.1,max T.x.2 p.1),(min T.y.1 p.2,max T.y.2 p.2),(min T.s.1 (p.1+p.2),max T.s.2 (p.1+p.2)),(min T.d.1 (p.1-p.2),max T.d.2 (p.1-p.2))⟩:=by
    simp [I4,comb,A2o,Z6 (hp p (by simp))]
   rw [eT];refine ⟨?_,(Tn (f:=fun q=>q.1) ih.a1).1,(Tn (f:=fun q=>q.1) ih.a2).2,(Tn (f:=fun q=>q.2) ih.b1).1,(Tn (f:=fun q=>q.2) ih.b2).2,(Tn (f:=fun q=>q.1+q.2) ih.c1).1,(Tn (f:=fun q=>q.1+q.2) ih.c2).2,(Tn (f:=fun q=>q.1-q.2) ih.d1).1,(Tn (f:=fun q=>q.1-q.2) ih.d2).2⟩;intro q hq;simp only;rcases List.mem_append.1 hq with hq | hq
   ·have:=ih.i q hq;omega
   ·rw [List.mem_singleton.1 hq];omega
theorem Pk {f:Fr} {r:Int×Int×Int}:∀(n:Nat) (x:Int),r∈G0 f n x→(x≤r.1∧r.1<x+n)∧r.2.1=lowY f r.1∧r.2.2=Dd f r.1∧r.2.1≤r.2.2
 | 0,x,h=>by cases h
 | n+1,x,h=>by
   simp only [G0] at h;split at h
   ·rename_i h1;rcases List.mem_cons.1 h with rfl | h
    ·exact ⟨⟨by simp,by simp;omega⟩,rfl,rfl,h1⟩
    ·have:=Pk n (x+1) h;exact ⟨⟨by omega,by push_cast;omega⟩,this.2⟩
   ·have:=Pk n (x+1) h;exact ⟨⟨by omega,by push_cast;omega⟩,this.2⟩
theorem A7b {f:Fr} {p:Int×Int} (hp:p∈F0 f):p∈Df f:=by
 unfold F0 at hp;obtain ⟨r,hr,hp⟩:=List.mem_flatMap.1 hp;obtain ⟨h1,h2,h3,h4⟩:=Pk _ _ hr;rw [mem_placesL];unfold L4 at hp;split at hp
 ·rw [List.mem_singleton.1 hp];exact ⟨⟨by simp only;omega,by simp only;omega⟩,by simp only;omega,by simp only;omega⟩
 ·rcases List.mem_cons.1 hp with rfl | hp
  ·exact ⟨⟨by simp only;omega,by simp only;omega⟩,by simp only;omega,by simp only;omega⟩
  ·rw [List.mem_singleton.1 hp];exact ⟨⟨by simp only;omega,by simp only;omega⟩,by simp only;omega,by simp only;omega⟩
end
section
open Go.Am
attribute [local simp] cells Af mkv Aq B6 under dem dem1 eB Ac As
def Ac0 (a b c:Int×Int):Int:=(b.1-a.1)*(c.2-a.2)-(b.2-a.2)*(c.1-a.1)
theorem mul_bd {x y B:Int} (hB:0≤B) (hx:-B≤x∧x≤B) (hy:-B≤y∧y≤B):-(B*B)≤x*y∧x*y≤B*B:=by
 have h1:x.natAbs≤B.natAbs:=by omega
 have h2:y.natAbs≤B.natAbs:=by omega
 have h3:=Nat.mul_le_mul h1 h2;rw [←Int.natAbs_mul,←Int.natAbs_mul] at h3;have hb:=Int.mul_nonneg hB hB;omega
theorem Afk {x y:Int} (hx:-200000≤x∧x≤200000) (hy:-200000≤y∧y≤200000):-40000000000≤x*y∧x*y≤40000000000:=by
 have:=mul_bd (B:=200000) (by omega) hx hy;omega
theorem c_left {a b c:Int×Int} (ha:B7 a=true) (hb:B7 b=true) (hc:B7 c=true):C Tryz.prog A2d [eB a,eB b,eB c] (I (Ac0 a b c)):=by
 have pa:=Bt ha;have pb:=Bt hb;have pc:=Bt hc;refine C_of mixed A0q.2 (by simp) fun S ok=>?_;refine TsR rfl (TsR rfl (Bs rfl rfl ?_ trivial));have q1:=Afk (x:=b.1-a.1) (y:=c.2-a.2) (by omega) (by omega);have q2:=Afk (x:=b.2-a.2) (y:=c.1-a.1) (by omega) (by omega);have e1:=w64 (n:=b.1-a.1) (by omega) (by omega);have e2:=w64 (n:=c.2-a.2) (by omega) (by omega);have e3:=w64 (n:=b.2-a.2) (by omega) (by omega);have e4:=w64 (n:=c.1-a.1) (by omega) (by omega);have e5:=w64 (n:=(b.1-a.1)*(c.2-a.2)) (by omega) (by omega);have e6:=w64 (n:=(b.2-a.2)*(c.1-a.1)) (by omega) (by omega);have e7:=w64 (n:=(b.1-a.1)*(c.2-a.2)-(b.2-a.2)*(c.1-a.1)) (by omega) (by omega);show I (Ac0 a b c)=I (w (w (w (b.1-a.1)*w (c.2-a.2))-w (w (b.2-a.2)*w (c.1-a.1))));unfold w;rw [e1,e2,e3,e4,e5,e6,e7];rfl
def pAt (f:List (Int×Int)) (i:Nat):Int×Int:=f.getD i (0,0)
def Ll (f:List (Int×Int)) (i:Nat):(Int×Int)×(Int×Int):=(pAt f i,pAt f ((i+1)%f.length))
def Ef (f:List (Int×Int)):List ((Int×Int)×(Int×Int)):=(List.range f.length).map (Ll f)
def Ns (q:(Int×Int)×(Int×Int)):List V:=[eB q.1,eB q.2]
theorem K0 (f:List (Int×Int)):(Ef f).length=f.length:=by simp [Ef]
theorem Mx {f:List (Int×Int)} {k:Nat} (h:k<f.length):(Ef f)[k]?=some (Ll f k):=by
 unfold Ef;rw [List.getElem?_map,List.getElem?_range h];rfl
theorem Kr {f:List (Int×Int)} {k:Nat} (h:k<f.length):pAt f k=f[k]:=by
 unfold pAt;rw [List.getD_eq_getElem?_getD,List.getElem?_eq_getElem h];rfl
theorem c_sides (f:List (Int×Int)):C Tryz.prog Yh [sB f] (.func (.func Hn) [] [.vptr [sB f] 0]):=by
 refine C_of mixed Xp.2 (by simp) fun S ok=>?_;exact Aw rfl (by simp [sB]) (TsR rfl (Bs rfl rfl rfl trivial))
theorem A6x (f:List (Int×Int)):Plain [.vptr [sB f] 0]:=⟨fun b=>rfl,fun B R=>rfl⟩
theorem neB (a b:Nat):((a:Int) != (b:Int))=!(a==b):=by
 simp only [bne];congr 1;by_cases h:a=b
 ·subst h;simp
 ·have h2:¬(a:Int)=(b:Int):=by omega
  rw [beq_eq_false_iff_ne.2 h2,beq_eq_false_iff_ne.2 h]
theorem A8y {a b:Nat}:((a:Int)).tmod (b:Int)=((a%b:Nat):Int):=by
 rw [Int.tmod_eq_emod_of_nonneg (by omega)];omega
theorem i_sides {f:List (Int×Int)} (hl:f.length≤1000000):Iter Tryz.prog Hn [.vptr [sB f] 0] ((Ef f).map Ns):=by
 refine Lb mixed U2.2 (by simp) fun S ok=>?_;refine Aw rfl (by simp [sB]) (A4 ?_);refine Bc (fun (k:Nat) st=>k≤f.length∧st=⟨[(0,.yld),(1,.vptr [sB f] 0),(5,sB f),(6,I (f.length:Nat)),(7,I (k:Nat))],[],[],((Ef f).take k).map Ns,false⟩) (fun k=>f.length-k) 0 (Ad (.k rfl (.k rfl (.k rfl (.cons rfl (VLe.i (by simp [sB])) (.cons rfl (VLe.i rfl) .nil))))) .nil .nil rfl rfl) ⟨by omega,rfl⟩ ?_;rintro k st ⟨hk,rfl⟩;refine TsR rfl (By rfl (fun h2=>?_) (fun h2=>?_));rotate_left
 ·have h2:k=f.length:=by simp at h2;omega
  subst h2;refine Ak ⟨.inr ?_,[],[],[],rfl,rfl,rfl⟩;show ((Ef f).take f.length).map Ns=(Ef f).map Ns;rw [←K0 f,List.take_length]
 have h2:k<f.length:=by simpa using h2
 have hm:(k+1)%f.length<f.length:=Nat.mod_lt _ (by omega);obtain ⟨lg,hlg⟩:∃lg,((Ef f).take k).map Ns=lg:=⟨_,rfl⟩;have hnext:((Ef f).take (k+1)).map Ns=lg++[Ns (Ll f k)]:=by
  rw [List.take_add_one,Mx h2,List.map_append,hlg];rfl
 have hp1:List.IsPrefix (lg++[Ns (Ll f k)]) ((Ef f).map Ns):=by
  rw [←hnext];exact (List.take_prefix _ _).map _
 rw [hlg];refine Bg (A2 (A4 (Aw rfl ?_ ?_)))
 ·rw [Aj h2];simp;omega
 rw [Aj h2,←Kr h2];have e0:(IntKind.wrap .i64 ((k:Int)+1)).tmod (((f.map eB).length:Nat):Int)=(((k+1)%f.length:Nat):Int):=by
  rw [w64 (by omega) (by omega),List.length_map,←A8y];rfl
 have hne:f≠[]:=fun e=>by subst e;simp at h2
 have hd1:=Int.emod_nonneg ((k:Int)+1) (show ((f.length:Nat):Int)≠0 by omega);have hd2:=Int.emod_lt_of_pos ((k:Int)+1) (show 0<((f.length:Nat):Int) by omega);refine A2 ?_;refine Ab (Ah 8 rfl (by simp [hne]) ?_);rw [e0];refine Ah 1 rfl (by simp;omega) ?_;rw [Aj hm,←Kr hm];refine KrN 1 rfl (.done (KrT ?_));refine H8 rfl (by simp) rfl hp1 rfl (fun c=>?_);cases c with
 | false =>
   refine Sfn rfl (A9 rfl ?_);exact Ea ⟨.inl rfl,[],[],[],rfl,rfl,rfl⟩
 | true =>
   refine Sfn rfl (A7 rfl (A5 (TrR rfl ?_)));exact ⟨k+1,⟨[(0,.yld),(1,.vptr [sB f] 0),(5,sB f),(6,I (f.length:Nat)),(7,I ((k+1:Nat):Int))],[],[],((Ef f).take (k+1)).map Ns,false⟩,Bi (.k rfl (.k rfl (.k rfl (.k rfl (.cons rfl (VLe.i (w64 (by omega) (by omega))) .nil))))) .nil .nil rfl rfl hnext.symm,⟨h2,rfl⟩,by omega⟩
def V6 (f:List (Int×Int)) (i j:Nat):Bool:=j==i||j==(i+1)%f.length||decide (0<Ac0 (pAt f i) (pAt f ((i+1)%f.length)) (pAt f j))
def Yz (f:List (Int×Int)) (i:Nat):Bool:=(List.range f.length).all (V6 f i)
def G2 (f:List (Int×Int)):Bool:=btw f.length 3 8&&f.all B7&&(List.range f.length).all (Yz f)
theorem Ahe (n lo hi:Int):C Tryz.prog Mr [I n,I lo,I hi] (.bool (btw n lo hi)):=by
 refine C_of mixed M4.2 (by simp) fun S ok=>?_;refine TsR rfl ?_;refine TsR rfl ?_;refine Bs rfl rfl ?_ trivial;simp [D2,btw]
theorem A3m {f:List (Int×Int)} (h:f.all B7=true) {i:Nat} (hi:i<f.length):B7 (pAt f i)=true:=by
 rw [Kr hi];exact List.all_eq_true.1 h _ (List.getElem_mem hi)
theorem Tl {f:List (Int×Int)} (hl:f.length≤9223372036854775807):C Tryz.prog P6 [sB f] (I (if G2 f then 0 else 12)):=by
 have hlm:(f.map eB).length=f.length:=List.length_map _;refine C_of mixed Of.2 (by simp) fun S ok=>?_;refine TsR rfl (A2 (Bj rfl (by simp [sB]) (A3 rfl rfl (Ahe _ _ _) (Sfn rfl ?_))));rw [hlm];refine An rfl rfl (fun h=>?_) (fun h=>?_)
 ·refine TsR rfl (A8 rfl rfl rfl ?_ trivial);have h:btw f.length 3 8=false:=by simpa using h
  simp [D2,G2,h]
 have h0:btw f.length 3 8=true:=by simpa using h
 have hb:=(Bu _ _ _).1 h0;refine A5 (A2 (Aw rfl (by simp [sB]) (A4 ?_)));refine Bc (fun (k:Nat) st=>(k≤f.length∧(f.take k).all B7=true)∧st=⟨[(0,sB f),(14,sB f),(15,I (f.length:Nat)),(16,I (k:Nat))],[],[],[],false⟩) (fun k=>f.length-k) 0 (Ad (.k rfl (.k rfl (.cons rfl (VLe.i (by simp [sB])) (.cons rfl (VLe.i rfl) .nil)))) .nil .nil rfl rfl) ⟨⟨by omega,by simp⟩,rfl⟩ ?_;rintro k st ⟨⟨hk,hf⟩,rfl⟩;refine TsR rfl (By rfl (fun h2=>?_) (fun h2=>?_))
 ·have h2:k<f.length:=by simpa using h2
  refine Bg (A2 (A4 (Aw rfl ?_ ?_)))
  ·rw [Aj h2];simp;omega
  rw [Aj h2];refine TsC rfl (A3 rfl rfl (D4 f[k]) (Sfn rfl ?_));refine An rfl rfl (fun h3=>?_) (fun h3=>?_)
  ·have h3:B7 f[k]=false:=by
    cases hp:B7 f[k] with
    | false=>rfl
    | true=>rw [hp] at h3;simp at h3
   refine TsR rfl (A8 rfl rfl rfl ?_ trivial);have:f.all B7=false:=by
    rw [List.all_eq_false];exact ⟨f[k],List.getElem_mem h2,by simp [h3]⟩
   simp [D2,G2,this]
  ·have h3:B7 f[k]=true:=by
    cases hp:B7 f[k] with
    | true=>rfl
    | false=>rw [hp] at h3;simp at h3
   refine A5 (TrR rfl ?_);refine ⟨k+1,_,Ad (.k rfl (.k rfl (.k rfl (.cons rfl (VLe.i (w64 (by omega) (by omega))) .nil)))) .nil .nil rfl rfl,⟨⟨h2,?_⟩,rfl⟩,by omega⟩;rw [List.take_add_one,List.all_append,hf,List.getElem?_eq_getElem h2];simp [h3]
 have h2:k=f.length:=by simp at h2;omega
 subst h2;rw [List.take_length] at hf;refine Ak ?_;refine Aa (s':=⟨[(0,sB f)],[],[],[],false⟩) (Ad (.k rfl .nil) .nil .nil rfl rfl) ?_;refine A2 (Aw rfl (by simp [sB]) (A4 ?_));refine Bc (fun (i:Nat) st=>(i≤f.length∧∀a<i,Yz f a=true)∧st=⟨[(0,sB f),(24,sB f),(25,I (f.length:Nat)),(26,I (i:Nat))],[],[],[],false⟩) (fun i=>f.length-i) 0 (Ad (.k rfl (.k rfl (.cons rfl (VLe.i (by simp [sB])) (.cons rfl (VLe.i rfl) .nil)))) .nil .nil rfl rfl) ⟨⟨by omega,fun a ha=>by omega⟩,rfl⟩ ?_;rintro i st ⟨⟨hi,hrow⟩,rfl⟩;refine TsR rfl (By rfl (fun h2=>?_) (fun h2=>?_));rotate_left
 ·have h2:i=f.length:=by simp at h2;omega
  subst h2;refine Ak (TsR rfl (A8 rfl rfl rfl ?_ trivial));have:(List.range f.length).all (Yz f)=true:=List.all_eq_true.2 fun a ha=>hrow a (List.mem_range.1 ha);simp [D2,G2,h0,hf,this]
 have h2:i<f.length:=by simpa using h2
 have hm:(i+1)%f.length<f.length:=Nat.mod_lt _ (by omega);have e0:(IntKind.wrap .i64 ((i:Int)+1)).tmod (((f.map eB).length:Nat):Int)=(((i+1)%f.length:Nat):Int):=by
  rw [w64 (by omega) (by omega),List.length_map,←A8y];rfl
 refine Bg (A2 (A4 (Aw rfl ?_ ?_)))
 ·rw [Aj h2];simp;omega
 rw [Aj h2,←Kr h2];have hne:f≠[]:=fun e=>by subst e;simp at h2
 have hd1:=Int.emod_nonneg ((i:Int)+1) (show ((f.length:Nat):Int)≠0 by omega);have hd2:=Int.emod_lt_of_pos ((i:Int)+1) (show 0<((f.length:Nat):Int) by omega);refine Aw rfl (by simp [sB,hne]) ?_;rw [e0];refine Aw rfl (by simp [sB]) (A4 ?_);refine Bc (fun (j:Nat) st=>(j≤f.length∧∀b<j,V6 f i b=true)∧st=⟨[(0,sB f),(5,I (i:Nat)),(6,.ptr 6 0),(7,I ((i+1)%f.length:Nat)),(24,sB f),(25,I (f.length:Nat)),(26,I (i:Nat)),(36,sB f),(37,I (f.length:Nat)),(38,I (j:Nat))],[(6,⟨[I (pAt f i).1,I (pAt f i).2],false⟩)],[],[],false⟩) (fun j=>f.length-j) 0 (Ad (.k rfl (.k rfl (.k rfl (.k rfl (.k rfl (.k rfl (.k rfl (.k rfl (.cons rfl (VLe.i (by simp [sB])) (.cons rfl (VLe.i rfl) .nil)))))))))) (.k rfl .nil) .nil rfl rfl) ⟨⟨by omega,fun a ha=>by omega⟩,rfl⟩ ?_;rintro j st ⟨⟨hj,hturn⟩,rfl⟩;refine TsR rfl (By rfl (fun h3=>?_) (fun h3=>?_));rotate_left
 ·have h3:j=f.length:=by simp at h3;omega
  subst h3;refine Ak (TrR rfl ?_);refine ⟨i+1,_,Ad (.k rfl (.k rfl (.k rfl (.cons rfl (VLe.i (w64 (by omega) (by omega))) .nil)))) .nil .nil rfl rfl,⟨⟨h2,fun a ha=>?_⟩,rfl⟩,by omega⟩;by_cases e:a=i
  ·subst e;exact List.all_eq_true.2 fun b hb=>hturn b (List.mem_range.1 hb)
  ·exact hrow a (by omega)
 have h3:j<f.length:=by simpa using h3
 refine Bg (A2 (A4 (Aw rfl ?_ ?_)))
 ·rw [Aj h3];simp;omega
 rw [Aj h3,←Kr h3];have kl:=c_left (A3m hf h2) (A3m hf hm) (A3m hf h3);obtain ⟨g1,hg1⟩:∃g,((j:Int) != (i:Int))=g:=⟨_,rfl⟩;obtain ⟨g2,hg2⟩:∃g,((j:Int) != (((i+1)%f.length:Nat):Int))=g:=⟨_,rfl⟩;have hT:V6 f i j=((!g1)||(!g2)||decide (0<Ac0 (pAt f i) (pAt f ((i+1)%f.length)) (pAt f j))):=by
  unfold V6;rw [←hg1,←hg2,neB,neB,Bool.not_not,Bool.not_not]
 refine Mm ⟨[(0,sB f),(5,I (i:Nat)),(6,.ptr 6 0),(7,I ((i+1)%f.length:Nat)),(24,sB f),(25,I (f.length:Nat)),(26,I (i:Nat)),(36,sB f),(37,I (f.length:Nat)),(38,I (j:Nat)),(60,.bool (!V6 f i j))],[(6,⟨[I (pAt f i).1,I (pAt f i).2],false⟩)],[],[],false⟩ ?_ ?_
 ·refine Ab (KrN 3 rfl ?_);rw [hg1];refine KrN 4 rfl ?_;rw [hg2];refine Ah 5 rfl (by simp [sB]) ?_;refine Ah 1 rfl ?_ ?_
  ·cases g1<;>cases g2<;>simp [sB]<;>omega
  rw [Aj hm,←Kr hm];refine Ah 2 rfl (by cases g1<;>cases g2<;>simp) ?_;refine Cu (r:=I (Ac0 (pAt f i) (pAt f ((i+1)%f.length)) (pAt f j))) rfl rfl rfl rfl (by cases g1<;>cases g2<;>simp) (fun _=>kl) (Bm rfl (by cases g1<;>cases g2<;>simp) (.done (KrT ?_)));refine Ad (.k rfl (.k rfl (.k rfl (.k rfl (.k rfl (.k rfl (.k rfl (.k rfl (.k rfl (.k rfl (.cons rfl (VLe.of_eq (congrArg V.bool ?_)) .nil))))))))))) (.k rfl .nil) .nil rfl rfl;rw [hT];generalize Ac0 (pAt f i) (pAt f ((i+1)%f.length)) (pAt f j)=z;have ez:decide (z≤0)=!decide (0<z):=by
   by_cases h:0<z
   ·have:¬z≤0:=by omega
    simp [h,this]
   ·have:z≤0:=by omega
    simp [h,this]
  cases g1<;>cases g2<;>simp [ez]
 refine An rfl rfl (fun h4=>?_) (fun h4=>?_)
 ·have h4:V6 f i j=false:=by simpa using h4
  refine TsR rfl (A8 rfl rfl rfl ?_ trivial);have h5:Yz f i=false:=by
   unfold Yz;rw [List.all_eq_false];exact ⟨j,List.mem_range.2 h3,by simp [h4]⟩
  have:(List.range f.length).all (Yz f)=false:=by
   rw [List.all_eq_false];exact ⟨i,List.mem_range.2 h2,by simp [h5]⟩
  simp [D2,G2,this]
 ·have h4:V6 f i j=true:=by simpa using h4
  refine A5 (TrR rfl ?_);refine ⟨j+1,_,Ad (.k rfl (.k rfl (.k rfl (.k rfl (.k rfl (.k rfl (.k rfl (.k rfl (.k rfl (.cons rfl (VLe.i (w64 (by omega) (by omega))) .nil)))))))))) (.k rfl .nil) .nil rfl rfl,⟨⟨h3,fun b hb=>?_⟩,rfl⟩,by omega⟩;by_cases e:b=j
  ·subst e;exact h4
  ·exact hturn b (by omega)
end
section
open Go.Am
theorem Ahm (n lo hi:Int):C Tryz.prog Mr [I n,I lo,I hi] (.bool (btw n lo hi)):=by
 refine C_of mixed M4.2 (by simp) fun S ok=>?_;refine TsR rfl ?_;refine TsR rfl ?_;refine Bs rfl rfl ?_ trivial;simp [D2,btw]
def isqL (n:Int):Nat→Int
 | 0=>0
 | k+1=>if (isqL n k+2^(20-k))*(isqL n k+2^(20-k))≤n then isqL n k+2^(20-k) else isqL n k
def isq (n:Int):Int:=isqL n 21
theorem A1c (n:Int):∀k,k≤21→0≤isqL n k∧isqL n k≤2^21-2^(21-k)
 | 0,_=>by simp [isqL]
 | k+1,h=>by
   have ih:=A1c n k (by omega);have e1:(2:Int)^(21-k)=2*2^(20-k):=by
    rw [show 21-k=(20-k)+1 by omega,Int.pow_succ];omega
   have e2:21-(k+1)=20-k:=by omega
   have e3:(0:Int)<2^(20-k):=Int.pow_pos (by omega);rw [e2];simp only [isqL];split<;>omega
def Gt (k:Nat):Int:=if k≤20 then 2^(20-k) else 0
theorem c_root (n:Int):C Tryz.prog A2b [I n] (I (isq n)):=by
 refine C_of mixed A0o.2 (by simp) fun S ok=>?_;refine TsR rfl ?_;refine TsR rfl ?_;refine A2 (TsR rfl (A4 ?_));refine Bc (fun k s=>k≤21∧s=⟨[(0,I n),(3,I (isqL n k)),(4,I (Gt k))],[],[],[],false⟩) (fun k=>21-k) 0 (Ad (.k rfl (.k rfl (.cons rfl (.of_eq (by rfl)) .nil))) .nil .nil rfl rfl) ⟨by omega,rfl⟩ ?_;rintro k s ⟨hk,rfl⟩;have hb:=A1c n k hk;refine A2 (TsR rfl (An rfl rfl (fun h1=>?_) (fun h1=>?_)))
 ·have hk20:k≤20:=by
   rcases Nat.lt_or_ge 20 k with h | h
   ·simp [Gt,show ¬k≤20 by omega] at h1
   ·exact h
  have eb:Gt k=2^(20-k):=by simp [Gt,hk20]
  have ebn:(Gt k).tdiv 2=Gt (k+1):=by
   rw [eb];unfold Gt;by_cases h:k+1≤20
   ·rw [if_pos h,show 20-k=(20-(k+1))+1 by omega,Int.pow_succ];exact Int.mul_tdiv_cancel _ (by decide)
   ·rw [if_neg h,show 20-k=0 by omega];rfl
  have ep:(1:Int)≤Gt k∧Gt k≤1048576:=by
   rw [eb];have h1:(0:Int)<2^(20-k):=Int.pow_pos (by omega);have h2:(2:Nat)^(20-k)≤2^20:=Nat.pow_le_pow_right (by omega) (by omega);have h3:((2^(20-k):Nat):Int)≤((2^20:Nat):Int):=by exact_mod_cast h2
   simp at h3;omega
  have e21:(2:Int)^(21-k)=2*Gt k:=by
   rw [eb,show 21-k=(20-k)+1 by omega,Int.pow_succ];omega
  have hr:0≤isqL n k∧isqL n k+Gt k≤2097152:=by
   rw [e21] at hb;have:(2:Int)^21=2097152:=by rfl
   omega
  have ew:IntKind.wrap .i64 (isqL n k+Gt k)=isqL n k+Gt k:=w64 (by omega) (by omega);have ew2:IntKind.wrap .i64 ((isqL n k+Gt k)*(isqL n k+Gt k))=(isqL n k+Gt k)*(isqL n k+Gt k):=by
   have h1:0≤(isqL n k+Gt k)*(isqL n k+Gt k):=Int.mul_nonneg (by omega) (by omega);have h2:(isqL n k+Gt k)*(isqL n k+Gt k)≤2097152*2097152:=Int.mul_le_mul (by omega) (by omega) (by omega) (by omega);exact w64 (by omega) (by omega)
  have ewb:IntKind.wrap .i64 ((Gt k).tdiv 2)=Gt (k+1):=by
   have h0:(Gt k).tdiv 2=Gt k/2:=Int.tdiv_eq_ediv_of_nonneg (by omega);rw [←ebn,h0];exact w64 (by omega) (by omega)
  have es:isqL n (k+1)=if (isqL n k+Gt k)*(isqL n k+Gt k)≤n then isqL n k+Gt k else isqL n k:=by rw [eb];rfl
  refine Bg (A2 (A4 (TsR rfl (An rfl rfl (fun h2=>?_) (fun h2=>?_)))))
  ·rw [ew,ew2] at h2;refine TrR rfl ?_;refine TrR rfl ?_;refine ⟨k+1,_,?_,⟨by omega,rfl⟩,by omega⟩;refine Ad (.k rfl (.cons rfl (VLe.i ?_) (.cons rfl (VLe.i ?_) .nil))) .nil .nil rfl rfl
   ·rw [ew,es,if_pos (by simpa using h2)]
   ·exact ewb
  ·rw [ew,ew2] at h2;refine A5 ?_;refine TrR rfl ?_;refine ⟨k+1,_,?_,⟨by omega,rfl⟩,by omega⟩;refine Ad (.k rfl (.cons rfl (VLe.i ?_) (.cons rfl (VLe.i ?_) .nil))) .nil .nil rfl rfl
   ·rw [es,if_neg (by simpa using h2)]
   ·exact ewb
 ·have hk21:k=21:=by
   rcases Nat.lt_or_ge 20 k with h | h
   ·omega
   ·have h1':(0:Int)<2^(20-k):=Int.pow_pos (by omega);simp [Gt,h] at h1;omega
  subst hk21;refine Ak ?_;refine TsR rfl ?_;exact Bs rfl rfl rfl trivial
def A67 (n:Int):V:=if btw n 0 1099511627776 then .tuple [I (isq n),I 0] else .tuple [I 0,I 7]
theorem Aah (n:Int):C Tryz.prog Rc [I n] (A67 n):=by
 refine C_of mixed A0s.2 (by simp) fun S ok=>?_;refine TsR rfl ?_;refine A2 (TsC rfl (A3 rfl rfl (Ahm _ _ _) (Sfn rfl ?_)));refine An rfl rfl (fun h=>?_) (fun h=>?_)
 ·refine TsR rfl (Tr.retT rfl rfl ?_ trivial);have h:btw n 0 1099511627776=false:=by simpa using h
  simp [A67,h,D2]
 ·refine Bg (TsC rfl (A3 rfl rfl (c_root _) (Sfn rfl (Bs rfl rfl ?_ trivial))));have h:btw n 0 1099511627776=true:=by simpa using h
  simp [A67,h,D2]
theorem A3u {n:Int} (h0:0≤n) (h1:n≤1099511627776):∀k,k≤21→isqL n k*isqL n k≤n∧n<(isqL n k+2^(21-k))*(isqL n k+2^(21-k))
 | 0,_=>by simp [isqL];omega
 | k+1,h=>by
   have ih:=A3u h0 h1 k (by omega);have e1:(2:Int)^(21-k)=2^(20-k)+2^(20-k):=by
    rw [show 21-k=(20-k)+1 by omega,Int.pow_succ];omega
   rw [e1] at ih;rw [show 21-(k+1)=20-k by omega];simp only [isqL];split
   ·rename_i h2;refine ⟨h2,?_⟩;rw [Int.add_assoc];exact ih.2
   ·rename_i h2;exact ⟨ih.1,by omega⟩
theorem Qa {n:Int} (h0:0≤n) (h1:n≤1099511627776):0≤isq n∧isq n*isq n≤n∧n<(isq n+1)*(isq n+1):=by
 have h:=A3u h0 h1 21 (by omega);exact ⟨(A1c n 21 (by omega)).1,h.1,by simpa [isq] using h.2⟩
theorem Qb {n a:Int} (h1:n≤1099511627776) (h:a*a≤n):-isq n≤a∧a≤isq n:=by
 have h0:0≤n:=by
  have:0≤a*a:=by
   rcases Int.le_total 0 a with h | h
   ·exact Int.mul_nonneg h h
   ·have:=Int.mul_nonneg (show 0≤-a by omega) (show 0≤-a by omega);rw [Int.neg_mul_neg] at this;exact this
  omega
 obtain ⟨g0,g1,g2⟩:=Qa h0 h1;rcases Int.le_total 0 a with h3 | h3
 ·have:=sq_lt h3 (by omega) (show a*a<(isq n+1)*(isq n+1) by omega);omega
 ·have:=sq_lt (show 0≤-a by omega) (by omega) (show -a*-a<(isq n+1)*(isq n+1) by rw [Int.neg_mul_neg];omega);omega
theorem W4 {n:Int} (h0:0≤n) (h1:n≤1099511627776):0≤isq n∧isq n≤2097151:=by
 have:=A1c n 21 (by omega);have e:(2:Int)^21-2^(21-21)=2097151:=by decide
 unfold isq;omega
end
section
open Go.Am
def inR (f:Fr) (p:Int×Int):Prop:=(f.x.1≤p.1∧p.1≤f.x.2)∧(f.y.1≤p.2∧p.2≤f.y.2)∧(f.s.1≤p.1+p.2∧p.1+p.2≤f.s.2)∧f.d.1≤p.1-p.2∧p.1-p.2≤f.d.2
def subR (a b:Fr):Prop:=(b.x.1≤a.x.1∧a.x.2≤b.x.2)∧(b.y.1≤a.y.1∧a.y.2≤b.y.2)∧(b.s.1≤a.s.1∧a.s.2≤b.s.2)∧b.d.1≤a.d.1∧a.d.2≤b.d.2
theorem subR.refl (a:Fr):subR a a:=by unfold subR;omega
theorem subR.trans {a b c:Fr} (h1:subR a b) (h2:subR b c):subR a c:=by unfold subR at *;omega
theorem subR.inR {a b:Fr} (h:subR a b) {p:Int×Int} (hp:inR a p):inR b p:=by unfold subR at h;unfold Proofs.YtabedohjkillfaaGreatDoor.inR at *;omega
theorem places_inR {f:Fr} {q:Int×Int}:q∈Df f↔inR f q:=by
 rw [mem_placesL];unfold inR lowY Dd;omega
theorem Q7 {f:Fr}:∀{n:Nat} {x0 x:Int},x0≤x→x<x0+n→lowY f x≤Dd f x→(x,lowY f x,Dd f x)∈G0 f n x0
 | 0,x0,x,h1,h2,_=>by omega
 | n+1,x0,x,h1,h2,h3=>by
   simp only [G0];by_cases e:x=x0
   ·subst e;rw [if_pos h3];simp
   ·have:=Q7 (f:=f) (n:=n) (x0:=x0+1) (x:=x) (by omega) (by push_cast at h2;omega) h3;split
    ·simp [this]
    ·exact this
theorem Gr {f:Fr} {p:Int×Int} (h:p∈F0 f):inR f p:=places_inR.1 (A7b h)
theorem Uq {f:Fr} {q:Int×Int} (h:inR f q):((q.1,lowY f q.1)∈F0 f∧(q.1,Dd f q.1)∈F0 f)∧lowY f q.1≤q.2∧q.2≤Dd f q.1:=by
 obtain ⟨h1,h2,h3,h4⟩:=h;have a:lowY f q.1≤q.2:=by unfold lowY;omega
 have b:q.2≤Dd f q.1:=by unfold Dd;omega
 have hr:(q.1,lowY f q.1,Dd f q.1)∈Bo f:=Q7 h1.1 (by omega) (by omega);refine ⟨⟨List.mem_flatMap.2 ⟨_,hr,?_⟩,List.mem_flatMap.2 ⟨_,hr,?_⟩⟩,a,b⟩
 ·unfold L4;split<;>simp
 ·unfold L4;split
  ·rename_i e;simp only at e;simp [e]
  ·simp
def Ca (f:Fr):Fr×Bool:=Ec (F0 f)
def inPl (f:Fr):Prop:=(-32768≤f.x.1∧f.x.2≤32768)∧-32768≤f.y.1∧f.y.2≤32768
theorem Ht {f:Fr} (h:Bh f=true):inPl f:=by
 rw [Cw] at h;unfold fitF fitB at h;unfold inPl;omega
theorem N1 {f:Fr} (hf:inPl f) {p:Int×Int} (h:inR f p):B7 p=true:=by
 unfold inPl at hf;unfold inR at h;simp only [B7,Bool.and_eq_true,Bu];omega
theorem A72 {f:Fr} (hf:inPl f) (hne:F0 f≠[]):(Ca f).2=true∧HullOk (Ca f).1 (F0 f) :=
 A71 ((F0 f).length-1) _ (by have:=List.length_pos_iff.2 hne;omega) fun p hp=>N1 hf (Gr hp)
theorem Ag0 {f:Fr} (h:(Ca f).2=true):F0 f≠[]:=fun e=>by
 unfold Ca at h;rw [e] at h;simp [Ec] at h
theorem N5 {f:Fr} (hf:inPl f) (h:(Ca f).2=true):subR (Ca f).1 f∧Bh (Ca f).1=true:=by
 obtain ⟨_,H⟩:=A72 hf (Ag0 h);obtain ⟨p1,q1,e1⟩:=H.a1;obtain ⟨p2,q2,e2⟩:=H.a2;obtain ⟨p3,q3,e3⟩:=H.b1;obtain ⟨p4,q4,e4⟩:=H.b2;obtain ⟨p5,q5,e5⟩:=H.c1;obtain ⟨p6,q6,e6⟩:=H.c2;obtain ⟨p7,q7,e7⟩:=H.d1;obtain ⟨p8,q8,e8⟩:=H.d2;have i:=H.i p1 q1;have r1:=Gr q1;have r2:=Gr q2;have r3:=Gr q3;have r4:=Gr q4;have r5:=Gr q5;have r6:=Gr q6;have r7:=Gr q7;have r8:=Gr q8;unfold inR at *;unfold inPl at hf;rw [Cw];unfold subR fitF fitB;omega
theorem Qd {f:Fr} (hf:inPl f) {q:Int×Int} (h:inR f q):(Ca f).2=true∧inR (Ca f).1 q:=by
 obtain ⟨⟨m1,m2⟩,a,b⟩:=Uq h;obtain ⟨k1,H⟩:=A72 hf (List.ne_nil_of_mem m1);have u:=H.i _ m1;have v:=H.i _ m2;refine ⟨k1,?_⟩;simp only at u v;unfold inR;omega
def J5 (f:Fr):Option Fr:=if Bh f&&(Ca f).2 then some (Ca f).1 else none
theorem Rk {f t:Fr} (h:J5 f=some t):Bh f=true∧(Ca f).2=true∧t=(Ca f).1∧subR t f∧Bh t=true:=by
 unfold J5 at h;split at h
 ·rename_i h1;simp only [Bool.and_eq_true] at h1;cases h;have:=N5 (Ht h1.1) h1.2;exact ⟨h1.1,h1.2,rfl,this.1,this.2⟩
 ·cases h
theorem Ae7 {f:Fr} (hf:Bh f=true) {q:Int×Int} (h:inR f q):∃t,J5 f=some t∧inR t q:=by
 obtain ⟨h1,h2⟩:=Qd (Ht hf) h;exact ⟨_,by unfold J5;rw [hf,h1];rfl,h2⟩
def cutO (r b:Fr):Option Fr:=if Bh r&&Bh b&&(Ca (comb cutB r b)).2 then some (Ca (comb cutB r b)).1 else none
theorem cut_pl {r:Fr} (b:Fr) (h:Bh r=true):inPl (comb cutB r b):=by
 have:=Ht h;unfold inPl comb cutB at *;simp only;omega
theorem Jc {r b a:Fr} (h:cutO r b=some a):Bh r=true∧Bh b=true∧subR a r∧subR a b∧Bh a=true:=by
 unfold cutO at h;split at h
 ·rename_i h1;simp only [Bool.and_eq_true] at h1;cases h;obtain ⟨k1,k2⟩:=N5 (cut_pl b h1.1.1) h1.2;generalize (Ca (comb cutB r b)).1=T at k1 k2 ⊢;refine ⟨h1.1.1,h1.1.2,?_,?_,k2⟩
  ·unfold subR comb cutB at k1;unfold subR;simp only at k1;omega
  ·unfold subR comb cutB at k1;unfold subR;simp only at k1;omega
 ·cases h
theorem Ah1 {r b:Fr} (hr:Bh r=true) (hb:Bh b=true) {q:Int×Int} (h1:inR r q) (h2:inR b q):∃a,cutO r b=some a∧inR a q:=by
 have h:inR (comb cutB r b) q:=by
  unfold inR comb cutB at *;simp only;omega
 obtain ⟨k1,k2⟩:=Qd (cut_pl b hr) h;exact ⟨_,by unfold cutO;rw [hr,hb,k1];rfl,k2⟩
def Yr (b by':Int×Int) (m:Int):Int×Int:=(max (b.1+by'.1) (-m),min (b.2+by'.2) m)
def winF (r s:Fr):Fr:=⟨Yr r.x s.x 32768,Yr r.y s.y 32768,Yr r.s s.s 65536,Yr r.d s.d 65536⟩
def A5v (b:Int×Int):Int×Int:=(-b.2,-b.1)
def A7z (s:Fr):Fr:=⟨A5v s.x,A5v s.y,A5v s.s,A5v s.d⟩
def abt (n:Int):Int×Int:=(-isq n,isq n)
def Aby (r:Fr) (x y:Int):Bool:=btw x r.x.1 r.x.2&&btw y r.y.1 r.y.2&&btw (x+y) r.s.1 r.s.2&&btw (x-y) r.d.1 r.d.2
def frZ:Fr:=⟨(0,0),(0,0),(0,0),(0,0)⟩
def octL:List Fr :=
 let free:Int×Int:=(-131072,131072)
 let Sg:Int×Int:=(0,131072)
 let most:Int×Int:=(-131072,0)
 [⟨free,Sg,free,Sg⟩,⟨Sg,free,free,most⟩,⟨most,free,Sg,free⟩,⟨free,Sg,most,free⟩,⟨free,most,free,most⟩,⟨most,free,free,Sg⟩,⟨Sg,free,most,free⟩,⟨free,most,Sg,free⟩]
inductive Sd
 | rng (a b:Nat) (lo hi:Int)
 | sec (a b:Nat) (o:Nat)
 | off (a b:Nat) (r:Fr)
def Sd.a:Sd→Nat
 | .rng a _ _ _ | .sec a _ _ | .off a _ _=>a
def Sd.b:Sd→Nat
 | .rng _ b _ _ | .sec _ b _ | .off _ b _=>b
def Sd.span:Sd→Fr
 | .rng _ _ _ hi=>⟨abt hi,abt hi,abt (2*hi),abt (2*hi)⟩
 | .sec _ _ o=>octL.getD o frZ
 | .off _ _ r=>r
def Sd.of (o:Sd) (x y:Int):Bool:=match o with
 | .rng _ _ lo hi=>btw (x*x+y*y) lo hi
 | .sec _ _ k=>Aby (octL.getD k frZ) x y
 | .off _ _ r=>Aby r x y
def Sd.ok (n:Nat) (o:Sd):Prop:=(o.a<n∧o.b<n∧o.a≠o.b)∧match o with
 | .rng _ _ lo hi=>0≤lo∧lo≤hi∧hi≤17179869184
 | .sec _ _ _=>False
 | .off _ _ r=>Bh r=true
theorem Yp (a:Int):0≤a*a:=by
 rcases Int.le_total 0 a with h | h
 ·exact Int.mul_nonneg h h
 ·have:=Int.mul_nonneg (show 0≤-a by omega) (show 0≤-a by omega);rw [Int.neg_mul_neg] at this;exact this
theorem of_span {n:Nat} {o:Sd} (ho:o.ok n) {x y:Int} (h:o.of x y=true):Aby o.span x y=true:=by
 cases o with
 | rng a b lo hi =>
   obtain ⟨_,h1,h2,h3⟩:=ho;simp only [Sd.of,Bu] at h;have hx:=Yp x;have hy:=Yp y;have e1:(x+y)*(x+y)+(x-y)*(x-y)=2*(x*x+y*y):=by
    simp only [Int.add_mul,Int.mul_add,Int.sub_mul,Int.mul_sub,Int.mul_comm y x];omega
   have hs:=Yp (x+y);have hd:=Yp (x-y);have a1:=Qb (n:=hi) (a:=x) (by omega) (by omega);have a2:=Qb (n:=hi) (a:=y) (by omega) (by omega);have a3:=Qb (n:=2*hi) (a:=x+y) (by omega) (by omega);have a4:=Qb (n:=2*hi) (a:=x-y) (by omega) (by omega);simp only [Sd.span,Aby,abt,Bool.and_eq_true,Bu];omega
 | sec a b k=>exact h
 | off a b r=>exact h
theorem lies_iff {r:Fr} {x y:Int}:Aby r x y=true↔inR r (x,y):=by
 simp only [Aby,Bool.and_eq_true,Bu];unfold inR;omega
theorem Ae0 {r s:Fr} {p q:Int×Int} (hr:inR r p) (hs:inR s (q.1-p.1,q.2-p.2)) (hq:B7 q=true):Bh (winF r s)=true∧inR (winF r s) q:=by
 simp only [B7,Bool.and_eq_true,Bu] at hq;unfold inR at hr hs ⊢;rw [Cw];unfold fitF fitB winF Yr;simp only at hs ⊢;omega
theorem back_has {s:Fr} {x y:Int} (h:inR s (x,y)):inR (A7z s) (-x,-y):=by
 unfold inR A7z A5v at *;simp only at h ⊢;omega
def minB (a b:Int×Int):Int×Int:=(a.1-b.2,a.2-b.1)
def rowSq (r:Int×Int×Int):Int×Int:=(r.1*r.1+(max r.2.1 (min 0 r.2.2))*(max r.2.1 (min 0 r.2.2)),r.1*r.1+max (r.2.1*r.2.1) (r.2.2*r.2.2))
def Dg (Hv:Int×Int→Int×Int→Bool) (a:(Int×Int)×Bool) (x:Int×Int):(Int×Int)×Bool:=if !a.2||Hv x a.1 then (x,true) else a
def Hf (Hv:Int×Int→Int×Int→Bool) (l:List (Int×Int)):(Int×Int)×Bool:=l.foldl (Dg Hv) ((0,0),false)
def lowB (a b:Int×Int):Bool:=decide (a.1<b.1)
def Xz (a b:Int×Int):Bool:=decide (a.2>b.2)
def sqsN (f:Fr):Int×Int:=((Hf lowB ((Bo f).map rowSq)).1.1,(Hf Xz ((Bo f).map rowSq)).1.2)
theorem A9d:∀(l:List (Int×Int)) (a:(Int×Int)×Bool),(a.2=true→(l.foldl (Dg lowB) a).1.1≤a.1.1)∧∀x∈l,(l.foldl (Dg lowB) a).1.1≤x.1
 | [],a=>⟨fun _=>Int.le_refl _,fun x h=>by cases h⟩
 | y::l,a=>by
   obtain ⟨h1,h2⟩:=A9d l (Dg lowB a y);have h3:(Dg lowB a y).2=true∧(Dg lowB a y).1.1≤y.1∧(a.2=true→(Dg lowB a y).1.1≤a.1.1):=by
    unfold Dg lowB;cases ha:a.2 with
    | false=>simp
    | true =>
      by_cases hl:y.1<a.1.1
      ·simp [hl];omega
      ·simp [hl,ha];omega
   rw [List.foldl_cons];have h4:=h1 h3.1;refine ⟨fun ha=>by have:=h3.2.2 ha;omega,fun x hx=>?_⟩;rcases List.mem_cons.1 hx with rfl | hx
   ·omega
   ·exact h2 x hx
theorem A3n:∀(l:List (Int×Int)) (a:(Int×Int)×Bool),(a.2=true→a.1.2≤(l.foldl (Dg Xz) a).1.2)∧∀x∈l,x.2≤(l.foldl (Dg Xz) a).1.2
 | [],a=>⟨fun _=>Int.le_refl _,fun x h=>by cases h⟩
 | y::l,a=>by
   obtain ⟨h1,h2⟩:=A3n l (Dg Xz a y);have h3:(Dg Xz a y).2=true∧y.2≤(Dg Xz a y).1.2∧(a.2=true→a.1.2≤(Dg Xz a y).1.2):=by
    unfold Dg Xz;cases ha:a.2 with
    | false=>simp
    | true =>
      by_cases hl:y.2>a.1.2
      ·simp [hl];omega
      ·simp [hl,ha];omega
   rw [List.foldl_cons];have h4:=h1 h3.1;refine ⟨fun ha=>by have:=h3.2.2 ha;omega,fun x hx=>?_⟩;rcases List.mem_cons.1 hx with rfl | hx
   ·omega
   ·exact h2 x hx
theorem A09 {a b:Int} (h0:0≤a) (h:a≤b):a*a≤b*b:=Int.mul_le_mul h h h0 (by omega)
theorem sqs_has {f:Fr} {q:Int×Int} (h:inR f q):(sqsN f).1≤q.1*q.1+q.2*q.2∧q.1*q.1+q.2*q.2≤(sqsN f).2:=by
 obtain ⟨_,a,b⟩:=Uq h;have hr:(q.1,lowY f q.1,Dd f q.1)∈Bo f:=Q7 h.1.1 (by have:=h.1.2;omega) (by omega);have hm:rowSq (q.1,lowY f q.1,Dd f q.1)∈(Bo f).map rowSq:=List.mem_map.2 ⟨_,hr,rfl⟩;have h1:=(A9d ((Bo f).map rowSq) ((0,0),false)).2 _ hm;have h2:=(A3n ((Bo f).map rowSq) ((0,0),false)).2 _ hm;generalize lowY f q.1=lo at a h1 h2;generalize Dd f q.1=hi at b h1 h2;have e:∀z:Int,z*z=-z*-z:=fun z=>by rw [Int.neg_mul_neg]
 have k1:(max lo (min 0 hi))*(max lo (min 0 hi))≤q.2*q.2:=by
  rcases Int.le_total 0 lo with h3 | h3
  ·rw [show max lo (min 0 hi)=lo by omega];exact A09 h3 a
  ·rcases Int.le_total hi 0 with h4 | h4
   ·rw [show max lo (min 0 hi)=hi by omega,e hi,e q.2];exact A09 (by omega) (by omega)
   ·rw [show max lo (min 0 hi)=0 by omega];have:=Yp q.2;omega
 have k2:q.2*q.2≤max (lo*lo) (hi*hi):=by
  rcases Int.le_total 0 q.2 with h3 | h3
  ·have:=A09 h3 b;omega
  ·have:=A09 (show 0≤-q.2 by omega) (show -q.2≤-lo by omega);rw [Int.neg_mul_neg,Int.neg_mul_neg] at this;omega
 simp only [rowSq] at h1 h2;unfold sqsN Hf;simp only;omega
def gapN (a b:Fr):Int×Int:=if Bh a&&Bh b&&(Ca a).2&&(Ca b).2 then sqsN (comb minB (Ca a).1 (Ca b).1) else (0,0)
theorem gap_has {a b:Fr} (ha:Bh a=true) (hb:Bh b=true) {p q:Int×Int} (hp:inR a p) (hq:inR b q):(gapN a b).1≤(q.1-p.1)*(q.1-p.1)+(q.2-p.2)*(q.2-p.2)∧(q.1-p.1)*(q.1-p.1)+(q.2-p.2)*(q.2-p.2)≤(gapN a b).2:=by
 obtain ⟨u1,u2⟩:=Qd (Ht ha) hp;obtain ⟨v1,v2⟩:=Qd (Ht hb) hq;have h:inR (comb minB (Ca a).1 (Ca b).1) (p.1-q.1,p.2-q.2):=by
  unfold inR comb minB at *;simp only;omega
 have:=sqs_has h;have e:∀y z:Int,(y-z)*(y-z)=(z-y)*(z-y):=fun y z=>by rw [←Int.neg_mul_neg,show -(y-z)=z-y by omega]
 simp only at this;rw [e p.1 q.1,e p.2 q.2] at this;unfold gapN;rw [ha,hb,u1,v1];exact this
def posB (o:Sd) (a b:Fr):Bool:=match o with
 | .rng _ _ lo hi=>decide ((gapN a b).1≤hi)&&decide (lo≤(gapN a b).2)
 | _=>true
def Hz (ns:List Fr) (o:Sd):Option (Fr×Fr) :=
 match cutO (ns.getD o.a frZ) (winF (ns.getD o.b frZ) (A7z o.span)) with
 | none=>none
 | some a=>match cutO (ns.getD o.b frZ) (winF a o.span) with
   | none=>none
   | some b=>if posB o a b then some (a,b) else none
def fits (l:List (Int×Int)) (o:Sd):Bool:=o.of ((l.getD o.b (0,0)).1-(l.getD o.a (0,0)).1) ((l.getD o.b (0,0)).2-(l.getD o.a (0,0)).2)
theorem A8z {ns:List Fr} {o:Sd} {a b:Fr} (h:Hz ns o=some (a,b)):subR a (ns.getD o.a frZ)∧subR b (ns.getD o.b frZ)∧Bh a=true∧Bh b=true:=by
 unfold Hz at h;split at h
 ·cases h
 ·rename_i a' ha;split at h
  ·cases h
  ·rename_i b' hb;split at h
   ·cases h;have h1:=Jc ha;have h2:=Jc hb;exact ⟨h1.2.2.1,h2.2.2.1,h1.2.2.2.2,h2.2.2.2.2⟩
   ·cases h
theorem A90 {n:Nat} {ns:List Fr} {o:Sd} (ho:o.ok n) (hns:∀i<n,Bh (ns.getD i frZ)=true) {l:List (Int×Int)} (hl:∀i<n,inR (ns.getD i frZ) (l.getD i (0,0))) (hf:fits l o=true) :
  ∃a b,Hz ns o=some (a,b)∧inR a (l.getD o.a (0,0))∧inR b (l.getD o.b (0,0)):=by
 have ha:=hl o.a ho.1.1;have hb:=hl o.b ho.1.2.1;have fa:=hns o.a ho.1.1;have fb:=hns o.b ho.1.2.1;have hs:=lies_iff.1 (of_span ho hf);have hf':o.of ((l.getD o.b (0,0)).1-(l.getD o.a (0,0)).1) ((l.getD o.b (0,0)).2-(l.getD o.a (0,0)).2)=true:=hf;unfold Hz;generalize ns.getD o.a frZ=ra at *;generalize ns.getD o.b frZ=rb at *;generalize l.getD o.a (0,0)=p at *;generalize l.getD o.b (0,0)=q at *;have hbk:=back_has hs;rw [show -(q.1-p.1)=p.1-q.1 by omega,show -(q.2-p.2)=p.2-q.2 by omega] at hbk;obtain ⟨w1,w2⟩:=Ae0 hb hbk (N1 (Ht fa) ha);obtain ⟨a,ea,ia⟩:=Ah1 fa w1 ha w2;obtain ⟨w3,w4⟩:=Ae0 ia hs (N1 (Ht fb) hb);obtain ⟨b,eb,ib⟩:=Ah1 fb w3 hb w4;rw [ea];simp only;rw [eb];simp only;have hpos:posB o a b=true:=by
  cases o with
  | rng _ _ lo hi =>
    have g:=gap_has (Jc ea).2.2.2.2 (Jc eb).2.2.2.2 ia ib;have hf2:btw ((q.1-p.1)*(q.1-p.1)+(q.2-p.2)*(q.2-p.2)) lo hi=true:=hf';rw [Bu] at hf2;simp only [posB,Bool.and_eq_true,decide_eq_true_eq];omega
  | sec _ _ _=>rfl
  | off _ _ _=>rfl
 rw [hpos];exact ⟨a,b,rfl,ia,ib⟩
def wdF (f:Fr):Int:=(f.x.2-f.x.1)+(f.y.2-f.y.1)+(f.s.2-f.s.1)+(f.d.2-f.d.1)
theorem wd_nn {f:Fr} (h:Bh f=true):0≤wdF f:=by
 rw [Cw] at h;unfold fitF fitB at h;unfold wdF;omega
theorem wd_le {a b:Fr} (h:subR a b):wdF a≤wdF b:=by unfold subR at h;unfold wdF;omega
theorem wd_eq {a b:Fr} (h:subR a b) (e:wdF b≤wdF a):a=b:=by
 obtain ⟨⟨a1,a2⟩,⟨a3,a4⟩,⟨a5,a6⟩,a7,a8⟩:=a;obtain ⟨⟨b1,b2⟩,⟨b3,b4⟩,⟨b5,b6⟩,b7,b8⟩:=b;unfold subR at h;unfold wdF at e;simp only at h e;simp only [Fr.mk.injEq,Prod.mk.injEq];omega
def sumW:List Fr→Int
 | []=>0
 | f::l=>wdF f+sumW l
theorem A07:∀(l:List Fr) (i:Nat) (f:Fr),i<l.length→sumW (l.set i f)=sumW l-wdF (l.getD i frZ)+wdF f
 | [],i,f,h=>by simp at h
 | a::l,0,f,h=>by simp [sumW];omega
 | a::l,i+1,f,h=>by
   have:=A07 l i f (by simpa using h);simp only [List.set_cons_succ,sumW,this,List.getD_cons_succ];omega
theorem V8:∀(l:List Fr),(∀f∈l,Bh f=true)→0≤sumW l
 | [],_=>Int.le_refl _
 | f::l,h=>by
   have h1:=wd_nn (h f (by simp));have h2:=V8 l fun g hg=>h g (by simp [hg]);simp only [sumW];omega
def FitL (ns:List Fr) (os:List Sd) (l:List (Int×Int)):Prop:=l.length=ns.length∧(∀i<ns.length,inR (ns.getD i frZ) (l.getD i (0,0)))∧∀o∈os,fits l o=true
structure InvN (ns0:List Fr) (os:List Sd) (ns:List Fr):Prop where
 len:ns.length=ns0.length
 fit:∀i<ns0.length,Bh (ns.getD i frZ)=true
 sub:∀i<ns0.length,subR (ns.getD i frZ) (ns0.getD i frZ)
 has:∀l,FitL ns0 os l→∀i<ns0.length,inR (ns.getD i frZ) (l.getD i (0,0))
theorem Qe {l:List Fr} {i j:Nat} {f:Fr} (hi:i<l.length):(l.set i f).getD j frZ=if j=i then f else l.getD j frZ:=by
 simp only [List.getD_eq_getElem?_getD];by_cases h:j=i
 ·subst h;rw [if_pos rfl,List.getElem?_set_self hi];rfl
 ·rw [if_neg h,List.getElem?_set_ne (by omega)]
def Fa (ns:List Fr) (o:Sd) (a b:Fr):List Fr:=(ns.set o.a a).set o.b b
theorem inv_step {ns0:List Fr} {os:List Sd} {ns:List Fr} (h:InvN ns0 os ns) {o:Sd} (hm:o∈os) (ho:o.ok ns0.length) {a b:Fr} (e:Hz ns o=some (a,b)):InvN ns0 os (Fa ns o a b):=by
 obtain ⟨s1,s2,s3,s4⟩:=A8z e;have hla:o.a<ns.length:=by rw [h.len];exact ho.1.1
 have hlb:o.b<(ns.set o.a a).length:=by rw [List.length_set,h.len];exact ho.1.2.1
 have g:∀i,(Fa ns o a b).getD i frZ=if i=o.b then b else if i=o.a then a else ns.getD i frZ:=fun i=>by
  unfold Fa;rw [Qe hlb,Qe hla]
 refine ⟨by unfold Fa;rw [List.length_set,List.length_set];exact h.len,fun i hi=>?_,fun i hi=>?_,fun l hl i hi=>?_⟩
 ·rw [g];split
  ·exact s4
  ·split
   ·exact s3
   ·exact h.fit i hi
 ·rw [g];split
  ·rename_i e1;rw [e1];exact s2.trans (h.sub _ ho.1.2.1)
  ·split
   ·rename_i e1;rw [e1];exact s1.trans (h.sub _ ho.1.1)
   ·exact h.sub i hi
 ·obtain ⟨a',b',e',ia,ib⟩:=A90 ho h.fit (h.has l hl) (hl.2.2 o hm);rw [e'] at e;cases e;rw [g];split
  ·rename_i e1;rw [e1];exact ib
  ·split
   ·rename_i e1;rw [e1];exact ia
   ·exact h.has l hl i hi
theorem Afr {ns0:List Fr} {os:List Sd} {ns:List Fr} (h:InvN ns0 os ns) {o:Sd} (hm:o∈os) (ho:o.ok ns0.length) (e:Hz ns o=none):∀l,¬FitL ns0 os l:=fun l hl=>by
 obtain ⟨a',b',e',_⟩:=A90 ho h.fit (h.has l hl) (hl.2.2 o hm);rw [e'] at e;cases e
theorem Ae9 {ns0:List Fr} {os:List Sd} {ns:List Fr} (h:InvN ns0 os ns) {o:Sd} (ho:o.ok ns0.length) {a b:Fr} (e:Hz ns o=some (a,b)):sumW (Fa ns o a b)≤sumW ns∧((a≠ns.getD o.a frZ∨b≠ns.getD o.b frZ)→sumW (Fa ns o a b)<sumW ns)∧0≤sumW ns:=by
 obtain ⟨s1,s2,s3,s4⟩:=A8z e;have hla:o.a<ns.length:=by rw [h.len];exact ho.1.1
 have hlb:o.b<(ns.set o.a a).length:=by rw [List.length_set,h.len];exact ho.1.2.1
 have e1:sumW (Fa ns o a b)=sumW ns-wdF (ns.getD o.a frZ)+wdF a-wdF (ns.getD o.b frZ)+wdF b:=by
  unfold Fa;rw [A07 _ _ _ hlb,A07 _ _ _ hla,Qe hla,if_neg (by have:=ho.1.2.2;omega)]
 have l1:=wd_le s1;have l2:=wd_le s2;refine ⟨by omega,fun hne=>?_,V8 ns fun f hf=>?_⟩
 ·apply Classical.byContradiction;intro hno;rcases hne with hne | hne
  ·exact hne (wd_eq s1 (by omega))
  ·exact hne (wd_eq s2 (by omega))
 ·obtain ⟨i,hi,rfl⟩:=List.mem_iff_getElem.1 hf;have:=h.fit i (by rw [←h.len];exact hi)
  rwa [List.getD_eq_getElem?_getD,List.getElem?_eq_getElem hi] at this
end
section
open Go.Am
attribute [local simp] cells Af mkv Aq B6 under dem dem1 eB Ac As
theorem Gn {x y B C:Int} (hB:0≤B) (hC:0≤C) (hx:-B≤x∧x≤B) (hy:-C≤y∧y≤C):-(B*C)≤x*y∧x*y≤B*C:=by
 have h1:x.natAbs≤B.natAbs:=by omega
 have h2:y.natAbs≤C.natAbs:=by omega
 have h3:=Nat.mul_le_mul h1 h2;rw [←Int.natAbs_mul,←Int.natAbs_mul] at h3;have hb:=Int.mul_nonneg hB hC;omega
def exS (p q:Int) (a:(Int×Int)×Bool) (r:Int×Int×Int):(Int×Int)×Bool :=
 let u:=p*r.1+q*r.2.1
 let v:=p*r.1+q*r.2.2
 let o:=if a.2 then a.1 else (u,u)
 ((min (min o.1 u) v,max (max o.2 u) v),true)
def exL (p q:Int) (l:List (Int×Int×Int)):(Int×Int)×Bool:=l.foldl (exS p q) ((0,0),false)
def exF (f:Fr) (p q:Int):Int×Int:=(exL p q (Bo f)).1
theorem A9z (p q:Int):∀(l:List (Int×Int×Int)) (a:(Int×Int)×Bool),a.2=true→(l.foldl (exS p q) a).1.1≤a.1.1∧a.1.2≤(l.foldl (exS p q) a).1.2
 | [],a,_=>⟨Int.le_refl _,Int.le_refl _⟩
 | r::l,a,h=>by
   have ih:=A9z p q l (exS p q a r) rfl;rw [List.foldl_cons];have h1:(exS p q a r).1.1≤a.1.1∧a.1.2≤(exS p q a r).1.2:=by
    unfold exS;simp only [h,if_true];omega
   omega
theorem Agb (p q:Int):∀(l:List (Int×Int×Int)) (a:(Int×Int)×Bool) (r:Int×Int×Int),r∈l→((l.foldl (exS p q) a).1.1≤p*r.1+q*r.2.1∧(l.foldl (exS p q) a).1.1≤p*r.1+q*r.2.2)∧p*r.1+q*r.2.1≤(l.foldl (exS p q) a).1.2∧p*r.1+q*r.2.2≤(l.foldl (exS p q) a).1.2
 | [],a,r,h=>by cases h
 | r0::l,a,r,h=>by
   rw [List.foldl_cons];rcases List.mem_cons.1 h with rfl | h
   ·have ih:=A9z p q l (exS p q a r) rfl;have h1:((exS p q a r).1.1≤p*r.1+q*r.2.1∧(exS p q a r).1.1≤p*r.1+q*r.2.2)∧p*r.1+q*r.2.1≤(exS p q a r).1.2∧p*r.1+q*r.2.2≤(exS p q a r).1.2:=by
     unfold exS;simp only;omega
    omega
   ·exact Agb p q l _ r h
theorem A9y {f:Fr} {p q:Int} {z:Int×Int} (h:inR f z):(exF f p q).1≤p*z.1+q*z.2∧p*z.1+q*z.2≤(exF f p q).2:=by
 obtain ⟨_,a,b⟩:=Uq h;have hr:(z.1,lowY f z.1,Dd f z.1)∈Bo f:=Q7 h.1.1 (by have:=h.1.2;omega) (by omega);have k:=Agb p q (Bo f) ((0,0),false) _ hr;simp only at k;unfold exF exL;rcases Int.le_total 0 q with h1 | h1
 ·have h2:=Int.mul_le_mul_of_nonneg_left a h1;have h3:=Int.mul_le_mul_of_nonneg_left b h1;omega
 ·have h2:=Int.mul_le_mul_of_nonpos_left h1 a;have h3:=Int.mul_le_mul_of_nonpos_left h1 b;omega
def exBd (a:(Int×Int)×Bool):Prop:=(-400000000≤a.1.1∧a.1.1≤400000000)∧-400000000≤a.1.2∧a.1.2≤400000000
theorem exS_bd {p q:Int} (hp:-2000≤p∧p≤2000) (hq:-2000≤q∧q≤2000) {a:(Int×Int)×Bool} (ha:exBd a) {r:Int×Int×Int} (h1:-32768≤r.1∧r.1≤32768) (h2:-32768≤r.2.1∧r.2.1≤32768) (h3:-32768≤r.2.2∧r.2.2≤32768):exBd (exS p q a r):=by
 have q1:=Gn (x:=p) (y:=r.1) (B:=2000) (C:=32768) (by omega) (by omega) hp h1;have q2:=Gn (x:=q) (y:=r.2.1) (B:=2000) (C:=32768) (by omega) (by omega) hq h2;have q3:=Gn (x:=q) (y:=r.2.2) (B:=2000) (C:=32768) (by omega) (by omega) hq h3;unfold exBd at *;unfold exS;cases a.2<;>simp only [if_true,if_false,Bool.false_eq_true]<;>omega
theorem Yx {f:Fr} (hf:Bh f=true) {r:Int×Int×Int} (h:r∈Bo f):(-32768≤r.1∧r.1≤32768)∧(-32768≤r.2.1∧r.2.1≤32768)∧-32768≤r.2.2∧r.2.2≤32768:=by
 obtain ⟨⟨a1,a2⟩,a3,a4,a5⟩:=Pk _ _ h;rw [Cw] at hf;unfold fitF fitB at hf;unfold lowY at a3;unfold Dd at a4;omega
theorem exL_bd {f:Fr} (hf:Bh f=true) {p q:Int} (hp:-2000≤p∧p≤2000) (hq:-2000≤q∧q≤2000):exBd (exL p q (Bo f)):=by
 have:∀(l:List (Int×Int×Int)) (a:(Int×Int)×Bool),(∀r∈l,r∈Bo f)→exBd a→exBd (l.foldl (exS p q) a):=by
  intro l
  induction l with
  | nil=>intro a _ h;exact h
  | cons r l ih =>
    intro a hl ha;have hr:=Yx hf (hl r (by simp));exact ih _ (fun r' h'=>hl r' (by simp [h'])) (exS_bd hp hq ha hr.1 hr.2.1 hr.2.2)
 exact this _ _ (fun r h=>h) (by unfold exBd;simp)
theorem Nc {f:Fr} {p q:Int} (hf:Bh f=true) (hp:-2000≤p∧p≤2000) (hq:-2000≤q∧q≤2000):C Tryz.prog Ye [.agg (Ac f),I p,I q] (eB (exF f p q)):=by
 have hf':=hf;rw [Cw] at hf';obtain ⟨⟨⟨x1,x2,x3⟩,y1,y2,y3⟩,⟨s1,s2,s3⟩,d1,d2,d3⟩:=hf';refine C_of mixed Xl.2 (by simp) fun S ok=>?_;refine TsR rfl (TsR rfl (TsR rfl (A2 (TsR rfl (A4 ?_)))));refine Bc (α:=Nat×((Int×Int)×Bool)) (fun k s=>(k.1≤(f.x.2+1-f.x.1).toNat∧exBd k.2∧(G0 f ((f.x.2+1-f.x.1).toNat-k.1) (f.x.1+k.1)).foldl (exS p q) k.2=exL p q (Bo f))∧s=⟨[(1,I p),(2,I q),(3,.ptr 3 0),(6,.ptr 6 0),(7,.ptr 7 0),(8,.bool k.2.2),(9,I (f.x.1+k.1))],[(3,⟨Ac f,false⟩),(6,⟨[I 0,I 0],false⟩),(7,⟨[I k.2.1.1,I k.2.1.2],false⟩)],[],[],false⟩) (fun k=>(f.x.2+1-f.x.1).toNat-k.1) (0,((0,0),false)) (Ad (.k rfl (.k rfl (.k rfl (.k rfl (.k rfl (.k rfl (.cons rfl (VLe.i (by simp)) .nil))))))) (.k rfl (.k rfl (.k rfl .nil))) .nil rfl rfl) ⟨⟨Nat.zero_le _,by unfold exBd;simp,by simp [exL,Bo]⟩,rfl⟩ ?_;rintro ⟨k,st⟩ s ⟨⟨hk,hbd,hfold⟩,rfl⟩;simp only at hk hbd hfold;refine A2 (TsR rfl (An rfl rfl (fun h1=>A5 ?_) (fun h1=>Ak ?_)));rotate_left
 ·have h1:¬f.x.1+(k:Int)≤f.x.2:=by simpa using h1
  rw [show (f.x.2+1-f.x.1).toNat-k=0 by omega] at hfold;have e:st=exL p q (Bo f):=by simpa [G0] using hfold
  subst e;refine TsR rfl (A8 rfl rfl rfl rfl trivial)
 have h1:f.x.1+(k:Int)≤f.x.2:=by simpa using h1
 obtain ⟨x,hx⟩:∃x,f.x.1+(k:Int)=x:=⟨_,rfl⟩;have hx':x+1=f.x.1+((k+1:Nat):Int):=by omega
 obtain ⟨n,hn⟩:∃n,(f.x.2+1-f.x.1).toNat-k=n+1:=⟨_,(Nat.succ_pred_eq_of_pos (by omega)).symm⟩;have hn2:(f.x.2+1-f.x.1).toNat-(k+1)=n:=by omega
 rw [hn,hx] at hfold;rw [hx];obtain ⟨lo,hlo⟩:∃l,lowY f x=l:=⟨_,rfl⟩;obtain ⟨hi,hhi⟩:∃l,Dd f x=l:=⟨_,rfl⟩;rw [G0,hlo,hhi] at hfold;obtain ⟨st',hst'⟩:∃s',(if lo≤hi then exS p q st (x,lo,hi) else st)=s':=⟨_,rfl⟩;have hb2:exBd st':=by
  rw [←hst'];split
  ·rename_i h;have hlo':=hlo;have hhi':=hhi;unfold lowY at hlo';unfold Dd at hhi';refine exS_bd hp hq hbd ?_ ?_ ?_<;>simp only<;>omega
  ·exact hbd
 have hfold2:(G0 f n (x+1)).foldl (exS p q) st'=exL p q (Bo f):=by
  rw [←hfold,←hst'];split<;>rfl
 refine Mm ⟨[(1,I p),(2,I q),(3,.ptr 3 0),(6,.ptr 6 0),(7,.ptr 7 0),(8,.bool st'.2),(9,I x)],[(3,⟨Ac f,false⟩),(6,⟨[I 0,I 0],false⟩),(7,⟨[I st'.1.1,I st'.1.2],false⟩)],[],[],false⟩ (A4 ?_) ?_;rotate_left
 ·refine TrR rfl ?_;refine ⟨(k+1,st'),_,Ad (.k rfl (.k rfl (.k rfl (.k rfl (.k rfl (.k rfl (.cons rfl (VLe.i ?_) .nil))))))) (.k rfl (.k rfl (.k rfl .nil))) .nil rfl rfl,⟨⟨by simp only;omega,hb2,?_⟩,rfl⟩,by simp only;omega⟩
  ·show IntKind.wrap .i64 (x+1)=f.x.1+((k+1:Nat):Int);rw [w64 (by omega) (by omega)];exact hx'
  ·simp only;rw [hn2,←hx'];exact hfold2
 refine Jv rfl (by simp) (by kernel_rfl) ?_;refine Aa (s':=⟨[(1,I p),(2,I q),(3,.ptr 3 0),(6,.ptr 6 0),(7,.ptr 7 0),(8,.bool st.2),(9,I x),(10,I lo),(11,I hi)],[(3,⟨Ac f,false⟩),(6,⟨[I 0,I 0],false⟩),(7,⟨[I st.1.1,I st.1.2],false⟩)],[],[],false⟩) (Ad (.k rfl (.k rfl (.k rfl (.k rfl (.k rfl (.k rfl (.k rfl (.cons rfl (VLe.i ?_) (.cons rfl (VLe.i ?_) .nil))))))))) (.k rfl (.k rfl (.k rfl .nil))) .nil rfl rfl) ?_
 ·rw [←hlo];unfold lowY;simp (disch:=omega) only [cond_true,cond_false,Gp,It,w64]
 ·rw [←hhi];unfold Dd;simp (disch:=omega) only [cond_true,cond_false,Gp,It,w64]
 refine A2 (TsR rfl (An rfl rfl (fun h3=>?_) (fun h3=>?_)))
 ·have h3:¬lo≤hi:=by have:decide (lo>hi)=true:=h3;have:=of_decide_eq_true this;omega
  rw [if_neg h3] at hst';subst hst';exact Ak (Ad (.k rfl (.k rfl (.k rfl (.k rfl (.k rfl (.k rfl (.k rfl .nil))))))) (.k rfl (.k rfl (.k rfl .nil))) .nil rfl rfl)
 have h3:lo≤hi:=by have:decide (lo>hi)=false:=h3;have:=of_decide_eq_false this;omega
 rw [if_pos h3] at hst';have hlo':=hlo;have hhi':=hhi;unfold lowY at hlo';unfold Dd at hhi';have q1:=Gn (x:=p) (y:=x) (B:=2000) (C:=32768) (by omega) (by omega) hp (by omega);have q2:=Gn (x:=q) (y:=lo) (B:=2000) (C:=32768) (by omega) (by omega) hq (by omega);have q3:=Gn (x:=q) (y:=hi) (B:=2000) (C:=32768) (by omega) (by omega) hq (by omega);refine A5 (TsR rfl ?_);obtain ⟨u,hu⟩:∃u,p*x+q*lo=u:=⟨_,rfl⟩;obtain ⟨v,hv⟩:∃v,p*x+q*hi=v:=⟨_,rfl⟩;have hst2:st'=((min (min (if st.2 then st.1 else (u,u)).1 u) v,max (max (if st.2 then st.1 else (u,u)).2 u) v),true):=by
  rw [←hst',←hu,←hv];rfl
 refine Aa (s':=⟨[(1,I p),(2,I q),(3,.ptr 3 0),(6,.ptr 6 0),(7,.ptr 7 0),(8,.bool st.2),(9,I x),(12,I u),(13,I v)],[(3,⟨Ac f,false⟩),(6,⟨[I 0,I 0],false⟩),(7,⟨[I st.1.1,I st.1.2],false⟩)],[],[],false⟩) (Ad (.k rfl (.k rfl (.k rfl (.k rfl (.k rfl (.k rfl (.k rfl (.cons rfl (VLe.i ?_) (.cons rfl (VLe.i ?_) .nil))))))))) (.k rfl (.k rfl (.k rfl .nil))) .nil rfl rfl) ?_
 ·rw [←hu];simp (disch:=omega) only [w64]
 ·rw [←hv];simp (disch:=omega) only [w64]
 clear hu hv q1 q2 q3 hfold hfold2 hb2;obtain ⟨⟨m1,m2⟩,sb⟩:=st;refine Mm ⟨[(1,I p),(2,I q),(3,.ptr 3 0),(6,.ptr 6 0),(7,.ptr 7 0),(8,.bool true),(9,I x),(12,I u),(13,I v)],[(3,⟨Ac f,false⟩),(6,⟨[I 0,I 0],false⟩),(7,⟨[I (if sb then (m1,m2) else (u,u)).1,I (if sb then (m1,m2) else (u,u)).2],false⟩)],[],[],false⟩ (TsR rfl ?_) ?_
 ·cases sb with
  | false =>
    refine A9 rfl (TrR rfl ?_);exact Ad (.k rfl (.k rfl (.k rfl (.k rfl (.k rfl (.k rfl (.k rfl (.k rfl (.k rfl .nil))))))))) (.k rfl (.k rfl (.k rfl .nil))) .nil rfl rfl
  | true =>
    refine A7 rfl (A5 ?_);exact Ad (.k rfl (.k rfl (.k rfl (.k rfl (.k rfl (.k rfl (.k rfl (.k rfl (.k rfl .nil))))))))) (.k rfl (.k rfl (.k rfl .nil))) .nil rfl rfl
 refine TrR rfl ?_;rw [hst2];refine Ad (.k rfl (.k rfl (.k rfl (.k rfl (.k rfl (.k rfl (.k rfl .nil))))))) (.k rfl (.k rfl (.cons rfl (.cons (VLe.i ?_) (.cons (VLe.i ?_) .nil)) .nil))) .nil rfl rfl
 ·simp only [cond_true,cond_false,It]
 ·simp only [cond_true,cond_false,Gp]
end
section
open Go.Am
attribute [local simp] cells Af mkv Aq B6 under dem dem1 eB Ac As
theorem He (a b:Int):C Tryz.prog Jy [.slice 0 1 [I a,I b]] (I (if a=0 then b else a)):=by
 refine C_of mixed Xr.2 (by simp) fun S ok=>?_;refine TsR rfl (A2 (TsR rfl (A4 ?_)));refine Bd 3 (Ag ?_);refine TsR rfl (A2 (A9 rfl (A5 (A2 (A4 (TsR rfl (TsR rfl ?_)))))));by_cases h:a=0;rotate_left
 ·refine A9 (congrArg (fun b=>some (V.bool b)) (show ((a:Int) != 0)=true by simpa using h)) (TsR rfl (A8 rfl rfl rfl ?_ trivial));simp [D2,h]
 subst h;refine A7 rfl (A5 (TrR rfl (Ag ?_)));refine TsR rfl (A2 (A9 rfl (A5 (A2 (A4 (TsR rfl (TsR rfl ?_)))))));by_cases h:b=0;rotate_left
 ·refine A9 (congrArg (fun b=>some (V.bool b)) (show ((b:Int) != 0)=true by simpa using h)) (TsR rfl (A8 rfl rfl rfl ?_ trivial));simp [D2]
 subst h;refine A7 rfl (A5 (TrR rfl (Ag ?_)));refine TsR rfl (A2 (A7 rfl (Ak ?_)));exact TsR rfl (A8 rfl rfl rfl rfl trivial)
theorem Afz {f:Fr} (h:(Ca f).2=false):(Ca f).1=frZ:=by
 unfold Ca Ec at *;generalize F0 f=l at *;cases l with
 | nil=>rfl
 | cons p l =>
   exfalso;have:∀(l:List (Int×Int)) (a:Fr×Bool),a.2=true→(l.foldl I4 a).2=true:=by
    intro l
    induction l with
    | nil=>intro a h;exact h
    | cons q l ih=>intro a _;exact ih _ rfl
   rw [List.foldl_cons,this l _ rfl] at h;cases h
theorem Uu {f:Fr} (hf:midF f) (h:(Ca f).2=false):C Tryz.prog G5 [.agg (Ac f)] (.tuple [.agg (Ac frZ),I 4]):=by
 have kh:=Ahr (Kq f) (Za hf);have h':(Ec (F0 f)).2=false:=h;rw [h'] at kh;refine C_of mixed Ig.2 (by simp) fun S ok=>?_;refine TsR rfl (TsC rfl (A3 rfl rfl (Zu f) (Srn rfl (A3 rfl rfl kh (Sfn rfl ?_)))));refine A2 (TsR rfl (A9 rfl ?_));exact TsR rfl (A8 rfl rfl rfl rfl trivial)
theorem Ahu (f:Fr):C Tryz.prog Rb [.agg (Ac f),I 4] (.tuple [.agg (Ac frZ),I 4]):=by
 refine C_of mixed Py.2 (by simp) fun S ok=>?_;refine TsR rfl (A2 (TsR rfl (A9 rfl ?_)));exact TsR rfl (A8 rfl rfl rfl rfl trivial)
theorem Ux {f t:Fr} (h:J5 f=some t):C Tryz.prog O1 [.agg (Ac f)] (.tuple [.agg (Ac t),I 0]):=by
 obtain ⟨h1,h2,rfl,_⟩:=Rk h;have kc:=Dy f;rw [if_pos h1] at kc;refine C_of mixed Jq.2 (by simp) fun S ok=>?_;refine TsR rfl (A2 (TsC rfl (A3 rfl rfl kc (Sfn rfl (TsR rfl (A7 rfl (A5 ?_)))))));refine TsC rfl (A3 rfl rfl (Dh f) (A3 rfl rfl (Wv (Hs h1) h2) (Srn rfl ?_)));exact A3 rfl rfl (c_done (Ca f).1) (Sfn rfl (A8 rfl rfl rfl rfl trivial))
theorem c_TightN {f:Fr} (h:J5 f=none):∃e:Int,e≠0∧C Tryz.prog O1 [.agg (Ac f)] (.tuple [.agg (Ac frZ),I e]):=by
 have kc:=Dy f;by_cases h1:Bh f=true
 ·have h2:(Ca f).2=false:=by
   unfold J5 at h;rw [h1] at h;cases h2:(Ca f).2 with
   | false=>rfl
   | true=>rw [h2] at h;simp at h
  rw [if_pos h1] at kc;refine ⟨4,by decide,C_of mixed Jq.2 (by simp) fun S ok=>?_⟩;refine TsR rfl (A2 (TsC rfl (A3 rfl rfl kc (Sfn rfl (TsR rfl (A7 rfl (A5 ?_)))))));refine TsC rfl (A3 rfl rfl (Dh f) (A3 rfl rfl (Uu (Hs h1) h2) (Srn rfl ?_)));exact A3 rfl rfl (Ahu frZ) (Sfn rfl (A8 rfl rfl rfl rfl trivial))
 ·rw [if_neg h1] at kc;refine ⟨11,by decide,C_of mixed Jq.2 (by simp) fun S ok=>?_⟩;refine TsR rfl (A2 (TsC rfl (A3 rfl rfl kc (Sfn rfl (TsR rfl (A9 rfl ?_))))));exact TsR rfl (A8 rfl rfl rfl rfl trivial)
theorem A9l {a:Fr} (b:Fr) (h:Bh a=true) (h2:Bh b=true):midF (comb cutB a b):=by
 rw [Cw] at h h2;unfold fitF fitB at h h2;unfold midF comb cutB;simp only;omega
theorem c_MeetS {a b t:Fr} (h:cutO a b=some t):C Tryz.prog Rg [.agg (Ac a),.agg (Ac b)] (.tuple [.agg (Ac t),I 0]):=by
 unfold cutO at h;split at h;rotate_left
 ·cases h
 rename_i h0;simp only [Bool.and_eq_true] at h0;obtain ⟨⟨h1,h2⟩,h3⟩:=h0;cases h;have ka:=Dy a;have kb:=Dy b;rw [if_pos h1] at ka;rw [if_pos h2] at kb;have kt:=Wv (A9l b h1 h2) h3;refine C_of mixed Kn.2 (by simp) fun S ok=>?_;refine TsR rfl (A2 (A2 ?_));refine Ab (Krn rfl (A6 rfl rfl ka (Krn rfl (A6 rfl rfl kb (Krn rfl (A6 rfl rfl (He 0 0) ?_))))));refine Krn rfl (.done (KrT ?_));refine TsR rfl (A7 rfl (A5 ?_));refine Aa (s':=⟨[(2,.ptr 2 0),(3,.ptr 3 0),(4,.ptr 4 0),(5,I 0)],[(2,⟨Ac a,false⟩),(3,⟨Ac b,false⟩),(4,⟨Ac frZ,false⟩)],[],[],false⟩) (Ad (.k rfl (.k rfl (.k rfl (.k rfl .nil)))) (.k rfl (.k rfl (.k rfl .nil))) .nil rfl rfl) ?_;refine A2 (Ab (Krn rfl (A6 rfl rfl (Dh a) (Krn rfl (A6 rfl rfl (Dh b) (A6 rfl rfl (Ge c_cut a b) (A6 rfl rfl kt (Krn rfl ?_))))))));exact A6 rfl rfl (c_done (Ca (comb cutB a b)).1) (Krn rfl (.done ⟨by kernel_rfl,by kernel_rfl,A8 rfl rfl rfl rfl trivial⟩))
theorem c_MeetN {a b:Fr} (h:cutO a b=none):∃e:Int,e≠0∧C Tryz.prog Rg [.agg (Ac a),.agg (Ac b)] (.tuple [.agg (Ac frZ),I e]):=by
 have ka:=Dy a;have kb:=Dy b;by_cases h12:Bh a=true∧Bh b=true
 ·obtain ⟨h1,h2⟩:=h12;have h3:(Ca (comb cutB a b)).2=false:=by
   unfold cutO at h;rw [h1,h2] at h;cases h3:(Ca (comb cutB a b)).2 with
   | false=>rfl
   | true=>rw [h3] at h;simp at h
  rw [if_pos h1] at ka;rw [if_pos h2] at kb;have kt:=Uu (A9l b h1 h2) h3;refine ⟨4,by decide,C_of mixed Kn.2 (by simp) fun S ok=>?_⟩;refine TsR rfl (A2 (A2 ?_));refine Ab (Krn rfl (A6 rfl rfl ka (Krn rfl (A6 rfl rfl kb (Krn rfl (A6 rfl rfl (He 0 0) ?_))))));refine Krn rfl (.done (KrT ?_));refine TsR rfl (A7 rfl (A5 ?_));refine Aa (s':=⟨[(2,.ptr 2 0),(3,.ptr 3 0),(4,.ptr 4 0),(5,I 0)],[(2,⟨Ac a,false⟩),(3,⟨Ac b,false⟩),(4,⟨Ac frZ,false⟩)],[],[],false⟩) (Ad (.k rfl (.k rfl (.k rfl (.k rfl .nil)))) (.k rfl (.k rfl (.k rfl .nil))) .nil rfl rfl) ?_;refine A2 (Ab (Krn rfl (A6 rfl rfl (Dh a) (Krn rfl (A6 rfl rfl (Dh b) (A6 rfl rfl (Ge c_cut a b) (A6 rfl rfl kt (Krn rfl ?_))))))));exact A6 rfl rfl (Ahu frZ) (Krn rfl (.done ⟨by kernel_rfl,by kernel_rfl,A8 rfl rfl rfl rfl trivial⟩))
 ·obtain ⟨e,he,k1⟩:∃e:Int,e≠0∧C Tryz.prog Jy [.slice 0 1 [I (if Bh a then 0 else 11),I (if Bh b then 0 else 11)]] (I e):=by
   refine ⟨_,?_,He _ _⟩;by_cases h1:Bh a=true
   ·have h2:Bh b=false:=by
     cases hb:Bh b with
     | false=>rfl
     | true=>exact absurd ⟨h1,hb⟩ h12
    rw [h1,h2];decide
   ·have h1:Bh a=false:=by simpa using h1
    rw [h1];simp
  refine ⟨e,he,C_of mixed Kn.2 (by simp) fun S ok=>?_⟩;refine TsR rfl (A2 (A2 ?_));refine Ab (Krn rfl (A6 rfl rfl ka (Krn rfl (A6 rfl rfl kb (Krn rfl (A6 rfl rfl k1 ?_))))));refine Krn rfl (.done (KrT ?_));refine TsR rfl (A9 (congrArg (fun b=>some (V.bool b)) (show ((e:Int) != 0)=true by simpa using he)) ?_);exact TsR rfl (A8 rfl rfl rfl rfl trivial)
def eqFr (f g:Fr):Bool:=f.x.1==g.x.1&&(f.x.2==g.x.2&&(f.y.1==g.y.1&&(f.y.2==g.y.2&&(f.s.1==g.s.1&&(f.s.2==g.s.2&&(f.d.1==g.d.1&&(f.d.2==g.d.2&&true)))))))
theorem eqFr_iff {f g:Fr}:eqFr f g=true↔f=g:=by
 obtain ⟨⟨a1,a2⟩,⟨a3,a4⟩,⟨a5,a6⟩,a7,a8⟩:=f;obtain ⟨⟨b1,b2⟩,⟨b3,b4⟩,⟨b5,b6⟩,b7,b8⟩:=g;simp [eqFr,and_assoc]
def hasB (f:Fr) (p:Int×Int):Bool:=eqFr (comb cutB f (ofF p)) (ofF p)
theorem has_iff {f:Fr} {p:Int×Int} (hp:B7 p=true):hasB f p=true↔inR f p:=by
 unfold hasB;rw [eqFr_iff,Z6 hp];unfold comb cutB inR;simp only [Fr.mk.injEq,Prod.mk.injEq];omega
theorem c_HasS {f:Fr} (hf:Bh f=true) {p:Int×Int} (hp:B7 p=true):C Tryz.prog A5h [.agg (Ac f),eB p] (.tuple [.bool (hasB f p),I 0]):=by
 have ka:=Dy f;have kb:=D4 p;rw [if_pos hf] at ka;rw [if_pos hp] at kb;refine C_of mixed A3a.2 (by simp) fun S ok=>?_;refine TsR rfl (A2 (A2 ?_));refine Ab (Krn rfl (A6 rfl rfl ka (Krn rfl (A6 rfl rfl kb (Krn rfl (A6 rfl rfl (He 0 0) ?_))))));refine Krn rfl (.done (KrT ?_));refine TsR rfl (A7 rfl (A5 ?_));refine Aa (s':=⟨[(2,.ptr 2 0),(3,.ptr 3 0)],[(2,⟨Ac f,false⟩),(3,⟨[I p.1,I p.2],false⟩)],[],[],false⟩) (Ad (.k rfl (.k rfl .nil)) (.k rfl (.k rfl .nil)) .nil rfl rfl) ?_;refine TsC rfl (A3 rfl rfl (Dh f) (Sfn rfl ?_));refine A2 (Ab (Krn rfl (A6 rfl rfl (A4p p) (A6 rfl rfl (Ge c_cut f (ofF p)) (Krn rfl (A6 rfl rfl (A4p p) (Krn rfl (.done (KrT ?_)))))))));exact A8 rfl rfl rfl rfl trivial
end
section
open Go.Am
attribute [local simp] cells Af mkv Aq B6 under dem dem1 eB Ac As
theorem side_pl {f:List (Int×Int)} (hf:f.all B7=true) {k:Nat} (hk:k<f.length):B7 (Ll f k).1=true∧B7 (Ll f k).2=true :=
 ⟨A3m hf hk,A3m hf (Nat.mod_lt _ (by omega))⟩
def Aew (a b:Int×Int):Int×Int:=(w (a.1+b.1),w (a.2+b.2))
def Aex (a b:Int×Int):Int×Int:=(a.1+b.1,a.2+b.2)
theorem Ahn (a b:Int×Int):C Tryz.prog A2c [eB a,eB b] (eB (Aew a b)):=by
 refine C_of mixed A0p.2 (by simp) fun S ok=>?_;exact TsR rfl (TsR rfl (Bs rfl rfl rfl trivial))
def inV (p:Int×Int):Bool:=btw p.1 (-65536) 65536&&btw p.2 (-65536) 65536
def okXY (f:Fr):Bool:=Ez 32768 f.x&&Ez 32768 f.y
def movF (f:Fr) (p:Int×Int):Fr:=comb Aex (Ca f).1 ⟨(p.1,p.1),(p.2,p.2),(p.1+p.2,p.1+p.2),(p.1-p.2,p.1-p.2)⟩
def movO (f:Fr) (p:Int×Int):Option Fr:=if Bh f&&inV p&&(Ca f).2&&okXY (movF f p) then some (movF f p) else none
theorem inV_spec {p:Int×Int}:inV p=true↔(-65536≤p.1∧p.1≤65536)∧-65536≤p.2∧p.2≤65536:=by
 simp only [inV,Bool.and_eq_true,Bu]
theorem ofF_V {p:Int×Int} (h:inV p=true):ofF p=⟨(p.1,p.1),(p.2,p.2),(p.1+p.2,p.1+p.2),(p.1-p.2,p.1-p.2)⟩:=by
 have:=inV_spec.1 h;unfold ofF w;rw [w64 (n:=p.1+p.2) (by omega) (by omega),w64 (n:=p.1-p.2) (by omega) (by omega)]
theorem A4i {a b:Fr} (ha:Bh a=true) (hb:((-200000≤b.x.1∧b.x.1≤200000)∧(-200000≤b.x.2∧b.x.2≤200000))∧((-200000≤b.y.1∧b.y.1≤200000)∧(-200000≤b.y.2∧b.y.2≤200000))∧((-200000≤b.s.1∧b.s.1≤200000)∧(-200000≤b.s.2∧b.s.2≤200000))∧(-200000≤b.d.1∧b.d.1≤200000)∧-200000≤b.d.2∧b.d.2≤200000):comb Aew a b=comb Aex a b:=by
 rw [Cw] at ha;unfold fitF fitB at ha;unfold comb Aew Aex w;simp (disch:=omega) only [w64]
theorem Aae (f:Fr):C Tryz.prog X7 [.agg (Ac f)] (if okXY f then .tuple [.agg (Ac f),I 0] else .tuple [.agg (Ac frZ),I 7]):=by
 have k1:=Sn (l:=32768) f.x (by omega);have k2:=Sn (l:=32768) f.y (by omega);obtain ⟨g1,hg1⟩:∃g,Ez 32768 f.x=g:=⟨_,rfl⟩;obtain ⟨g2,hg2⟩:∃g,Ez 32768 f.y=g:=⟨_,rfl⟩;rw [hg1] at k1;rw [hg2] at k2;have e:okXY f=(g1&&g2):=by unfold okXY;rw [hg1,hg2]
 rw [e];refine C_of mixed Ve.2 (by simp) fun S ok=>?_;refine TsR rfl (A2 (TsC rfl (A3 rfl rfl k1 (Srn rfl ?_))));refine Ao (r:=.bool g2) rfl rfl rfl rfl (by simp) (fun _=>k2) (Al rfl (by cases g1<;>simp) ?_);refine An rfl rfl (fun h=>?_) (fun h=>?_)
 ·have h:(g1&&g2)=false:=by revert h;cases g1<;>cases g2<;>simp
  rw [h];exact TsR rfl (A8 rfl rfl rfl rfl trivial)
 ·have h:(g1&&g2)=true:=by revert h;cases g1<;>cases g2<;>simp
  rw [h];refine A5 (TsC rfl (A3 rfl rfl (Qi f) (Sfn rfl (A8 rfl rfl rfl rfl trivial))))
theorem A7v {f T:Fr} {p:Int×Int} (h:movO f p=some T):C Tryz.prog Lf [.agg (Ac f),eB p] (.tuple [.agg (Ac T),I 0]):=by
 unfold movO at h;split at h;rotate_left
 ·cases h
 rename_i h0;simp only [Bool.and_eq_true] at h0;obtain ⟨⟨⟨h1,h2⟩,h3⟩,h4⟩:=h0;cases h;have kc:=Dy f;rw [if_pos h1] at kc;have hv:=inV_spec.1 h2;have i1:=Ti (l:=65536) p.1 (by omega);have i2:=Ti (l:=65536) p.2 (by omega);rw [Qc (by omega)] at i1 i2;have hcp:comb Aew (Ca f).1 (ofF p)=movF f p:=by
  rw [ofF_V h2];exact A4i (N5 (Ht h1) h3).2 (by simp only;omega)
 have kco:=Ge Ahn (Ca f).1 (ofF p);rw [hcp] at kco;have ki:=Aae (movF f p);rw [if_pos h4] at ki;refine C_of mixed Gk.2 (by simp) fun S ok=>?_;refine TsR rfl (A2 (TsC rfl (A3 rfl rfl kc (Sfn rfl (TsR rfl (A7 rfl (A5 ?_)))))));refine A2 (A2 (Ab (Krn rfl (A6 rfl rfl i1 (Krn rfl ?_)))));refine Cu (r:=I p.2) rfl rfl rfl rfl (by simp) (fun _=>i2) (Krn rfl (.done (KrT ?_)));refine Aa (s':=⟨[(2,.ptr 2 0),(3,.ptr 3 0),(4,.ptr 4 0),(5,I 0),(28,.bool false)],[(2,⟨Ac f,false⟩),(3,⟨[I p.1,I p.2],false⟩),(4,⟨Ac frZ,false⟩)],[],[],false⟩) (Ad (.k rfl (.k rfl (.k rfl (.k rfl (.cons rfl (VLe.of_eq (congrArg V.bool (by simp))) .nil))))) (.k rfl (.k rfl (.k rfl .nil))) .nil rfl rfl) ?_;refine A7 rfl (A5 ?_);refine TsC rfl (A3 rfl rfl (Dh f) (A3 rfl rfl (Wv (Hs h1) h3) (Sfn rfl ?_)));refine A2 (TsR rfl (A7 rfl (A5 ?_)));refine A2 (Ab (Krn rfl (A6 rfl rfl (A4p p) (A6 rfl rfl kco (A6 rfl rfl ki (Krn rfl (.done (KrT ?_))))))));exact A8 rfl rfl rfl rfl trivial
theorem A7w {f:Fr} {p:Int×Int} (h:movO f p=none):∃e:Int,e≠0∧C Tryz.prog Lf [.agg (Ac f),eB p] (.tuple [.agg (Ac frZ),I e]):=by
 have kc:=Dy f;by_cases h1:Bh f=true;rotate_left
 ·rw [if_neg h1] at kc;refine ⟨11,by decide,C_of mixed Gk.2 (by simp) fun S ok=>?_⟩;refine TsR rfl (A2 (TsC rfl (A3 rfl rfl kc (Sfn rfl (TsR rfl (A9 rfl ?_))))));exact TsR rfl (A8 rfl rfl rfl rfl trivial)
 rw [if_pos h1] at kc;have i1:=Ti (l:=65536) p.1 (by omega);have i2:=Ti (l:=65536) p.2 (by omega);obtain ⟨g,hg⟩:∃g:Bool,(if Nq 65536 p.1 != p.1 then true else Nq 65536 p.2 != p.2)=g:=⟨_,rfl⟩;have hgv:g=!inV p:=by
  rw [←hg];have e:=inV_spec (p:=p);have s1:(Nq 65536 p.1 != p.1)=!btw p.1 (-65536) 65536:=by
   simp only [bne];congr 1;rw [Bool.eq_iff_iff,Bu,beq_iff_eq];unfold Nq;omega
  have s2:(Nq 65536 p.2 != p.2)=!btw p.2 (-65536) 65536:=by
   simp only [bne];congr 1;rw [Bool.eq_iff_iff,Bu,beq_iff_eq];unfold Nq;omega
  rw [s1,s2];unfold inV;cases btw p.1 (-65536) 65536<;>cases btw p.2 (-65536) 65536<;>rfl
 by_cases h2:inV p=true;rotate_left
 ·have h2:inV p=false:=by simpa using h2
  rw [h2] at hgv;refine ⟨7,by decide,C_of mixed Gk.2 (by simp) fun S ok=>?_⟩;refine TsR rfl (A2 (TsC rfl (A3 rfl rfl kc (Sfn rfl (TsR rfl (A7 rfl (A5 ?_)))))));refine A2 (A2 (Ab (Krn rfl (A6 rfl rfl i1 (Krn rfl ?_)))));refine Cu (r:=I (Nq 65536 p.2)) rfl rfl rfl rfl (by simp) (fun _=>i2) (Krn rfl (.done (KrT ?_)));refine Aa (s':=⟨[(4,.ptr 4 0),(28,.bool true)],[(4,⟨Ac frZ,false⟩)],[],[],false⟩) (Ad (.k rfl (.cons rfl (VLe.of_eq (congrArg V.bool ?_)) .nil)) (.k rfl .nil) .nil rfl rfl) ?_
  ·have:g=true:=hgv;rw [←this,←hg];cases Nq 65536 p.1 != p.1<;>rfl
  exact A9 rfl (TsR rfl (A8 rfl rfl rfl rfl trivial))
 rw [h2] at hgv;have hv:=inV_spec.1 h2;rw [Qc (by omega)] at i1 i2;obtain ⟨Q,hQ⟩:∃Q:V,(if (Ca f).2 then .tuple [.agg (Ac (Ca f).1),I 0] else .tuple [.agg (Ac frZ),I 4])=Q:=⟨_,rfl⟩;by_cases h3:(Ca f).2=true
 ·have h4:okXY (movF f p)=false:=by
   unfold movO at h;rw [h1,h2,h3] at h;cases h4:okXY (movF f p) with
   | false=>rfl
   | true=>rw [h4] at h;simp at h
  have hcp:comb Aew (Ca f).1 (ofF p)=movF f p:=by
   rw [ofF_V h2];exact A4i (N5 (Ht h1) h3).2 (by simp only;omega)
  have kco:=Ge Ahn (Ca f).1 (ofF p);rw [hcp] at kco;have ki:=Aae (movF f p);rw [if_neg (by simp [h4])] at ki;refine ⟨7,by decide,C_of mixed Gk.2 (by simp) fun S ok=>?_⟩;refine TsR rfl (A2 (TsC rfl (A3 rfl rfl kc (Sfn rfl (TsR rfl (A7 rfl (A5 ?_)))))));refine A2 (A2 (Ab (Krn rfl (A6 rfl rfl i1 (Krn rfl ?_)))));refine Cu (r:=I p.2) rfl rfl rfl rfl (by simp) (fun _=>i2) (Krn rfl (.done (KrT ?_)));refine Aa (s':=⟨[(2,.ptr 2 0),(3,.ptr 3 0),(4,.ptr 4 0),(5,I 0),(28,.bool false)],[(2,⟨Ac f,false⟩),(3,⟨[I p.1,I p.2],false⟩),(4,⟨Ac frZ,false⟩)],[],[],false⟩) (Ad (.k rfl (.k rfl (.k rfl (.k rfl (.cons rfl (VLe.of_eq (congrArg V.bool (by simp))) .nil))))) (.k rfl (.k rfl (.k rfl .nil))) .nil rfl rfl) ?_;refine A7 rfl (A5 ?_);refine TsC rfl (A3 rfl rfl (Dh f) (A3 rfl rfl (Wv (Hs h1) h3) (Sfn rfl ?_)));refine A2 (TsR rfl (A7 rfl (A5 ?_)));refine A2 (Ab (Krn rfl (A6 rfl rfl (A4p p) (A6 rfl rfl kco (A6 rfl rfl ki (Krn rfl (.done (KrT ?_))))))));exact A8 rfl rfl rfl rfl trivial
 ·have h3:(Ca f).2=false:=by simpa using h3
  refine ⟨4,by decide,C_of mixed Gk.2 (by simp) fun S ok=>?_⟩;refine TsR rfl (A2 (TsC rfl (A3 rfl rfl kc (Sfn rfl (TsR rfl (A7 rfl (A5 ?_)))))));refine A2 (A2 (Ab (Krn rfl (A6 rfl rfl i1 (Krn rfl ?_)))));refine Cu (r:=I p.2) rfl rfl rfl rfl (by simp) (fun _=>i2) (Krn rfl (.done (KrT ?_)));refine Aa (s':=⟨[(2,.ptr 2 0),(3,.ptr 3 0),(4,.ptr 4 0),(5,I 0),(28,.bool false)],[(2,⟨Ac f,false⟩),(3,⟨[I p.1,I p.2],false⟩),(4,⟨Ac frZ,false⟩)],[],[],false⟩) (Ad (.k rfl (.k rfl (.k rfl (.k rfl (.cons rfl (VLe.of_eq (congrArg V.bool (by simp))) .nil))))) (.k rfl (.k rfl (.k rfl .nil))) .nil rfl rfl) ?_;refine A7 rfl (A5 ?_);refine TsC rfl (A3 rfl rfl (Dh f) (A3 rfl rfl (Uu (Hs h1) h3) (Sfn rfl ?_)));refine A2 (TsR rfl (A9 rfl ?_));exact TsR rfl (A8 rfl rfl rfl rfl trivial)
end
section
open Go.Am
attribute [local simp] cells Af mkv Aq B6 under dem dem1 eB Ac As
def hullAsg:IC:=.reg [⟨some 6,.alloc [.int .i64 0,.int .i64 0],[],none⟩,⟨none,.store 2,[.t 6,.t 14],none⟩]
def hullBody:IC:=.block 3 (.seq (.seq (.reg [⟨some 15,.load 1 false,[.t 3],none⟩,⟨some 16,.un .not,[.t 15],none⟩])
  (.cond (.t 16) (.reg [⟨some 17,.load 2 true,[.t 6],none⟩,⟨some 18,.call P4,[.t 17],none⟩,⟨none,.store 8,[.t 2,.t 18],none⟩,⟨none,.store 1,[.t 3,.c (.bool true)],none⟩]) .skip))
  (.draw [0,0,2,7,15] [⟨some 19,.load 8 true,[.t 2],none⟩,⟨some 20,.load 2 true,[.t 6],none⟩,⟨some 21,.call P4,[.t 20],none⟩,⟨some 22,.call Ew,[.t 19,.t 21,.c (.func (.func R7) [] [])],none⟩,⟨none,.store 8,[.t 2,.t 22],none⟩]))
theorem Ag6 {H0:Fr×Bool} {l:List (Int×Int)} {m:Nat} {p:Int×Int} (h:l[m]?=some p):(l.take (m+1)).foldl I4 H0=I4 ((l.take m).foldl I4 H0) p:=by
 rw [List.take_add_one,h,List.foldl_append];rfl
theorem A9t {S:Sur} {ok:S.ok} {it:FuncId} {us:List V} {l:List (Int×Int)} (hus:Plain us) (hit:Iter Tryz.prog it us (l.map eEnd)) {H0:Fr×Bool} {fs:V} (hfs:∀B,Bw B (fun _=>none) 6 fs=true) {k:Int} {Q:Exit→St→Prop}
  (hQ:Q .normal ⟨[(13,.func (.func it) [] us),(2,.ptr 2 0),(3,.ptr 3 0),(7,fs),(8,I 2),(9,I k)],[(2,⟨Ac (l.foldl I4 H0).1,false⟩),(3,⟨[.bool (l.foldl I4 H0).2],false⟩)],[],[],false⟩) :
  Tr (env0 Tryz.prog mixed 26 S ok) none (.range (.t 13) [14] hullAsg hullBody) Q ⟨[(13,.func (.func it) [] us),(2,.ptr 2 0),(3,.ptr 3 0),(7,fs),(8,I 2),(9,I k)],[(2,⟨Ac H0.1,false⟩),(3,⟨[.bool H0.2],false⟩)],[],[],false⟩:=by
 refine Fz rfl (hus.d _) hit rfl (by simp only [List.all_cons,C7 hus,hfs];rfl) rfl (by intro x hx;obtain ⟨b,_,rfl⟩:=List.mem_map.1 hx;rfl) (fun pre t=>∃m,m≤l.length∧pre=(l.take m).map eEnd∧t.bx=[(2,⟨Ac ((l.take m).foldl I4 H0).1,false⟩),(3,⟨[.bool ((l.take m).foldl I4 H0).2],false⟩)]∧t.rw=[]∧t.log=[]) (fun _ _=>False) ⟨0,by omega,rfl,rfl,rfl,rfl⟩ ?_ ?_ ?_
 ·rintro a0 L0 rc0 h0 S1 S2 ok1 ok2 pre q t lp hpre ⟨m,hm,rfl,hbx,hrw,hlog⟩ henv hstp;obtain ⟨env,bx,rw,log,stp⟩:=t;simp only at hbx hrw hlog henv hstp;subst hbx hrw hlog henv hstp;have hmx:m<l.length∧∃b,l[m]?=some b∧q=eEnd b:=by
   have h1:((l.take m).map eEnd).length=m:=by simp;omega
   have h2:=hpre.length_le;simp at h2;have hml:m<l.length:=by omega
   refine ⟨hml,_,List.getElem?_eq_getElem hml,?_⟩;have h3:=List.IsPrefix.getElem hpre (i:=m) (by simp;omega);simp only [List.getElem_map] at h3;rw [List.getElem_append_right (by omega)] at h3;simpa using h3
  obtain ⟨hml,p,hb,rfl⟩:=hmx;have eH:=Ag6 (H0:=H0) hb;obtain ⟨⟨f,b⟩,hH⟩:∃H,(l.take m).foldl I4 H0=H:=⟨_,rfl⟩;rw [hH] at eH ⊢;refine TrR rfl ?_;refine Aa (s':=⟨[(2,.ptr 2 0),(3,.ptr 3 0),(6,.ptr 6 0)],[(2,⟨Ac f,false⟩),(3,⟨[.bool b],false⟩),(6,⟨[I p.1,I p.2],false⟩)],[],[],false⟩) (Ad (.k rfl (.k rfl (.k rfl .nil))) (.k rfl (.k rfl (.k rfl .nil))) .nil rfl rfl) ?_;refine A4 (Mm ⟨[(2,.ptr 2 0),(3,.ptr 3 0),(6,.ptr 6 0)],[(2,⟨Ac (if b then f else ofF p),false⟩),(3,⟨[.bool true],false⟩),(6,⟨[I p.1,I p.2],false⟩)],[],[],false⟩ ?_ ?_)
  ·cases b with
   | true =>
     refine TsR rfl (A7 rfl (A5 ?_));exact Ad (.k rfl (.k rfl (.k rfl .nil))) (.k rfl (.k rfl (.k rfl .nil))) .nil rfl rfl
   | false =>
     refine TsR rfl (A9 rfl ?_);refine Ae (Srn rfl (A3 rfl rfl (A4p p) (Sfn rfl ?_)));exact Ad (.k rfl (.k rfl (.k rfl .nil))) (.k rfl (.k rfl (.k rfl .nil))) .nil rfl rfl
  refine Ab (Krn rfl (A6 rfl rfl (A4p p) (A6 rfl rfl (Ge c_span (if b then f else ofF p) (ofF p)) (Krn rfl (.done (KrT ?_))))));refine ⟨⟨[],[(2,⟨Ac ((l.take (m+1)).foldl I4 H0).1,false⟩),(3,⟨[.bool ((l.take (m+1)).foldl I4 H0).2],false⟩)],[],[],false⟩,?_,⟨m+1,by omega,?_,rfl,rfl,rfl⟩,rfl⟩
  ·rw [eH];exact Ad .nil (.k rfl (.k rfl .nil)) .nil rfl rfl
  ·rw [List.take_add_one,hb];simp
 ·rintro ⟨env,bx,rw,log,stp⟩ henv hstp ⟨m,hm,hpre,hbx,hrw,hlog⟩;simp only at hbx hrw hlog henv hstp;subst hbx hrw hlog henv hstp;have hml:m=l.length:=by
   have:=congrArg List.length hpre;simp at this;omega
  subst hml;rw [List.take_length];exact hQ
 ·intro e t _ h;exact h.elim
theorem Ahq {it jt:FuncId} {us vs:List V} {l m:List (Int×Int)} (hus:Plain us) (hvs:Plain vs) (hit:Iter Tryz.prog it us (l.map eEnd)) (hjt:Iter Tryz.prog jt vs (m.map eEnd)) :
  C Tryz.prog R8 [.slice 0 1 [.func (.func it) [] us,.func (.func jt) [] vs]] (.tuple [.agg (Ac (Ec (l++m)).1),.bool (Ec (l++m)).2]):=by
 have efold:m.foldl I4 (l.foldl I4 (Ec []))=Ec (l++m):=by unfold Ec;rw [List.foldl_append];rfl
 have hfs:∀B,Bw B (fun _=>none) 6 (.slice 0 1 [.func (.func it) [] us,.func (.func jt) [] vs])=true:=fun B=>rfl;refine C_of mixed Pv.2 (by simp) fun S ok=>?_;refine TsR rfl (A2 (TsR rfl (A4 ?_)));refine Bd 3 (Ag ?_);refine TsR rfl (A2 (A9 rfl (A5 (A2 (A4 (TsR rfl (TsR rfl (A4 ?_))))))));refine Aa (s':=⟨[(13,.func (.func it) [] us),(2,.ptr 2 0),(3,.ptr 3 0),(7,.slice 0 1 [.func (.func it) [] us,.func (.func jt) [] vs]),(8,I 2),(9,I 0)],[(2,⟨Ac (Ec []).1,false⟩),(3,⟨[.bool (Ec []).2],false⟩)],[],[],false⟩) (Ad (.k rfl (.k rfl (.k rfl (.k rfl (.cons rfl (VLe.i rfl) (.k rfl .nil)))))) (.k rfl (.k rfl .nil)) .nil (by simp only [E4,List.all_cons,C7 hus];rfl) rfl) ?_;refine A9t hus hit hfs ?_;refine TrR rfl (Ag ?_);refine TsR rfl (A2 (A9 rfl (A5 (A2 (A4 (TsR rfl (TsR rfl (A4 ?_))))))));refine Aa (s':=⟨[(13,.func (.func jt) [] vs),(2,.ptr 2 0),(3,.ptr 3 0),(7,.slice 0 1 [.func (.func it) [] us,.func (.func jt) [] vs]),(8,I 2),(9,I 1)],[(2,⟨Ac (l.foldl I4 (Ec [])).1,false⟩),(3,⟨[.bool (l.foldl I4 (Ec [])).2],false⟩)],[],[],false⟩) (Ad (.k rfl (.k rfl (.k rfl (.k rfl (.cons rfl (VLe.i rfl) (.cons rfl (VLe.i rfl) .nil)))))) (.k rfl (.k rfl .nil)) .nil (by simp only [E4,List.all_cons,C7 hvs];rfl) rfl) ?_;refine A9t hvs hjt hfs ?_;rw [efold];refine TrR rfl (Ag ?_);refine TsR rfl (A2 (A7 rfl (Ak ?_)));exact Jv rfl (by simp) (by kernel_rfl) (A8 rfl rfl rfl rfl trivial)
def joiF (a b:Fr):Fr×Bool:=Ec (F0 a++F0 b)
def joiO (a b:Fr):Option Fr:=if Bh a&&Bh b&&(joiF a b).2 then some (joiF a b).1 else none
theorem c_JoinS {a b T:Fr} (h:joiO a b=some T):C Tryz.prog Rh [.agg (Ac a),.agg (Ac b)] (.tuple [.agg (Ac T),I 0]):=by
 unfold joiO at h;split at h;rotate_left
 ·cases h
 rename_i h0;simp only [Bool.and_eq_true] at h0;obtain ⟨⟨h1,h2⟩,h3⟩:=h0;cases h;have ka:=Dy a;have kb:=Dy b;rw [if_pos h1] at ka;rw [if_pos h2] at kb;have kh:=Ahq (Kq a) (Kq b) (Za (Hs h1)) (Za (Hs h2));have e:Ec (F0 a++F0 b)=joiF a b:=rfl;rw [e,h3] at kh;refine C_of mixed Ko.2 (by simp) fun S ok=>?_;refine TsR rfl (A2 (A2 ?_));refine Ab (Krn rfl (A6 rfl rfl ka (Krn rfl (A6 rfl rfl kb (Krn rfl (A6 rfl rfl (He 0 0) ?_))))));refine Krn rfl (.done (KrT ?_));refine TsR rfl (A7 rfl (A5 ?_));refine Aa (s':=⟨[(2,.ptr 2 0),(3,.ptr 3 0),(4,.ptr 4 0),(5,I 0)],[(2,⟨Ac a,false⟩),(3,⟨Ac b,false⟩),(4,⟨Ac frZ,false⟩)],[],[],false⟩) (Ad (.k rfl (.k rfl (.k rfl (.k rfl .nil)))) (.k rfl (.k rfl (.k rfl .nil))) .nil rfl rfl) ?_;refine A2 (Ab (Krn rfl (A6 rfl rfl (Dh a) (A6 rfl rfl (Zu a) (Krn rfl (A6 rfl rfl (Dh b) (A6 rfl rfl (Zu b) (Krn rfl ?_))))))));refine A6 rfl rfl kh (Krn rfl (.done (KrT ?_)));refine A2 (TsR rfl (A7 rfl (A5 ?_)));exact TsC rfl (A3 rfl rfl (Qi (joiF a b).1) (Sfn rfl (A8 rfl rfl rfl rfl trivial)))
theorem c_JoinN {a b:Fr} (h:joiO a b=none):∃e:Int,e≠0∧C Tryz.prog Rh [.agg (Ac a),.agg (Ac b)] (.tuple [.agg (Ac frZ),I e]):=by
 have ka:=Dy a;have kb:=Dy b;by_cases h12:Bh a=true∧Bh b=true
 ·obtain ⟨h1,h2⟩:=h12;have h3:(joiF a b).2=false:=by
   unfold joiO at h;rw [h1,h2] at h;cases h3:(joiF a b).2 with
   | false=>rfl
   | true=>rw [h3] at h;simp at h
  rw [if_pos h1] at ka;rw [if_pos h2] at kb;have kh:=Ahq (Kq a) (Kq b) (Za (Hs h1)) (Za (Hs h2));have e:Ec (F0 a++F0 b)=joiF a b:=rfl;rw [e,h3] at kh;refine ⟨4,by decide,C_of mixed Ko.2 (by simp) fun S ok=>?_⟩;refine TsR rfl (A2 (A2 ?_));refine Ab (Krn rfl (A6 rfl rfl ka (Krn rfl (A6 rfl rfl kb (Krn rfl (A6 rfl rfl (He 0 0) ?_))))));refine Krn rfl (.done (KrT ?_));refine TsR rfl (A7 rfl (A5 ?_));refine Aa (s':=⟨[(2,.ptr 2 0),(3,.ptr 3 0),(4,.ptr 4 0),(5,I 0)],[(2,⟨Ac a,false⟩),(3,⟨Ac b,false⟩),(4,⟨Ac frZ,false⟩)],[],[],false⟩) (Ad (.k rfl (.k rfl (.k rfl (.k rfl .nil)))) (.k rfl (.k rfl (.k rfl .nil))) .nil rfl rfl) ?_;refine A2 (Ab (Krn rfl (A6 rfl rfl (Dh a) (A6 rfl rfl (Zu a) (Krn rfl (A6 rfl rfl (Dh b) (A6 rfl rfl (Zu b) (Krn rfl ?_))))))));refine A6 rfl rfl kh (Krn rfl (.done (KrT ?_)));refine A2 (TsR rfl (A9 rfl ?_));exact TsR rfl (A8 rfl rfl rfl rfl trivial)
 ·obtain ⟨e,he,k1⟩:∃e:Int,e≠0∧C Tryz.prog Jy [.slice 0 1 [I (if Bh a then 0 else 11),I (if Bh b then 0 else 11)]] (I e):=by
   refine ⟨_,?_,He _ _⟩;by_cases h1:Bh a=true
   ·have h2:Bh b=false:=by
     cases hb:Bh b with
     | false=>rfl
     | true=>exact absurd ⟨h1,hb⟩ h12
    rw [h1,h2];decide
   ·have h1:Bh a=false:=by simpa using h1
    rw [h1];simp
  refine ⟨e,he,C_of mixed Ko.2 (by simp) fun S ok=>?_⟩;refine TsR rfl (A2 (A2 ?_));refine Ab (Krn rfl (A6 rfl rfl ka (Krn rfl (A6 rfl rfl kb (Krn rfl (A6 rfl rfl k1 ?_))))));refine Krn rfl (.done (KrT ?_));refine TsR rfl (A9 (congrArg (fun b=>some (V.bool b)) (show ((e:Int) != 0)=true by simpa using he)) ?_);exact TsR rfl (A8 rfl rfl rfl rfl trivial)
def sweO (r:Fr) (p q:Int×Int):Option Fr:=match movO r p with
 | none=>none
 | some a=>match movO r q with
   | none=>none
   | some b=>joiO a b
theorem c_Swept {r:Fr} {p q:Int×Int}:(∀T,sweO r p q=some T→C Tryz.prog O2 [.agg (Ac r),eB p,eB q] (.tuple [.agg (Ac T),I 0]))∧(sweO r p q=none→∃e:Int,e≠0∧C Tryz.prog O2 [.agg (Ac r),eB p,eB q] (.tuple [.agg (Ac frZ),I e])):=by
 unfold sweO;cases h1:movO r p with
 | none =>
   obtain ⟨e,he,k⟩:=A7w h1;refine ⟨fun T h=>(by cases h),fun _=>⟨e,he,C_of mixed Hd.2 (by simp) fun S ok=>?_⟩⟩;refine TsR rfl (TsC rfl (A3 rfl rfl k (Sfn rfl ?_)));refine A2 (TsR rfl (A9 (congrArg (fun b=>some (V.bool b)) (show ((e:Int) != 0)=true by simpa using he)) ?_));exact TsR rfl (A8 rfl rfl rfl rfl trivial)
 | some a =>
   have ka:=A7v h1;cases h2:movO r q with
   | none =>
     obtain ⟨e,he,k⟩:=A7w h2;refine ⟨fun T h=>(by cases h),fun _=>⟨e,he,C_of mixed Hd.2 (by simp) fun S ok=>?_⟩⟩;refine TsR rfl (TsC rfl (A3 rfl rfl ka (Sfn rfl ?_)));refine A2 (TsR rfl (A7 rfl (A5 ?_)));refine TsC rfl (A3 rfl rfl k (Sfn rfl ?_));refine A2 (TsR rfl (A9 (congrArg (fun b=>some (V.bool b)) (show ((e:Int) != 0)=true by simpa using he)) ?_));exact TsR rfl (A8 rfl rfl rfl rfl trivial)
   | some b =>
     have kb:=A7v h2;refine ⟨fun T h=>?_,fun h=>?_⟩
     ·have kj:=c_JoinS h;refine C_of mixed Hd.2 (by simp) fun S ok=>?_;refine TsR rfl (TsC rfl (A3 rfl rfl ka (Sfn rfl ?_)));refine A2 (TsR rfl (A7 rfl (A5 ?_)));refine TsC rfl (A3 rfl rfl kb (Sfn rfl ?_));refine A2 (TsR rfl (A7 rfl (A5 ?_)));exact TsC rfl (A3 rfl rfl kj (Sfn rfl (A8 rfl rfl rfl rfl trivial)))
     ·obtain ⟨e,he,kj⟩:=c_JoinN h;refine ⟨e,he,C_of mixed Hd.2 (by simp) fun S ok=>?_⟩;refine TsR rfl (TsC rfl (A3 rfl rfl ka (Sfn rfl ?_)));refine A2 (TsR rfl (A7 rfl (A5 ?_)));refine TsC rfl (A3 rfl rfl kb (Sfn rfl ?_));refine A2 (TsR rfl (A7 rfl (A5 ?_)));exact TsC rfl (A3 rfl rfl kj (Sfn rfl (A8 rfl rfl rfl rfl trivial)))
end
end Go.Proofs.YtabedohjkillfaaGreatDoor
namespace Go.Am
section
open Go.RowKit
def A57 (E:Env) (c:LC) (ys:YL) (ps:List Nat) (asg body:IC):Prop :=
 ∀(S1 S2:Sur) (ok1:SurIn E.S S1) (ok2:SurIn E.S S2) (pre:List (List V)) (x:List V) (t:St) (l:Nat),(∀log stp M w φ,S2 log stp M w φ→∃r,w.heap[l]?=some (.loop r))→ys (pre++[x])→c.Inv pre t→t.env=c.s.env→t.stp=c.s.stp →
  Tr (E.inner c S1 ok1.ok) (some l) asg (qOnly fun t1=>Tr (E.inner c S2 ok2.ok) (some l) body (qRound (E.inner c S2 ok2.ok) c (pre++[x])) t1) {t with env:=penv ps x c.s.env}
theorem Ta {E:Env} {c:LC} {ys:YL} {ps:List Nat} {asg body:IC} {ca cb:Code} {fn:FuncId} {D:Nat} (hrc:∀st p,c.rc st p={state:=st,pending:=p,fn:=fn,tmps:=c.a.tmps,params:=ps.toArray,assign:=ca,body:=cb,defers:=D})
  (ha:Ee E.P E.nt ca=some asg) (hb:Ee E.P E.nt cb=some body) (hyok:E.yok c.h0.y) (hpin:∀i∈E.pin,C6 c.s.bx i=true) (henv:c.s.env.all (fun p=>Bw (C6 c.s.bx) (fun _=>none) 6 p.2)=true)
  (hps:∀p∈ps,p<E.nt) (hlen:∀pre x,ys (pre++[x])→x.length=ps.length) (hround:A57 E c ys ps asg body):Fw E.P (SI E c) ys c.L:=by
 rintro log x M w φ xs hp ⟨t,hh,pend,h⟩ htop hM hrep;obtain ⟨hI,hst,rfl⟩:=h.go rfl;have e:=h.phi;subst e;have hxl:x.length=ps.length:=hlen log x hp;have hy:=run_yield (P:=E.P) (args:=xs) h.rc (by rw [hrc];have:=hrep.1;simp;omega);simp only [cond_false,hrc] at hy;refine ⟨_,_,_,_,hy,fun n=>roundIn_of_wpIn trivial ?_⟩;have htm:(ps.toArray.zip xs).foldl (fun tmps (t,a)=>tmps.setIfInBounds t a) c.a.tmps=(ps.zip xs.toList).foldl (fun t p=>t.setIfInBounds p.1 p.2) c.a.tmps:=by
  rw [←Array.foldl_toList];simp
 rw [htm];have R1:=A2x h htop hM hyok henv hps hrep;have hT:=hround (SB E (KK hh M) c.L (c.rc .ready none) (MM hh) w hh.φ) (SB E (KK hh M) c.L (c.rc .busy none) (MM hh) w hh.φ) ⟨A27,Aan⟩ ⟨A27,Aan⟩ log x t c.L (fun _ _ _ _ _ h=>⟨_,h.rc⟩) hp hI h.env hst;refine hT ca ha n _ w _ R1 _ fun e t1 a1 w1 h1 k R1' ey1=>?_;cases e with
 | normal =>
   have hT2:Tr (E.inner c (SB E (KK hh M) c.L (c.rc .busy none) (MM hh) w hh.φ) A27) (some c.L) body _ t1:=k;have B1:=R1'.1.sur;have hbr:=run_beginRound (P:=E.P) B1.rc (by rw [hrc]);have eb:({c.rc .ready none with state:=.busy}:Loop)=c.rc .busy none:=by rw [hrc,hrc]
   rw [eb] at hbr;refine ⟨_,hbr,?_⟩;have R2:(E.inner c (SB E (KK hh M) c.L (c.rc .busy none) (MM hh) w hh.φ) A27).rel t1 a1 (w1.putObj c.L (.loop (c.rc .busy none))) h1:=by
    refine ⟨R1'.1.pokeS B1.rc (by intro _ _ _ e;cases e) (by intro _ _ _ e;cases e) (by intro _ _ e;cases e) (by intro _ _ e;cases e) rfl (R1'.1.marks.congr fun r hr hd=>⟨hr,(World.putObj_heap_other fun e=>?_).trans hd⟩) (A89 B1),fun l hl=>have hl':=hyok.1 l (by rw [ey1] at hl;exact hl);⟨X3 hl'.1,hl'.2⟩,R1'.2.2⟩;subst e;rw [B1.rc] at hd;cases hd
   refine hT2 cb hb n _ _ _ R2 _ fun e t2 a2 w2 h2 k2 R2' ey2=>?_;have jump:∀(j:Option Code) (t3:St) (h3:Gh) (w3:World) (a3:Act),Rel E.nt (SB E (KK hh M) c.L (c.rc .busy none) (MM hh) w hh.φ) t3.log t3.stp t3.fs a3 w3 h3→h3.y=(O8 c hh).y → (j=none→c.Inv (log++[x]) {t3 with env:=c.s.env}∧t3.stp=c.s.stp)→(∀jc,j=some jc→∃e,c.Ix e {t3 with env:=c.s.env}∧Tg e=some jc) →
     ∃v w',(Instr.endRound c.L j).run E.P w3=.ok v w'∧∃b φ',(Ending.returned v)=.returned (.bool b)∧SI E c (log++[x]) (!b) M w' φ'∧Ext w hh.φ w' φ'∧(∀k,M k→w'.heap[k]?=w.heap[k]?∧φ' k=hh.φ k)∧w.heap.size≤w'.heap.size∧(∀b,w'.heap.size≤b→φ' b=0)∧w'.os=w.os∧w'.tape=w.tape∧w'.output=w.output:=by
    intro j t3 h3 w3 a3 R3 ey3 hn hs;have her:=run_endRound (P:=E.P) j R3.sur.rc;have ee:({c.rc .busy none with state:=if j.isNone then .ready else .done,pending:=j}:Loop)=c.rc (bif (!j.isNone) then .done else .ready) j:=by
     rw [hrc,hrc];cases j<;>rfl
    rw [ee] at her;obtain ⟨hh4,hs4,q⟩:=A2v (stp':=!j.isNone) (pend':=j) (log':=log++[x]) h hM hyok hpin henv R3 ey3 (fun e=>by
      cases j with
      | none=>exact ⟨(hn rfl).1,(hn rfl).2,rfl⟩
      | some jc=>simp at e) (fun e=>by
      cases j with
      | none=>simp at e
      | some jc=>obtain ⟨e',g1,g2⟩:=hs jc rfl;exact ⟨e',jc,g1,rfl,g2⟩)
    exact ⟨_,_,her,j.isNone,h3.φ,rfl,⟨_,hh4,j,hs4⟩,q⟩
   cases e with
   | normal =>
     obtain ⟨t',hw,hI',hst'⟩:=k2;obtain ⟨h3,R3,e3⟩:=hw a2 w2 h2 R2';exact jump none t' h3 w2 a2 R3.1 (e3.trans (ey2.trans ey1)) (fun _=>⟨hI',hst'⟩) (fun _ e=>(by cases e))
   | ret =>
     obtain ⟨t',hw,hI'⟩:=k2;obtain ⟨h3,R3,e3⟩:=hw a2 w2 h2 R2';exact jump (some .ret) t' h3 w2 a2 R3.1 (e3.trans (ey2.trans ey1)) (fun e=>(by cases e)) (fun jc e=>by cases e;exact ⟨_,hI',rfl⟩)
   | exit i =>
     obtain ⟨t',hw,hI'⟩:=k2;obtain ⟨h3,R3,e3⟩:=hw a2 w2 h2 R2';exact jump (some (.exit i)) t' h3 w2 a2 R3.1 (e3.trans (ey2.trans ey1)) (fun e=>(by cases e)) (fun jc e=>by cases e;exact ⟨_,hI',rfl⟩)
   | goto i =>
     obtain ⟨t',hw,hI'⟩:=k2;obtain ⟨h3,R3,e3⟩:=hw a2 w2 h2 R2';exact jump (some (.goto i)) t' h3 w2 a2 R3.1 (e3.trans (ey2.trans ey1)) (fun e=>(by cases e)) (fun jc e=>by cases e;exact ⟨_,hI',rfl⟩)
   | panic _=>exact k2.elim
   | outgrown=>exact k2.elim
 | _=>exact k.elim
theorem Ada {E:Env} {s:St} {Q:Exit→St→Prop} {z:X} {ps:List Nat} {asg body:IC} {f:FuncId} {cap us:List V} {ys dn:YL} (hz:evX s.fs z=some (.func (.func f) [] cap)) (hd:toDs s.fs.b cap=some (us,[])) (hit:Aia E.P f us ys dn)
  (hpin:E.pin.all (C6 s.bx)=true) (henv:s.env.all (fun p=>Bw (C6 s.bx) (fun _=>none) 6 p.2)=true) (hps:ps.all (fun p=>decide (p<E.nt))=true) (hlen:∀pre x,ys (pre++[x])→x.length=ps.length)
  (Inv:List (List V)→St→Prop) (Ix:Exit→St→Prop) (h0:Inv [] s) (hround:∀(a:Act) (L:Nat) (rc:LoopState→Option Code→Loop) (h0:Gh),A57 E {s:=s,a:=a,L:=L,rc:=rc,h0:=h0,Inv:=Inv,Ix:=Ix} ys ps asg body)
  (hdone:∀t log,dn log→t.env=s.env→t.stp=s.stp→Inv log t→Q .normal t) (hstop:∀e t,t.env=s.env→Ix e t→Q e t):Tr E none (.range z ps asg body) Q s:=fun c hc n a w h R Q' hq=>by
 obtain ⟨p,ca,cb,rfl,e0,e1,e2⟩:=Cb hc;have okz:=R.1.opd e0 hz;obtain ⟨f',c',ef,hf',hc',_,hcr⟩:=Kv okz;have hf0:f'=#[]:=by
  have:f'.size=0:=by simpa using hf'.symm
  exact Array.eq_empty_of_size_eq_zero this
 subst hf0;have hcallable:=hit.1;refine wpIn_rangeFunc fun fn hfn=>?_;have hw1:∃w1,(w.alloc (.deferred (some []))).alloc (.loop {state:=.ready,pending:=none,fn:=fn,tmps:=a.tmps,params:=ps.toArray,assign:=ca,body:=cb,defers:=w.heap.size})=w1:=⟨_,rfl⟩;obtain ⟨w1,hw1⟩:=hw1;have hl1:w1.heap[w.heap.size+1]?=some (.loop {state:=.ready,pending:=none,fn:=fn,tmps:=a.tmps,params:=ps.toArray,assign:=ca,body:=cb,defers:=w.heap.size}):=by
  rw [←hw1];have:=World.alloc_heap_new (w.alloc (.deferred (some []))) (.loop {state:=.ready,pending:=none,fn:=fn,tmps:=a.tmps,params:=ps.toArray,assign:=ca,body:=cb,defers:=w.heap.size});rwa [World.size_alloc] at this
 have hk1:w1.heap[w.heap.size]?=some (.deferred (some [])):=by
  rw [←hw1];exact (Below.heap_alloc _ _ _ (by simp)).trans (World.alloc_heap_new w _)
 have R1:=(R.1.alloc E.ok (.deferred (some []))).alloc E.ok (.loop {state:=.ready,pending:=none,fn:=fn,tmps:=a.tmps,params:=ps.toArray,assign:=ca,body:=cb,defers:=w.heap.size});rw [hw1] at R1;obtain ⟨h1,hh1⟩:∃h1:Gh,{h with M:=fun b=>(h.M b∨b=w.heap.size)∨b=(w.alloc (.deferred (some []))).heap.size}=h1:=⟨_,rfl⟩;have R1:Rel E.nt E.S s.log s.stp s.fs a w1 h1:=by rw [←hh1];exact R1
 have q1:h1.φ=h.φ:=by rw [←hh1]
 have q2:h1.y=h.y:=by rw [←hh1]
 have qD:h1.M w.heap.size:=by rw [←hh1];exact .inl (.inr rfl)
 have qL:h1.M (w.heap.size+1):=by rw [←hh1];exact .inr (by simp)
 obtain ⟨a',ha'⟩:∃a':Act,{a with defers:=[{target:=.collected w.heap.size,args:=#[]}]++a.defers}=a':=⟨_,rfl⟩;have ht':a'.tmps=a.tmps:=by rw [←ha']
 have R2:Rel E.nt E.S s.log s.stp s.fs a' w1 h1:=by
  refine {R1 with size:=by rw [ht'];exact R1.size,env:=fun t v hv=>by rw [ht'];exact R1.env t v hv,marks:=?_};rw [←ha'];refine ⟨⟨w.heap.size,rfl,qD,hk1,fun d hd e=>?_⟩,R1.marks⟩;have:∀ds:List Deferred,Marks h.M w ds→∀d∈ds,d≠{target:=.collected w.heap.size,args:=#[]}:=by
   intro ds
   induction ds with
   | nil=>intro _ d hd;cases hd
   | cons d0 ds ih =>
     rintro ⟨⟨r,er,hMr,_,_⟩,hs⟩ d hd e;rcases List.mem_cons.1 hd with rfl | hd
     ·rw [er] at e;simp only [Deferred.mk.injEq,Target.collected.injEq,and_true] at e;have:=R.1.mine r hMr;omega
     ·exact ih hs d hd e
  exact this a.defers R.1.marks d hd e
 let lc:LC:={s:=s,a:=a',L:=w.heap.size+1,rc:=fun st p=>{state:=st,pending:=p,fn:=fn,tmps:=a.tmps,params:=ps.toArray,assign:=ca,body:=cb,defers:=w.heap.size},h0:=h1,Inv:=Inv,Ix:=Ix}
 have hpin':∀i∈E.pin,C6 s.bx i=true:=by rw [List.all_eq_true] at hpin;exact hpin
 have hps':∀p∈ps,p<E.nt:=fun p hp=>by rw [List.all_eq_true] at hps;simpa using hps p hp
 have hY:Fw E.P (SI E lc) ys (w.heap.size+1):=Ta (c:=lc) (D:=w.heap.size) (fn:=fn) (fun st p=>by rw [show lc.a.tmps=a.tmps from ht']) e1 e2 (by show E.yok h1.y;rw [q2];exact R.2) hpin' henv hps' hlen (hround _ _ _ _);have hSI:SI E lc [] false (fun _=>False) w1 h1.φ:=⟨s,h1,none,{
  env:=rfl
  phi:=rfl
  y:=rfl
  rel:=R2.toTop
  sur:=E.ok _ _ _ _ _ _ _ _ R2.sur ⟨Ext.refl _ _,fun _ _ _=>⟨rfl,rfl⟩,Nat.le_refl _,rfl,rfl,rfl,fun b hb=>.inl (hb.elim id fun h=>h.elim),R2.top⟩
  dis:=fun _ _ h=>h
  hL:=qL
  rc:=hl1
  keys:=fun _ _ _ e=>e
  go:=fun _=>⟨h0,rfl,rfl⟩
  stop:=fun e=>(by cases e)}⟩
 have hrepc:RepL w1 h1.φ us c':=by
  have hcr1:∀(i:Nat) v x,cap[i]?=some v→c'[i]?=some x→Rep w1 h1.φ h1.β h1.y.l v x:=fun i v x g1 g2=>by
   have ext:Ext w h.φ w1 h1.φ:=by
    have e1:Ext w h.φ w1 h.φ:=fun b o ho=>by
     have hlt:b<w.heap.size:=by
      rcases Nat.lt_or_ge b w.heap.size with h1 | h1
      ·exact h1
      ·rw [R.1.top b h1] at ho;omega
     have hbk:w1.heap[b]?=w.heap[b]?:=by
      rw [←hw1,Below.heap_alloc _ _ _ (by simp;omega),Below.heap_alloc _ _ _ hlt]
     exact ⟨ho,World.cell?_of_block hbk,Bn hbk⟩
    rw [q1];exact e1
   have:=(hcr i v x g1 g2).mono ext (β':=h1.β) (fun _ _ e=>by rw [←hh1];exact e);rw [q2];exact this
  have hd':toDl s.fs.b 6 cap=some (us,[]):=hd;obtain ⟨g1,g2⟩:=Hc hd';refine ⟨by omega,fun i u x hu hx=>?_⟩;have hlt:i<cap.length:=by have:=(List.getElem?_eq_some_iff.1 hu).1;omega
  obtain ⟨js,h5,h6⟩:=g2 i _ u (List.getElem?_eq_getElem hlt) hu;exact (Jn R1 6 _ u x js h5 (fun i hi=>(by cases h6 i hi)) (hcr1 i _ x (List.getElem?_eq_getElem hlt) hx)).1
 obtain ⟨hcall,hcon⟩:=hit;have hC:=hcon (SI E lc) SI_ok (w.heap.size+1) w1 h1.φ c' R1.top hrepc hY hSI;refine ⟨w.heap.size+1,[{target:=.collected w.heap.size,args:=#[]}],w1,{target:=.fn (.func f) c',args:=#[.func (.yield (w.heap.size+1)) #[] #[]]},w1,f,
  #[.func (.yield (w.heap.size+1)) #[] #[]]++c',w1,?_,?_,fun _ _=>trivial,?_,fun e=>by simp [Dm,Fence.wide] at e,?_⟩
 ·rw [←hw1];exact run_enterLoop_outer _ _ _ _ _
 ·simp only [resolve,ef];simp [go_sem]
 ·unfold C9 at hcall;cases hf:E.P.funcs[f]? with
  | none=>simp [hf] at hcall
  | some fn =>
    simp only [hf,Bool.and_eq_true,bne_iff_ne,ne_eq] at hcall;have hb:fn.body.isNone=false:=by cases h:fn.body<;>simp [h] at hcall ⊢
    have hnm:(fn.name== "runtime.NumGoroutine")=false:=by simpa using hcall.1
    simp only [invoke,callFunc,Sem.run_bind,run_program,Result.andThen_ok,hf,hnm,hb];simp
 ·refine (Cd hC).mono ?_;rintro e w5 ⟨log,stp,φ5,x,rfl,⟨t,hh,pend,h5⟩,ht5,hend⟩;have e5:=h5.phi;subst e5;have hrun:=run_endLoop (P:=E.P) h5.rc (by cases stp<;>simp [lc]);refine ⟨_,_,hrun,?_⟩;have hQ:E.rel t a' (w5.putObj (w.heap.size+1) (.loop {lc.rc (bif stp then .done else .ready) pend with state:=.exhausted})) hh:=by
   have ext:=L3 (φ:=hh.φ) (o:=.loop {lc.rc (bif stp then .done else .ready) pend with state:=.exhausted}) h5.rc (by intro _ _ _ e;cases e) (by intro _ _ _ e;cases e) (by intro _ _ e;cases e) (by intro _ _ e;cases e);refine ⟨h5.rel.pokeS h5.rc (by intro _ _ _ e;cases e) (by intro _ _ _ e;cases e) (by intro _ _ e;cases e) (by intro _ _ e;cases e) rfl (h5.rel.marks.congr fun r hr hd=>⟨hr,(World.putObj_heap_other fun e=>?_).trans hd⟩)
    (E.ok _ _ _ _ _ _ _ _ h5.sur ⟨ext,fun b hb hn=>⟨World.putObj_heap_other fun e=>hn (.inl (e▸h5.hL)),rfl⟩,by rw [World.putObj_size];exact Nat.le_refl _,rfl,rfl,rfl,fun b hb=>.inl (.inl hb),fun b hb=>ht5 b (by rwa [World.putObj_size] at hb)⟩),?_⟩
   ·subst e;rw [h5.rc] at hd;cases hd
   ·have hyy:hh.y=h.y:=h5.y.trans q2;rw [hyy];exact R.2
  have hyy:hh.y=h.y:=h5.y.trans q2;cases stp with
  | false =>
    obtain ⟨g1,g2,g3⟩:=h5.go rfl;have hlog:dn log:=hend.resolve_left (by simp);subst g3;exact hq .normal t _ _ hh (hdone t log hlog h5.env g2 g1) (by rw [←ha'] at hQ;exact hQ) hyy
  | true =>
    obtain ⟨e,j,g1,g2,g3⟩:=h5.stop rfl;subst g2;have hQe:=hq e t _ _ hh (hstop e t h5.env g1) (by rw [←ha'] at hQ;exact hQ) hyy;show Code.wpIn _ _ _ j _ _ _;cases e<;>simp only [Tg,Option.some.injEq] at g3<;>(try (cases g3;done))<;>subst g3
    ·exact wpIn_exit hQe
    ·exact wpIn_goto hQe
    ·exact wpIn_ret hQe
theorem Ai7 {E:Env} {s:St} {Q:Exit→St→Prop} {z:X} {ps:List Nat} {asg body:IC} {f:FuncId} {cap us:List V} {ys:List (List V)} (hz:evX s.fs z=some (.func (.func f) [] cap)) (hd:toDs s.fs.b cap=some (us,[])) (hit:Iter E.P f us ys)
  (hpin:E.pin.all (C6 s.bx)=true) (henv:s.env.all (fun p=>Bw (C6 s.bx) (fun _=>none) 6 p.2)=true) (hps:ps.all (fun p=>decide (p<E.nt))=true) (hlen:∀x∈ys,x.length=ps.length)
  (Inv:List (List V)→St→Prop) (Ix:Exit→St→Prop) (h0:Inv [] s) (hround:∀(a:Act) (L:Nat) (rc:LoopState→Option Code→Loop) (h0:Gh),A57 E {s:=s,a:=a,L:=L,rc:=rc,h0:=h0,Inv:=Inv,Ix:=Ix} (Q3 ys) ps asg body)
  (hdone:∀t,t.env=s.env→t.stp=s.stp→Inv ys t→Q .normal t) (hstop:∀e t,t.env=s.env→Ix e t→Q e t):Tr E none (.range z ps asg body) Q s :=
 Ada hz hd hit hpin henv hps (fun pre x hp=>hlen x (List.IsPrefix.subset hp (by simp))) Inv Ix h0 hround (fun t log hl e1 e2 hI=>hdone t e1 e2 (hl▸hI)) hstop
theorem Adb {E:Env} {lo:Nat} (hlo:∀log stp M w φ,E.S log stp M w φ→∃r,w.heap[lo]?=some (.loop r)) {s:St} {Q:Exit→St→Prop} {z:X} {ps:List Nat} {asg body:IC} {f:FuncId} {cap us:List V} {ys dn:YL} (hz:evX s.fs z=some (.func (.func f) [] cap)) (hd:toDs s.fs.b cap=some (us,[])) (hit:Aia E.P f us ys dn)
  (hpin:E.pin.all (C6 s.bx)=true) (henv:s.env.all (fun p=>Bw (C6 s.bx) (fun _=>none) 6 p.2)=true) (hps:ps.all (fun p=>decide (p<E.nt))=true) (hlen:∀pre x,ys (pre++[x])→x.length=ps.length)
  (Inv:List (List V)→St→Prop) (Ix:Exit→St→Prop) (h0:Inv [] s) (hround:∀(a:Act) (L:Nat) (rc:LoopState→Option Code→Loop) (h0:Gh),A57 E {s:=s,a:=a,L:=L,rc:=rc,h0:=h0,Inv:=Inv,Ix:=Ix} ys ps asg body)
  (hdone:∀t log,dn log→t.env=s.env→t.stp=s.stp→Inv log t→Q .normal t) (hstop:∀e t,t.env=s.env→Ix e t→Q e t):Tr E (some lo) (.range z ps asg body) Q s:=fun c hc n a w h R Q' hq=>by
 obtain ⟨p,ca,cb,rfl,e0,e1,e2⟩:=Cb hc;have okz:=R.1.opd e0 hz;obtain ⟨f',c',ef,hf',hc',_,hcr⟩:=Kv okz;have hf0:f'=#[]:=by
  have:f'.size=0:=by simpa using hf'.symm
  exact Array.eq_empty_of_size_eq_zero this
 subst hf0;have hcallable:=hit.1;refine wpIn_rangeFunc fun fn hfn=>?_;obtain ⟨r0,hr0⟩:=hlo _ _ _ _ _ R.1.sur;have hw1:∃w1,w.alloc (.loop {state:=.ready,pending:=none,fn:=fn,tmps:=a.tmps,params:=ps.toArray,assign:=ca,body:=cb,defers:=r0.defers})=w1:=⟨_,rfl⟩;obtain ⟨w1,hw1⟩:=hw1;have hl1:w1.heap[w.heap.size]?=some (.loop {state:=.ready,pending:=none,fn:=fn,tmps:=a.tmps,params:=ps.toArray,assign:=ca,body:=cb,defers:=r0.defers}):=by
  rw [←hw1];exact World.alloc_heap_new w _
 have R1:=R.1.alloc E.ok (.loop {state:=.ready,pending:=none,fn:=fn,tmps:=a.tmps,params:=ps.toArray,assign:=ca,body:=cb,defers:=r0.defers});rw [hw1] at R1;obtain ⟨h1,hh1⟩:∃h1:Gh,{h with M:=fun b=>h.M b∨b=w.heap.size}=h1:=⟨_,rfl⟩;have R1:Rel E.nt E.S s.log s.stp s.fs a w1 h1:=by rw [←hh1];exact R1
 have q1:h1.φ=h.φ:=by rw [←hh1]
 have q2:h1.y=h.y:=by rw [←hh1]
 have qL:h1.M w.heap.size:=by rw [←hh1];exact .inr rfl
 have R2:=R1
 let lc:LC:={s:=s,a:=a,L:=w.heap.size,rc:=fun st p=>{state:=st,pending:=p,fn:=fn,tmps:=a.tmps,params:=ps.toArray,assign:=ca,body:=cb,defers:=r0.defers},h0:=h1,Inv:=Inv,Ix:=Ix}
 have hpin':∀i∈E.pin,C6 s.bx i=true:=by rw [List.all_eq_true] at hpin;exact hpin
 have hps':∀p∈ps,p<E.nt:=fun p hp=>by rw [List.all_eq_true] at hps;simpa using hps p hp
 have hY:Fw E.P (SI E lc) ys w.heap.size:=Ta (c:=lc) (D:=r0.defers) (fn:=fn) (fun st p=>rfl) e1 e2 (by show E.yok h1.y;rw [q2];exact R.2) hpin' henv hps' hlen (hround _ _ _ _);have hSI:SI E lc [] false (fun _=>False) w1 h1.φ:=⟨s,h1,none,{
  env:=rfl
  phi:=rfl
  y:=rfl
  rel:=R2.toTop
  sur:=E.ok _ _ _ _ _ _ _ _ R2.sur ⟨Ext.refl _ _,fun _ _ _=>⟨rfl,rfl⟩,Nat.le_refl _,rfl,rfl,rfl,fun b hb=>.inl (hb.elim id fun h=>h.elim),R2.top⟩
  dis:=fun _ _ h=>h
  hL:=qL
  rc:=hl1
  keys:=fun _ _ _ e=>e
  go:=fun _=>⟨h0,rfl,rfl⟩
  stop:=fun e=>(by cases e)}⟩
 have hrepc:RepL w1 h1.φ us c':=by
  have hcr1:∀(i:Nat) v x,cap[i]?=some v→c'[i]?=some x→Rep w1 h1.φ h1.β h1.y.l v x:=fun i v x g1 g2=>by
   have ext:Ext w h.φ w1 h1.φ:=by
    have e1:Ext w h.φ w1 h.φ:=fun b o ho=>by
     have hlt:b<w.heap.size:=by
      rcases Nat.lt_or_ge b w.heap.size with h1 | h1
      ·exact h1
      ·rw [R.1.top b h1] at ho;omega
     have hbk:w1.heap[b]?=w.heap[b]?:=by
      rw [←hw1,Below.heap_alloc _ _ _ hlt]
     exact ⟨ho,World.cell?_of_block hbk,Bn hbk⟩
    rw [q1];exact e1
   have:=(hcr i v x g1 g2).mono ext (β':=h1.β) (fun _ _ e=>by rw [←hh1];exact e);rw [q2];exact this
  have hd':toDl s.fs.b 6 cap=some (us,[]):=hd;obtain ⟨g1,g2⟩:=Hc hd';refine ⟨by omega,fun i u x hu hx=>?_⟩;have hlt:i<cap.length:=by have:=(List.getElem?_eq_some_iff.1 hu).1;omega
  obtain ⟨js,h5,h6⟩:=g2 i _ u (List.getElem?_eq_getElem hlt) hu;exact (Jn R1 6 _ u x js h5 (fun i hi=>(by cases h6 i hi)) (hcr1 i _ x (List.getElem?_eq_getElem hlt) hx)).1
 obtain ⟨hcall,hcon⟩:=hit;have hC:=hcon (SI E lc) SI_ok w.heap.size w1 h1.φ c' R1.top hrepc hY hSI;refine ⟨w.heap.size,[],w1,{target:=.fn (.func f) c',args:=#[.func (.yield w.heap.size) #[] #[]]},w1,f,
  #[.func (.yield w.heap.size) #[] #[]]++c',w1,?_,?_,fun _ _=>trivial,?_,fun e=>by simp [Dm,Fence.wide] at e,?_⟩
 ·rw [←hw1];exact run_enterLoop_inner hr0 _ _ _ _ _
 ·simp only [resolve,ef];simp [go_sem]
 ·unfold C9 at hcall;cases hf:E.P.funcs[f]? with
  | none=>simp [hf] at hcall
  | some fn =>
    simp only [hf,Bool.and_eq_true,bne_iff_ne,ne_eq] at hcall;have hb:fn.body.isNone=false:=by cases h:fn.body<;>simp [h] at hcall ⊢
    have hnm:(fn.name== "runtime.NumGoroutine")=false:=by simpa using hcall.1
    simp only [invoke,callFunc,Sem.run_bind,run_program,Result.andThen_ok,hf,hnm,hb];simp
 ·refine (Cd hC).mono ?_;rintro e w5 ⟨log,stp,φ5,x,rfl,⟨t,hh,pend,h5⟩,ht5,hend⟩;have e5:=h5.phi;subst e5;have hrun:=run_endLoop (P:=E.P) h5.rc (by cases stp<;>simp [lc]);refine ⟨_,_,hrun,?_⟩;have hQ:E.rel t a (w5.putObj w.heap.size (.loop {lc.rc (bif stp then .done else .ready) pend with state:=.exhausted})) hh:=by
   have ext:=L3 (φ:=hh.φ) (o:=.loop {lc.rc (bif stp then .done else .ready) pend with state:=.exhausted}) h5.rc (by intro _ _ _ e;cases e) (by intro _ _ _ e;cases e) (by intro _ _ e;cases e) (by intro _ _ e;cases e);refine ⟨h5.rel.pokeS h5.rc (by intro _ _ _ e;cases e) (by intro _ _ _ e;cases e) (by intro _ _ e;cases e) (by intro _ _ e;cases e) rfl (h5.rel.marks.congr fun r hr hd=>⟨hr,(World.putObj_heap_other fun e=>?_).trans hd⟩)
    (E.ok _ _ _ _ _ _ _ _ h5.sur ⟨ext,fun b hb hn=>⟨World.putObj_heap_other fun e=>hn (.inl (e▸h5.hL)),rfl⟩,by rw [World.putObj_size];exact Nat.le_refl _,rfl,rfl,rfl,fun b hb=>.inl (.inl hb),fun b hb=>ht5 b (by rwa [World.putObj_size] at hb)⟩),?_⟩
   ·subst e;rw [h5.rc] at hd;cases hd
   ·have hyy:hh.y=h.y:=h5.y.trans q2;rw [hyy];exact R.2
  have hyy:hh.y=h.y:=h5.y.trans q2;cases stp with
  | false =>
    obtain ⟨g1,g2,g3⟩:=h5.go rfl;have hlog:dn log:=hend.resolve_left (by simp);subst g3;exact hq .normal t _ _ hh (hdone t log hlog h5.env g2 g1) hQ hyy
  | true =>
    obtain ⟨e,j,g1,g2,g3⟩:=h5.stop rfl;subst g2;have hQe:=hq e t _ _ hh (hstop e t h5.env g1) hQ hyy;show Code.wpIn _ _ _ j _ _ _;cases e<;>simp only [Tg,Option.some.injEq] at g3<;>(try (cases g3;done))<;>subst g3
    ·exact wpIn_exit hQe
    ·exact wpIn_goto hQe
    ·exact wpIn_ret hQe
theorem Ai6 {E:Env} {lo:Nat} (hlo:∀log stp M w φ,E.S log stp M w φ→∃r,w.heap[lo]?=some (.loop r)) {s:St} {Q:Exit→St→Prop} {z:X} {ps:List Nat} {asg body:IC} {f:FuncId} {cap us:List V} {ys:List (List V)} (hz:evX s.fs z=some (.func (.func f) [] cap)) (hd:toDs s.fs.b cap=some (us,[])) (hit:Iter E.P f us ys)
  (hpin:E.pin.all (C6 s.bx)=true) (henv:s.env.all (fun p=>Bw (C6 s.bx) (fun _=>none) 6 p.2)=true) (hps:ps.all (fun p=>decide (p<E.nt))=true) (hlen:∀x∈ys,x.length=ps.length)
  (Inv:List (List V)→St→Prop) (Ix:Exit→St→Prop) (h0:Inv [] s) (hround:∀(a:Act) (L:Nat) (rc:LoopState→Option Code→Loop) (h0:Gh),A57 E {s:=s,a:=a,L:=L,rc:=rc,h0:=h0,Inv:=Inv,Ix:=Ix} (Q3 ys) ps asg body)
  (hdone:∀t,t.env=s.env→t.stp=s.stp→Inv ys t→Q .normal t) (hstop:∀e t,t.env=s.env→Ix e t→Q e t):Tr E (some lo) (.range z ps asg body) Q s :=
 Adb hlo hz hd hit hpin henv hps (fun pre x hp=>hlen x (List.IsPrefix.subset hp (by simp))) Inv Ix h0 hround (fun t log hl e1 e2 hI=>hdone t e1 e2 (hl▸hI)) hstop
end
end Go.Am
namespace Go.Proofs.YtabedohjkillfaaGreatDoor
section
open Go.Am
attribute [local simp] cells Af mkv Aq B6 under dem dem1 eB Ac As
theorem c_down {a b:Int} (hb:0<b) (ha:-1000000000000≤a∧a≤1000000000000):C Tryz.prog Le [I a,I b] (I (a/b)):=by
 have hq:=A5x hb ha;have e:=A1i (a:=a) hb;have ew:IntKind.wrap .i64 (a.tdiv b)=a.tdiv b:=w64 (by omega) (by omega);refine C_of mixed A0r.2 (by simp) fun S ok=>?_;refine TsR rfl (Aw rfl (by simp;omega) ?_);refine A2 (Aw rfl (by simp;omega) (An rfl rfl (fun h=>TrR rfl ?_) (fun h=>A5 ?_)))
 ·have h:a.tmod b<0:=by simpa using h
  rw [if_pos h] at e;refine TsR rfl (A8 rfl rfl rfl ?_ trivial);rw [←e];show I (a.tdiv b-1)=I (IntKind.wrap .i64 (IntKind.wrap .i64 (a.tdiv b)-1));rw [ew,w64 (by omega) (by omega)]
 ·have h:¬a.tmod b<0:=by simpa using h
  rw [if_neg h] at e;refine TsR rfl (A8 rfl rfl rfl ?_ trivial);rw [←e];show I (a.tdiv b)=I (IntKind.wrap .i64 (a.tdiv b));rw [ew]
theorem A7c {a b:Int} (hb:0<b) {K:Int} (hK:0≤K) (h:-K≤a∧a≤K):-K-1≤a/b∧a/b≤K:=by
 have e:=A1i (a:=a) hb;have hq:=A5x hb h;split at e<;>omega
theorem c_up {a b:Int} (hb:0<b) (ha:-100000000000≤a∧a≤100000000000):C Tryz.prog A8l [I a,I b] (I (-(-a/b))):=by
 have k:C Tryz.prog Le [I (w (0-a)),I b] (I (-a/b)):=by
  have e:w (0-a)=-a:=by rw [w,w64 (by omega) (by omega)];omega
  rw [e];exact c_down hb (by omega)
 have hq:=A7c (a:=-a) hb (K:=100000000000) (by omega) (by omega);refine C_of mixed A6o.2 (by simp) fun S ok=>?_;refine TsR rfl (TsC rfl (A3 rfl rfl k (Sfn rfl (A8 rfl rfl rfl ?_ trivial))));show I (-(-a/b))=I (w (0- -a/b));rw [w,w64 (by omega) (by omega)];simp
def Acx (x:Int) (lh:Int×Int) (q:(Int×Int)×(Int×Int)):Option (Int×Int) :=
 if 0<q.2.1-q.1.1 then some (max lh.1 (-(-((q.2.1-q.1.1)*q.1.2+(q.2.2-q.1.2)*(x-q.1.1))/(q.2.1-q.1.1))),lh.2)
 else if q.2.1-q.1.1<0 then some (lh.1,min lh.2 (-((q.2.1-q.1.1)*q.1.2+(q.2.2-q.1.2)*(x-q.1.1))/ -(q.2.1-q.1.1)))
 else if 0<(q.2.1-q.1.1)*q.1.2+(q.2.2-q.1.2)*(x-q.1.1) then none else some lh
def A4k (x:Int):List ((Int×Int)×(Int×Int))→Int×Int→Option (Int×Int)
 | [],lh=>some lh
 | q::l,lh=>match Acx x lh q with
   | none=>none
   | some lh'=>A4k x l lh'
def Mc (f:List (Int×Int)) (r:Int×Int×Int):Option (Int×Int):=match A4k r.1 (Ef f) (r.2.1,r.2.2) with
 | none=>none
 | some lh=>if lh.1≤lh.2 then some (r.1,lh.1) else none
def W7 (f:List (Int×Int)) (g:Fr):Option (Int×Int):=(Bo g).findSome? (Mc f)
theorem Ah8 {x:Int} {f:List (Int×Int)} {m:Nat} (h:m<f.length) (lh:Int×Int):A4k x ((Ef f).drop m) lh=match Acx x lh (Ll f m) with
  | none=>none
  | some lh'=>A4k x ((Ef f).drop (m+1)) lh':=by
 have hm:m<(Ef f).length:=by rw [K0];exact h
 rw [List.drop_eq_getElem_cons hm];have e:(Ef f)[m]=Ll f m:=Option.some.inj ((List.getElem?_eq_getElem hm).symm.trans (Mx h));rw [e];rfl
def clBd (lh:Int×Int):Prop:=(-100000000000≤lh.1∧lh.1≤100000000000)∧-100000000000≤lh.2∧lh.2≤100000000000
theorem clip_n {x:Int} {a b:Int×Int} (hx:-32768≤x∧x≤32768) (ha:B7 a=true) (hb:B7 b=true):-10000000000≤(b.1-a.1)*a.2+(b.2-a.2)*(x-a.1)∧(b.1-a.1)*a.2+(b.2-a.2)*(x-a.1)≤10000000000:=by
 have pa:=Bt ha;have pb:=Bt hb;have q1:=Gn (x:=b.1-a.1) (y:=a.2) (B:=65536) (C:=32768) (by omega) (by omega) (by omega) (by omega);have q2:=Gn (x:=b.2-a.2) (y:=x-a.1) (B:=65536) (C:=65536) (by omega) (by omega) (by omega) (by omega);omega
theorem clip1_bd {x:Int} {lh lh':Int×Int} {a b:Int×Int} (hx:-32768≤x∧x≤32768) (ha:B7 a=true) (hb:B7 b=true) (h:clBd lh) (e:Acx x lh (a,b)=some lh'):clBd lh':=by
 have hn:=clip_n hx ha hb;unfold Acx at e;simp only at e;generalize (b.1-a.1)*a.2+(b.2-a.2)*(x-a.1)=n at hn e;generalize b.1-a.1=k at e;unfold clBd at h ⊢;split at e
 ·rename_i h1;have:=A7c (a:=-n) h1 (K:=10000000000) (by omega) (by omega);cases e;simp only;omega
 ·split at e
  ·rename_i h1;have:=A7c (a:=-n) (b:=-k) (by omega) (K:=10000000000) (by omega) (by omega);cases e;simp only;omega
  ·split at e
   ·cases e
   ·cases e;exact h
end
section
open Go.Am
attribute [local simp] cells Af mkv Aq B6 under dem dem1 eB Ac As
theorem c_Hits {f:List (Int×Int)} {g:Fr} (hf:G2 f=true) (hg:Bh g=true):C Tryz.prog A2e [sB f,.agg (Ac g)] (.tuple [eB ((W7 f g).getD (0,0)),I (if (W7 f g).isSome then 0 else 4)]):=by
 have h:=hf;unfold G2 at h;simp only [Bool.and_eq_true] at h;have hl:=(Bu _ _ _).1 h.1.1;have hfp:=h.1.2;have hl6:f.length≤1000000:=by omega
 have kf:=Tl (f:=f) (by omega);rw [if_pos hf] at kf;have kc:=Dy g;rw [if_pos hg] at kc;refine C_of mixed A0v.2 (by simp) fun S ok=>?_;refine Aw rfl (by simp [sB]) (A23 (A2 (A2 ?_)));refine Ab (Bm rfl (by simp [sB]) (A6 rfl rfl kf (Krn rfl (A6 rfl rfl kc (Krn rfl (A6 rfl rfl (He 0 0) ?_))))));refine Krn rfl (.done (KrT ?_));refine TsR rfl (A7 rfl (A5 ?_));refine A2 (Aak ?_);refine A2 (TsC rfl (A3 rfl rfl (Dh g) (A3 rfl rfl (Aab g) (Sfn rfl (A4 ?_)))));refine Aa (s':=⟨[(24,.func (.func Cq) [] [.vptr (Ac g) 0]),(2,.ptr 2 0),(3,.ptr 3 0),(4,.ptr 4 0),(5,.ptr 5 0)],[(2,⟨[sB f],false⟩),(3,⟨Ac g,false⟩),(4,⟨[I 0,I 0],false⟩),(5,⟨[I 0],false⟩)],[],[],false⟩) (Ad (.k rfl (.k rfl (.k rfl (.k rfl (.k rfl .nil))))) (.k rfl (.k rfl (.k rfl (.k rfl .nil)))) .nil rfl rfl) ?_;refine Ai7 rfl ((Kq g).d _) (A9s (Hs hg)) rfl rfl rfl (by intro x hx;obtain ⟨b,_,rfl⟩:=List.mem_map.1 hx;rfl) (fun pre t=>∃m,(m≤(Bo g).length∧((Bo g).take m).findSome? (Mc f)=none)∧pre=((Bo g).take m).map eRow∧t.bx=[(2,⟨[sB f],false⟩),(3,⟨Ac g,false⟩),(4,⟨[I 0,I 0],false⟩),(5,⟨[I 0],false⟩)]∧t.rw=[]∧t.log=[]) (fun e t=>e=.ret∧∃z,W7 f g=some z∧t.bx=[(2,⟨[sB f],false⟩),(3,⟨Ac g,false⟩),(4,⟨[I z.1,I z.2],false⟩),(5,⟨[I 0],false⟩)]∧t.rw=[]∧t.log=[]∧t.stp=false) ⟨0,⟨by omega,rfl⟩,rfl,rfl,rfl,rfl⟩ ?_ ?_ ?_
 ·rintro a0 L0 rc0 h0 S1 S2 ok1 ok2 pre q t lp hlp hpre ⟨m,⟨hm,hnone⟩,rfl,hbx,hrw,hlog⟩ henv hstp;obtain ⟨env,bx,rw,log,stp⟩:=t;simp only at hbx hrw hlog henv hstp;subst hbx hrw hlog henv hstp;have hmx:m<(Bo g).length∧∃b,(Bo g)[m]?=some b∧q=eRow b:=by
   have h1:(((Bo g).take m).map eRow).length=m:=by simp;omega
   have h2:=hpre.length_le;simp at h2;have hml:m<(Bo g).length:=by omega
   refine ⟨hml,_,List.getElem?_eq_getElem hml,?_⟩;have h3:=List.IsPrefix.getElem hpre (i:=m) (by simp;omega);simp only [List.getElem_map] at h3;rw [List.getElem_append_right (by omega)] at h3;simpa using h3
  obtain ⟨hml,⟨x,lo,hi⟩,hb,rfl⟩:=hmx;obtain ⟨b1,b2,b3⟩:=Yx hg (List.mem_of_getElem? hb);simp only at b1 b2 b3;have hsome:∀z,Mc f (x,lo,hi)=some z→W7 f g=some z:=fun z hz=>by
   unfold W7;have e:Bo g=(Bo g).take m++((x,lo,hi)::(Bo g).drop (m+1)):=by
    have hr:(Bo g)[m]=(x,lo,hi):=(List.getElem?_eq_some_iff.1 hb).2;rw [←hr,←List.drop_eq_getElem_cons hml,List.take_append_drop]
   rw [e,List.findSome?_append,hnone,List.findSome?_cons,hz];rfl
  have I4:Mc f (x,lo,hi)=none→((Bo g).take (m+1)).findSome? (Mc f)=none:=fun hz=>by
   rw [List.take_add_one,hb,List.findSome?_append,hnone];simp [hz]
  have hnext:((Bo g).take (m+1)).map eRow=((Bo g).take m).map eRow++[eRow (x,lo,hi)]:=by
   rw [List.take_add_one,hb];simp
  refine TrR rfl ?_;refine Aa (s':=⟨[(2,.ptr 2 0),(3,.ptr 3 0),(4,.ptr 4 0),(5,.ptr 5 0),(7,.ptr 7 0)],[(2,⟨[sB f],false⟩),(3,⟨Ac g,false⟩),(4,⟨[I 0,I 0],false⟩),(5,⟨[I 0],false⟩),(7,⟨[I x,I lo,I hi],false⟩)],[],[],false⟩) (Ad (.k rfl (.k rfl (.k rfl (.k rfl (.k rfl .nil))))) (.k rfl (.k rfl (.k rfl (.k rfl (.k rfl .nil))))) .nil rfl rfl) ?_;refine A4 (A2 (Bj rfl (by simp [sB]) (A3 rfl rfl (c_sides f) (Sfn rfl (A4 ?_)))));refine Aa (s':=⟨[(27,.func (.func Hn) [] [.vptr [sB f] 0]),(2,.ptr 2 0),(3,.ptr 3 0),(4,.ptr 4 0),(5,.ptr 5 0),(7,.ptr 7 0)],[(2,⟨[sB f],false⟩),(3,⟨Ac g,false⟩),(4,⟨[I 0,I 0],false⟩),(5,⟨[I 0],false⟩),(7,⟨[I x,I lo,I hi],false⟩)],[],[],false⟩) (Ad (.k rfl (.k rfl (.k rfl (.k rfl (.k rfl (.k rfl .nil)))))) (.k rfl (.k rfl (.k rfl (.k rfl (.k rfl .nil))))) .nil rfl rfl) ?_;refine Ai6 hlp rfl ((A6x f).d _) (i_sides hl6) rfl rfl rfl (by intro x hx;obtain ⟨b,_,rfl⟩:=List.mem_map.1 hx;rfl) (fun pre t=>∃k lh,(k≤f.length∧clBd lh∧A4k x ((Ef f).drop k) lh=A4k x (Ef f) (lo,hi))∧pre=((Ef f).take k).map Ns∧t.bx=[(2,⟨[sB f],false⟩),(3,⟨Ac g,false⟩),(4,⟨[I 0,I 0],false⟩),(5,⟨[I 0],false⟩),(7,⟨[I x,I lh.1,I lh.2],false⟩)]∧t.rw=[]∧t.log=[]) (fun e t=>e=.exit 1∧A4k x (Ef f) (lo,hi)=none∧∃u v,t.bx=[(2,⟨[sB f],false⟩),(3,⟨Ac g,false⟩),(4,⟨[I 0,I 0],false⟩),(5,⟨[I 0],false⟩),(7,⟨[I x,I u,I v],false⟩)]∧t.rw=[]∧t.log=[]∧t.stp=false) ⟨0,(lo,hi),⟨by omega,by unfold clBd;simp only;omega,rfl⟩,rfl,rfl,rfl,rfl⟩ ?_ ?_ ?_
  ·rintro a1 L1 rc1 h1 T1 T2 okT1 okT2 pre q t lq hlq hpre ⟨k,lh,⟨hk,hbd,hclip⟩,rfl,hbx,hrw,hlog⟩ henv hstp;obtain ⟨env,bx,rw,log,stp⟩:=t;simp only at hbx hrw hlog henv hstp;subst hbx hrw hlog henv hstp;have hmx:k<f.length∧q=Ns (Ll f k):=by
    have hsl:=K0 f;have h1:(((Ef f).take k).map Ns).length=k:=by simp;omega
    have h2:=hpre.length_le;simp at h2;have hml:k<f.length:=by omega
    refine ⟨hml,?_⟩;have h3:=List.IsPrefix.getElem hpre (i:=k) (by simp;omega);rw [List.getElem_append_right (by omega)] at h3;have h4:=Mx hml;have h5:(Ef f)[k]=Ll f k:=Option.some.inj ((List.getElem?_eq_getElem (by omega)).symm.trans h4);simp only [List.getElem_map,h5] at h3;simpa using h3
   obtain ⟨hkl,rfl⟩:=hmx;obtain ⟨pl1,pl2⟩:=side_pl hfp hkl;have hstep2:=Ah8 (x:=x) hkl lh;rw [hclip] at hstep2;have hnx:((Ef f).take (k+1)).map Ns=((Ef f).take k).map Ns++[Ns (Ll f k)]:=by
    rw [List.take_add_one,Mx hkl];simp
   obtain ⟨⟨a,b⟩,hab⟩:∃q,Ll f k=q:=⟨_,rfl⟩;rw [hab] at pl1 pl2 hstep2 hnx ⊢;simp only at pl1 pl2;have hbd2:=fun lh' e=>clip1_bd (lh:=lh) (lh':=lh') b1 pl1 pl2 hbd e;have hcn:=clip_n b1 pl1 pl2;have pa:=Bt pl1;have pb:=Bt pl2;obtain ⟨lh1,lh2⟩:=lh;unfold clBd at hbd;simp only at hbd;refine TsR rfl (TrR rfl ?_);refine Aa (s':=⟨[(2,.ptr 2 0),(3,.ptr 3 0),(4,.ptr 4 0),(5,.ptr 5 0),(7,.ptr 7 0),(8,.ptr 8 0),(9,.ptr 9 0)],[(2,⟨[sB f],false⟩),(3,⟨Ac g,false⟩),(4,⟨[I 0,I 0],false⟩),(5,⟨[I 0],false⟩),(7,⟨[I x,I lh1,I lh2],false⟩),(8,⟨[I a.1,I a.2],false⟩),(9,⟨[I b.1,I b.2],false⟩)],[],[],false⟩) (Ad (.k rfl (.k rfl (.k rfl (.k rfl (.k rfl (.k rfl (.k rfl .nil))))))) (.k rfl (.k rfl (.k rfl (.k rfl (.k rfl (.k rfl (.k rfl .nil))))))) .nil rfl rfl) ?_;have q1:=Gn (x:=b.1-a.1) (y:=a.2) (B:=65536) (C:=32768) (by omega) (by omega) (by omega) (by omega);have q2:=Gn (x:=b.2-a.2) (y:=x-a.1) (B:=65536) (C:=65536) (by omega) (by omega) (by omega) (by omega);obtain ⟨kk,hkk⟩:∃kk,b.1-a.1=kk:=⟨_,rfl⟩;obtain ⟨nn,hnn⟩:∃nn,(b.1-a.1)*a.2+(b.2-a.2)*(x-a.1)=nn:=⟨_,rfl⟩;have hc1:Acx x (lh1,lh2) (a,b)=if 0<kk then some (max lh1 (-(-nn/kk)),lh2) else if kk<0 then some (lh1,min lh2 (-nn/ -kk)) else if 0<nn then none else some (lh1,lh2):=by
    unfold Acx;simp only;rw [hnn,hkk]
   rw [hc1] at hstep2 hbd2;rw [hnn] at hcn;refine A4 (TsR rfl (TsR rfl ?_));refine Aa (s':=⟨[(2,.ptr 2 0),(3,.ptr 3 0),(4,.ptr 4 0),(5,.ptr 5 0),(7,.ptr 7 0),(10,I kk),(11,I nn)],[(2,⟨[sB f],false⟩),(3,⟨Ac g,false⟩),(4,⟨[I 0,I 0],false⟩),(5,⟨[I 0],false⟩),(7,⟨[I x,I lh1,I lh2],false⟩)],[],[],false⟩) (Ad (.k rfl (.k rfl (.k rfl (.k rfl (.k rfl (.cons rfl (VLe.i ?_) (.cons rfl (VLe.i ?_) .nil))))))) (.k rfl (.k rfl (.k rfl (.k rfl (.k rfl .nil))))) .nil rfl rfl) ?_
   ·rw [←hkk];exact w64 (by omega) (by omega)
   ·rw [←hnn];simp (disch:=omega) only [w64]
   clear hnn q1 q2 hc1;have pk:-65536≤kk∧kk≤65536:=by omega
   refine A4 (TsR rfl (An rfl rfl (fun h2=>?_) (fun h2=>?_)))
   ·have h2:0<kk:=by have:decide (kk>0)=true:=h2;exact of_decide_eq_true this
    rw [if_pos h2] at hstep2 hbd2;simp only at hstep2;have ku:=c_up (a:=nn) h2 (by omega);refine Ab (Krn rfl (A6 rfl rfl ku (Krn rfl (.done (KrT ?_)))));refine ⟨⟨[],[(2,⟨[sB f],false⟩),(3,⟨Ac g,false⟩),(4,⟨[I 0,I 0],false⟩),(5,⟨[I 0],false⟩),(7,⟨[I x,I (max lh1 (-(-nn/kk))),I lh2],false⟩)],[],[],false⟩,Ad .nil (.k rfl (.k rfl (.k rfl (.k rfl (.cons rfl (.cons (.refl _) (.cons (VLe.i ?_) (.cons (.refl _) .nil))) .nil))))) .nil rfl rfl,⟨k+1,_,⟨hkl,hbd2 _ rfl,hstep2.symm⟩,hnx.symm,rfl,rfl,rfl⟩,rfl⟩;simp only [cond_true,cond_false,Gp]
   have h2:¬0<kk:=by have:decide (kk>0)=false:=h2;exact of_decide_eq_false this
   rw [if_neg h2] at hstep2 hbd2;refine TsR rfl (An rfl rfl (fun h3=>?_) (fun h3=>?_))
   ·have h3:kk<0:=by have:decide (kk<0)=true:=h3;exact of_decide_eq_true this
    rw [if_pos h3] at hstep2 hbd2;simp only at hstep2;have ku:C Tryz.prog Le [I (w (0-nn)),I (w (0-kk))] (I (-nn/ -kk)):=by
     have e1:w (0-nn)=-nn:=by rw [w,w64 (by omega) (by omega)];omega
     have e2:w (0-kk)=-kk:=by rw [w,w64 (by omega) (by omega)];omega
     rw [e1,e2];exact c_down (by omega) (by omega)
    refine Ab (Krn rfl (A6 rfl rfl ku (Krn rfl (.done (KrT ?_)))));refine ⟨⟨[],[(2,⟨[sB f],false⟩),(3,⟨Ac g,false⟩),(4,⟨[I 0,I 0],false⟩),(5,⟨[I 0],false⟩),(7,⟨[I x,I lh1,I (min lh2 (-nn/ -kk))],false⟩)],[],[],false⟩,Ad .nil (.k rfl (.k rfl (.k rfl (.k rfl (.cons rfl (.cons (.refl _) (.cons (.refl _) (.cons (VLe.i ?_) .nil))) .nil))))) .nil rfl rfl,⟨k+1,_,⟨hkl,hbd2 _ rfl,hstep2.symm⟩,hnx.symm,rfl,rfl,rfl⟩,rfl⟩;simp only [cond_true,cond_false,It]
   have h3:¬kk<0:=by have:decide (kk<0)=false:=h3;exact of_decide_eq_false this
   rw [if_neg h3] at hstep2 hbd2;refine TsR rfl (An rfl rfl (fun h4=>?_) (fun h4=>?_))
   ·have h4:0<nn:=by have:decide (nn>0)=true:=h4;exact of_decide_eq_true this
    rw [if_pos h4] at hstep2;refine Ak ?_;exact ⟨⟨[],[(2,⟨[sB f],false⟩),(3,⟨Ac g,false⟩),(4,⟨[I 0,I 0],false⟩),(5,⟨[I 0],false⟩),(7,⟨[I x,I lh1,I lh2],false⟩)],[],[],false⟩,Ad .nil (.k rfl (.k rfl (.k rfl (.k rfl (.k rfl .nil))))) .nil rfl rfl,rfl,hstep2,lh1,lh2,rfl,rfl,rfl,rfl⟩
   ·have h4:¬0<nn:=by have:decide (nn>0)=false:=h4;exact of_decide_eq_false this
    rw [if_neg h4] at hstep2 hbd2;simp only at hstep2;refine A5 ?_;exact ⟨⟨[],[(2,⟨[sB f],false⟩),(3,⟨Ac g,false⟩),(4,⟨[I 0,I 0],false⟩),(5,⟨[I 0],false⟩),(7,⟨[I x,I lh1,I lh2],false⟩)],[],[],false⟩,Ad .nil (.k rfl (.k rfl (.k rfl (.k rfl (.k rfl .nil))))) .nil rfl rfl,⟨k+1,_,⟨hkl,hbd2 _ rfl,hstep2.symm⟩,hnx.symm,rfl,rfl,rfl⟩,rfl⟩
  ·rintro ⟨env,bx,rw,log,stp⟩ henv hstp ⟨k,⟨u,v⟩,⟨hk,hbd,hclip⟩,hpre,hbx,hrw,hlog⟩;simp only at hbx hrw hlog henv hstp;subst hbx hrw hlog henv hstp;have hkl:k=f.length:=by
    have:=congrArg List.length hpre;have hsl:=K0 f;simp at this;omega
   subst hkl;rw [←K0 f,List.drop_length] at hclip;have hclip:some (u,v)=A4k x (Ef f) (lo,hi):=hclip;refine TsR rfl (An rfl rfl (fun h2=>?_) (fun h2=>?_))
   ·have h2:u≤v:=by have:decide (u≤v)=true:=h2;exact of_decide_eq_true this
    have hz:Mc f (x,lo,hi)=some (x,u):=by
     unfold Mc;simp only;rw [←hclip];simp only;rw [if_pos h2]
    refine TsR rfl (Ea ?_);exact ⟨⟨[],[(2,⟨[sB f],false⟩),(3,⟨Ac g,false⟩),(4,⟨[I x,I u],false⟩),(5,⟨[I 0],false⟩)],[],[],false⟩,Ad .nil (.k rfl (.k rfl (.k rfl (.k rfl .nil)))) .nil rfl rfl,rfl,(x,u),hsome _ hz,rfl,rfl,rfl,rfl⟩
   ·have h2:¬u≤v:=by have:decide (u≤v)=false:=h2;exact of_decide_eq_false this
    have hz:Mc f (x,lo,hi)=none:=by
     unfold Mc;simp only;rw [←hclip];simp only;rw [if_neg h2]
    refine A5 ?_;exact ⟨⟨[],[(2,⟨[sB f],false⟩),(3,⟨Ac g,false⟩),(4,⟨[I 0,I 0],false⟩),(5,⟨[I 0],false⟩)],[],[],false⟩,Ad .nil (.k rfl (.k rfl (.k rfl (.k rfl .nil)))) .nil rfl rfl,⟨m+1,⟨hml,I4 hz⟩,hnext.symm,rfl,rfl,rfl⟩,rfl⟩
  ·rintro e ⟨env,bx,rw,log,stp⟩ henv ⟨rfl,hno,u,v,hbx,hrw,hlog,hst⟩;simp only at hbx hrw hlog henv hst;subst hbx hrw hlog henv hst;have hz:Mc f (x,lo,hi)=none:=by
    unfold Mc;simp only;rw [hno]
   exact ⟨⟨[],[(2,⟨[sB f],false⟩),(3,⟨Ac g,false⟩),(4,⟨[I 0,I 0],false⟩),(5,⟨[I 0],false⟩)],[],[],false⟩,Ad .nil (.k rfl (.k rfl (.k rfl (.k rfl .nil)))) .nil rfl rfl,⟨m+1,⟨hml,I4 hz⟩,hnext.symm,rfl,rfl,rfl⟩,rfl⟩
 ·rintro ⟨env,bx,rw,log,stp⟩ henv hstp ⟨m,⟨hm,hnone⟩,hpre,hbx,hrw,hlog⟩;simp only at hbx hrw hlog henv hstp;subst hbx hrw hlog henv hstp;have hml:m=(Bo g).length:=by
   have:=congrArg List.length hpre;simp at this;omega
  subst hml;rw [List.take_length] at hnone;have e:W7 f g=none:=hnone;rw [e];exact TsR rfl (A8 rfl rfl rfl rfl trivial)
 ·rintro e ⟨env,bx,rw,log,stp⟩ henv ⟨rfl,z,hz,hbx,hrw,hlog,hst⟩;simp only at hbx hrw hlog henv hst;subst hbx hrw hlog henv hst;refine ⟨trivial,_,_,_,Ck rfl,rfl,?_⟩;rw [hz];rfl
end
section
open Go.Am
theorem c_indexB {l:List (Int×Int)} {p:Int×Int→Bool} {f:FuncId} (hl:l.length≤9223372036854775807) (hp:∀b∈l,C Tryz.prog f [eB b] (.bool (p b))) :
  C Tryz.prog Fj [sB l,.func (.func f) [] []] (I (Em p l 0)):=by
 refine C_of mixed Fe.2 (by simp) fun S ok=>?_;refine TsR rfl ?_;refine A2 (TsR rfl (A4 ?_));refine Bc (fun k s=>(k≤l.length∧Em p l 0=Em p (l.drop k) k)∧s=⟨[(0,sB l),(1,.func (.func f) [] []),(7,I l.length),(8,I k)],[],[],[],false⟩) (fun k=>l.length-k) 0 (Ad (.k rfl (.k rfl (.cons rfl (VLe.i (by simp)) (.k rfl .nil)))) .nil .nil rfl rfl) ⟨⟨by omega,by simp⟩,rfl⟩ ?_;rintro k s ⟨⟨hk,hf⟩,rfl⟩;refine TsR rfl (By rfl (fun h1=>?_) (fun h1=>?_))
 ·have h1:k<l.length:=by simpa using h1
  refine Bg (A2 (A4 (TsR rfl (Bj rfl ?_ ?_))))
  ·rw [Aj h1];simp [eB,cells];omega
  ·rw [Aj h1];refine Dr rfl rfl (hp l[k] (List.getElem_mem h1)) (Sfn rfl ?_);refine An rfl rfl (fun h2=>?_) (fun h2=>?_)
   ·refine TsR rfl (Ea ?_);refine ⟨trivial,_,_,_,Ck rfl,rfl,?_⟩;rw [hf,Db p l h1,if_pos h2];rfl
   ·refine A5 (TrR rfl ?_);refine ⟨k+1,_,?_,⟨⟨by omega,?_⟩,rfl⟩,by omega⟩
    ·exact Ad (.k rfl (.k rfl (.k rfl (.cons rfl (VLe.i (w64 (by omega) (by omega))) .nil)))) .nil .nil rfl rfl
    ·rw [hf,Db p l h1,if_neg (by simp [h2])]
 ·have h1:k=l.length:=by simp at h1;omega
  subst h1;refine Ak (TsR rfl (Bs rfl rfl ?_ trivial));rw [hf,List.drop_length];rfl
theorem A7s {l:List (Int×Int)} {p:Int×Int→Bool} {f:FuncId} (hl:l.length≤9223372036854775807) (hp:∀b∈l,C Tryz.prog f [eB b] (.bool (p b))) :
  C Tryz.prog Eu [sB l,.func (.func f) [] []] (.bool (l.any p)):=by
 refine C_of mixed Et.2 (by simp) fun S ok=>?_;refine TsR rfl ?_;refine TsC rfl (A3 rfl rfl (c_indexB hl hp) (Sfn rfl (Bs rfl rfl ?_ trivial)));rw [←Iw p l 0];rfl
def C2 (l:List (List (Int×Int))):V:=.slice 0 1 (l.map sB)
theorem c_indexF {l:List (List (Int×Int))} {p:List (Int×Int)→Bool} {f:FuncId} {us:List V} (hpl:Plain us) (hl:l.length≤9223372036854775807) (hp:∀b∈l,C Tryz.prog f (sB b::us) (.bool (p b))) :
  C Tryz.prog Eo [C2 l,.func (.func f) [] us] (I (Em p l 0)):=by
 refine C_of mixed Ej.2 (by simp) fun S ok=>?_;refine TsR rfl ?_;refine A2 (TsR rfl (A4 ?_));refine Bc (fun k s=>(k≤l.length∧Em p l 0=Em p (l.drop k) k)∧s=⟨[(0,C2 l),(1,.func (.func f) [] us),(7,I l.length),(8,I k)],[],[],[],false⟩) (fun k=>l.length-k) 0 (Ad (.k rfl (.k rfl (.cons rfl (VLe.i (by simp)) (.k rfl .nil)))) .nil .nil (by simp only [E4,List.all_cons,C7 hpl];rfl) rfl) ⟨⟨by omega,by simp⟩,rfl⟩ ?_;rintro k s ⟨⟨hk,hf⟩,rfl⟩;refine TsR rfl (By rfl (fun h1=>?_) (fun h1=>?_))
 ·have h1:k<l.length:=by simpa using h1
  refine Bg (A2 (A4 (TsR rfl (Bj rfl ?_ ?_))))
  ·rw [Aj h1];simp [sB,cells];omega
  ·rw [Aj h1];refine Dr (us:=sB l[k]::us) (ids:=[]) rfl (by show Jt _ (toDs _ us)=_;rw [hpl.d];rfl) (hp l[k] (List.getElem_mem h1)) (Sfn rfl ?_);refine An rfl rfl (fun h2=>?_) (fun h2=>?_)
   ·refine TsR rfl (Ea ?_);refine ⟨trivial,_,_,_,Ck rfl,rfl,?_⟩;rw [hf,Db p l h1,if_pos h2];rfl
   ·refine A5 (TrR rfl ?_);refine ⟨k+1,_,?_,⟨⟨by omega,?_⟩,rfl⟩,by omega⟩
    ·exact Ad (.k rfl (.k rfl (.k rfl (.cons rfl (VLe.i (w64 (by omega) (by omega))) .nil)))) .nil .nil (by simp only [E4,List.all_cons,C7 hpl];rfl) rfl
    ·rw [hf,Db p l h1,if_neg (by simp [h2])]
 ·have h1:k=l.length:=by simp at h1;omega
  subst h1;refine Ak (TsR rfl (Bs rfl rfl ?_ trivial));rw [hf,List.drop_length];rfl
theorem Wx {l:List (List (Int×Int))} {p:List (Int×Int)→Bool} {f:FuncId} {us:List V} (hpl:Plain us) (hd2:∀b,toDs b [V.func (.func f) [] us]=some ([V.func (.func f) [] us],[])) (hl:l.length≤9223372036854775807) (hp:∀b∈l,C Tryz.prog f (sB b::us) (.bool (p b))) :
  C Tryz.prog Eb [C2 l,.func (.func f) [] us] (.bool (l.any p)):=by
 refine C_of mixed E5.2 (by simp) fun S ok=>?_;refine TsR rfl ?_;refine TsC rfl (A3 (us:=[C2 l,.func (.func f) [] us]) (ids:=[]) rfl (by show Jt _ (toDs _ [V.func (.func f) [] us])=_;rw [hd2];rfl) (c_indexF hpl hl hp) (Sfn rfl (Bs rfl rfl ?_ trivial)));rw [←Iw p l 0];rfl
theorem Ahp {l:List (Int×Int)} {p:Int×Int→Bool} {f:FuncId} (hl:l.length≤9223372036854775807) (hp:∀b∈l,C Tryz.prog f [eB b] (.bool (p b))) :
  C Tryz.prog D8 [sB l,.func (.func f) [] []] (I (Em p l 0)):=by
 refine C_of mixed D7.2 (by simp) fun S ok=>?_;refine TsR rfl ?_;refine A2 (TsR rfl (A4 ?_));refine Bc (fun k s=>(k≤l.length∧Em p l 0=Em p (l.drop k) k)∧s=⟨[(0,sB l),(1,.func (.func f) [] []),(7,I l.length),(8,I k)],[],[],[],false⟩) (fun k=>l.length-k) 0 (Ad (.k rfl (.k rfl (.cons rfl (VLe.i (by simp)) (.k rfl .nil)))) .nil .nil rfl rfl) ⟨⟨by omega,by simp⟩,rfl⟩ ?_;rintro k s ⟨⟨hk,hf⟩,rfl⟩;refine TsR rfl (By rfl (fun h1=>?_) (fun h1=>?_))
 ·have h1:k<l.length:=by simpa using h1
  refine Bg (A2 (A4 (TsR rfl (Bj rfl ?_ ?_))))
  ·rw [Aj h1];simp [eB,cells];omega
  ·rw [Aj h1];refine Dr rfl rfl (hp l[k] (List.getElem_mem h1)) (Sfn rfl ?_);refine An rfl rfl (fun h2=>?_) (fun h2=>?_)
   ·refine TsR rfl (Ea ?_);refine ⟨trivial,_,_,_,Ck rfl,rfl,?_⟩;rw [hf,Db p l h1,if_pos h2];rfl
   ·refine A5 (TrR rfl ?_);refine ⟨k+1,_,?_,⟨⟨by omega,?_⟩,rfl⟩,by omega⟩
    ·exact Ad (.k rfl (.k rfl (.k rfl (.cons rfl (VLe.i (w64 (by omega) (by omega))) .nil)))) .nil .nil rfl rfl
    ·rw [hf,Db p l h1,if_neg (by simp [h2])]
 ·have h1:k=l.length:=by simp at h1;omega
  subst h1;refine Ak (TsR rfl (Bs rfl rfl ?_ trivial));rw [hf,List.drop_length];rfl
theorem A4r {l:List (Int×Int)} {p:Int×Int→Bool} {f:FuncId} (hl:l.length≤9223372036854775807) (hp:∀b∈l,C Tryz.prog f [eB b] (.bool (p b))) :
  C Tryz.prog Cy [sB l,.func (.func f) [] []] (.bool (l.any p)):=by
 refine C_of mixed Cv.2 (by simp) fun S ok=>?_;refine TsR rfl ?_;refine TsC rfl (A3 rfl rfl (Ahp hl hp) (Sfn rfl (Bs rfl rfl ?_ trivial)));rw [←Iw p l 0];rfl
end
section
open Go.Am
attribute [local simp] cells Af mkv Aq B6 under dem dem1 eB Ac As
theorem E9 (n lo hi:Int):C Tryz.prog Jg [I n,I lo,I hi] (.bool (btw n lo hi)):=by
 refine C_of mixed A31.2 (by simp) fun S ok=>?_;refine TsR rfl ?_;refine TsR rfl ?_;refine Bs rfl rfl ?_ trivial;simp [D2,btw]
theorem Uv {l:Int} (b:Int×Int) (hl:0≤l∧l≤65536):C Tryz.prog A8e [eB b,I l] (.bool (Ez l b)):=by
 refine C_of mixed A6g.2 (by simp) fun S ok=>?_;have e:IntKind.wrap .i64 (0-l)=-l:=by rw [w64 (by omega) (by omega)];omega
 refine TsR rfl (TsC rfl ?_);rw [e];refine A3 rfl rfl (E9 _ _ _) (Sfn rfl (Bs rfl rfl ?_ trivial));show V.bool (Ez l b)=.bool (bif btw b.1 (-l) b.2 then decide (b.2≤l) else false);congr 1;unfold Ez btw;rw [Bool.cond_false_right]
theorem Ad0 (b:Int×Int):C Tryz.prog P2 [eB b] (.bool (!Ez 16384 b)):=by
 refine C_of mixed Oa.2 (by simp) fun S ok=>?_;refine TsR rfl (TsC rfl (A3 rfl rfl (Uv b (by omega)) (Sfn rfl (Bs rfl rfl rfl trivial))))
theorem c_still (n:Int):C Tryz.prog A8c [I n] (eB (n,n)):=by
 refine C_of mixed A6e.2 (by simp) fun S ok=>?_;exact TsR rfl (TsR rfl (Bs rfl rfl rfl trivial))
structure Sec where
 len:Int
 fol:Int
 bird:Int
 drag:Int
 cap:Int
structure Strm where
 head:Int
 secs:List Sec
 lane:Int×Int
 bend:Int
def secC (x:Sec):List V:=[I x.len,I x.fol,I x.bird,I x.drag,I x.cap]
def eSec (x:Sec):V:=.agg (secC x)
def Cl (l:List Sec):V:=.slice 0 5 (l.map eSec)
def strC (s:Strm):List V:=[I s.head,Cl s.secs,I s.lane.1,I s.lane.2,I s.bend]
def eStr (s:Strm):V:=.agg (strC s)
def strZ:List V:=[I 0,.nils,I 0,I 0,I 0]
def A2r (x:Sec):Bool:=btw x.len 1 1000&&btw x.fol 0 64&&btw x.bird 0 1000&&btw x.drag 0 1000&&btw x.cap 0 1073741824
def A9v (s:Strm):Bool:=btw s.head (-2000) 2000&&btw s.secs.length 1 8&&Ez 4000 s.lane&&btw s.bend 0 1000
def Rn (s:Strm):Bool:=A9v s&&s.secs.all A2r
theorem Aag {s:Strm} (hl:s.secs.length≤9223372036854775807):C Tryz.prog X5 [eStr s] (I (if Rn s then 0 else 30)):=by
 obtain ⟨hd,ss,ln,bd⟩:=s;have hlm:(ss.map eSec).length=ss.length:=List.length_map _;simp only at hl;obtain ⟨g1,hg1⟩:∃g,btw hd (-2000) 2000=g:=⟨_,rfl⟩;obtain ⟨g2,hg2⟩:∃g,btw (ss.length:Int) 1 8=g:=⟨_,rfl⟩;obtain ⟨g3,hg3⟩:∃g,Ez 4000 ln=g:=⟨_,rfl⟩;obtain ⟨g4,hg4⟩:∃g,btw bd 0 1000=g:=⟨_,rfl⟩;have hh:A9v ⟨hd,ss,ln,bd⟩=(g1&&g2&&g3&&g4):=by unfold A9v;simp only;rw [hg1,hg2,hg3,hg4]
 have k1:=E9 hd (-2000) 2000;have k2:=E9 (ss.length:Int) 1 8;have k3:=Uv (l:=4000) ln (by omega);have k4:=E9 bd 0 1000;rw [hg1] at k1;rw [hg2] at k2;rw [hg3] at k3;rw [hg4] at k4;refine C_of mixed A6h.2 (by simp) fun S ok=>?_;refine Aw rfl (by simp [eStr,strC,Cl]) (A2 (Bj rfl (by simp [eStr,strC,Cl]) (A3 rfl rfl k1 (Ci rfl (by cases g1<;>simp [eStr,strC,Cl]) ?_))));rw [hlm];refine Ao (r:=.bool g2) rfl rfl rfl rfl (by cases g1<;>simp) (fun _=>k2) (Ci rfl (by cases g1<;>cases g2<;>simp [eStr,strC,Cl]) ?_);refine Ao (r:=.bool g3) rfl rfl rfl rfl (by cases g1<;>cases g2<;>simp) (fun _=>k3) (Ci rfl (by cases g1<;>cases g2<;>cases g3<;>simp [eStr,strC,Cl]) ?_);refine Ao (r:=.bool g4) rfl rfl rfl rfl (by cases g1<;>cases g2<;>cases g3<;>simp) (fun _=>k4) (Al rfl (by cases g1<;>cases g2<;>cases g3<;>cases g4<;>simp) ?_);refine An rfl rfl (fun h=>?_) (fun h=>?_)
 ·have h:(g1&&g2&&g3&&g4)=false:=by revert h;cases g1<;>cases g2<;>cases g3<;>cases g4<;>simp
  refine TsR rfl (A8 rfl rfl rfl ?_ trivial);simp [D2,Rn,hh,h]
 have h:(g1&&g2&&g3&&g4)=true:=by revert h;cases g1<;>cases g2<;>cases g3<;>cases g4<;>simp
 have h8:g2=true:=by simp only [Bool.and_eq_true] at h;exact h.1.1.2
 rw [h8,Bu] at hg2;clear hg1 hg3 hg4 k1 k2 k3 k4 h8;refine A5 ?_;refine Aa (s':=⟨[(1,.ptr 1 0)],[(1,⟨[I hd,Cl ss,I ln.1,I ln.2,I bd],false⟩)],[],[],false⟩) (Ad (.k rfl .nil) (.k rfl .nil) .nil rfl rfl) ?_;refine A2 (Aw rfl (by simp [Cl]) (A4 ?_));refine Bc (fun (k:Nat) st=>(k≤ss.length∧(ss.take k).all A2r=true)∧st=⟨[(29,Cl ss),(30,I (ss.length:Nat)),(31,I (k:Nat))],[],[],[],false⟩) (fun k=>ss.length-k) 0 (Ad (.k rfl (.cons rfl (VLe.i (by simp [Cl])) (.cons rfl (VLe.i rfl) .nil))) .nil .nil rfl rfl) ⟨⟨by omega,by simp⟩,rfl⟩ ?_;rintro k st ⟨⟨hk,hf⟩,rfl⟩;refine TsR rfl (By rfl (fun h2=>?_) (fun h2=>?_))
 ·have h2:k<ss.length:=by simpa using h2
  refine Bg (A2 (A4 (Aw rfl ?_ ?_)))
  ·rw [Aj h2];simp [eSec,secC];omega
  rw [Aj h2];obtain ⟨x,hx⟩:∃x,ss[k]=x:=⟨_,rfl⟩;rw [hx];have k1:=E9 x.len 1 1000;have k2:=E9 x.fol 0 64;have k3:=E9 x.bird 0 1000;have k4:=E9 x.drag 0 1000;have k5:=E9 x.cap 0 1073741824;obtain ⟨g1,hg1⟩:∃g,btw x.len 1 1000=g:=⟨_,rfl⟩;obtain ⟨g2,hg2⟩:∃g,btw x.fol 0 64=g:=⟨_,rfl⟩;obtain ⟨g3,hg3⟩:∃g,btw x.bird 0 1000=g:=⟨_,rfl⟩;obtain ⟨g4,hg4⟩:∃g,btw x.drag 0 1000=g:=⟨_,rfl⟩;obtain ⟨g5,hg5⟩:∃g,btw x.cap 0 1073741824=g:=⟨_,rfl⟩;have hs:A2r x=(g1&&g2&&g3&&g4&&g5):=by unfold A2r;rw [hg1,hg2,hg3,hg4,hg5]
  rw [hg1] at k1;rw [hg2] at k2;rw [hg3] at k3;rw [hg4] at k4;rw [hg5] at k5;refine Bj rfl (by simp [eSec,secC]) (A3 rfl rfl k1 (Ci rfl (by cases g1<;>simp [eSec,secC]) ?_));refine Ao (r:=.bool g2) rfl rfl rfl rfl (by cases g1<;>simp) (fun _=>k2) (Ci rfl (by cases g1<;>cases g2<;>simp [eSec,secC]) ?_);refine Ao (r:=.bool g3) rfl rfl rfl rfl (by cases g1<;>cases g2<;>simp) (fun _=>k3) (Ci rfl (by cases g1<;>cases g2<;>cases g3<;>simp [eSec,secC]) ?_);refine Ao (r:=.bool g4) rfl rfl rfl rfl (by cases g1<;>cases g2<;>cases g3<;>simp) (fun _=>k4) (Ci rfl (by cases g1<;>cases g2<;>cases g3<;>cases g4<;>simp [eSec,secC]) ?_);refine Ao (r:=.bool g5) rfl rfl rfl rfl (by cases g1<;>cases g2<;>cases g3<;>cases g4<;>simp) (fun _=>k5) (Al rfl (by cases g1<;>cases g2<;>cases g3<;>cases g4<;>cases g5<;>simp) ?_);refine An rfl rfl (fun h3=>?_) (fun h3=>?_)
  ·have h3:A2r x=false:=by rw [hs];revert h3;cases g1<;>cases g2<;>cases g3<;>cases g4<;>cases g5<;>simp
   refine TsR rfl (A8 rfl rfl rfl ?_ trivial);have:ss.all A2r=false:=by
    rw [List.all_eq_false];exact ⟨ss[k],List.getElem_mem h2,by rw [hx,h3];simp⟩
   simp [D2,Rn,this]
  ·have h3:A2r x=true:=by rw [hs];revert h3;cases g1<;>cases g2<;>cases g3<;>cases g4<;>cases g5<;>simp
   refine A5 (TrR rfl ?_);refine ⟨k+1,_,Ad (.k rfl (.k rfl (.cons rfl (VLe.i (w64 (by omega) (by omega))) .nil))) .nil .nil rfl rfl,⟨⟨h2,?_⟩,rfl⟩,by omega⟩;rw [List.take_add_one,List.all_append,hf,List.getElem?_eq_getElem h2,hx];simp [h3]
 ·have h2:k=ss.length:=by simp at h2;omega
  subst h2;rw [List.take_length] at hf;refine Ak (TsR rfl (A8 rfl rfl rfl ?_ trivial));simp [D2,Rn,hh,h,hf]
def Lm (s:Strm) (b:List (Int×Int)):Bool:=(b.length==s.secs.length)&&b.all (Ez 16384)
theorem Ahh {s:Strm} {b:List (Int×Int)} (hl:s.secs.length≤9223372036854775807) (hb:b.length≤9223372036854775807):C Tryz.prog Sx [eStr s,sB b] (.bool (Lm s b)):=by
 have kc:=A7s (l:=b) (p:=fun b=>!Ez 16384 b) hb (fun x _=>Ad0 x);obtain ⟨g1,hg1⟩:∃g,(b.length==s.secs.length)=g:=⟨_,rfl⟩;obtain ⟨g2,hg2⟩:∃g,b.any (fun b=>!Ez 16384 b)=g:=⟨_,rfl⟩;rw [hg2] at kc;have e:Lm s b=(g1&&!g2):=by
  unfold Lm;rw [hg1,←hg2];congr 1;rw [List.all_eq_not_any_not]
 refine C_of mixed Rs.2 (by simp) fun S ok=>?_;refine Aw rfl (by simp [eStr,strC,Cl]) (Bj rfl (by simp [eStr,strC,Cl,sB]) ?_);rw [List.length_map,List.length_map,show ((b.length:Int)==(s.secs.length:Int))=g1 by rw [←hg1];exact Bool.not_inj (neB _ _)];refine Ao (r:=.bool g2) rfl rfl rfl rfl (by cases g1<;>simp) (fun _=>kc) (Al rfl (by cases g1<;>simp) (A8 rfl rfl rfl ?_ trivial));rw [e];cases g1<;>rfl
theorem Ahy {s:Strm} {b:List (Int×Int)} (hl:s.secs.length≤9223372036854775807) (hb:b.length≤9223372036854775807) :
  ((Rn s&&Lm s b)=true→C Tryz.prog Qy [eStr s,sB b] (.tuple [eStr s,I 0]))∧((Rn s&&Lm s b)=false→∃e:Int,e≠0∧C Tryz.prog Qy [eStr s,sB b] (.tuple [.agg strZ,I e])):=by
 have kc:=Aag (s:=s) hl;have kb:=Ahh hl hb;refine ⟨fun h=>?_,fun h=>?_⟩
 ·rw [Bool.and_eq_true] at h;rw [h.1,if_pos rfl] at kc;rw [h.2] at kb;refine C_of mixed Kk.2 (by simp) fun S ok=>?_;refine Aw rfl (by simp [eStr,strC,Cl]) (A2 (Bj rfl (by simp [eStr,strC,Cl]) (A3 rfl rfl kc (Sfn rfl (TsR rfl (A7 rfl (A5 ?_)))))));refine A2 (Aw rfl (by simp [eStr,strC,Cl]) (Bj rfl (by simp [eStr,strC,Cl]) (A3 rfl rfl kb (Sfn rfl (A9 rfl ?_)))));exact Aw rfl (by simp [eStr,strC,Cl]) (A8 rfl rfl rfl rfl trivial)
 ·cases h1:Rn s with
  | false =>
    rw [h1,if_neg (by simp)] at kc;refine ⟨30,by decide,C_of mixed Kk.2 (by simp) fun S ok=>?_⟩;refine Aw rfl (by simp [eStr,strC,Cl]) (A2 (Bj rfl (by simp [eStr,strC,Cl]) (A3 rfl rfl kc (Sfn rfl (TsR rfl (A9 rfl ?_))))));exact TsR rfl (A8 rfl rfl rfl rfl trivial)
  | true =>
    rw [h1,if_pos rfl] at kc;have h2:Lm s b=false:=by rw [h1] at h;simpa using h
    rw [h2] at kb;refine ⟨31,by decide,C_of mixed Kk.2 (by simp) fun S ok=>?_⟩;refine Aw rfl (by simp [eStr,strC,Cl]) (A2 (Bj rfl (by simp [eStr,strC,Cl]) (A3 rfl rfl kc (Sfn rfl (TsR rfl (A7 rfl (A5 ?_)))))));refine A2 (Aw rfl (by simp [eStr,strC,Cl]) (Bj rfl (by simp [eStr,strC,Cl]) (A3 rfl rfl kb (Sfn rfl (A7 rfl (A5 ?_))))));exact TsR rfl (A8 rfl rfl rfl rfl trivial)
end
end Go.Proofs.YtabedohjkillfaaGreatDoor
