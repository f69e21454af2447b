/-
  Parts of the proof: the abstract machine, the compiled code, contracts of the functions, plain laws (spelled short by a program).
-/
import Derived.Test.YtabedohjkillfaaGreatDoorX9
import Derived.RecoverIn
import Derived.Test.YtabedohjkillfaaGreatDoorRows
import Derived.WalkKit
import Derived.ProofKit
import Derived.OpenShut
import Derived.ShutString
import Derived.ChangeOld
import Derived.Below
import Derived.Test.YtabedohjkillfaaGreatDoorTie
import Derived.LaidMore
import Derived.LaidOnce
import Derived.Lay
import Derived.ChangeSame
set_option maxRecDepth 100000
set_option maxHeartbeats 4000000
set_option linter.unusedVariables false
set_option linter.unusedSimpArgs false
namespace Go.Proofs.YtabedohjkillfaaGreatDoor
section
open Go.Am Go
attribute [local simp] cells Af mkv Aq B6 under dem dem1 eB Ac As sB eF chV chC cruC Fv C2 eLeg legC eCru cS eSh F1 pasV yV pV offV Ey In eRe plP shP tbV srS nxV
def ebA (eb:Nat) (v:V):Arena:=[(eb,.cells [v])]
theorem Aee {eb tb cb mb:Nat} {v w:V} {l:List V} {Kc L:KM} (h1:tb≠eb) (h2:cb≠eb) (h3:mb≠eb):setA (ebA eb v++tbA tb cb mb l Kc L) eb (.cells ([v].set 0 w))=ebA eb w++tbA tb cb mb l Kc L:=by
 simp [setA,ebA,tbA,arP,h1,h2,h3]
theorem setA_nb {nb fb eb tb cb mb:Nat} {v w u x:V} {l:List V} {Kc L:KM} (h0:fb≠nb) (h4:eb≠nb) (h1:tb≠nb) (h2:cb≠nb) (h3:mb≠nb):setA ((nb,.cells [v])::(fb,.cells [x])::(ebA eb u++tbA tb cb mb l Kc L)) nb (.cells ([v].set 0 w))=(nb,.cells [w])::(fb,.cells [x])::(ebA eb u++tbA tb cb mb l Kc L):=by
 simp [setA,ebA,tbA,arP,h0,h1,h2,h3,h4]
def resA (fb eb nb cb mb:Nat):Arena:=nbA fb eb nb cb mb++(seB fb eb .nils++arP cb mb K2 L2)
theorem cx_BestS:CX Tryz.prog A2f [] [] [eCru cS] (fun r _=>r=.tuple [srS,I 12,I 0]):=by
 refine A5u mixed A0x.2 (by simp) fun S1 ok1=>?_;have hA:InA (env0 Tryz.prog mixed 64 (SA S1 [] false) (Ke ok1 [] false)) S1 [] false:=⟨Sub.refl _,ok1⟩;refine A2 (Ae (SrN 2 rfl (E0 hA rfl fun eb heb=>Sfn rfl ?_)));refine A2 (Ae (SrN 1 rfl (Bf (F:=ebA eb (I 0)) (A1:=[]) hA rfl rfl rfl Agu (.inl (by simp)) fun r B hB=>?_)));obtain ⟨cb,mb,rfl,rfl⟩:=hB;refine Sfn rfl ?_;refine A2 (TsR rfl (A7 rfl (A5 ?_)));refine TsR rfl ?_;refine Aa (s':=⟨[(3,.rptr eb 0),(5,.ptr 5 0),(6,.ptr 6 0)],[(5,⟨Ey cb mb,false⟩),(6,⟨[I 1],false⟩)],[],encA (ebA eb (I 0)++arP cb mb [] []),false⟩) (Bi (.k rfl (.k rfl (.k rfl .nil))) (.k rfl (.cons rfl (.cons (VLe.i rfl) .nil) .nil)) .nil rfl rfl rfl) ?_;refine A2 (Ae (SrN 1 rfl (Bf (F:=ebA eb (I 0)) (A1:=arP cb mb [] []) hA rfl rfl rfl (cx_table cb mb) (.inl (by simp)) fun r B hB=>?_)));obtain ⟨tb,rfl,rfl⟩:=hB;refine Sfn rfl ?_;refine Adc hA rfl fun hnd=>?_;have hn:tb≠eb∧cb≠eb∧mb≠eb:=by
  simp only [ebA,tbA,arP,List.cons_append,List.nil_append,List.map_cons,List.map_nil,List.nodup_cons,List.mem_cons,List.not_mem_nil,or_false,not_or] at hnd;exact ⟨fun e=>hnd.1.1 e.symm,fun e=>hnd.1.2.1 e.symm,fun e=>hnd.1.2.2 e.symm⟩
 clear hnd;obtain ⟨n1,n2,n3⟩:=hn;refine A2 (Ae (Bx hA (A:=ebA eb (I 0)++tbA tb cb mb [I (-1),I (-1),I 12,I 19] K2 L2) (blk:=eb) (off:=0) (v:=I (-1)) rfl rfl List.mem_cons_self (by simp) rfl rfl (Al rfl trivial ?_)));refine Aa (s':=⟨[(3,.rptr eb 0),(5,.ptr 5 0),(6,.ptr 6 0),(7,.ptr 7 0)],[(5,⟨Ey cb mb,false⟩),(6,⟨[I 1],false⟩),(7,⟨[tbV tb],false⟩)],[],encA (ebA eb (I (-1))++tbA tb cb mb [I (-1),I (-1),I 12,I 19] K2 L2),false⟩) (Bi (.k rfl (.k rfl (.k rfl (.k rfl .nil)))) (.k rfl (.k rfl (.k rfl .nil))) .nil rfl rfl (congrArg encA (Aee n1 n2 n3))) ?_;refine A2 (TsC rfl (A3 rfl rfl (Uw cb mb 1) (Al rfl trivial (A4 ?_))));refine Aa (s':=⟨[(33,.func (.func C3) [] [plP cb mb,.vptr [I 1] 0]),(3,.rptr eb 0),(5,.ptr 5 0),(6,.ptr 6 0),(7,.ptr 7 0)],[(5,⟨Ey cb mb,false⟩),(6,⟨[I 1],false⟩),(7,⟨[tbV tb],false⟩)],[],encA (ebA eb (I (-1))++tbA tb cb mb [I (-1),I (-1),I 12,I 19] K2 L2),false⟩) (Bi (.k rfl (.k rfl (.k rfl (.k rfl (.k rfl .nil))))) (.k rfl (.k rfl (.k rfl .nil))) .nil rfl rfl rfl) ?_;refine Fz rfl rfl (W5 cb mb) rfl rfl rfl (by intro x hx;simp only [List.mem_cons,List.not_mem_nil,or_false] at hx;rcases hx with rfl | rfl<;>rfl) (fun pre t=>t.bx=[(5,⟨Ey cb mb,false⟩),(6,⟨[I 1],false⟩),(7,⟨[tbV tb],false⟩)]∧t.rw=[]∧t.log=encA (ebA eb (match pre.length with | 0=>I (-1) | _=>I 12)++tbA tb cb mb [I (-1),I (-1),I 12,I 19] K2 L2)) (fun e t=>False) ⟨rfl,rfl,rfl⟩ ?_ ?_ ?_
 ·rintro a0 L0 rc0 h0 T1 T2 okT1 okT2 pre q t lp hpre ⟨hbx,hrw,hlog⟩ henv hstp;obtain ⟨env,bx,rw,log,stp⟩:=t;simp only at hbx hrw hlog henv hstp;have hA2:∀c,InA ((env0 Tryz.prog mixed 64 (SA S1 [] false) (Ke ok1 [] false)).inner c T2 okT2.ok) S1 [] false:=fun c=>⟨okT2.sub.trans hA.sub,hA.ok⟩;have hcase:(pre=[]∧q=[eSh 0 0])∨(pre=[[eSh 0 0]]∧q=[eSh 0 1]):=by
   obtain ⟨u,hu⟩:=hpre;rcases pre with _ | ⟨a,_ | ⟨b,pre⟩⟩
   ·rw [List.nil_append,List.cons_append] at hu;exact .inl ⟨rfl,(List.cons.inj hu).1⟩
   ·rw [List.cons_append,List.cons_append,List.nil_append,List.cons_append] at hu;obtain ⟨e1,e2⟩:=List.cons.inj hu;exact .inr ⟨by rw [e1],(List.cons.inj e2).1⟩
   ·simp at hu
  rcases hcase with ⟨rfl,rfl⟩ | ⟨rfl,rfl⟩
  ·have hlog:log=encA (ebA eb (I (-1))++tbA tb cb mb [I (-1),I (-1),I 12,I 19] K2 L2):=hlog;subst hbx hrw hlog henv hstp;refine TrR rfl (A4 ?_);refine A2 (Dz rfl rfl rfl (A:=ebA eb (I (-1))++tbA tb cb mb [I (-1),I (-1),I 12,I 19] K2 L2) (KrN 4 rfl (A6 rfl rfl (Aad cb mb) (Co (j:=2) rfl rfl (by omega) (Br (hA2 _) rfl rfl rfl (show (tb,Ob.cells [I (-1),I (-1),I 12,I 19])∈_ by simp [tbA]) (by simp) (Krn rfl (.done (KrT ?_))))))));refine Aa (s':=⟨[(3,.rptr eb 0),(5,.ptr 5 0),(6,.ptr 6 0),(7,.ptr 7 0),(9,I 12)],[(5,⟨Ey cb mb,false⟩),(6,⟨[I 1],false⟩),(7,⟨[tbV tb],false⟩)],[],encA (ebA eb (I (-1))++tbA tb cb mb [I (-1),I (-1),I 12,I 19] K2 L2),false⟩) (Bi (.k rfl (.k rfl (.k rfl (.k rfl (.k rfl .nil))))) (.k rfl (.k rfl (.k rfl .nil))) .nil rfl rfl rfl) ?_;refine A2 (Ae (SrN 3 rfl (Av rfl rfl (Bz (hA2 _) (A:=ebA eb (I (-1))++tbA tb cb mb [I (-1),I (-1),I 12,I 19] K2 L2) rfl rfl (show (eb,Ob.cells [I (-1)])∈_ from List.mem_cons_self) rfl (Av rfl rfl (SrN 1 rfl (Av rfl rfl (SrN 1 rfl (Cx (.bool true) rfl rfl rfl (Cx (.bool true) rfl rfl rfl (Cx (.bool true) rfl rfl rfl (Av rfl rfl (Sfn rfl ?_)))))))))))));refine A9 rfl (Ae (SrN 1 rfl (Bx (hA2 _) (A:=ebA eb (I (-1))++tbA tb cb mb [I (-1),I (-1),I 12,I 19] K2 L2) (blk:=eb) (off:=0) (v:=I 12) rfl rfl List.mem_cons_self (by simp) rfl rfl (Al rfl trivial ?_))));exact ⟨⟨[],[(5,⟨Ey cb mb,false⟩),(6,⟨[I 1],false⟩),(7,⟨[tbV tb],false⟩)],[],encA (ebA eb (I 12)++tbA tb cb mb [I (-1),I (-1),I 12,I 19] K2 L2),false⟩,Bi .nil (.k rfl (.k rfl (.k rfl .nil))) .nil rfl rfl (congrArg encA (Aee n1 n2 n3)),⟨rfl,rfl,rfl⟩,rfl⟩
  ·have hlog:log=encA (ebA eb (I 12)++tbA tb cb mb [I (-1),I (-1),I 12,I 19] K2 L2):=hlog;subst hbx hrw hlog henv hstp;refine TrR rfl (A4 ?_);refine A2 (Dz rfl rfl rfl (A:=ebA eb (I 12)++tbA tb cb mb [I (-1),I (-1),I 12,I 19] K2 L2) (KrN 4 rfl (A6 rfl rfl (Aac cb mb) (Co (j:=3) rfl rfl (by omega) (Br (hA2 _) rfl rfl rfl (show (tb,Ob.cells [I (-1),I (-1),I 12,I 19])∈_ by simp [tbA]) (by simp) (Krn rfl (.done (KrT ?_))))))));refine Aa (s':=⟨[(3,.rptr eb 0),(5,.ptr 5 0),(6,.ptr 6 0),(7,.ptr 7 0),(9,I 19)],[(5,⟨Ey cb mb,false⟩),(6,⟨[I 1],false⟩),(7,⟨[tbV tb],false⟩)],[],encA (ebA eb (I 12)++tbA tb cb mb [I (-1),I (-1),I 12,I 19] K2 L2),false⟩) (Bi (.k rfl (.k rfl (.k rfl (.k rfl (.k rfl .nil))))) (.k rfl (.k rfl (.k rfl .nil))) .nil rfl rfl rfl) ?_;refine A2 (Ae (SrN 3 rfl (Av rfl rfl (Bz (hA2 _) (A:=ebA eb (I 12)++tbA tb cb mb [I (-1),I (-1),I 12,I 19] K2 L2) rfl rfl (show (eb,Ob.cells [I 12])∈_ from List.mem_cons_self) rfl (Av rfl rfl (SrN 1 rfl (Av rfl rfl (SrN 1 rfl (Av rfl rfl (SrN 1 rfl (Av rfl rfl (Bz (hA2 _) (A:=ebA eb (I 12)++tbA tb cb mb [I (-1),I (-1),I 12,I 19] K2 L2) rfl rfl (show (eb,Ob.cells [I 12])∈_ from List.mem_cons_self) rfl (Av rfl rfl (SrN 1 rfl (Av rfl rfl (Sfn rfl ?_))))))))))))))));refine A7 rfl (A5 ?_);exact ⟨⟨[],[(5,⟨Ey cb mb,false⟩),(6,⟨[I 1],false⟩),(7,⟨[tbV tb],false⟩)],[],encA (ebA eb (I 12)++tbA tb cb mb [I (-1),I (-1),I 12,I 19] K2 L2),false⟩,Bi .nil (.k rfl (.k rfl (.k rfl .nil))) .nil rfl rfl rfl,⟨rfl,rfl,rfl⟩,rfl⟩
 rotate_left
 ·rintro e t henv h;exact h.elim
 rintro ⟨env,bx,rw,log,stp⟩ henv hstp ⟨hbx,hrw,hlog⟩;simp only at hbx hrw hlog henv hstp;have hlog:log=encA (ebA eb (I 12)++tbA tb cb mb [I (-1),I (-1),I 12,I 19] K2 L2):=hlog;subst hbx hrw hlog henv hstp;refine A2 (A2 (Ae (Bz hA (A:=ebA eb (I 12)++tbA tb cb mb [I (-1),I (-1),I 12,I 19] K2 L2) rfl rfl (show (eb,Ob.cells [I 12])∈_ from List.mem_cons_self) rfl (SrN 1 rfl (Sfn rfl (A7 rfl (A5 ?_)))))));refine A2 (Ae (E0 hA (A:=ebA eb (I 12)++tbA tb cb mb [I (-1),I (-1),I 12,I 19] K2 L2) rfl fun fb hfb=>Sfn rfl ?_));refine A2 (Ae (E0 hA (A:=(fb,.cells [.nils])::(ebA eb (I 12)++tbA tb cb mb [I (-1),I (-1),I 12,I 19] K2 L2)) rfl fun nb hnb=>Sfn rfl ?_));have hne:eb≠fb:=fun e=>hfb (by simp [ebA,e]);refine A2 (Ae (SrN 1 rfl (Ro (A8t (t:=56) (u:=nxV fb eb nb cb mb) (ids:=[5]) rfl rfl) ?_)));have hm:fb≠nb∧eb≠nb∧tb≠nb∧cb≠nb∧mb≠nb:=by
  simp only [ebA,tbA,arP,List.cons_append,List.nil_append,List.map_cons,List.map_nil,List.mem_cons,List.not_mem_nil,or_false,not_or] at hnb;exact ⟨fun e=>hnb.1 e.symm,fun e=>hnb.2.1 e.symm,fun e=>hnb.2.2.1 e.symm,fun e=>hnb.2.2.2.1 e.symm,fun e=>hnb.2.2.2.2 e.symm⟩
 obtain ⟨m1,m2,m3,m4,m5⟩:=hm;refine I7 hA (A:=(nb,.cells [.nilf])::(fb,.cells [.nils])::(ebA eb (I 12)++tbA tb cb mb [I (-1),I (-1),I 12,I 19] K2 L2)) (blk:=nb) (off:=0) (v:=nxV fb eb nb cb mb) rfl rfl List.mem_cons_self (by simp) rfl rfl ?_;rw [setA_nb m1 m2 m3 m4 m5];refine Al rfl trivial ?_;refine Aa (s':=⟨[(3,.rptr eb 0),(5,.ptr 5 0),(6,.ptr 6 0),(10,.rptr fb 0),(11,.rptr nb 0)],[(5,⟨Ey cb mb,true⟩),(6,⟨[I 1],false⟩)],[],encA ((nb,.cells [nxV fb eb nb cb mb])::(fb,.cells [.nils])::(ebA eb (I 12)++tbA tb cb mb [I (-1),I (-1),I 12,I 19] K2 L2)),false⟩) (Bi (.k rfl (.k rfl (.k rfl (.k rfl (.k rfl .nil))))) (.k rfl (.k rfl .nil)) .nil rfl rfl rfl) ?_;refine Aa (Wk.sub hA (B:=resA fb eb nb cb mb) (D:=[(tb,.cells [I (-1),I (-1),I 12,I 19])]) rfl (by classical exact List.perm_iff_count.2 fun x=>by simp only [resA,nbA,seB,ebA,tbA,List.count_append,List.count_cons,List.count_nil];omega)) ?_;refine A2 (Dz rfl rfl rfl (A:=resA fb eb nb cb mb) (Br hA rfl rfl rfl (show (nb,Ob.cells [nxV fb eb nb cb mb])∈_ by simp [resA,nbA]) (by simp) (KrN 1 rfl (A6 rfl rfl (Ahj cb mb) (KrN 1 rfl (.done (KrT ?_)))))));refine Jf (F:=[]) (A1:=resA fb eb nb cb mb) (us:=[.nils,eRe (0,0) 0 0,I 1,.rptr fb 0,.rptr eb 0,plP cb mb,.rptr nb 0]) hA rfl rfl rfl (Uy (Acr hne)) (.inl (by simp)) fun B hB=>?_;obtain rfl:=hB;refine Al rfl trivial ?_;refine A2 (Dz rfl rfl rfl (A:=nbA fb eb nb cb mb++(arP cb mb K2 L2++seB fb eb srS)) (Br hA rfl rfl rfl (show (fb,Ob.cells [srS])∈_ by simp [seB]) (by simp) (Br hA rfl rfl rfl (show (eb,Ob.cells [I 12])∈_ by simp [seB]) (by simp) (KrN 1 rfl (Ml hA rfl rfl rfl (show (eb,Ob.cells [I 12])∈_ by simp [seB]) (by simp) rfl rfl rfl (KrN 1 rfl (.done ⟨by kernel_rfl,by kernel_rfl,Al rfl trivial ?_⟩)))))));refine Aa (Wk.take (t:=3) (blk:=eb) (A:=nbA fb eb nb cb mb++(arP cb mb K2 L2++seB fb eb srS)) rfl rfl rfl (show (eb,Ob.cells [I 12])∈_ by simp [seB]) rfl) ?_;exact C8 rfl rfl rfl ⟨_,rfl,rfl⟩
end
section
open Go.Am
attribute [local simp] cells Af mkv Aq B6 under dem dem1 eB Ac As
def minW (a b:Int×Int):Int×Int:=(w (a.1-b.2),w (a.2-b.1))
theorem c_minusW (a b:Int×Int):C Tryz.prog O0 [eB a,eB b] (eB (minW a b)):=by
 refine C_of mixed Xq.2 (by simp) fun S ok=>?_;exact TsR rfl (TsR rfl (Bs rfl rfl rfl trivial))
theorem c_low (a b:Int×Int):C Tryz.prog R6 [eB a,eB b] (.bool (lowB a b)):=by
 refine C_of mixed Pt.2 (by simp) fun S ok=>?_;exact TsR rfl (TsR rfl (Bs rfl rfl rfl trivial))
theorem c_high (a b:Int×Int):C Tryz.prog R5 [eB a,eB b] (.bool (Xz a b)):=by
 refine C_of mixed Pq.2 (by simp) fun S ok=>?_;exact TsR rfl (TsR rfl (Bs rfl rfl rfl trivial))
theorem Af1 {bt:Int×Int→Int×Int→Bool} {l:List (Int×Int)} {m:Nat} {p:Int×Int} (h:l[m]?=some p):Hf bt (l.take (m+1))=Dg bt (Hf bt (l.take m)) p:=by
 unfold Hf;rw [List.take_add_one,h,List.foldl_append];rfl
theorem c_pick {it bf:FuncId} {us:List V} {bt:Int×Int→Int×Int→Bool} {l:List (Int×Int)} (hbt:∀a b,C Tryz.prog bf [eB a,eB b] (.bool (bt a b))) (hus:Plain us) (hit:Iter Tryz.prog it us (l.map eEnd)) :
  C Tryz.prog Lc [.func (.func it) [] us,.func (.func bf) [] []] (.tuple [eB (Hf bt l).1,.bool (Hf bt l).2]):=by
 refine C_of mixed Km.2 (by simp) fun S ok=>?_;refine TsR rfl (A2 (TsR rfl (A4 ?_)));refine Aa (s':=⟨[(7,.func (.func it) [] us),(3,.ptr 3 0),(4,.ptr 4 0),(5,.ptr 5 0)],[(3,⟨[.func (.func bf) [] []],false⟩),(4,⟨[I (Hf bt []).1.1,I (Hf bt []).1.2],false⟩),(5,⟨[.bool (Hf bt []).2],false⟩)],[],[],false⟩) (Ad (.k rfl (.k rfl (.k rfl (.k rfl .nil)))) (.k rfl (.k rfl (.k rfl .nil))) .nil (by simp only [E4,List.all_cons,C7 hus];rfl) rfl) ?_;refine Fz rfl (hus.d _) hit rfl (by simp only [List.all_cons,C7 hus];rfl) rfl (by intro x hx;obtain ⟨b,_,rfl⟩:=List.mem_map.1 hx;rfl) (fun pre t=>∃m,m≤l.length∧pre=(l.take m).map eEnd∧t.bx=[(3,⟨[.func (.func bf) [] []],false⟩),(4,⟨[I (Hf bt (l.take m)).1.1,I (Hf bt (l.take m)).1.2],false⟩),(5,⟨[.bool (Hf bt (l.take m)).2],false⟩)]∧t.rw=[]∧t.log=[]) (fun _ _=>False) ⟨0,by omega,rfl,rfl,rfl,rfl⟩ ?_ ?_ ?_
 ·rintro a0 L0 rc0 h0 S1 S2 ok1 ok2 pre q t lp hpre ⟨m,hm,rfl,hbx,hrw,hlog⟩ henv hstp;obtain ⟨env,bx,rw,log,stp⟩:=t;simp only at hbx hrw hlog henv hstp;subst hbx hrw hlog henv hstp;have hmx:m<l.length∧∃b,l[m]?=some b∧q=eEnd b:=by
   have h1:((l.take m).map eEnd).length=m:=by simp;omega
   have h2:=hpre.length_le;simp at h2;have hml:m<l.length:=by omega
   refine ⟨hml,_,List.getElem?_eq_getElem hml,?_⟩;have h3:=List.IsPrefix.getElem hpre (i:=m) (by simp;omega);simp only [List.getElem_map] at h3;rw [List.getElem_append_right (by omega)] at h3;simpa using h3
  obtain ⟨hml,p,hb,rfl⟩:=hmx;have eH:=Af1 (bt:=bt) hb;obtain ⟨⟨f,b⟩,hH⟩:∃H,Hf bt (l.take m)=H:=⟨_,rfl⟩;rw [hH] at eH ⊢;refine TrR rfl ?_;refine Aa (s':=⟨[(3,.ptr 3 0),(4,.ptr 4 0),(5,.ptr 5 0),(6,.ptr 6 0)],[(3,⟨[.func (.func bf) [] []],false⟩),(4,⟨[I f.1,I f.2],false⟩),(5,⟨[.bool b],false⟩),(6,⟨[I p.1,I p.2],false⟩)],[],[],false⟩) (Ad (.k rfl (.k rfl (.k rfl (.k rfl .nil)))) (.k rfl (.k rfl (.k rfl (.k rfl .nil)))) .nil rfl rfl) ?_;have kb:=hbt p f;refine A4 (TsC rfl ?_);cases b with
  | false =>
    refine Cx (want:=false) (.bool true) rfl rfl rfl (Sfn rfl (A9 rfl (TrR rfl ?_)));refine ⟨⟨[],[(3,⟨[.func (.func bf) [] []],false⟩),(4,⟨[I (Hf bt (l.take (m+1))).1.1,I (Hf bt (l.take (m+1))).1.2],false⟩),(5,⟨[.bool (Hf bt (l.take (m+1))).2],false⟩)],[],[],false⟩,?_,⟨m+1,by omega,?_,rfl,rfl,rfl⟩,rfl⟩
    ·rw [eH];refine Ad .nil (.k rfl (.cons rfl (.cons (VLe.i ?_) (.cons (VLe.i ?_) .nil)) (.cons rfl (.cons (VLe.of_eq ?_) .nil) .nil))) .nil rfl rfl<;>simp [Dg]
    ·rw [List.take_add_one,hb];simp
  | true =>
    refine A54 (r:=.bool (bt p f)) rfl rfl rfl rfl rfl (fun _=>by simp) (fun _=>kb) (Sfn rfl ?_);cases hh:bt p f with
    | true =>
      refine A9 rfl (TrR rfl ?_);refine ⟨⟨[],[(3,⟨[.func (.func bf) [] []],false⟩),(4,⟨[I (Hf bt (l.take (m+1))).1.1,I (Hf bt (l.take (m+1))).1.2],false⟩),(5,⟨[.bool (Hf bt (l.take (m+1))).2],false⟩)],[],[],false⟩,?_,⟨m+1,by omega,?_,rfl,rfl,rfl⟩,rfl⟩
      ·rw [eH];refine Ad .nil (.k rfl (.cons rfl (.cons (VLe.i ?_) (.cons (VLe.i ?_) .nil)) (.cons rfl (.cons (VLe.of_eq ?_) .nil) .nil))) .nil rfl rfl<;>simp [Dg,hh]
      ·rw [List.take_add_one,hb];simp
    | false =>
      refine A7 rfl (A5 ?_);refine ⟨⟨[],[(3,⟨[.func (.func bf) [] []],false⟩),(4,⟨[I (Hf bt (l.take (m+1))).1.1,I (Hf bt (l.take (m+1))).1.2],false⟩),(5,⟨[.bool (Hf bt (l.take (m+1))).2],false⟩)],[],[],false⟩,?_,⟨m+1,by omega,?_,rfl,rfl,rfl⟩,rfl⟩
      ·rw [eH];refine Ad .nil (.k rfl (.cons rfl (.cons (VLe.i ?_) (.cons (VLe.i ?_) .nil)) (.cons rfl (.cons (VLe.of_eq ?_) .nil) .nil))) .nil rfl rfl<;>simp [Dg,hh]
      ·rw [List.take_add_one,hb];simp
 ·rintro ⟨env,bx,rw,log,stp⟩ henv hstp ⟨m,hm,hpre,hbx,hrw,hlog⟩;simp only at hbx hrw hlog henv hstp;subst hbx hrw hlog henv hstp;have hml:m=l.length:=by
   have:=congrArg List.length hpre;simp at this;omega
  subst hml;rw [List.take_length];exact Jv rfl (by simp) (by kernel_rfl) (A8 rfl rfl rfl rfl trivial)
 ·intro e t _ h;exact h.elim
end
section
open Go.Am
attribute [local simp] cells Af mkv Aq B6 under dem dem1 eB Ac As
theorem A08 {x:Int} (h:-1000000≤x∧x≤1000000):0≤x*x∧x*x≤1000000000000:=by
 have h0:=Yp x;rcases Int.le_total 0 x with h1 | h1
 ·have h2:x*x≤1000000*1000000:=Int.mul_le_mul h.2 h.2 h1 (by omega);omega
 ·have h2:-x*-x≤1000000*1000000:=Int.mul_le_mul (show -x≤1000000 by omega) (show -x≤1000000 by omega) (by omega) (by omega);rw [Int.neg_mul_neg] at h2;omega
theorem rows_mid {f:Fr} (hf:midF f) {r:Int×Int×Int} (h:r∈Bo f):(-1000000≤r.1∧r.1≤1000000)∧-1000000≤r.2.1∧r.2.1≤r.2.2∧r.2.2≤1000000:=by
 obtain ⟨⟨a1,a2⟩,a3,a4,a5⟩:=Pk _ _ h;obtain ⟨⟨⟨hx1,hx2⟩,hx3,hx4⟩,⟨⟨hy1,hy2⟩,hy3,hy4⟩,_⟩:=hf;unfold lowY at a3;unfold Dd at a4;omega
theorem A9c (f:Fr):Plain [.vptr (Ac f) 0,.vptr [I 0,I 0] 0]:=⟨fun b=>rfl,fun B R=>rfl⟩
theorem A3v {f:Fr} (hf:midF f):Iter Tryz.prog Ji [.vptr (Ac f) 0,.vptr [I 0,I 0] 0] (((Bo f).map rowSq).map eEnd):=by
 refine Lb mixed Pu.2 (by simp) fun S ok=>?_;refine TsR rfl ?_;refine TsC rfl (A3 rfl rfl (Aab f) (Sfn rfl (A4 ?_)));refine Aa (s':=⟨[(10,.func (.func Cq) [] [.vptr (Ac f) 0]),(2,.vptr [I 0,I 0] 0),(3,.ptr 3 0)],[(3,⟨[.yld],false⟩)],[],[],false⟩) (Ad (.k rfl (.k rfl (.k rfl .nil))) (.k rfl .nil) .nil rfl rfl) ?_;refine Fz rfl rfl (A9s hf) rfl rfl rfl (by intro x hx;obtain ⟨b,_,rfl⟩:=List.mem_map.1 hx;rfl) (fun pre t=>∃m,m≤(Bo f).length∧pre=((Bo f).take m).map eRow∧t.bx=[(3,⟨[.yld],false⟩)]∧t.rw=[]∧t.log=(((Bo f).take m).map rowSq).map eEnd) (fun e t=>e=.ret∧t.stp=true) ⟨0,by omega,rfl,rfl,rfl,rfl⟩ ?_ ?_ ?_
 ·rintro a0 L0 rc0 h0 S1 S2 ok1 ok2 pre q t lp hpre ⟨m,hm,rfl,hbx,hrw,hlog⟩ henv hstp;obtain ⟨env,bx,rw,log,stp⟩:=t;simp only at hbx hrw hlog henv hstp;subst hbx hrw hlog henv hstp;have hmx:m<(Bo f).length∧∃b,(Bo f)[m]?=some b∧q=eRow b:=by
   have h1:(((Bo f).take m).map eRow).length=m:=by simp;omega
   have h2:=hpre.length_le;simp at h2;have hml:m<(Bo f).length:=by omega
   refine ⟨hml,_,List.getElem?_eq_getElem hml,?_⟩;have h3:=List.IsPrefix.getElem hpre (i:=m) (by simp;omega);simp only [List.getElem_map] at h3;rw [List.getElem_append_right (by omega)] at h3;simpa using h3
  obtain ⟨hml,⟨x,a,b⟩,hb,rfl⟩:=hmx;obtain ⟨lg,hlg⟩:∃lg,(((Bo f).take m).map rowSq).map eEnd=lg:=⟨_,rfl⟩;have hp1:List.IsPrefix (lg++[eEnd (rowSq (x,a,b))]) (((Bo f).map rowSq).map eEnd):=by
   refine ⟨(((Bo f).drop (m+1)).map rowSq).map eEnd,?_⟩;have hr:(Bo f)[m]=(x,a,b):=(List.getElem?_eq_some_iff.1 hb).2;have e:Bo f=(Bo f).take m++((x,a,b)::(Bo f).drop (m+1)):=by
    rw [←hr,←List.drop_eq_getElem_cons hml,List.take_append_drop]
   conv=>rhs;rw [e]
   rw [←hlg];simp
  rw [hlg];obtain ⟨b1,b2,b3,b4⟩:=rows_mid hf (List.mem_of_getElem? hb);simp only at b1 b2 b3 b4;refine TrR rfl ?_;refine A4 (TsR rfl ?_);refine Jv rfl (by simp) (by kernel_rfl) ?_;obtain ⟨nr,hnr⟩:∃nr,max a (min 0 b)=nr:=⟨_,rfl⟩;refine Aa (s':=⟨[(3,.ptr 3 0),(5,I x),(6,I nr),(7,I a),(8,I b)],[(3,⟨[.yld],false⟩)],[],lg,false⟩) (Ad (.k rfl (.cons rfl (VLe.i ?_) (.cons rfl (VLe.i ?_) (.cons rfl (VLe.i ?_) (.cons rfl (VLe.i ?_) .nil))))) (.k rfl .nil) .nil rfl rfl) ?_
  ·show IntKind.wrap .i64 (x-0)=x;rw [Int.sub_zero];exact w64 (by omega) (by omega)
  ·rw [←hnr];simp (disch:=omega) only [cond_true,cond_false,Gp,It,w64,Int.sub_zero]
  ·show IntKind.wrap .i64 (a-0)=a;rw [Int.sub_zero];exact w64 (by omega) (by omega)
  ·show IntKind.wrap .i64 (b-0)=b;rw [Int.sub_zero];exact w64 (by omega) (by omega)
  have q1:=A08 b1;have q2:=A08 (x:=nr) (by omega);have q3:=A08 (x:=a) (by omega);have q4:=A08 (x:=b) (by omega);obtain ⟨p1,hq1⟩:∃p,x*x+nr*nr=p:=⟨_,rfl⟩;obtain ⟨p2,hq2⟩:∃p,x*x+max (a*a) (b*b)=p:=⟨_,rfl⟩;have eY:eEnd (rowSq (x,a,b))=[.agg [I p1,I p2]]:=by
   simp only [eEnd,eB,rowSq,hnr,hq1,hq2]
  rw [eY] at hp1;refine TsN 20 rfl ?_;refine Ro (s':=⟨[(38,.yld),(57,.agg [I p1,I p2])],[(3,⟨[.yld],false⟩)],[],lg,false⟩) (Ad (.k rfl (.cons rfl (VLe.aggL (.cons (VLe.i ?_) (.cons (VLe.i ?_) .nil))) .nil)) (.k rfl .nil) .nil rfl rfl) ?_
  ·rw [←hq1];simp (disch:=omega) only [w64]
  ·rw [←hq2];simp (disch:=omega) only [w64,Gp,cond_true]
  clear hq1 hq2;refine H8 rfl (by simp) rfl hp1 rfl (fun c=>?_);cases c with
  | false =>
    refine Sfn rfl (A9 rfl ?_);exact Ea ⟨⟨[],[(3,⟨[.yld],false⟩)],[],lg++[[.agg [I p1,I p2]]],true⟩,Ad .nil (.k rfl .nil) .nil rfl rfl,rfl,rfl⟩
  | true =>
    refine Sfn rfl (A7 rfl (A5 ?_));refine ⟨⟨[],[(3,⟨[.yld],false⟩)],[],lg++[[.agg [I p1,I p2]]],false⟩,Ad .nil (.k rfl .nil) .nil rfl rfl,⟨m+1,by omega,?_,rfl,rfl,?_⟩,rfl⟩
    ·rw [List.take_add_one,hb];simp
    ·rw [List.take_add_one,hb,List.map_append,List.map_append,hlg,←eY];rfl
 ·rintro ⟨env,bx,rw,log,stp⟩ henv hstp ⟨m,hm,hpre,hbx,hrw,hlog⟩;simp only at hbx hrw hlog henv hstp;subst hbx hrw hlog henv hstp;have hml:m=(Bo f).length:=by
   have:=congrArg List.length hpre;simp at this;omega
  subst hml;refine ⟨.inr ?_,[],[],[],rfl,rfl,rfl⟩;simp only [List.take_length]
 ·rintro e t _ ⟨rfl,h⟩;exact ⟨.inl h,[],[],[],rfl,rfl,rfl⟩
theorem Ahk {f:Fr} (hf:midF f):∃b:Bool,C Tryz.prog Uh [.agg (Ac f),eB (0,0)] (.tuple [eB (sqsN f),.bool b]):=by
 have k1:=c_pick c_low (A9c f) (A3v hf);have k2:=c_pick c_high (A9c f) (A3v hf);obtain ⟨⟨⟨a1,a2⟩,a3⟩,ha⟩:∃p,Hf lowB ((Bo f).map rowSq)=p:=⟨_,rfl⟩;obtain ⟨⟨⟨b1,b2⟩,b3⟩,hb⟩:∃p,Hf Xz ((Bo f).map rowSq)=p:=⟨_,rfl⟩;have e:sqsN f=(a1,b2):=by unfold sqsN;rw [ha,hb]
 rw [ha] at k1;rw [hb] at k2;rw [e];refine ⟨a3,C_of mixed U1.2 (by simp) fun S ok=>?_⟩;refine TsR rfl (TsR rfl ?_);refine TsC rfl (A3 rfl rfl k1 (Sfn rfl ?_));refine Aa (s':=⟨[(4,.ptr 4 0),(5,.bool false),(6,.func (.func Ji) [] [.ptr 2 0,.ptr 3 0]),(7,.ptr 7 0),(8,.bool a3)],[(2,⟨Ac f,true⟩),(3,⟨[I 0,I 0],true⟩),(4,⟨[I 0,I 0],false⟩),(7,⟨[I a1,I a2],false⟩)],[],[],false⟩) (Ad (.k rfl (.k rfl (.k rfl (.k rfl (.k rfl .nil))))) (.k rfl (.k rfl (.k rfl (.k rfl .nil)))) .nil rfl rfl) ?_;refine TsC rfl (A3 rfl rfl k2 (Sfn rfl ?_));exact TsR rfl (A8 rfl rfl rfl rfl trivial)
end
section
open Go.Am
attribute [local simp] cells Af mkv Aq B6 under dem dem1 eB Ac As
theorem Zr {f:Fr} (hf:midF f):∃e:Int,(e=0↔(Ca f).2=true)∧C Tryz.prog G5 [.agg (Ac f)] (.tuple [.agg (Ac (Ca f).1),I e]):=by
 cases h:(Ca f).2 with
 | true=>exact ⟨0,by simp,Wv hf h⟩
 | false =>
   refine ⟨4,by simp,?_⟩;rw [Afz h];exact Uu hf h
theorem c_twoS {a b:Fr} (ha:Bh a=true) (hb:Bh b=true):∃e:Int,(e=0↔(Ca a).2=true∧(Ca b).2=true)∧C Tryz.prog A5f [.agg (Ac a),.agg (Ac b)] (if (Ca a).2&&(Ca b).2 then .tuple [.agg (Ac (Ca a).1),.agg (Ac (Ca b).1),I e] else .tuple [.agg (Ac frZ),.agg (Ac frZ),I e]):=by
 have ka:=Dy a;have kb:=Dy b;rw [if_pos ha] at ka;rw [if_pos hb] at kb;obtain ⟨e1,h1,k1⟩:=Zr (Hs ha);obtain ⟨e2,h2,k2⟩:=Zr (Hs hb);have k3:=He e1 e2;obtain ⟨e,he⟩:∃e,(if e1=0 then e2 else e1)=e:=⟨_,rfl⟩;rw [he] at k3;have hz:e=0↔(Ca a).2=true∧(Ca b).2=true:=by
  rw [←he];by_cases h:e1=0
  ·rw [if_pos h];exact ⟨fun h'=>⟨h1.1 h,h2.1 h'⟩,fun h'=>h2.2 h'.2⟩
  ·rw [if_neg h];exact ⟨fun h'=>absurd h' h,fun h'=>absurd (h1.2 h'.1) h⟩
 refine ⟨e,hz,C_of mixed A38.2 (by simp) fun S ok=>?_⟩;refine TsR rfl (A2 (A2 ?_));refine Ab (Krn rfl (A6 rfl rfl ka (Krn rfl (A6 rfl rfl kb (Krn rfl (A6 rfl rfl (He 0 0) ?_))))));refine Krn rfl (.done (KrT ?_));refine TsR rfl (A7 rfl (A5 ?_));refine Aa (s':=⟨[(2,.ptr 2 0),(3,.ptr 3 0),(4,.ptr 4 0),(5,.ptr 5 0),(6,I 0)],[(2,⟨Ac a,false⟩),(3,⟨Ac b,false⟩),(4,⟨Ac frZ,false⟩),(5,⟨Ac frZ,false⟩)],[],[],false⟩) (Ad (.k rfl (.k rfl (.k rfl (.k rfl (.k rfl .nil))))) (.k rfl (.k rfl (.k rfl (.k rfl .nil)))) .nil rfl rfl) ?_;refine TsC rfl (A3 rfl rfl (Dh a) (Srn rfl (A3 rfl rfl k1 (Sfn rfl ?_))));refine TsC rfl (A3 rfl rfl (Dh b) (Srn rfl (A3 rfl rfl k2 (Sfn rfl ?_))));refine Aa (s':=⟨[(2,.ptr 2 0),(3,.ptr 3 0),(4,.ptr 4 0),(5,.ptr 5 0),(6,I e1),(8,I e2)],[(4,⟨Ac (Ca a).1,false⟩),(5,⟨Ac (Ca b).1,false⟩),(2,⟨Ac a,false⟩),(3,⟨Ac b,false⟩)],[],[],false⟩) (Ad (.k rfl (.k rfl (.k rfl (.k rfl (.k rfl (.k rfl .nil)))))) (.k rfl (.k rfl (.k rfl (.k rfl .nil)))) .nil rfl rfl) ?_;refine A2 (A2 (Ae (Srn rfl (A3 rfl rfl k3 (Sfn rfl ?_)))));by_cases h0:e=0
 ·have hh:=hz.1 h0;rw [hh.1,hh.2];subst h0;refine TsR rfl (A7 rfl (A5 ?_));exact Jv rfl (by simp) (by kernel_rfl) (A8 rfl rfl rfl rfl trivial)
 ·have hh:((Ca a).2&&(Ca b).2)=false:=by
   cases h4:(Ca a).2<;>cases h5:(Ca b).2<;>first | rfl | exact absurd (hz.2 ⟨h4,h5⟩) h0
  rw [hh];refine TsR rfl (A9 (congrArg (fun b=>some (V.bool b)) (show ((e:Int) != 0)=true by simpa using h0)) ?_);exact TsR rfl (A8 rfl rfl rfl rfl trivial)
theorem Afl {a b:Fr} (ha:Bh a=true) (hb:Bh b=true):midF (comb minB a b):=by
 rw [Cw] at ha hb;unfold fitF fitB at ha hb;unfold midF comb minB;simp only;omega
theorem c_combM {a b:Fr} (ha:Bh a=true) (hb:Bh b=true):C Tryz.prog Ew [.agg (Ac a),.agg (Ac b),.func (.func O0) [] []] (.agg (Ac (comb minB a b))):=by
 have k:=Ge c_minusW a b;rw [Cw] at ha hb;unfold fitF fitB at ha hb;have e:comb minW a b=comb minB a b:=by
  unfold comb minW minB w;simp (disch:=omega) only [w64]
 rw [←e];exact k
theorem c_Gap {a b:Fr} (ha:Bh a=true) (hb:Bh b=true):∃e:Int,C Tryz.prog A5i [.agg (Ac a),.agg (Ac b)] (.tuple [eB (gapN a b),I e]):=by
 obtain ⟨e,he,k⟩:=c_twoS ha hb;unfold gapN;rw [ha,hb];by_cases h0:e=0
 ·have hh:=he.1 h0;rw [hh.1,hh.2] at k;rw [hh.1,hh.2];subst h0;have fa:=(N5 (Ht ha) hh.1).2;have fb:=(N5 (Ht hb) hh.2).2;obtain ⟨sb,k2⟩:=Ahk (Afl fa fb);refine ⟨0,C_of mixed Tc.2 (by simp) fun S ok=>?_⟩;refine TsR rfl (TsC rfl (A3 rfl rfl k (Sfn rfl ?_)));refine A2 (TsR rfl (A7 rfl (A5 ?_)));refine TsC rfl (A3 rfl rfl (c_combM fa fb) (Srn rfl (A3 rfl rfl k2 (Sfn rfl ?_))));exact TsR rfl (A8 rfl rfl rfl rfl trivial)
 ·have hh:((Ca a).2&&(Ca b).2)=false:=by
   cases h4:(Ca a).2<;>cases h5:(Ca b).2<;>first | rfl | exact absurd (he.2 ⟨h4,h5⟩) h0
  rw [hh] at k;have e2:(true&&true&&(Ca a).2&&(Ca b).2)=false:=by simpa using hh
  rw [e2];refine ⟨e,C_of mixed Tc.2 (by simp) fun S ok=>?_⟩;refine TsR rfl (TsC rfl (A3 rfl rfl k (Sfn rfl ?_)));refine A2 (TsR rfl (A9 (congrArg (fun b=>some (V.bool b)) (show ((e:Int) != 0)=true by simpa using h0)) ?_));exact TsR rfl (A8 rfl rfl rfl rfl trivial)
end
section
open Go.Am
attribute [local simp] cells Af mkv Aq B6 under dem dem1 eB Ac As
def sdT:Sd→Nat
 | .rng ..=>316
 | .sec ..=>318
 | .off ..=>320
def frI (r:Fr):List Int:=[r.x.1,r.x.2,r.y.1,r.y.2,r.s.1,r.s.2,r.d.1,r.d.2]
def sdI:Sd→List Int
 | .rng a b lo hi=>[a,b,lo,hi]
 | .sec a b o=>[a,b,o]
 | .off a b r=>a::b::frI r
def sdC (o:Sd):List V:=(sdI o).map I
def sdV (o:Sd):V:=.iface (sdT o) (.agg (sdC o))
theorem rep_int {w:World} {φ:Nat→Nat} {n:Int} {x:Value} (h:RepD w φ (I n) x):x=.int .i64 n:=by cases h;rfl
theorem rep_ints {w:World} {φ:Nat→Nat} {l:List Int} {x:Value} (h:RepD w φ (.agg (l.map I)) x):x=.agg (l.map fun n=>Value.int .i64 n).toArray:=by
 cases h with
 | agg cs vs hl hh =>
   obtain ⟨vs⟩:=vs;congr 2;apply List.ext_getElem?;intro i;simp only [List.length_map,List.size_toArray] at hl;rw [List.getElem?_map];by_cases hi:i<l.length
   ·have h1:vs[i]?=some vs[i]:=List.getElem?_eq_getElem (by omega);have h2:l[i]?=some l[i]:=List.getElem?_eq_getElem hi;have:=hh i (I l[i]) vs[i] (by rw [List.getElem?_map,h2];rfl) (by simp);rw [h1,h2,rep_int this];rfl
   ·rw [List.getElem?_eq_none (by omega),List.getElem?_eq_none (show l.length≤i by omega)];rfl
theorem ints_rep {w:World} {φ:Nat→Nat} (l:List Int):RepD w φ (.agg (l.map I)) (.agg (l.map fun n=>Value.int .i64 n).toArray):=by
 refine .agg _ _ (by simp) fun i v x h1 h2=>?_;simp only [List.getElem?_toArray,List.getElem?_map,Option.map_eq_some_iff] at h1 h2;obtain ⟨n,h3,rfl⟩:=h1;obtain ⟨m,h4,rfl⟩:=h2;rw [h3] at h4;cases h4;exact .int _ _
theorem A77 (a b c d:Int) (w:World):(method (Tryz.prog.types.size+Made.depth) 316 (.agg #[.int .i64 a,.int .i64 b,.int .i64 c,.int .i64 d]) "paravane/fix.nodes").run Tryz.prog w=.ok (Ep,.agg #[.int .i64 a,.int .i64 b]) w:=by kernel_rfl
theorem A76 (a b c:Int) (w:World):(method (Tryz.prog.types.size+Made.depth) 318 (.agg #[.int .i64 a,.int .i64 b,.int .i64 c]) "paravane/fix.nodes").run Tryz.prog w=.ok (Ep,.agg #[.int .i64 a,.int .i64 b]) w:=by kernel_rfl
theorem A78 (a b c d e f g h i j:Int) (w:World):(method (Tryz.prog.types.size+Made.depth) 320 (.agg #[.int .i64 a,.int .i64 b,.int .i64 c,.int .i64 d,.int .i64 e,.int .i64 f,.int .i64 g,.int .i64 h,.int .i64 i,.int .i64 j]) "paravane/fix.nodes").run Tryz.prog w=.ok (Ep,.agg #[.int .i64 a,.int .i64 b]) w:=by kernel_rfl
theorem Aca (v:Value) (w:World):(method (Tryz.prog.types.size+Made.depth) 316 v "paravane/fix.span").run Tryz.prog w=.ok (Ha,v) w:=by kernel_rfl
theorem Ac9 (v:Value) (w:World):(method (Tryz.prog.types.size+Made.depth) 318 v "paravane/fix.span").run Tryz.prog w=.ok (Kg,v) w:=by kernel_rfl
theorem Acb (v:Value) (w:World):(method (Tryz.prog.types.size+Made.depth) 320 v "paravane/fix.span").run Tryz.prog w=.ok (Hb,v) w:=by kernel_rfl
def spanFn:Sd→FuncId
 | .rng ..=>Ha
 | .sec ..=>Kg
 | .off ..=>Hb
theorem Acc (o:Sd) (w:World) (φ:Nat→Nat) (x:Value) (h:RepD w φ (.agg (sdC o)) x):∃y,(method (Tryz.prog.types.size+Made.depth) (sdT o) x "paravane/fix.nodes").run Tryz.prog w=.ok (Ep,y) w∧RepD w φ (.agg [I o.a,I o.b]) y:=by
 have e:=rep_ints h;have r:RepD w φ (.agg [I o.a,I o.b]) (.agg #[.int .i64 o.a,.int .i64 o.b]):=ints_rep [(o.a:Int),(o.b:Int)];refine ⟨_,?_,r⟩;rw [e];cases o with
 | rng a b lo hi=>exact A77 _ _ _ _ w
 | sec a b k=>exact A76 _ _ _ w
 | off a b r=>exact A78 _ _ _ _ _ _ _ _ _ _ w
theorem Qf (o:Sd) (w:World) (φ:Nat→Nat) (x:Value) (h:RepD w φ (.agg (sdC o)) x):∃y,(method (Tryz.prog.types.size+Made.depth) (sdT o) x "paravane/fix.span").run Tryz.prog w=.ok (spanFn o,y) w∧RepD w φ (.agg (sdC o)) y:=by
 refine ⟨x,?_,h⟩;cases o with
 | rng a b lo hi=>exact Aca _ w
 | sec a b k=>exact Ac9 _ w
 | off a b r=>exact Acb _ w
theorem c_nodes (a b:Int):C Tryz.prog Ep [.agg [I a,I b]] (.tuple [I a,I b]):=by
 refine C_of mixed U4.2 (by simp) fun S ok=>?_;exact TsR rfl (Jv rfl (by simp) (by kernel_rfl) (A8 rfl rfl rfl rfl trivial))
theorem Qj (n lo hi:Int):C Tryz.prog Hj [I n,I lo,I hi] (.bool (btw n lo hi)):=by
 refine C_of mixed A3d.2 (by simp) fun S ok=>?_;refine TsR rfl ?_;refine TsR rfl ?_;refine Bs rfl rfl ?_ trivial;simp [D2,btw]
theorem Ahz {n:Int} (h0:0≤n) (h1:n≤1099511627776):C Tryz.prog Xa [I n] (eB (abt n)):=by
 have k:=Aah n;have hb:btw n 0 1099511627776=true:=by rw [Bu];omega
 unfold A67 at k;rw [if_pos hb] at k;have hs:=W4 h0 h1;refine C_of mixed A6t.2 (by simp) fun S ok=>?_;refine TsR rfl (TsC rfl (A3 rfl rfl k (Sfn rfl ?_)));refine TsR rfl (A8 rfl rfl rfl ?_ trivial);have e:=w64 (n:=0-isq n) (by omega) (by omega);show V.agg [I (-isq n),I (isq n)]=V.agg [I (w (0-isq n)),I (isq n)];unfold w;rw [e,Int.zero_sub]
theorem c_spanO {n:Nat} {o:Sd} (ho:o.ok n):C Tryz.prog (spanFn o) [.agg (sdC o)] (.agg (Ac o.span)):=by
 cases o with
 | rng a b lo hi =>
   obtain ⟨_,h1,h2,h3⟩:=ho;have k1:=Ahz (n:=hi) (by omega) (by omega);have k2:C Tryz.prog Xa [I (w (2*hi))] (eB (abt (2*hi))):=by
    have e:=w64 (n:=2*hi) (by omega) (by omega);unfold w;rw [e];exact Ahz (by omega) (by omega)
   show C Tryz.prog Ha [.agg [I a,I b,I lo,I hi]] _;refine C_of mixed Rw.2 (by simp) fun S ok=>?_;refine TsR rfl ?_;refine A2 (Ab (Krn rfl (A6 rfl rfl k1 (Krn rfl ?_))));refine A6 rfl rfl k1 (Krn rfl (A6 rfl rfl k2 (Krn rfl ?_)));refine A6 rfl rfl k2 (Krn rfl (.done (KrT ?_)));exact A8 rfl rfl rfl rfl trivial
 | sec a b k=>exact ho.2.elim
 | off a b r =>
   show C Tryz.prog Hb [.agg (I a::I b::Ac r)] _;refine C_of mixed Rx.2 (by simp) fun S ok=>?_;exact TsR rfl (TsR rfl (A8 rfl rfl rfl rfl trivial))
end
section
open Go.Am
attribute [local simp] cells Af mkv Aq B6 under dem dem1 eB Ac As
def smB (b:Int×Int):Prop:=(-4000000≤b.1∧b.1≤4000000)∧-4000000≤b.2∧b.2≤4000000
def smF (f:Fr):Prop:=(smB f.x∧smB f.y)∧smB f.s∧smB f.d
theorem A91 {f:Fr} (h:Bh f=true):smF f:=by
 rw [Cw] at h;unfold fitF fitB at h;unfold smF smB;omega
theorem A61 {n:Nat} {o:Sd} (ho:o.ok n):smF o.span:=by
 cases o with
 | rng a b lo hi =>
   obtain ⟨_,h1,h2,h3⟩:=ho;have e1:=W4 (n:=hi) (by omega) (by omega);have e2:=W4 (n:=2*hi) (by omega) (by omega);unfold smF smB Sd.span abt;simp only;omega
 | sec a b k=>exact ho.2.elim
 | off a b r=>exact A91 ho.2
theorem sm_back {s:Fr} (h:smF s):smF (A7z s):=by
 unfold smF smB at *;unfold A7z A5v;simp only;omega
theorem A1s {b by':Int×Int} {m:Int} (h1:smB b) (h2:smB by') (h3:0≤m∧m≤65536):C Tryz.prog A8n [eB b,eB by',I m] (eB (Yr b by' m)):=by
 unfold smB at h1 h2;refine C_of mixed A6r.2 (by simp) fun S ok=>?_;refine TsR rfl (TsR rfl (Bs rfl rfl ?_ trivial));have e1:=w64 (n:=b.1+by'.1) (by omega) (by omega);have e2:=w64 (n:=b.2+by'.2) (by omega) (by omega);have e3:=w64 (n:=0-m) (by omega) (by omega);show V.agg [I (max (b.1+by'.1) (-m)),I (min (b.2+by'.2) m)]=V.agg [I (if w (0-m)>w (b.1+by'.1) then w (0-m) else w (b.1+by'.1)),I (if m<w (b.2+by'.2) then m else w (b.2+by'.2))];unfold w;rw [e1,e2,e3,Int.zero_sub,Gp,It]
theorem Aa8 {r s:Fr} (h1:smF r) (h2:smF s):C Tryz.prog A5m [.agg (Ac r),.agg (Ac s)] (.agg (Ac (winF r s))):=by
 have k1:=A1s (m:=32768) h1.1.1 h2.1.1 (by omega);have k2:=A1s (m:=32768) h1.1.2 h2.1.2 (by omega);have k3:=A1s (m:=65536) h1.2.1 h2.2.1 (by omega);have k4:=A1s (m:=65536) h1.2.2 h2.2.2 (by omega);refine C_of mixed A3e.2 (by simp) fun S ok=>?_;refine TsR rfl ?_;refine A2 (Ab (Krn rfl (A6 rfl rfl k1 (Krn rfl ?_))));refine A6 rfl rfl k2 (Krn rfl (A6 rfl rfl k3 (Krn rfl ?_)));refine A6 rfl rfl k4 (Krn rfl (.done (KrT ?_)));exact A8 rfl rfl rfl rfl trivial
theorem Aa9 {b:Int×Int} (h:smB b):C Tryz.prog A5p [eB b] (eB (A5v b)):=by
 unfold smB at h;refine C_of mixed A3g.2 (by simp) fun S ok=>?_;refine TsR rfl (TsR rfl (Bs rfl rfl ?_ trivial));have e1:=w64 (n:=0-b.2) (by omega) (by omega);have e2:=w64 (n:=0-b.1) (by omega) (by omega);show V.agg [I (-b.2),I (-b.1)]=V.agg [I (w (0-b.2)),I (w (0-b.1))];unfold w;rw [e1,e2,Int.zero_sub,Int.zero_sub]
theorem c_back {s:Fr} (h:smF s):C Tryz.prog Adt [.agg (Ac s)] (.agg (Ac (A7z s))):=by
 have k1:=Aa9 h.1.1;have k2:=Aa9 h.1.2;have k3:=Aa9 h.2.1;have k4:=Aa9 h.2.2;refine C_of mixed Abe.2 (by simp) fun S ok=>?_;refine TsR rfl (TsR rfl ?_);refine A2 (Ab (Krn rfl (Ch rfl rfl k1 (Krn rfl ?_))));refine Ch rfl rfl k2 (Krn rfl (Ch rfl rfl k3 (Krn rfl ?_)));refine Ch rfl rfl k4 (Krn rfl (.done (KrT ?_)));exact A8 rfl rfl rfl rfl trivial
def clashV:Value:=.iface 322 (.agg #[])
theorem Va (w:World) (φ:Nat→Nat) (z:Value) (h:RepD w φ (.agg []) z):z=.agg #[]:=by
 cases h with
 | agg cs vs hl hh=>exact congrArg Value.agg (Array.eq_empty_of_size_eq_zero (by simpa using hl.symm))
theorem Na:Y2 Tryz.prog 322=true:=by kernel_rfl
theorem c_cutS {r b t:Fr} (h:cutO r b=some t):C Tryz.prog A5o [.agg (Ac r),.agg (Ac b)] (.agg (Ac t)):=by
 have k:=c_MeetS h;refine C_of mixed A3f.2 (by simp) fun S ok=>?_;refine TsR rfl (TsC rfl (A3 rfl rfl k (Sfn rfl ?_)));refine A2 (TsR rfl (A7 rfl (A5 ?_)));exact TsR rfl (A8 rfl rfl rfl rfl trivial)
theorem c_cutN {r b:Fr} (h:cutO r b=none):CP Tryz.prog A5o [] [] [.agg (Ac r),.agg (Ac b)] (fun _ _=>False) clashV (fun B=>B=[]):=by
 obtain ⟨e,he,k⟩:=c_MeetN h;refine Aid mixed A3f.2 (by simp) fun S ok S1 hA hK hKD=>?_;refine TsR rfl (TsC rfl (A3 rfl rfl k (Sfn rfl ?_)));refine A2 (TsR rfl (A9 (congrArg (fun b=>some (V.bool b)) (show ((e:Int) != 0)=true by simpa using he)) ?_));refine X0 (H9 2 (SrN 1 rfl (X1 (v':=.agg []) Na rfl (fun _=>rfl) ?_)));exact PSteps.panic (y:=.agg #[]) rfl Va ⟨rfl,[],rfl,rfl⟩
theorem A6d:∃i,Tryz.prog.info? 316=some i∧i.zero=some (.agg #[.int .i64 0,.int .i64 0,.int .i64 0,.int .i64 0]):=by
 have h:(Tryz.prog.info? 316).bind (·.zero)=some (.agg #[.int .i64 0,.int .i64 0,.int .i64 0,.int .i64 0]):=by kernel_rfl
 cases hi:Tryz.prog.info? 316 with
 | none=>rw [hi] at h;cases h
 | some i=>rw [hi] at h;exact ⟨i,rfl,h⟩
theorem Vc:Y2 Tryz.prog 316=true:=by kernel_rfl
theorem Ad5 (o:Sd) {a b:Fr} (ha:Bh a=true) (hb:Bh b=true):C Tryz.prog Yk [sdV o,.agg (Ac a),.agg (Ac b)] (.bool (posB o a b)):=by
 obtain ⟨i,hi,hz⟩:=A6d;obtain ⟨e,kg⟩:=c_Gap ha hb;obtain ⟨g,hg⟩:∃g,gapN a b=g:=⟨_,rfl⟩;rw [hg] at kg;refine C_of mixed Xu.2 (by simp) fun S ok=>?_;refine TsR rfl (TsR rfl (A4 (A2 (Ae (A56 (i:=i) Vc hi hz rfl rfl ?_)))));cases o with
 | rng p q lo hi' =>
   refine Sfn rfl (A9 rfl ?_);refine Aw rfl (by simp [sdC,sdI]) (TsC rfl (A3 rfl rfl kg (Sfn rfl ?_)));refine Aw rfl (by simp [sdC,sdI]) (A8 rfl rfl rfl ?_ trivial);simp only [posB,hg,D2];cases h1:decide (g.1≤hi')<;>cases h2:decide (lo≤g.2)<;>simp_all [sdC,sdI]
 | sec p q k =>
   refine Sfn rfl (A7 rfl ?_);exact TsR rfl (TsR rfl (A8 rfl rfl rfl rfl trivial))
 | off p q r =>
   refine Sfn rfl (A7 rfl ?_);exact TsR rfl (TsR rfl (A8 rfl rfl rfl rfl trivial))
end
section
open Go.Am Go.RowKit
attribute [local simp] cells Af mkv Aq B6 under dem dem1
theorem Aap {w w':World} {φ φ':Nat→Nat} {A:Arena} (h:Ar w φ (fun _=>False) A) (hold:∀p∈A,w'.heap[p.1]?=w.heap[p.1]?) (ext:Ext w φ w' φ') (hsz:w.heap.size≤w'.heap.size) (hz:∀p∈A,φ' p.1=φ p.1):Ar w' φ' (fun _=>False) A :=
 ⟨h.nd,fun p hp=>(h.ok p hp).mono (hold p hp) ext,fun _ _ h=>h,fun p hp=>Nat.lt_of_lt_of_le (h.lt p hp) hsz,fun p hp=>(hz p hp).trans (h.z p hp)⟩
section
variable {F:Fence} {n:Nat} {P:Program} {ops:Array Oper} {Q:Exit→Act→List Frame→World→Prop} {i:Nat} {rest:List Nat} {a:Act} {cs:List Frame} {w w':World} {o:Oper}
theorem opS_rec (ho:ops[i]?=some o) (hg:o.guard=none) (hr:(execOp a.eval o).run P w=.ok .recover w) (hrec:recoverD cs=none) (h:wpOpsSIn Fence.wide n P ops Q rest (a.put o.dst .nilIface) cs w):wpOpsSIn Fence.wide n P ops Q (i::rest) a cs w:=by
 rw [wpOpsSIn];simp only [ho];refine ⟨fun _ _=>trivial,?_⟩;simp only [Region.wanted,hg,if_true,hr,hrec];exact h
theorem Sa {v:Value} (ho:ops[i]?=some o) (hg:o.guard=none) (hr:(execOp a.eval o).run P w=.ok (.value v) w') (h:wpOpsSIn Fence.wide n P ops Q rest (a.put o.dst v) cs w'):wpOpsSIn Fence.wide n P ops Q (i::rest) a cs w:=by
 rw [wpOpsSIn];simp only [ho];refine ⟨fun _ _=>trivial,?_⟩;simp only [Region.wanted,hg,if_true,hr];exact h
end
theorem A64 (d:Nat) (w:World):(Op.equalIn (d+1) 20 Value.nilIface Value.nilIface).run Tryz.prog w=.ok true w:=by
 simp only [Op.equalIn,Sem.run_bind,run_underlying Tryz.underlying20,Result.andThen_ok,Sem.run_pure]
theorem Aaz (w:World):(Op.equalIn Op.maxDepth 20 Value.nilIface Value.nilIface).run Tryz.prog w=.ok true w:=A64 9999 w
theorem A63 (ρ:Operand→Value) (o:Oper) (p:Operand) (u:TypeId) (w:World) (ho:o.op=.binOp .neq 20 p (.const .nilIface) u) (hp:ρ p=.nilIface) (hc:ρ (.const .nilIface)=.nilIface):(execOp ρ o).run Tryz.prog w=.ok (.value (.bool false)) w:=by
 simp [execOp,ho,hp,hc,eqGuard,binOp,Op.equal,Aaz]
theorem A1q (v:Value) (w:World) (R:Ending→FrameMode→World→Prop) (hR:R (.returned (.tuple #[])) .returning w):CallsDIn Fence.wide 0 Tryz.prog 191 #[v] .returning w R:=by
 refine callsDIn_of_wpSIn Tryz.func191 rfl trivial fun c0 cs hm=>?_;have hrec:recoverD (c0::cs)=none:=by simp [recoverD,hm]
 have e0:(#[v]++Array.replicate (Tryz.f191.ntmps-#[v].size) undef)=#[v,undef,undef,undef,undef,undef,undef,undef,undef,undef,undef,undef,undef,undef,undef]:=rfl;rw [e0];refine wpSIn_seq (wpSIn_region ?_);refine opS_rec (i:=0) (rest:=[1]) rfl rfl rfl hrec (Sa (i:=1) (rest:=[]) (v:=.nilIface) rfl rfl rfl ?_);have e1:(({tmps:=#[v,undef,undef,undef,undef,undef,undef,undef,undef,undef,undef,undef,undef,undef,undef],defers:=[]}:Act).put (some 4) .nilIface).put (some 1) .nilIface={tmps:=#[v,.nilIface,undef,undef,.nilIface,undef,undef,undef,undef,undef,undef,undef,undef,undef,undef],defers:=[]}:=rfl;show Exit.thenS _ _ .normal ((({tmps:=#[v,undef,undef,undef,undef,undef,undef,undef,undef,undef,undef,undef,undef,undef,undef],defers:=[]}:Act).put (some 4) .nilIface).put (some 1) .nilIface) _ _;rw [e1];refine wpSIn_seq (wpSIn_region ?_);refine Sa (i:=0) (rest:=[1]) (v:=.nilIface) rfl rfl rfl (Sa (i:=1) (rest:=[]) (v:=.bool false) (w':=w) rfl rfl ?_ ?_)
 ·exact A63 _ _ (.tmp 5) 20 w rfl rfl rfl
 show Exit.thenS _ _ .normal _ _ _;refine wpSIn_cond (t:=false) rfl ?_;refine wpSIn_of_wpIn rfl (wpIn_skip ?_);exact ⟨rfl,.returning,by rw [←hm],.tuple #[],by simp [results,show Tryz.f191.results=#[] from rfl],hR⟩
theorem Ym {P:Program} {n i:Nat} {ops:Array Oper} {o:Oper} {a:Act} {w w':World} {x:Value} {Q:Exit→Act→World→Prop} {next:Act→World→Prop} (ho:ops[i]?=some o) (hg:o.guard=none) (hd:∀c,o.op≠.defer c)
  (hr:(execOp a.eval o).run P w=.ok (.value x) w'∨((execOp a.eval o).run P w=.ok .skip w'∧x=undef)) (hn:next (a.put o.dst x) w'):wpOpIn Fence.wide n P ops Q i next a w:=by
 unfold wpOpIn;simp only [ho,Region.wanted,hg,if_true,Oper.wpIn];refine ⟨fun _ _=>trivial,?_⟩;rw [Oper.semAt_eq _ _ _ hd];rcases hr with hr | ⟨hr,rfl⟩<;>rw [hr]<;>exact hn
section
variable {n:Nat} {P:Program} {ops:Array Oper} {Q:Exit→Act→World→Prop} {i:Nat} {rest:List Nat} {a:Act} {w w':World} {o:Oper}
theorem Hl {v:Value} (ho:ops[i]?=some o) (hg:o.guard=none) (hd:∀c,o.op≠.defer c) (hr:(execOp a.eval o).run P w=.ok (.value v) w') (h:wpOpsIn Fence.wide n P ops Q rest (a.put o.dst v) w'):wpOpsIn Fence.wide n P ops Q (i::rest) a w:=by
 rw [wpOpsIn_cons];exact Ym ho hg hd (.inl hr) h
theorem A11 (ho:ops[i]?=some o) (hg:o.guard=none) (hd:∀c,o.op≠.defer c) (hr:(execOp a.eval o).run P w=.ok .skip w') (h:wpOpsIn Fence.wide n P ops Q rest (a.put o.dst undef) w'):wpOpsIn Fence.wide n P ops Q (i::rest) a w:=by
 rw [wpOpsIn_cons];exact Ym ho hg hd (.inr ⟨hr,rfl⟩) h
theorem Aff {d:Deferred} (ho:ops[i]?=some o) (hg:o.guard=none) (hr:(execOp a.eval o).run P w=.ok (.defer d) w') (h:wpOpsIn Fence.wide n P ops Q rest ({a with defers:=d::a.defers}.put o.dst undef) w'):wpOpsIn Fence.wide n P ops Q (i::rest) a w:=by
 rw [wpOpsIn_cons];unfold wpOpIn;simp only [ho,Region.wanted,hg,if_true,Oper.wpIn];refine ⟨fun _ _=>trivial,?_⟩;show Oper.uponIn _ _ _ _ _ _ _ ((execOp a.eval o).run P w);rw [hr];exact h
end
theorem Ab0 {P:Program} {o:Oper} {a:Act} {w:World} {f:FuncId} {c:Call} {t:Nat} {f' c':Array Value} (hcall:C9 P f=true) (hc:c.callee=.value (.tmp t)) (ho:o.op=.call c) (hv:a.eval (.tmp t)=.func (.func f) f' c') :
  (execOp a.eval o).run P w=.ok (.enter f (f'++c.args.map a.eval++c')) w:=by
 unfold C9 at hcall;cases hf:P.funcs[f]? with
 | none=>simp [hf] at hcall
 | some fn =>
   simp only [hf,Bool.and_eq_true,bne_iff_ne,ne_eq] at hcall;have hb:fn.body.isNone=false:=by cases h:fn.body<;>simp [h] at hcall ⊢
   have hnm:(fn.name== "runtime.NumGoroutine")=false:=by simpa using hcall.1
   simp only [execOp,ho,resolve,hc,Sem.run_bind,hv,Deferred.ofValue,Sem.run_pure,Result.andThen_ok,invoke,callFunc,run_program,hf,hnm,hb];simp
section
variable {n:Nat} {P:Program} {ops:Array Oper} {Q:Exit→Act→World→Prop} {i:Nat} {rest:List Nat} {a:Act} {w w':World} {o:Oper}
theorem Afg {f:FuncId} {args:Array Value} (ho:ops[i]?=some o) (hg:o.guard=none) (hr:(execOp a.eval o).run P w=.ok (.enter f args) w') (h:Calls P f args w' fun e w2=>(∃v,e=.returned v∧wpOpsIn Fence.wide n P ops Q rest (a.put o.dst v) w2)∨∃ch,e=.panicked ch∧Q (.panic ch) a w2) (hd:∀c,o.op≠.defer c):wpOpsIn Fence.wide n P ops Q (i::rest) a w:=by
 rw [wpOpsIn_cons];unfold wpOpIn;simp only [ho,Region.wanted,hg,if_true,Oper.wpIn];refine ⟨fun _ _=>trivial,?_⟩;show Oper.uponIn _ _ _ _ _ _ _ ((execOp a.eval o).run P w);rw [hr];refine ⟨fun h=>(by cases h),((callsIn_wide (n:=n-1)).2 h).mono ?_⟩;rintro e w2 (⟨v,rfl,h⟩ | ⟨ch,rfl,h⟩)
 ·exact h
 ·exact h
end
section
variable {F:Fence} {n:Nat} {P:Program} {ops:Array Oper} {Q:Exit→Act→List Frame→World→Prop} {i:Nat} {rest:List Nat} {a:Act} {cs cs':List Frame} {w w':World} {o:Oper}
theorem opS_recV {v:Value} (ho:ops[i]?=some o) (hg:o.guard=none) (hr:(execOp a.eval o).run P w=.ok .recover w) (hrec:recoverD cs=some (v,cs')) (h:wpOpsSIn Fence.wide n P ops Q rest (a.put o.dst v) cs' w):wpOpsSIn Fence.wide n P ops Q (i::rest) a cs w:=by
 rw [wpOpsSIn];simp only [ho];refine ⟨fun _ _=>trivial,?_⟩;simp only [Region.wanted,hg,if_true,hr,hrec];exact h
end
end
section
open Go.Am Go.RowKit
attribute [local simp] cells Af mkv Aq B6 under dem dem1
theorem A0d (d:Nat) (w:World):(Op.equalIn (d+1) 20 clashV Value.nilIface).run Tryz.prog w=.ok false w:=by
 simp only [Op.equalIn,Sem.run_bind,run_underlying Tryz.underlying20,Result.andThen_ok,Sem.run_pure,clashV]
theorem A2s (w:World):(Op.equalIn Op.maxDepth 20 clashV Value.nilIface).run Tryz.prog w=.ok false w:=A0d 9999 w
theorem A0c (ρ:Operand→Value) (o:Oper) (p:Operand) (u:TypeId) (w:World) (ho:o.op=.binOp .neq 20 p (.const .nilIface) u) (hp:ρ p=clashV) (hc:ρ (.const .nilIface)=.nilIface):(execOp ρ o).run Tryz.prog w=.ok (.value (.bool true)) w:=by
 have e:=A2s w;unfold clashV at hp e;simp [execOp,ho,hp,hc,eqGuard,binOp,Op.equal,e]
theorem Acy:∃i,Tryz.prog.info? 322=some i∧i.zero=some (.agg #[]):=by
 have h:(Tryz.prog.info? 322).bind (·.zero)=some (.agg #[]):=by kernel_rfl
 cases hi:Tryz.prog.info? 322 with
 | none=>rw [hi] at h;cases h
 | some i=>rw [hi] at h;exact ⟨i,rfl,h⟩
theorem A4l (ρ:Operand→Value) (o:Oper) (p:Operand) (w:World) (ho:o.op=.typeAssert p 20 322 true) (hp:ρ p=clashV:=by rfl):(execOp ρ o).run Tryz.prog w=.ok (.value (.tuple #[.agg #[],.bool true])) w:=by
 obtain ⟨i,hi,hz⟩:=Acy;have h:=Yv (P:=Tryz.prog) (w:=w) (t:=20) (a:=322) (y:=.agg #[]) Na hi hz;rw [if_pos rfl] at h;unfold clashV at hp;simp only [execOp,ho,hp,Sem.run_bind,h];rfl
theorem Aay (ρ:Operand→Value) (o:Oper) (p q:Operand) (w:World) (b:Addr) (ho:o.op=.store 322 p q) (hp:ρ p=.pointer (some b)) (hq:ρ q=.agg #[]):(execOp ρ o).run Tryz.prog w=.ok .skip w:=by
 simp [execOp,ho,hp,hq,Instr.storeAt,Instr.sureAddr,storeVar,Tryz.sizeOf322,Value.cells,storeCells]
theorem Ys (ρ:Operand→Value) (o:Oper) (p:Operand) (w:World) (nb:Nat) (x:Value) (v:Bool) (ho:o.op=.store 4 p (.const (.bool v))) (hp:ρ p=.pointer (some ⟨nb,0,none⟩)) (hnb:w.heap[nb]?=some (.cells #[x] 4 (0,0))) (hc:ρ (.const (.bool v))=.bool v:=by rfl):(execOp ρ o).run Tryz.prog w=.ok .skip (w.setRow nb #[.bool v]):=by
 have hrun:=run_storeCells_at (P:=Tryz.prog) nb 0 4 [.bool v] 0 #[x] w hnb (by simp) (by simp [Value.oneCell']);have hrun':(storeCells ⟨nb,0,none⟩ [Value.bool v]).run Tryz.prog w=.ok () (w.setRow nb #[.bool v]):=by simpa using hrun
 simp only [execOp,ho,hp,hc,Instr.storeAt,Instr.sureAddr,Sem.run_bind,Sem.run_pure,Result.andThen_ok,storeVar,Tryz.sizeOf4];rw [if_neg (fun h=>h rfl),show (Value.bool v).cells.toList=[Value.bool v] from rfl,hrun'];rfl
theorem A1p {nb:Nat} {x:Value} {w:World} (hnb:w.heap[nb]?=some (.cells #[x] 4 (0,0))) (R:Ending→FrameMode→World→Prop)
  (hR:∀w1 w2:World,w.alloc (.cells #[] 322 (0,0))=w1→w1.setRow nb #[.bool true]=w2→R (.returned (.tuple #[])) (.panicking [{v:=clashV,recovered:=true}]) w2):CallsDIn Fence.wide 0 Tryz.prog 191 #[.pointer (some ⟨nb,0,none⟩)] (.panicking [{v:=clashV,recovered:=false}]) w R:=by
 obtain ⟨p0,hp0⟩:∃p0:Value,.pointer (some ⟨nb,0,none⟩)=p0:=⟨_,rfl⟩;rw [hp0];refine callsDIn_of_wpSIn Tryz.func191 rfl trivial fun c0 cs hm=>?_;have hrec:recoverD (c0::cs)=some (clashV,{c0 with mode:=.panicking [{v:=clashV,recovered:=true}]}::cs):=by simp [recoverD,hm]
 have e0:(#[p0]++Array.replicate (Tryz.f191.ntmps-#[p0].size) undef)=#[p0,undef,undef,undef,undef,undef,undef,undef,undef,undef,undef,undef,undef,undef,undef]:=rfl;rw [e0];refine wpSIn_seq (wpSIn_region ?_);refine opS_recV (i:=0) (rest:=[1]) rfl rfl rfl hrec (Sa (i:=1) (rest:=[]) (v:=clashV) rfl rfl rfl ?_);have e1:(({tmps:=#[p0,undef,undef,undef,undef,undef,undef,undef,undef,undef,undef,undef,undef,undef,undef],defers:=[]}:Act).put (some 4) clashV).put (some 1) clashV={tmps:=#[p0,clashV,undef,undef,clashV,undef,undef,undef,undef,undef,undef,undef,undef,undef,undef],defers:=[]}:=rfl;show Exit.thenS _ _ .normal ((({tmps:=#[p0,undef,undef,undef,undef,undef,undef,undef,undef,undef,undef,undef,undef,undef,undef],defers:=[]}:Act).put (some 4) clashV).put (some 1) clashV) _ _;rw [e1];refine wpSIn_seq (wpSIn_region ?_);refine Sa (i:=0) (rest:=[1]) (v:=clashV) rfl rfl rfl (Sa (i:=1) (rest:=[]) (v:=.bool true) (w':=w) rfl rfl ?_ ?_)
 ·exact A0c _ _ (.tmp 5) 20 w rfl rfl rfl
 have e2:(({tmps:=#[p0,clashV,undef,undef,clashV,undef,undef,undef,undef,undef,undef,undef,undef,undef,undef],defers:=[]}:Act).put (some 5) clashV).put (some 6) (.bool true)={tmps:=#[p0,clashV,undef,undef,clashV,clashV,.bool true,undef,undef,undef,undef,undef,undef,undef,undef],defers:=[]}:=rfl;show Exit.thenS _ _ .normal ((({tmps:=#[p0,clashV,undef,undef,clashV,undef,undef,undef,undef,undef,undef,undef,undef,undef,undef],defers:=[]}:Act).put (some 5) clashV).put (some 6) (.bool true)) _ _;rw [e2];refine wpSIn_cond (t:=true) rfl ?_;rw [if_pos rfl];refine wpSIn_of_wpIn rfl ?_;refine wpIn_seq (wpIn_seq (wpIn_region ?_));refine Hl (i:=0) (rest:=[1,2,3,4,5,6,7]) (v:=clashV) rfl rfl (by simp) rfl ?_;refine Hl (i:=1) (rest:=[2,3,4,5,6,7]) (v:=.tuple #[.agg #[],.bool true]) (w':=w) rfl rfl (by simp) ?_ ?_
 ·exact A4l _ _ _ _ rfl
 refine Hl (i:=2) (rest:=[3,4,5,6,7]) (v:=.tuple #[.agg #[],.bool true]) rfl rfl (by simp) rfl ?_;refine Hl (i:=3) (rest:=[4,5,6,7]) (v:=.agg #[]) rfl rfl (by simp) rfl ?_;refine Hl (i:=4) (rest:=[5,6,7]) (v:=.bool true) rfl rfl (by simp) rfl ?_;obtain ⟨w1,hw1⟩:∃w1,w.alloc (.cells #[] 322 (0,0))=w1:=⟨_,rfl⟩;obtain ⟨n1,hn1⟩:∃n1,w.heap.size=n1:=⟨_,rfl⟩;refine Hl (i:=5) (rest:=[6,7]) (v:=.pointer (some ⟨n1,0,none⟩)) (w':=w1) rfl rfl (by simp) ?_ ?_
 ·simp [execOp,Instr.alloc,Tryz.zeroValue322,newVar,newRow,hn1];exact hw1
 refine A11 (i:=6) (rest:=[7]) (w':=w1) rfl rfl (by simp) ?_ ?_
 ·exact Aay _ _ (.tmp 2) (.tmp 10) _ ⟨n1,0,none⟩ rfl rfl rfl
 refine Hl (i:=7) (rest:=[]) (v:=.bool true) (w':=w1) rfl rfl (by simp) rfl ?_;have e3:((((((((({tmps:=#[p0,clashV,undef,undef,clashV,clashV,.bool true,undef,undef,undef,undef,undef,undef,undef,undef],defers:=[]}:Act).put (some 8) clashV).put (some 9) (.tuple #[.agg #[],.bool true])).put (some 7) (.tuple #[.agg #[],.bool true])).put (some 10) (.agg #[])).put (some 11) (.bool true)).put (some 2) (.pointer (some ⟨n1,0,none⟩))).put none undef).put (some 3) (.bool true))={tmps:=#[p0,clashV,.pointer (some ⟨n1,0,none⟩),.bool true,clashV,clashV,.bool true,.tuple #[.agg #[],.bool true],clashV,.tuple #[.agg #[],.bool true],.agg #[],.bool true,undef,undef,undef],defers:=[]}:=rfl;show Exit.then _ _ .normal ((((((((({tmps:=#[p0,clashV,undef,undef,clashV,clashV,.bool true,undef,undef,undef,undef,undef,undef,undef,undef],defers:=[]}:Act).put (some 8) clashV).put (some 9) (.tuple #[.agg #[],.bool true])).put (some 7) (.tuple #[.agg #[],.bool true])).put (some 10) (.agg #[])).put (some 11) (.bool true)).put (some 2) (.pointer (some ⟨n1,0,none⟩))).put none undef).put (some 3) (.bool true)) _;rw [e3];refine wpIn_seq (wpIn_region (Hl (i:=0) (rest:=[1]) (v:=.bool true) (w':=w1) rfl rfl (by simp) rfl (Hl (i:=1) (rest:=[]) (v:=.bool false) (w':=w1) rfl rfl (by simp) rfl ?_)));obtain ⟨ac,hac⟩:∃ac:Act,({tmps:=#[p0,clashV,.pointer (some ⟨n1,0,none⟩),.bool true,clashV,clashV,.bool true,.tuple #[.agg #[],.bool true],clashV,.tuple #[.agg #[],.bool true],.agg #[],.bool true,.bool true,.bool false,undef],defers:=[]}:Act)=ac:=⟨_,rfl⟩;have e4:(({tmps:=#[p0,clashV,.pointer (some ⟨n1,0,none⟩),.bool true,clashV,clashV,.bool true,.tuple #[.agg #[],.bool true],clashV,.tuple #[.agg #[],.bool true],.agg #[],.bool true,undef,undef,undef],defers:=[]}:Act).put (some 12) (.bool true)).put (some 13) (.bool false)=ac:=by rw [←hac];rfl
 show Exit.then _ _ .normal ((({tmps:=#[p0,clashV,.pointer (some ⟨n1,0,none⟩),.bool true,clashV,clashV,.bool true,.tuple #[.agg #[],.bool true],clashV,.tuple #[.agg #[],.bool true],.agg #[],.bool true,undef,undef,undef],defers:=[]}:Act).put (some 12) (.bool true)).put (some 13) (.bool false)) _;rw [e4];refine wpIn_cond (t:=false) (by rw [←hac];rfl) (wpIn_skip ?_);have hsz1:n1≠nb:=fun e=>by
  have:=(Array.getElem?_eq_some_iff.1 hnb).1;omega
 have hnb1:w1.heap[nb]?=some (.cells #[x] 4 (0,0)):=by
  rw [←hw1,heap_alloc_old w _ (Array.getElem?_eq_some_iff.1 hnb).1];exact hnb
 obtain ⟨w2,hw2⟩:∃w2,w1.setRow nb #[.bool true]=w2:=⟨_,rfl⟩;refine wpIn_region (A11 (i:=0) (rest:=[]) (w':=w2) rfl rfl (by simp) ?_ ?_)
 ·rw [←hw2];exact Ys _ _ (.tmp 0) _ nb x true rfl (by rw [←hac,←hp0];rfl) hnb1
 subst hac;exact ⟨rfl,_,rfl,.tuple #[],by simp [results,show Tryz.f191.results=#[] from rfl],hR w1 w2 hw1 hw2⟩
end
section
open Go.Am Go.RowKit
attribute [local simp] cells Af mkv Aq B6 under dem dem1
theorem Zj {A B:Arena} {w w1 w2 w3:World} {φ φ2:Nat→Nat} {nb:Nat} (hnb:w.heap.size=nb) (htop:∀b,w.heap.size≤b→φ b=0) (old1:∀b,b<nb→w1.heap[b]?=w.heap[b]?) (sz1:w1.heap.size=nb+1) (os1:w1.os=w.os∧w1.tape=w.tape∧w1.output=w.output) (ext1:Ext w φ w1 φ)
  (hB:Ar w2 φ2 (fun _=>False) B) (mv:Moved (fun b=>b∈A.map (·.1)) w1 φ (fun b=>b∈B.map (·.1)) w2 φ2) (hnA:nb∉A.map (·.1)) (old3:∀b,b<w2.heap.size→b≠nb→w3.heap[b]?=w2.heap[b]?) (sz3:w2.heap.size≤w3.heap.size) (os3:w3.os=w2.os∧w3.tape=w2.tape∧w3.output=w2.output) :
  Ar w3 φ2 (fun _=>False) B∧Moved (fun b=>b∈A.map (·.1)) w φ (fun b=>b∈B.map (·.1)) w3 φ2:=by
 have hsz2:=mv.size;have hnb2:=mv.old nb (by omega) hnA;have hnb0:φ2 nb=0:=by rw [hnb2.2];exact htop nb (by omega)
 have ext3:Ext w2 φ2 w3 φ2:=fun b o ho=>by
  have hb:b≠nb:=fun e=>by rw [e,hnb0] at ho;omega
  have hb2:b<w2.heap.size:=by
   rcases Nat.lt_or_ge b w2.heap.size with h | h
   ·exact h
   ·rw [mv.top b h] at ho;omega
  exact ⟨ho,World.cell?_of_block (old3 b hb2 hb),Bn (old3 b hb2 hb)⟩
 have hnB:nb∉B.map (·.1):=fun hm=>by
  rcases mv.mine nb hm with h | h
  ·exact hnA h
  ·omega
 refine ⟨Aap hB (fun p hp=>old3 _ (hB.lt p hp) fun e=>hnB (e▸List.mem_map.2 ⟨p,hp,rfl⟩)) ext3 (by omega) (fun _ _=>rfl),⟨(ext1.trans mv.ext).trans ext3,fun b hb hn=>?_,by omega,?_,?_,?_,fun b hb=>?_,fun b hb=>mv.top b (by omega)⟩⟩
 ·have:=mv.old b (by omega) hn;exact ⟨(old3 b (by omega) (by omega)).trans (this.1.trans (old1 b (by omega))),this.2⟩
 ·rw [os3.1,mv.os,os1.1]
 ·rw [os3.2.1,mv.tape,os1.2.1]
 ·rw [os3.2.2,mv.output,os1.2.2]
 ·rcases mv.mine b hb with h | h
  ·exact .inl h
  ·exact .inr (by omega)
theorem We {w:World} {nb:Nat} {v:Bool} {tm:Array Value} (ht:tm.getD 2 undef=.pointer (some ⟨nb,0,none⟩)) (h3:w.heap[nb]?=some (.cells #[.bool v] 4 (0,0))):(results Tryz.f167 tm).run Tryz.prog w=.ok (.bool v) w:=by
 have t2':tm[2]?.getD undef=.pointer (some ⟨nb,0,none⟩):=by simpa using ht
 have hload:=Gb (P:=Tryz.prog) (w:=w) (t:=4) (n:=1) (b:=nb) (off:=0) (cs:=[Value.bool v]) (x:=.bool v) (by kernel_rfl) Tryz.underlying4 rfl (fun j u hv=>by
  cases j with
  | zero=>simp at hv;subst hv;rw [cell_of_row w nb _ _ 4 (0,0) h3];rfl
  | succ j=>simp at hv) (by rw [show aggB Tryz.prog 4=false from by kernel_rfl];rfl)
 simp only [Instr.loadAt,Instr.sureAddr,Sem.run_bind,Sem.run_pure,Result.andThen_ok] at hload;simp [results,show Tryz.f167.results=#[.cell 2 4] from rfl,t2',asAddr,hload]
theorem A4d {f:FuncId} {cap:List V} {A:Arena} {K:List (Nat×List V)} {Φ:V→Arena→Prop} {Ψ:Arena→Prop} (hc:CP Tryz.prog f A K cap Φ clashV Ψ):CX Tryz.prog A5n A K [.func (.func f) [] cap] (fun r B=>(r=.bool false∧∃r',Φ r' B)∨(r=.bool true∧Ψ B)):=by
 refine ⟨by kernel_rfl,fun w φ vals htop hgl hA hK hKA hrep=>?_⟩;obtain ⟨hl,hr⟩:=hrep;obtain ⟨vals⟩:=vals
 match vals,hl with
 | [v1],_ =>
 have h1:=hr 0 _ v1 rfl rfl;cases h1 with
 | func fn first cap f' c' g1 g2 g3 g4 =>
 have e1:f'=#[]:=Array.eq_empty_of_size_eq_zero (by simpa using g1.symm);subst e1;rw [←callsIn_wide (n:=0)];refine callsIn_of_wp_marks Tryz.func167 rfl trivial ?_;have e0:(#[Value.func (.func f) #[] c']++Array.replicate (Tryz.f167.ntmps-#[Value.func (.func f) #[] c'].size) undef)=#[.func (.func f) #[] c',undef,undef,undef,undef,undef]:=rfl;show Code.wpIn _ _ _ _ _ {tmps:=(#[Value.func (.func f) #[] c']++Array.replicate (Tryz.f167.ntmps-#[Value.func (.func f) #[] c'].size) undef),defers:=[]} _;rw [e0];obtain ⟨nb,hnb⟩:∃nb,w.heap.size=nb:=⟨_,rfl⟩;obtain ⟨w1,hw1⟩:∃w1,w.alloc (.cells #[.bool false] 4 (0,0))=w1:=⟨_,rfl⟩;refine wpIn_seq (wpIn_region (Hl (i:=0) (rest:=[]) (v:=.pointer (some ⟨nb,0,none⟩)) (w':=w1) rfl rfl (by simp) ?_ ?_))
 ·simp [execOp,Instr.alloc,Tryz.zeroValue4,newVar,newRow,hnb];exact hw1
 show Exit.then _ _ .normal _ _;refine wpIn_seq (wpIn_region (Hl (i:=0) (rest:=[1]) (v:=.func (.func 191) #[] #[.pointer (some ⟨nb,0,none⟩)]) (w':=w1) rfl rfl (by simp) ?_ (Aff (i:=1) (rest:=[]) (d:={target:=.fn (.func 191) #[.pointer (some ⟨nb,0,none⟩)],args:=#[]}) (w':=w1) rfl rfl ?_ ?_)))
 ·show Sem.run Tryz.prog (execOp (({tmps:=#[Value.func (.func f) #[] c',undef,.pointer (some ⟨nb,0,none⟩),undef,undef,undef],defers:=[]}:Act).eval) _) w1=_;simp [execOp,Instr.makeFunc,Act.eval]
 ·show Sem.run Tryz.prog (execOp (({tmps:=#[Value.func (.func f) #[] c',undef,.pointer (some ⟨nb,0,none⟩),.func (.func 191) #[] #[.pointer (some ⟨nb,0,none⟩)],undef,undef],defers:=[]}:Act).eval) _) w1=_;simp [execOp,resolve,Deferred.ofValue,Act.eval]
 have e1:((({tmps:=#[Value.func (.func f) #[] c',undef,.pointer (some ⟨nb,0,none⟩),.func (.func 191) #[] #[.pointer (some ⟨nb,0,none⟩)],undef,undef],defers:=[{target:=.fn (.func 191) #[.pointer (some ⟨nb,0,none⟩)],args:=#[]}]}:Act)).put none undef)={tmps:=#[Value.func (.func f) #[] c',undef,.pointer (some ⟨nb,0,none⟩),.func (.func 191) #[] #[.pointer (some ⟨nb,0,none⟩)],undef,undef],defers:=[{target:=.fn (.func 191) #[.pointer (some ⟨nb,0,none⟩)],args:=#[]}]}:=rfl;show Exit.then _ _ .normal ((({tmps:=#[Value.func (.func f) #[] c',undef,.pointer (some ⟨nb,0,none⟩),.func (.func 191) #[] #[.pointer (some ⟨nb,0,none⟩)],undef,undef],defers:=[{target:=.fn (.func 191) #[.pointer (some ⟨nb,0,none⟩)],args:=#[]}]}:Act)).put none undef) _;rw [e1];have hsz1:w1.heap.size=nb+1:=by
  rw [←hw1];show (w.heap.push _).size=_;rw [Array.size_push,hnb]
 have old1:∀b,b<nb→w1.heap[b]?=w.heap[b]?:=fun b hb=>by rw [←hw1];exact heap_alloc_old w _ (by omega)
 have new1:w1.heap[nb]?=some (.cells #[.bool false] 4 (0,0)):=by rw [←hw1,←hnb];exact heap_alloc_new w _
 have os1:w1.os=w.os∧w1.tape=w.tape∧w1.output=w.output:=by rw [←hw1];exact ⟨rfl,rfl,rfl⟩
 have ext1:Ext w φ w1 φ:=fun b o ho=>by
  have hb:b<nb:=by
   rcases Nat.lt_or_ge b nb with h1 | h1
   ·exact h1
   ·rw [htop b (by omega)] at ho;omega
  exact ⟨ho,World.cell?_of_block (old1 b hb),Bn (old1 b hb)⟩
 have hA1:Ar w1 φ (fun _=>False) A:=Aap hA (fun p hp=>old1 _ (by have:=hA.lt p hp;omega)) ext1 (by omega) fun _ _=>rfl;have hnA:nb∉A.map (·.1):=fun hm=>by
  obtain ⟨p,hp,e⟩:=List.mem_map.1 hm;have:=hA.lt p hp;omega
 have hcall:=hc.2 w1 φ c' (fun b hb=>htop b (by omega)) (hgl.mono ext1) hA1 (fun p hp=>⟨(hK p hp).1.mono (old1 _ (by have:=(hK p hp).2;omega)) ext1,by have:=(hK p hp).2;omega⟩) hKA ⟨by simpa using g2,fun i v x h1 h2=>(g4 i v x h1 h2).mono ext1⟩;refine wpIn_seq (wpIn_region (Hl (i:=0) (rest:=[1]) (v:=.func (.func f) #[] c') (w':=w1) rfl rfl (by simp) rfl (Afg (i:=1) (rest:=[]) (f:=f) (args:=c') (w':=w1) rfl rfl ?_ (hcall.mono ?_) (by simp))))
 ·show Sem.run Tryz.prog (execOp (({tmps:=#[Value.func (.func f) #[] c',undef,.pointer (some ⟨nb,0,none⟩),.func (.func 191) #[] #[.pointer (some ⟨nb,0,none⟩)],.func (.func f) #[] c',undef],defers:=[{target:=.fn (.func 191) #[.pointer (some ⟨nb,0,none⟩)],args:=#[]}]}:Act).eval) _) w1=_;refine (Ab0 (P:=Tryz.prog) (w:=w1) (t:=4) hc.1 rfl rfl (f':=#[]) (c':=c') rfl).trans ?_;simp
 rintro e w2 ⟨φ2,B,hB,mv,⟨r,x,rfl,hx,hΦ⟩ | ⟨rfl,hΨ⟩⟩
 ·
  refine .inl ⟨x,rfl,?_⟩;have hnb2:=mv.old nb (by omega) hnA;obtain ⟨tm,htm⟩:∃tm,#[Value.func (.func f) #[] c',undef,.pointer (some ⟨nb,0,none⟩),.func (.func 191) #[] #[.pointer (some ⟨nb,0,none⟩)],.func (.func f) #[] c',x]=tm:=⟨_,rfl⟩;have e2:(({tmps:=#[Value.func (.func f) #[] c',undef,.pointer (some ⟨nb,0,none⟩),.func (.func 191) #[] #[.pointer (some ⟨nb,0,none⟩)],.func (.func f) #[] c',undef],defers:=[{target:=.fn (.func 191) #[.pointer (some ⟨nb,0,none⟩)],args:=#[]}]}:Act).put (some 5) x)={tmps:=tm,defers:=[{target:=.fn (.func 191) #[.pointer (some ⟨nb,0,none⟩)],args:=#[]}]}:=by rw [←htm];rfl
  show Exit.then _ _ .normal (({tmps:=#[Value.func (.func f) #[] c',undef,.pointer (some ⟨nb,0,none⟩),.func (.func 191) #[] #[.pointer (some ⟨nb,0,none⟩)],.func (.func f) #[] c',undef],defers:=[{target:=.fn (.func 191) #[.pointer (some ⟨nb,0,none⟩)],args:=#[]}]}:Act).put (some 5) x) w2;rw [e2];have t2:tm.getD 2 undef=.pointer (some ⟨nb,0,none⟩):=by rw [←htm];rfl
  have h2nb:w2.heap[nb]?=some (.cells #[.bool false] 4 (0,0)):=hnb2.1.trans new1;obtain ⟨w3,hw3⟩:∃w3,w2.setRow nb #[.bool false]=w3:=⟨_,rfl⟩;refine wpIn_seq (wpIn_region (A11 (i:=0) (rest:=[]) (w':=w3) rfl rfl (by simp) ?_ ?_))
  ·rw [←hw3];exact Ys _ _ (.tmp 2) w2 nb (.bool false) false rfl t2 h2nb
  show Exit.then _ _ .normal {tmps:=tm,defers:=[{target:=.fn (.func 191) #[.pointer (some ⟨nb,0,none⟩)],args:=#[]}]} w3;refine wpIn_ret ?_;refine ⟨by simp,.inr ⟨fun h=>(by cases h),.func 191,#[.pointer (some ⟨nb,0,none⟩)],191,#[.pointer (some ⟨nb,0,none⟩)],rfl,?_,fun _ _=>trivial,A1q _ w3 _ ?_⟩⟩
  ·have e83:Tryz.prog.funcs[191]?=some Tryz.f191:=Tryz.func191;have hb:Tryz.f191.body.isNone=false:=rfl;have hnm:(Tryz.f191.name== "runtime.NumGoroutine")=false:=by decide
   simp only [invoke,callFunc,Sem.run_bind,run_program,Result.andThen_ok,e83,hnm,hb];simp
  have h3:w3.heap[nb]?=some (.cells #[.bool false] 4 (0,0)):=by rw [←hw3];exact setRow_heap w2 nb _ _ 4 (0,0) h2nb
  refine ⟨.bool false,We t2 h3,?_⟩;obtain ⟨q1,q2⟩:=Zj (w3:=w3) hnb htop old1 hsz1 os1 ext1 hB mv hnA (fun b _ hb=>by rw [←hw3];exact setRow_other w2 nb b _ hb) (by rw [←hw3];simp) (by rw [←hw3];exact ⟨rfl,rfl,rfl⟩);exact ⟨φ2,.bool false,.bool false,B,.inl ⟨rfl,r,hΦ⟩,rfl,.data (.bool false),q1,q2⟩
 ·
  refine .inr ⟨_,rfl,?_⟩;have hnb2:=mv.old nb (by omega) hnA;have h2nb:w2.heap[nb]?=some (.cells #[.bool false] 4 (0,0)):=hnb2.1.trans new1;obtain ⟨tm,htm⟩:∃tm,#[Value.func (.func f) #[] c',undef,.pointer (some ⟨nb,0,none⟩),.func (.func 191) #[] #[.pointer (some ⟨nb,0,none⟩)],.func (.func f) #[] c',undef]=tm:=⟨_,rfl⟩;have t2:tm.getD 2 undef=.pointer (some ⟨nb,0,none⟩):=by rw [←htm];rfl
  show LeavesInM Fence.wide 0 Tryz.prog Tryz.f167 #[Value.func (.func f) #[] c',undef,.pointer (some ⟨nb,0,none⟩),.func (.func 191) #[] #[.pointer (some ⟨nb,0,none⟩)],.func (.func f) #[] c',undef] _ [{target:=.fn (.func 191) #[.pointer (some ⟨nb,0,none⟩)],args:=#[]}] (.panicking [{v:=clashV,recovered:=false}]) w2;rw [htm];refine ⟨by simp,.inr ⟨fun h=>(by cases h),.func 191,#[.pointer (some ⟨nb,0,none⟩)],191,#[.pointer (some ⟨nb,0,none⟩)],rfl,?_,fun _ _=>trivial,A1p h2nb _ fun wa w3 ha h3=>?_⟩⟩
  ·have e83:Tryz.prog.funcs[191]?=some Tryz.f191:=Tryz.func191;have hb:Tryz.f191.body.isNone=false:=rfl;have hnm:(Tryz.f191.name== "runtime.NumGoroutine")=false:=by decide
   simp only [invoke,callFunc,Sem.run_bind,run_program,Result.andThen_ok,e83,hnm,hb];simp
  have sza:wa.heap.size=w2.heap.size+1:=by rw [←ha];show (w2.heap.push _).size=_;rw [Array.size_push]
  have olda:∀b,b<w2.heap.size→wa.heap[b]?=w2.heap[b]?:=fun b hb=>by rw [←ha];exact heap_alloc_old w2 _ hb
  have hlt:nb<w2.heap.size:=(Array.getElem?_eq_some_iff.1 h2nb).1;have hna:wa.heap[nb]?=some (.cells #[.bool false] 4 (0,0)):=(olda nb hlt).trans h2nb;have h3nb:w3.heap[nb]?=some (.cells #[.bool true] 4 (0,0)):=by rw [←h3];exact setRow_heap wa nb _ _ 4 (0,0) hna
  refine ⟨.bool true,We t2 h3nb,?_⟩;obtain ⟨q1,q2⟩:=Zj (w3:=w3) hnb htop old1 hsz1 os1 ext1 hB mv hnA (fun b hb hn=>by rw [←h3,setRow_other wa nb b _ hn];exact olda b hb) (by rw [←h3];simp;omega) (by rw [←h3,←ha];exact ⟨rfl,rfl,rfl⟩);exact ⟨φ2,.bool true,.bool true,B,.inr ⟨rfl,hΨ⟩,rfl,.data (.bool true),q1,q2⟩
end
section
open Go.Am Go.RowKit
attribute [local simp] cells Af mkv Aq B6 under dem dem1 eB Ac As
def nsC (ns:List Fr):List V:=(ns.map eF).flatMap cells
theorem N2 (f:Fr) (ns:List Fr):nsC (f::ns)=Ac f++nsC ns:=rfl
theorem W0:∀ns:List Fr,(nsC ns).length=ns.length*8
 | []=>rfl
 | f::ns=>by rw [N2,List.length_append,W0 ns];simp;omega
theorem nsC_at:∀{ns:List Fr} {sp:List V} {i:Nat},i<ns.length→((nsC ns++sp).drop (i*8)).take 8=Ac (ns.getD i frZ)
 | [],_,i,h=>by simp at h
 | f::ns,sp,0,_=>by rw [N2];rfl
 | f::ns,sp,i+1,h=>by
   have ih:=nsC_at (ns:=ns) (sp:=sp) (i:=i) (by simpa using h);rw [N2,List.append_assoc,show (i+1)*8=8+i*8 by omega,←List.drop_drop];have e:(Ac f++(nsC ns++sp)).drop 8=nsC ns++sp:=rfl;rw [e,ih];rfl
theorem Js {ns:List Fr} {sp:List V} {i:Nat} (h:i<ns.length):mkv true 8 ((nsC ns++sp).drop (0+i*8))=.agg (Ac (ns.getD i frZ)):=by
 rw [Nat.zero_add];show V.agg _=_;rw [nsC_at h]
theorem A6z:∀{ns:List Fr} {sp:List V} {i:Nat} (f:Fr),i<ns.length→Aq (nsC ns++sp) (0+i*8) (Ac f)=nsC (ns.set i f)++sp
 | [],_,i,f,h=>by simp at h
 | g::ns,sp,0,f,_=>by rw [N2];rfl
 | g::ns,sp,i+1,f,h=>by
   have ih:=A6z (ns:=ns) (sp:=sp) (i:=i) f (by simpa using h);rw [List.set_cons_succ,N2,N2,List.append_assoc,List.append_assoc,←ih];rw [show 0+(i+1)*8=8+i*8 by omega,Nat.zero_add];unfold Aq;have e1:(Ac g++(nsC ns++sp)).take (8+i*8)=Ac g++(nsC ns++sp).take (i*8):=by
    rw [List.take_append,List.take_of_length_le (by simp)];simp
   have e2:(Ac g++(nsC ns++sp)).drop (8+i*8+(Ac f).length)=(nsC ns++sp).drop (i*8+(Ac f).length):=by
    rw [List.drop_append,List.drop_of_length_le (by simp)];simp [Nat.add_assoc]
   rw [e1,e2];simp
theorem Pc (b:Nat→Option Box) (l:List Int):toDs b [.agg (l.map I)]=some ([.agg (l.map I)],[]):=by
 have h:∀l:List Int,(l.map I).foldr (fun x acc=>Jt (toD b 5 x) acc) (some ([],[]))=some (l.map I,[]):=by
  intro l
  induction l with
  | nil=>rfl
  | cons n l ih=>rw [List.map_cons,List.foldr_cons,ih];rfl
 show Jt (((l.map I).foldr (fun x acc=>Jt (toD b 5 x) acc) (some ([],[]))).map fun p=>(V.agg p.1,p.2)) (some ([],[]))=_;rw [h];rfl
def Cf (bn:Nat) (ns:List Fr) (sp:List V):Arena:=[(bn,.cells (nsC ns++sp))]
def chgB (ns:List Fr) (o:Sd) (a b:Fr):Bool:=!eqFr a (ns.getD o.a frZ)||!eqFr b (ns.getD o.b frZ)
def netC (bn cap:Nat) (n:Nat) (os:List Sd):List V:=[.sref bn 0 n cap,.slice 0 1 (os.map sdV)]
theorem cp_step {bn cap:Nat} {ns:List Fr} {sp:List V} {os:List Sd} {o:Sd} (ho:o.ok ns.length) (hns:∀i<ns.length,Bh (ns.getD i frZ)=true) :
  CP Tryz.prog Yl (Cf bn ns sp) [] [.agg (netC bn cap ns.length os),sdV o] (fun r B=>∃a b,Hz ns o=some (a,b)∧r=.bool (chgB ns o a b)∧B=Cf bn (Fa ns o a b) sp) clashV (fun B=>Hz ns o=none∧B=Cf bn ns sp):=by
 have hla:=ho.1.1;have hlb:=ho.1.2.1;have hnl:=W0 ns;have ka:=c_spanO ho;have smA:=A91 (hns _ hla);have smB':=A91 (hns _ hlb);have kb:=c_back (A61 ho);have kw:=Aa8 smB' (sm_back (A61 ho));have hm:(bn,Ob.cells (nsC ns++sp))∈Cf bn ns sp:=List.mem_singleton.2 rfl;refine Aid mixed Xv.2 (by simp) fun S ok S1 hA hK hKD=>?_;refine Aw rfl (by simp [netC]) ?_;refine A2 (Ae (SrN 1 rfl (A53 (name:= "paravane/fix.nodes") rfl (fun _=>rfl) (by kernel_rfl) (Acc o) (c_nodes _ _) (Sfn rfl ?_))));refine Aa (s':=⟨[(1,sdV o),(2,.ptr 2 0),(5,I (o.a:Nat)),(6,I (o.b:Nat))],[(2,⟨netC bn cap ns.length os,false⟩)],[],encA (Cf bn ns sp),false⟩) (Ad (.k rfl (.k rfl (.k rfl (.k rfl .nil)))) (.k rfl .nil) .nil rfl rfl) ?_;refine A2 ?_;cases hc1:cutO (ns.getD o.a frZ) (winF (ns.getD o.b frZ) (A7z o.span)) with
 | none =>
   have hst:Hz ns o=none:=by unfold Hz;rw [hc1]
   refine Aam hA rfl rfl rfl (A:=Cf bn ns sp) (cv:=clashV) rfl ⟨rfl,_,rfl,hst,rfl⟩ ?_;refine Ah 3 rfl (by simp [netC]) (Co (j:=o.a) rfl rfl hla (Br hA rfl rfl rfl hm (by simp;omega) ?_));rw [Js hla];refine Ah 3 rfl (by simp [netC]) (Co (j:=o.b) rfl rfl hlb (Br hA rfl rfl rfl hm (by simp;omega) ?_));rw [Js hlb];refine KrN 1 rfl (I6 (name:= "paravane/fix.span") rfl (fun _=>Pc _ _) (by kernel_rfl) (Qf o) ka ?_);refine A6 rfl rfl kb (A6 rfl rfl kw ?_);refine .done ⟨_,_,_,_,_,_,.agg (Ac frZ),rfl,rfl,rfl,c_cutN hc1,Krn rfl (.done ⟨rfl,by kernel_rfl⟩)⟩
 | some a =>
   have hca:=Jc hc1;have smA2:=A91 hca.2.2.2.2;have kw2:=Aa8 smA2 (A61 ho);refine Dz rfl rfl (A:=Cf bn ns sp) rfl ?_;refine Ah 3 rfl (by simp [netC]) (Co (j:=o.a) rfl rfl hla (Br hA rfl rfl rfl hm (by simp;omega) ?_));rw [Js hla];refine Ah 3 rfl (by simp [netC]) (Co (j:=o.b) rfl rfl hlb (Br hA rfl rfl rfl hm (by simp;omega) ?_));rw [Js hlb];refine KrN 1 rfl (I6 (name:= "paravane/fix.span") rfl (fun _=>Pc _ _) (by kernel_rfl) (Qf o) ka ?_);refine A6 rfl rfl kb (A6 rfl rfl kw (A6 rfl rfl (c_cutS hc1) (Krn rfl (.done (KrT ?_)))));refine Aa (s':=⟨[(1,sdV o),(2,.ptr 2 0),(5,I (o.a:Nat)),(6,I (o.b:Nat)),(7,.ptr 7 0)],[(2,⟨netC bn cap ns.length os,false⟩),(7,⟨Ac a,false⟩)],[],encA (Cf bn ns sp),false⟩) (Ad (.k rfl (.k rfl (.k rfl (.k rfl (.k rfl .nil))))) (.k rfl (.k rfl .nil)) .nil rfl rfl) ?_;refine A2 ?_;cases hc2:cutO (ns.getD o.b frZ) (winF a o.span) with
   | none =>
     have hst:Hz ns o=none:=by unfold Hz;rw [hc1];simp only;rw [hc2]
     refine Aam hA rfl rfl rfl (A:=Cf bn ns sp) (cv:=clashV) rfl ⟨rfl,_,rfl,hst,rfl⟩ ?_;refine Ah 3 rfl (by simp [netC]) (Co (j:=o.b) rfl rfl hlb (Br hA rfl rfl rfl hm (by simp;omega) ?_));rw [Js hlb];refine KrN 2 rfl (I6 (name:= "paravane/fix.span") rfl (fun _=>Pc _ _) (by kernel_rfl) (Qf o) ka ?_);refine A6 rfl rfl kw2 ?_;refine .done ⟨_,_,_,_,_,_,.agg (Ac frZ),rfl,rfl,rfl,c_cutN hc2,Krn rfl (.done ⟨rfl,by kernel_rfl⟩)⟩
   | some b =>
     have hcb:=Jc hc2;refine Dz rfl rfl (A:=Cf bn ns sp) rfl ?_;refine Ah 3 rfl (by simp [netC]) (Co (j:=o.b) rfl rfl hlb (Br hA rfl rfl rfl hm (by simp;omega) ?_));rw [Js hlb];refine KrN 2 rfl (I6 (name:= "paravane/fix.span") rfl (fun _=>Pc _ _) (by kernel_rfl) (Qf o) ka ?_);refine A6 rfl rfl kw2 (A6 rfl rfl (c_cutS hc2) (Krn rfl (.done (KrT ?_))));refine Aa (s':=⟨[(1,sdV o),(2,.ptr 2 0),(5,I (o.a:Nat)),(6,I (o.b:Nat)),(7,.ptr 7 0),(8,.ptr 8 0)],[(2,⟨netC bn cap ns.length os,false⟩),(7,⟨Ac a,false⟩),(8,⟨Ac b,false⟩)],[],encA (Cf bn ns sp),false⟩) (Ad (.k rfl (.k rfl (.k rfl (.k rfl (.k rfl (.k rfl .nil)))))) (.k rfl (.k rfl (.k rfl .nil))) .nil rfl rfl) ?_;have kp:=Ad5 o hca.2.2.2.2 hcb.2.2.2.2;refine A2 (A2 (Ae (Srn rfl (A3 rfl rfl kp (Sfn rfl ?_)))));cases hp:posB o a b with
     | false =>
       have hst:Hz ns o=none:=by unfold Hz;rw [hc1];simp only;rw [hc2];simp only;rw [hp];rfl
       refine A9 rfl (X0 (H9 2 (SrN 1 rfl (X1 (v':=.agg []) Na rfl (fun _=>rfl) ?_))));exact PSteps.panic (y:=.agg #[]) rfl Va ⟨rfl,_,rfl,hst,rfl⟩
     | true =>
       have hst:Hz ns o=some (a,b):=by unfold Hz;rw [hc1];simp only;rw [hc2];simp only;rw [hp];rfl
       refine A7 rfl (A5 ?_);refine Aa (s':=⟨[(2,.ptr 2 0),(5,I (o.a:Nat)),(6,I (o.b:Nat)),(7,.ptr 7 0),(8,.ptr 8 0)],[(2,⟨netC bn cap ns.length os,false⟩),(7,⟨Ac a,false⟩),(8,⟨Ac b,false⟩)],[],encA (Cf bn ns sp),false⟩) (Ad (.k rfl (.k rfl (.k rfl (.k rfl (.k rfl .nil))))) (.k rfl (.k rfl (.k rfl .nil))) .nil rfl rfl) ?_;obtain ⟨FA,hFA⟩:∃F,ns.getD o.a frZ=F:=⟨_,rfl⟩;obtain ⟨FB,hFB⟩:∃F,ns.getD o.b frZ=F:=⟨_,rfl⟩;refine Mm ⟨[(2,.ptr 2 0),(5,I (o.a:Nat)),(6,I (o.b:Nat)),(7,.ptr 7 0),(8,.ptr 8 0),(9,.bool (chgB ns o a b))],[(2,⟨netC bn cap ns.length os,false⟩),(7,⟨Ac a,false⟩),(8,⟨Ac b,false⟩)],[],encA (Cf bn ns sp),false⟩ ?_ ?_
       ·refine Dz rfl rfl (A:=Cf bn ns sp) rfl ?_;refine Ah 4 rfl (by simp [netC]) (Co (j:=o.a) rfl rfl hla (Br hA rfl rfl rfl hm (by simp;omega) ?_));rw [Js hla,hFA];refine KrN 2 rfl ?_;show TraceK _ ⟨[(54,.bool (!eqFr a FA)),(53,.bool (!eqFr a FA)),(52,.agg (Ac FA)),(51,.rptr bn (0+o.a*8)),(50,I (o.a:Nat)),(49,.sref bn 0 ns.length cap),(48,.ptr 2 0),(47,.agg (Ac a)),(2,.ptr 2 0),(5,I (o.a:Nat)),(6,I (o.b:Nat)),(7,.ptr 7 0),(8,.ptr 8 0)],[(2,⟨netC bn cap ns.length os,false⟩),(7,⟨Ac a,false⟩),(8,⟨Ac b,false⟩)],[],encA (Cf bn ns sp),false⟩ _ _;cases h1:eqFr a FA with
        | true =>
          refine Ah 4 rfl (by simp [netC]) (A4w (j:=o.b) rfl rfl rfl rfl hlb (Y6 hA rfl rfl rfl rfl rfl hm (by simp;omega) ?_));rw [Js hlb,hFB];refine Krn rfl (.done (KrT ?_));refine Ad (.k rfl (.k rfl (.k rfl (.k rfl (.k rfl (.cons rfl (VLe.of_eq (congrArg V.bool (show (bif (!true) then true else !eqFr b FB)=chgB ns o a b from ?_))) .nil)))))) (.k rfl (.k rfl (.k rfl .nil))) .nil rfl rfl;unfold chgB;rw [hFA,hFB,h1];rfl
        | false =>
          refine Ah 4 rfl (by simp [netC]) (Gf (.rptr 0 0) rfl rfl (Gf (.agg (Ac frZ)) rfl rfl ?_));refine Krn rfl (.done (KrT ?_));refine Ad (.k rfl (.k rfl (.k rfl (.k rfl (.k rfl (.cons rfl (VLe.of_eq (congrArg V.bool (show (bif (!false) then true else !eqFr b frZ)=chgB ns o a b from ?_))) .nil)))))) (.k rfl (.k rfl (.k rfl .nil))) .nil rfl rfl;unfold chgB;rw [hFA,h1];rfl
       have hnl2:(nsC (ns.set o.a a)).length=ns.length*8:=by rw [W0,List.length_set]
       refine A2 (Tr.drawS hA ?_);refine Ah 8 rfl (by simp [netC]) (Co (j:=o.a) rfl rfl hla ?_);refine .done ⟨_,_,_,_,_,bn,0+o.a*8,nsC ns++sp,Ac a,rfl,rfl,rfl,hm,rfl,by simp;omega,rfl,rfl,.done (KrT ?_)⟩;refine Fi (j:=o.b) rfl rfl hlb ?_;refine A24 hA (cs:=nsC (ns.set o.a a)++sp) rfl rfl ?_ rfl (by simp;omega) rfl rfl (Sfn rfl ?_)
       ·rw [A6z a hla];exact List.mem_map.2 ⟨(bn,Ob.cells (nsC ns++sp)),hm,by simp⟩
       refine TsR rfl (C8 rfl rfl rfl ⟨_,?_,a,b,hst,rfl,rfl⟩);show encA (setA (setA (Cf bn ns sp) bn (.cells (Aq (nsC ns++sp) (0+o.a*8) (Ac a)))) bn (.cells (Aq (nsC (ns.set o.a a)++sp) (0+o.b*8) (Ac b))))=_;rw [A6z b (by rw [List.length_set];exact hlb)];simp [Cf,setA,Fa]
end
section
open Go.Am Go.RowKit
attribute [local simp] cells Af mkv Aq B6 under dem dem1 eB Ac As
def cloneP (A:Arena) (ns:List Fr) (r:V) (B:Arena):Prop:=∃bk cap sp,r=.sref bk 0 ns.length cap∧ns.length≤cap∧bk∉A.map (·.1)∧B=(bk,.cells (nsC ns++sp))::A
theorem Agz {ns:List Fr} (hne:ns≠[]) (hl:ns.length≤1000000):CX Tryz.prog Dl [] [] [.slice 0 8 (ns.map eF)] (cloneP [] ns):=by
 refine Li mixed Di.2 (by simp) fun S ok S1 hA hK hKD=>?_;refine TsR rfl (A2 (A2 (Ae (SrN 1 rfl ?_))));refine Ib rfl fun b hb=>?_;obtain rfl:=hb (by simpa using hne);refine Sfn rfl (A7 rfl (A5 (A2 (Ae ?_))));refine Qt rfl fun b0=>SrN 1 rfl ?_;refine Qv (zs:=[I 0,I 0,I 0,I 0,I 0,I 0,I 0,I 0]) (ys:=ns.map eF) hA rfl rfl (News.slice (by simpa using hne)) (by kernel_rfl) (by omega) (by rw [List.length_map];omega) (by rw [List.length_map];omega) (by simpa using hne) fun bk cap hcap hbk=>?_;refine Sfn rfl (C8 rfl rfl rfl ⟨_,rfl,bk,cap,_,?_,by simpa using hcap,hbk,rfl⟩);rw [List.length_map];rfl
theorem flat8:∀ns:List Fr,((ns.map eF).flatMap cells).length=(ns.map eF).length*8
 | []=>rfl
 | f::ns=>by rw [List.map_cons,List.flatMap_cons,List.length_append,flat8 ns];simp [eF];omega
theorem Ah0 {bn cap0:Nat} {ns:List Fr} {sp:List V} (hne:ns≠[]) (hl:ns.length≤1000000):CX Tryz.prog Dl (Cf bn ns sp) [] [.sref bn 0 ns.length cap0] (cloneP (Cf bn ns sp) ns):=by
 refine Li mixed Di.2 (by simp) fun S ok S1 hA hK hKD=>?_;refine TsR rfl (A2 (A2 (Ae (SrN 1 rfl ?_))));refine Add rfl ?_;refine Sfn rfl (A7 rfl (A5 (A2 (Ae ?_))));refine Qt rfl fun b0=>SrN 1 rfl ?_;have hN:News (env0 Tryz.prog mixed 8 S ok) (Cf bn ns sp) 8 (ns.map eF) (.sref bn 0 (ns.map eF).length cap0):=News.sref hA (List.mem_singleton.2 rfl) (flat8 ns) (by rw [←flat8 ns];exact List.take_left);rw [List.length_map] at hN;refine Qv (zs:=[I 0,I 0,I 0,I 0,I 0,I 0,I 0,I 0]) (ys:=ns.map eF) hA rfl rfl hN (by kernel_rfl) (by omega) (by rw [List.length_map];omega) (by rw [List.length_map];omega) (by simpa using hne) fun bk cap hcap hbk=>?_;refine Sfn rfl (C8 rfl rfl rfl ⟨_,rfl,bk,cap,_,?_,by simpa using hcap,hbk,rfl⟩);rw [List.length_map];rfl
theorem cx_equal {b1 b2 c1 c2:Nat} {ms ns:List Fr} {s1 s2:List V} (hlen:ms.length=ns.length) (hl:ns.length≤1000000):CX Tryz.prog Dk [(b1,.cells (nsC ms++s1)),(b2,.cells (nsC ns++s2))] [] [.sref b1 0 ns.length c1,.sref b2 0 ns.length c2] (fun r B=>(∃b,r=.bool b)∧B=[(b1,.cells (nsC ms++s1)),(b2,.cells (nsC ns++s2))]):=by
 have hm1:(b1,Ob.cells (nsC ms++s1))∈([(b1,.cells (nsC ms++s1)),(b2,.cells (nsC ns++s2))]:Arena):=by simp
 have hm2:(b2,Ob.cells (nsC ns++s2))∈([(b1,.cells (nsC ms++s1)),(b2,.cells (nsC ns++s2))]:Arena):=by simp
 have l1:=W0 ms;have l2:=W0 ns;refine Li mixed Fq.2 (by simp) fun S ok S1 hA hK hKD=>?_;refine TsR rfl (A2 (A2 (Ae (SrN 1 rfl (Ne rfl (SrN 1 rfl (Ne rfl (Sfn rfl ?_))))))));refine A7 (congrArg (fun b=>some (V.bool b)) (show ((ns.length:Int) != (ns.length:Int))=false by simp)) (A5 ?_);refine A2 (A2 (Ae (SrN 1 rfl (Ne rfl (Sfn rfl ?_)))));refine A4 ?_;refine Bc (fun (k:Nat) st=>k≤ns.length∧st=⟨[(0,.sref b1 0 ns.length c1),(1,.sref b2 0 ns.length c2),(12,I (ns.length:Nat)),(13,I (k:Nat))],[],[],encA [(b1,.cells (nsC ms++s1)),(b2,.cells (nsC ns++s2))],false⟩) (fun k=>ns.length-k) 0 (Ad (.k rfl (.k rfl (.k rfl (.k rfl .nil)))) .nil .nil rfl rfl) ⟨by omega,rfl⟩ ?_;rintro k st ⟨hk,rfl⟩;refine TsR rfl (By rfl (fun h2=>?_) (fun h2=>?_));rotate_left
 ·refine Ak (TsR rfl (C8 rfl rfl rfl ⟨_,rfl,⟨_,rfl⟩,rfl⟩))
 have h2:k<ns.length:=by
  have:decide ((k:Int)<(ns.length:Int))=true:=h2;have:=of_decide_eq_true this;omega
 refine Bg (A2 (A4 (TsR rfl (A2 ?_))));refine Dz rfl rfl (A:=[(b1,.cells (nsC ms++s1)),(b2,.cells (nsC ns++s2))]) rfl ?_;refine KrN 2 rfl (Co (j:=k) rfl rfl h2 (Br hA rfl rfl rfl hm1 (by simp;omega) ?_));rw [Js (by omega)];refine KrN 2 rfl (Co (j:=k) rfl rfl h2 (Br hA rfl rfl rfl hm2 (by simp;omega) ?_));rw [Js (by omega)];refine Krn rfl (.done (KrT ?_));refine An rfl rfl (fun h3=>?_) (fun h3=>?_)
 ·refine TsR rfl (C8 rfl rfl rfl ⟨_,rfl,⟨_,rfl⟩,rfl⟩)
 ·refine A5 (TrR rfl ?_);exact ⟨k+1,_,Ad (.k rfl (.k rfl (.k rfl (.cons rfl (VLe.i (w64 (by omega) (by omega))) .nil)))) .nil .nil rfl rfl,⟨by omega,rfl⟩,by omega⟩
end
section
open Go.Am Go.RowKit
attribute [local simp] cells Af mkv Aq B6 under dem dem1 eB Ac As
theorem c_index0 (i:Int):C Tryz.prog Lt [.nils,I i] (I (-1)):=by
 refine C_of mixed Lo.2 (by simp) fun S ok=>?_;refine TsR rfl (A2 (TsR rfl (A4 ?_)));refine Bd 1 (Ag ?_);refine TsR rfl (A2 (A7 rfl (Ak ?_)));exact TsR rfl (A8 rfl rfl rfl rfl trivial)
theorem A7t (i:Int):C Tryz.prog Jx [.nils,I i] (.bool false):=by
 refine C_of mixed Jp.2 (by simp) fun S ok=>?_;refine TsR rfl (TsC rfl (A3 rfl rfl (c_index0 i) (Sfn rfl ?_)));exact A8 rfl rfl rfl rfl trivial
theorem ca_used {bo:Nat} (i:Int):CA Tryz.prog J1 [(bo,.cells [.nils])] [] [I i,.rptr bo 0] (.bool true) [(bo,.cells [.nils])]:=by
 refine CA_of mixed Oh.2 (by simp) fun S ok S1 hA hK=>?_;refine TsR rfl (A2 (Ae (Bz hA rfl rfl (List.mem_singleton.2 rfl) rfl (SrN 1 rfl (A3 rfl rfl (A7t i) (Sfn rfl ?_))))));exact A8 rfl rfl rfl rfl rfl
def Y9 (bo:Nat) (m:Nat) (B:Arena):Prop:=∃(xs:List Int) (v:V),xs.length=m∧(bo,Ob.cells [v])∈B∧OwnS B 1 (xs.map I) v∧offS v bo
theorem Abu {bo:Nat} {xs:List Int} {B:Arena} {v w:V} (h1:(bo,Ob.cells [w])∈B) (h2:OwnS B 1 (xs.map I) v) (h3:offS v bo):Y9 bo xs.length (setA B bo (.cells [v])):=by
 refine ⟨xs,v,rfl,I2 h1,?_,h3⟩;rcases h2 with h2 | ⟨blk,cap,cs,rfl,a1,a2,a3,a4⟩
 ·exact .inl h2
 ·exact .inr ⟨blk,cap,cs,rfl,Ir a1 (fun e=>h3 _ _ _ _ rfl e.symm),a2,a3,a4⟩
theorem A9k {B:Arena} {xs:List V} {v:V} (h:OwnS B 1 xs v):isD v=true∧Af v=true:=by
 rcases h with ⟨_,rfl⟩ | ⟨_,_,_,rfl,_⟩<;>exact ⟨rfl,rfl⟩
theorem Agv {bo m:Nat} {A:Arena} (i:Int) (hA0:Y9 bo m A) (hm:m≤2^40):CX Tryz.prog J0 A [] [I i,.rptr bo 0] (fun r B=>r=.tuple []∧Y9 bo (m+1) B):=by
 obtain ⟨xs,v,hxl,hmo,hO,hoff⟩:=hA0;refine Li mixed Og.2 (by simp) fun S ok S1 hA hK hKD=>?_;refine Ae (Bz hA rfl rfl hmo rfl ?_);refine Pd (s':=⟨[(0,I i),(1,.rptr bo 0),(3,v)],[],[],encA A,false⟩) (Ad (.k rfl (.k rfl (.k rfl .nil))) .nil .nil (by simp only [E4,List.all_cons,A3o hO];rfl) rfl) ?_;refine SrN 2 rfl ?_;refine Mp (A:=A) (v:=v) (xs:=xs.map I) (ys:=[I i]) (zs:=[I 0]) hA rfl rfl hO (by kernel_rfl) (by omega) (by simp only [List.length_cons,List.length_nil,List.length_map];omega) (by simp only [List.length_cons,List.length_nil,List.length_map];omega) (by simp) fun v' A' hO' hkeep=>?_;obtain ⟨d1,d2⟩:=A9k hO';obtain ⟨k1,k2⟩:=hkeep _ hmo hoff;have hO2:OwnS A' 1 ((xs++[i]).map I) v':=by rw [List.map_append];exact hO'
 have hq:=Abu (v:=v') k1 hO2 k2;rw [List.length_append,hxl] at hq;refine Bx hA rfl rfl k1 (by simp) d1 d2 (Sfn rfl ?_);exact ⟨_,⟨_,rfl,rfl,hq⟩,_,_,_,Ck rfl,rfl,rfl⟩
end
section
open Go.Am Go.RowKit
attribute [local simp] cells Af mkv Aq B6 under dem dem1 eB Ac As
def A15 (b3 b8 b6 bn cap n:Nat) (os:List Sd) (o:Sd) (c:Bool) (ns:List Fr) (sp:List V):Arena:=[(b3,.cells (netC bn cap n os)),(b8,.cells [sdV o]),(b6,.cells [.bool c])]++Cf bn ns sp
theorem Acu {b3 b8 b6 bn cap:Nat} {os:List Sd} {o:Sd} {c:Bool} {ns:List Fr} {sp:List V} (n1:b3≠b6) (n2:b8≠b6) (n3:bn≠b6) (ho:o.ok ns.length) (hns:∀i<ns.length,Bh (ns.getD i frZ)=true) :
  CP Tryz.prog Jj (A15 b3 b8 b6 bn cap ns.length os o c ns sp) [] [.rptr b3 0,.rptr b8 0,.rptr b6 0] (fun _ B=>∃a b,Hz ns o=some (a,b)∧B=A15 b3 b8 b6 bn cap ns.length os o (c||chgB ns o a b) (Fa ns o a b) sp) clashV (fun B=>Hz ns o=none∧B=A15 b3 b8 b6 bn cap ns.length os o c ns sp):=by
 have ks:=cp_step (bn:=bn) (cap:=cap) (sp:=sp) (os:=os) ho hns;refine Aid mixed Pz.2 (by simp) fun S ok S1 hA hK hKD=>?_;refine A2 (X0 (H9 2 (Tq hA rfl rfl (show (b3,Ob.cells (netC bn cap ns.length os))∈A15 b3 b8 b6 bn cap ns.length os o c ns sp by simp [A15]) (by simp [netC]) (Bz hA rfl rfl (show (b8,Ob.cells [sdV o])∈A15 b3 b8 b6 bn cap ns.length os o c ns sp by simp [A15]) rfl ?_))));refine Tt hA (F:=[(b3,.cells (netC bn cap ns.length os)),(b8,.cells [sdV o]),(b6,.cells [.bool c])]) rfl rfl rfl ks (.inl (by simp)) (fun r B hΦ=>?_) (fun B hΨ=>?_)
 ·obtain ⟨a,b,hst,rfl,rfl⟩:=hΦ;show Tr _ _ _ _ _;cases hch:chgB ns o a b with
  | true =>
    refine A9 rfl (Ae ?_);refine Bx hA rfl rfl (show (b6,Ob.cells [.bool c])∈[(b3,Ob.cells (netC bn cap ns.length os)),(b8,.cells [sdV o]),(b6,.cells [.bool c])]++Cf bn (Fa ns o a b) sp by simp) (by simp) rfl rfl (Sfn rfl ?_);refine ⟨_,⟨_,rfl,a,b,hst,?_⟩,_,_,_,Ck rfl,rfl,rfl⟩;simp [A15,setA,Cf,n1,n2,n3,hch]
  | false =>
    refine A7 rfl (A5 ?_);refine ⟨_,⟨_,rfl,a,b,hst,?_⟩,_,_,_,Ck rfl,rfl,rfl⟩;simp [A15,hch]
 ·obtain ⟨hst,rfl⟩:=hΨ;exact ⟨rfl,_,rfl,hst,rfl⟩
end
section
open Go.Am Go.RowKit
attribute [local simp] cells Af mkv Aq B6 under dem dem1 eB Ac As
def Lv (bo:Nat):V:=.func (.func J1) [] [.rptr bo 0]
def Mb (bn:Nat):V:=.func (.func J0) [] [.rptr bn 0]
def outG (bo:Nat):Arena:=[(bo,.cells [.nils])]
def netG (b3 bn cap n:Nat) (os:List Sd):Arena:=[(b3,.cells (netC bn cap n os))]
def chgG (b6:Nat) (c:Bool):Arena:=[(b6,.cells [.bool c])]
theorem Aef {ns:List Fr} {o:Sd} {a b:Fr}:(Fa ns o a b).length=ns.length:=by unfold Fa;rw [List.length_set,List.length_set]
def narB (bn bo bt:Nat) (sp:List V) (P:List Fr→Prop) (B:Arena):Prop:=∃ns m NA,P ns∧Y9 bt m NA∧B=Cf bn ns sp++(outG bo++NA)
theorem Aea:∀l:List Fr,(∀f∈l,Bh f=true)→sumW l≤l.length*400000
 | [],_=>Int.le_refl _
 | f::l,h=>by
   have ih:=Aea l fun g hg=>h g (by simp [hg]);have h1:=h f (by simp);rw [Cw] at h1;unfold fitF fitB at h1;simp only [sumW,wdF,List.length_cons]
   push_cast
   omega
theorem A1e {ns0 ns:List Fr} {os:List Sd} (h:InvN ns0 os ns):∀f∈ns,Bh f=true:=fun f hf=>by
 obtain ⟨i,hi,rfl⟩:=List.mem_iff_getElem.1 hf;have:=h.fit i (by rw [←h.len];exact hi)
 rwa [List.getD_eq_getElem?_getD,List.getElem?_eq_getElem hi] at this
theorem Zk {a b:Fr} (h:(!eqFr a b)=true):a≠b:=fun e=>by
 rw [eqFr_iff.2 e] at h;cases h
theorem Ul {A:Arena} {b:Nat} {o o':Ob} (h:b∉A.map (·.1)):setA ((b,o)::A) b o'=(b,o')::A:=by
 unfold setA;rw [List.map_cons,if_pos rfl];congr 1;have e:A.map (fun p=>if p.1=b then (b,o') else p)=A.map id:=List.map_congr_left fun p hp=>by
  rw [if_neg (fun e=>h (List.mem_map.2 ⟨p,hp,e⟩))];rfl
 rw [e,List.map_id]
def sdG (b8:Nat) (o:Sd):Arena:=[(b8,.cells [sdV o])]
def Y1 (bk:Nat) (ns:List Fr) (sp:List V):Arena:=[(bk,.cells (nsC ns++sp))]
theorem A7j {b3 b8 b6 bn cap:Nat} {os:List Sd} {o:Sd} {c:Bool} {ns:List Fr} {sp:List V} (n1:b3≠b6) (n2:b8≠b6) (n3:bn≠b6) (ho:o.ok ns.length) (hns:∀i<ns.length,Bh (ns.getD i frZ)=true) :
  CP Tryz.prog Jj (netG b3 bn cap ns.length os++(sdG b8 o++(chgG b6 c++Cf bn ns sp))) [] [.rptr b3 0,.rptr b8 0,.rptr b6 0] (fun _ B=>∃a b,Hz ns o=some (a,b)∧B=netG b3 bn cap ns.length os++(sdG b8 o++(chgG b6 (c||chgB ns o a b)++Cf bn (Fa ns o a b) sp))) clashV (fun B=>Hz ns o=none∧B=netG b3 bn cap ns.length os++(sdG b8 o++(chgG b6 c++Cf bn ns sp))) :=
 Acu n1 n2 n3 ho hns
theorem Ah2 {bn cap bo bt m0:Nat} {os:List Sd} {ns0:List Fr} {sp:List V} {NA0:Arena} {J:List Fr→Prop} (hos0:os≠[]) (hJ:∀ns,InvN ns0 os ns→∀o∈os,∀a b,Hz ns o=some (a,b)→J (Fa ns o a b)) (hne:ns0≠[]) (hlen:ns0.length≤8) (hol:os.length≤12) (hos:∀o∈os,o.ok ns0.length) (hinv:InvN ns0 os ns0) (hN:Y9 bt m0 NA0) (hm0:m0≤1000) :
  CP Tryz.prog Ui (Cf bn ns0 sp++(outG bo++NA0)) [] [.agg (netC bn cap ns0.length os),Lv bo,Mb bt] (fun _ B=>narB bn bo bt sp (fun ns=>InvN ns0 os ns∧J ns) B) clashV (narB bn bo bt sp fun ns=>ns.length=ns0.length∧∀l,¬FitL ns0 os l):=by
 have hsd:(os.map sdV).length=os.length:=List.length_map _;have hW1:=Aea ns0 (A1e hinv);have hW0:=V8 ns0 (A1e hinv);obtain ⟨W,hW⟩:∃W,sumW ns0=W:=⟨_,rfl⟩;rw [hW] at hW1 hW0;have hW2:W≤3200000:=by omega
 refine Aid mixed U3.2 (by simp) fun S ok S1 hA hK hKD=>?_;refine A2 (Ae (Sv hA (v:=.agg (netC bn cap ns0.length os)) rfl rfl rfl rfl fun b3 hb3=>Sfn rfl ?_));refine A2 (Ae (E0 hA rfl fun b6 hb6=>Bx hA rfl rfl (List.mem_cons_self) (by simp) rfl rfl (Sfn rfl ?_)));have e0:=Ul (o:=.cells [.bool false]) (o':=.cells [.bool true]) hb6;refine Aa (s':=⟨[(1,Lv bo),(2,Mb bt),(3,.rptr b3 0),(6,.rptr b6 0)],[],[],encA (chgG b6 true++(netG b3 bn cap ns0.length os++(Cf bn ns0 sp++(outG bo++NA0)))),false⟩) (Wk.trans (Ad (.k rfl (.k rfl (.k rfl (.k rfl .nil)))) .nil .nil rfl rfl) (Ju hA rfl (List.Perm.of_eq e0))) ?_;clear e0 hb6 hb3;refine A4 ?_;refine Bc (α:=List Fr×Bool) (fun p st=>(InvN ns0 os p.1∧(p.2=false→J p.1))∧∃m NA b6,Y9 bt m NA∧m+12*(sumW p.1).toNat≤12*W.toNat+m0+12∧(p.2=true→m+12*(sumW p.1).toNat≤12*W.toNat+m0) ∧
   st=⟨[(1,Lv bo),(2,Mb bt),(3,.rptr b3 0),(6,.rptr b6 0)],[],[],encA (chgG b6 p.2++(netG b3 bn cap ns0.length os++(Cf bn p.1 sp++(outG bo++NA)))),false⟩) (fun p=>2*(sumW p.1).toNat+(if p.2 then 1 else 0)) (ns0,true) (Wk.refl _) ⟨⟨hinv,fun e=>(by cases e)⟩,m0,NA0,b6,hN,by rw [hW];omega,fun _=>by rw [hW];omega,rfl⟩ ?_
 clear hN b6;rintro ⟨ns,c⟩ st ⟨⟨hI,hJc⟩,m,NA,b6,hN,hmb,hmc,rfl⟩;simp only at hI hJc hmb hmc;have hnsl:=hI.len;have hnn:=V8 ns (A1e hI);refine A2 (A2 (Ae (Bz hA rfl rfl (show (b6,Ob.cells [.bool c])∈_ by simp [chgG]) rfl (Sfn rfl ?_))));cases c with
 | false =>
   refine Aa (Wk.sub hA (B:=Cf bn ns sp++(outG bo++NA)) (D:=chgG b6 false++netG b3 bn cap ns0.length os) rfl (by classical exact List.perm_iff_count.2 fun x=>by simp only [List.count_append];omega)) (A7 rfl (Ak ?_));exact ⟨_,⟨_,rfl,ns,m,NA,⟨hI,hJc rfl⟩,hN,rfl⟩,_,_,_,Ck rfl,rfl,rfl⟩
 | true =>
 have hmc:=hmc rfl;refine A9 rfl (A5 (Adc hA rfl fun hnd=>?_));have h6:b6∉(netG b3 bn cap ns0.length os++(Cf bn ns sp++(outG bo++NA))).map (·.1):=by
  simp only [chgG,List.cons_append,List.nil_append,List.map_cons,List.nodup_cons] at hnd;exact hnd.1
 clear hnd;refine A2 (A4 (A2 (Ae (Bx hA rfl rfl (show (b6,Ob.cells [.bool true])∈_ by simp [chgG]) (by simp) rfl rfl (Sfn rfl ?_)))));have e1:=Ul (o:=.cells [.bool true]) (o':=.cells [.bool false]) h6;refine Aa (s':=⟨[(1,Lv bo),(2,Mb bt),(3,.rptr b3 0),(6,.rptr b6 0)],[],[],encA (chgG b6 false++(netG b3 bn cap ns0.length os++(Cf bn ns sp++(outG bo++NA)))),false⟩) (Wk.trans (Ad (.k rfl (.k rfl (.k rfl (.k rfl .nil)))) .nil .nil rfl rfl) (Ju hA rfl (List.Perm.of_eq e1))) ?_;clear e1 h6;refine A2 (Ae (Hg rfl (Bz hA rfl rfl (show (b3,Ob.cells (netC bn cap ns0.length os))∈_ by simp [netG]) rfl (Sfn rfl ?_))));refine A4 ?_;refine Bc (fun (j:Nat) st=>j≤os.length∧∃ns' c' m' NA',(InvN ns0 os ns'∧(0<j→J ns'))∧Y9 bt m' NA'∧m'≤m+j∧(c'=true→sumW ns'<sumW ns)∧sumW ns'≤sumW ns ∧
   st=⟨[(1,Lv bo),(2,Mb bt),(3,.rptr b3 0),(6,.rptr b6 0),(12,.slice 0 1 (os.map sdV)),(13,I (os.length:Nat)),(14,I (j:Nat))],[],[],encA (chgG b6 c'++(netG b3 bn cap ns0.length os++(Cf bn ns' sp++(outG bo++NA')))),false⟩) (fun j=>os.length-j) 0
  (Ad (.k rfl (.k rfl (.k rfl (.k rfl (.k rfl (.cons rfl (VLe.i (by rw [hsd])) (.k rfl .nil))))))) .nil .nil rfl rfl) ⟨by omega,ns,false,m,NA,⟨hI,fun e=>absurd e (by omega)⟩,hN,by omega,fun e=>(by cases e),by omega,rfl⟩ ?_
 rintro j st ⟨hj,ns',c',m',NA',⟨hI',hJ'⟩,hN',hm',hc',hle',rfl⟩;have hnsl':=hI'.len;have hnn':=V8 ns' (A1e hI');refine TsR rfl (By rfl (fun h2=>?_) (fun h2=>?_));rotate_left
 ·
  have h2:j=os.length:=by
   have:decide ((j:Int)<(os.length:Int))=false:=h2;have:=of_decide_eq_false this;omega
  subst h2;refine Ak ?_;refine A2 (Ae (Bz hA rfl rfl (show (b6,Ob.cells [.bool c'])∈_ by simp [chgG]) rfl (Sfn rfl ?_)));refine Ae (E0 hA rfl fun b6' hb6'=>Bx hA rfl rfl (List.mem_cons_self) (by simp) rfl rfl (Sfn rfl ?_));have e2:=Ul (o:=.cells [.bool false]) (o':=.cells [.bool c']) hb6';refine ⟨(ns',c'),⟨[(1,Lv bo),(2,Mb bt),(3,.rptr b3 0),(6,.rptr b6' 0)],[],[],encA (chgG b6' c'++(netG b3 bn cap ns0.length os++(Cf bn ns' sp++(outG bo++NA')))),false⟩,?_,⟨⟨hI',fun _=>hJ' (List.length_pos_iff.2 hos0)⟩,m',NA',b6',hN',by simp only;omega,fun e=>?_,rfl⟩,?_⟩
  ·refine Wk.trans (t:=⟨[(1,Lv bo),(2,Mb bt),(3,.rptr b3 0),(6,.rptr b6' 0)],[],[],encA (setA ((b6',.cells [.bool false])::(chgG b6 c'++(netG b3 bn cap ns0.length os++(Cf bn ns' sp++(outG bo++NA'))))) b6' (.cells [.bool c'])),false⟩) (Ad (.k rfl (.k rfl (.k rfl (.k rfl .nil)))) .nil .nil rfl rfl) ?_;refine Wk.trans (Ju hA rfl (List.Perm.of_eq e2)) (Wk.sub hA (D:=chgG b6 c') rfl ?_);show (chgG b6' c'++(chgG b6 c'++(netG b3 bn cap ns0.length os++(Cf bn ns' sp++(outG bo++NA'))))).Perm _;exact (by classical exact List.perm_iff_count.2 fun x=>by simp only [List.count_append];omega)
  ·have:=hc' e;simp only;omega
  ·simp only;cases c' with
   | true=>have:=hc' rfl;simp;omega
   | false=>simp;omega
 have h2:j<os.length:=by
  have:decide ((j:Int)<(os.length:Int))=true:=h2;have:=of_decide_eq_true this;omega
 obtain ⟨o,hoj⟩:∃o,os[j]=o:=⟨_,rfl⟩;have hmo:o∈os:=hoj▸List.getElem_mem h2;have ho:=hos o hmo;have ho':o.ok ns'.length:=by rw [hnsl'];exact ho
 have hne':ns'≠[]:=fun e=>by rw [e] at hnsl';have:=List.length_pos_iff.2 hne;simp at hnsl';omega
 have hfit':∀i<ns'.length,Bh (ns'.getD i frZ)=true:=fun i hi=>hI'.fit i (by rw [←hnsl'];exact hi);refine Bg (A2 (A4 (A2 (Ae (Az 2 rfl (by simp;omega) ?_)))));rw [Aj h2,hoj];refine Az 1 rfl (by simp [sdV]) ?_;refine E0 hA rfl fun b8 hb8=>SrN 1 rfl (I7 hA rfl rfl (List.mem_cons_self) (by simp) rfl rfl (Sfn rfl ?_));have e3:=Ul (o:=.cells [.nili]) (o':=.cells [sdV o]) hb8;refine Aa (s':=⟨[(1,Lv bo),(2,Mb bt),(3,.rptr b3 0),(6,.rptr b6 0),(7,I (j:Nat)),(8,.rptr b8 0),(12,.slice 0 1 (os.map sdV)),(13,I (os.length:Nat)),(14,I (j:Nat))],[],[],encA ((sdG b8 o++(chgG b6 c'++(netG b3 bn cap ns0.length os++(Cf bn ns' sp++NA'))))++outG bo),false⟩) (Wk.trans (Ad (.k rfl (.k rfl (.k rfl (.k rfl (.k rfl (.k rfl (.k rfl (.k rfl (.k rfl .nil))))))))) .nil .nil rfl rfl) (Wk.trans (Ju hA rfl (List.Perm.of_eq e3)) (Ju hA (A:=sdG b8 o++(chgG b6 c'++(netG b3 bn cap ns0.length os++(Cf bn ns' sp++(outG bo++NA'))))) rfl (by classical exact List.perm_iff_count.2 fun x=>by simp only [List.count_append];omega)))) ?_;clear e3 hb8;refine A2 (A2 (Ae (SrN 2 rfl (A55 hA rfl rfl rfl (ca_used (j:Nat)) (.inl (by simp)) (Sfn rfl (A7 rfl (A5 ?_)))))));refine Aa (s':=⟨[(1,Lv bo),(2,Mb bt),(3,.rptr b3 0),(6,.rptr b6 0),(7,I (j:Nat)),(8,.rptr b8 0),(12,.slice 0 1 (os.map sdV)),(13,I (os.length:Nat)),(14,I (j:Nat))],[],[],encA ((sdG b8 o++(chgG b6 c'++(netG b3 bn cap ns0.length os++(outG bo++NA'))))++Cf bn ns' sp),false⟩) (Wk.trans (Ad (.k rfl (.k rfl (.k rfl (.k rfl (.k rfl (.k rfl (.k rfl (.k rfl (.k rfl .nil))))))))) .nil .nil rfl rfl) (Ju hA (A:=(sdG b8 o++(chgG b6 c'++(netG b3 bn cap ns0.length os++(Cf bn ns' sp++NA'))))++outG bo) rfl (by classical exact List.perm_iff_count.2 fun x=>by simp only [List.count_append];omega))) ?_;have kcl:=Ah0 (bn:=bn) (cap0:=cap) (sp:=sp) hne' (by omega);rw [hnsl'] at kcl;refine A2 (Ae (Hg rfl (Bz hA rfl rfl (show (b3,Ob.cells (netC bn cap ns0.length os))∈_ by simp [netG]) rfl (Bf hA rfl rfl rfl kcl (.inl (by simp)) fun r B hΦ=>?_))));obtain ⟨bk,capk,spk,rfl,_,hbk,rfl⟩:=hΦ;refine Sfn rfl ?_;refine Aa (s':=⟨[(1,Lv bo),(2,Mb bt),(3,.rptr b3 0),(6,.rptr b6 0),(7,I (j:Nat)),(8,.rptr b8 0),(9,.sref bk 0 ns'.length capk),(12,.slice 0 1 (os.map sdV)),(13,I (os.length:Nat)),(14,I (j:Nat))],[],[],encA ((outG bo++(NA'++Y1 bk ns' spk))++(netG b3 bn cap ns0.length os++(sdG b8 o++(chgG b6 c'++Cf bn ns' sp)))),false⟩) (Wk.trans (Ad (.k rfl (.k rfl (.k rfl (.k rfl (.k rfl (.k rfl (.k rfl (.k rfl (.k rfl (.k rfl .nil)))))))))) .nil .nil rfl rfl) (Ju hA (A:=(sdG b8 o++(chgG b6 c'++(netG b3 bn cap ns0.length os++(outG bo++NA'))))++(Y1 bk ns' spk++Cf bn ns' sp)) rfl (by classical exact List.perm_iff_count.2 fun x=>by simp only [List.count_append];omega))) ?_;refine Adc hA rfl fun hnd=>?_;have hd6:b3≠b6∧b8≠b6∧bn≠b6:=by
  rw [List.map_append,List.nodup_append] at hnd;have h:=hnd.2.1;simp only [netG,sdG,chgG,Cf,List.cons_append,List.nil_append,List.map_cons,List.map_nil,List.nodup_cons,List.mem_cons,List.not_mem_nil,or_false,not_or] at h;exact ⟨h.1.2.1,h.2.1.1,fun e=>h.2.2.1 e.symm⟩
 clear hnd;have kst:=A7j (b3:=b3) (b8:=b8) (b6:=b6) (bn:=bn) (cap:=cap) (os:=os) (o:=o) (c:=c') (ns:=ns') (sp:=sp) hd6.1 hd6.2.1 hd6.2.2 ho' hfit';rw [hnsl'] at kst;refine A2 (A2 (Ae (SrN 1 rfl (Bf hA rfl rfl rfl (A4d kst) (.inl (by simp)) fun r B hΦ=>?_))));refine Sfn rfl ?_;rcases hΦ with ⟨rfl,_,a,b,hst,rfl⟩ | ⟨rfl,hst,rfl⟩;rotate_left
 ·
  have hno:=Afr hI' hmo ho hst;refine A9 rfl ?_;refine Aa (s':=⟨[(1,Lv bo),(2,Mb bt),(7,I (j:Nat))],[],[],encA ((Cf bn ns' sp++outG bo)++NA'),false⟩) (Wk.trans (Ad (.k rfl (.k rfl (.k rfl .nil))) .nil .nil rfl rfl) (Wk.sub hA (A:=(outG bo++(NA'++Y1 bk ns' spk))++(netG b3 bn cap ns0.length os++(sdG b8 o++(chgG b6 c'++Cf bn ns' sp)))) (D:=Y1 bk ns' spk++(netG b3 bn cap ns0.length os++(sdG b8 o++chgG b6 c'))) rfl (by classical exact List.perm_iff_count.2 fun x=>by simp only [List.count_append];omega))) ?_;refine A2 (Ae (SrN 2 rfl (Jf hA rfl rfl rfl (Uy (Agv (j:Nat) hN' (by omega))) (.inl (by simp)) fun B hB=>Sfn rfl ?_)));refine X0 (H9 2 (SrN 1 rfl (X1 (v':=.agg []) Na rfl (fun _=>rfl) ?_)));refine PSteps.panic (y:=.agg #[]) rfl Va ⟨rfl,_,rfl,ns',m'+1,B,⟨hnsl',hno⟩,hB,?_⟩;rw [List.append_assoc]
 have hIs:=inv_step hI' hmo ho hst;have hsw:=Ae9 hI' ho hst;have hlen2:(Fa ns' o a b).length=ns'.length:=Aef;have hchg:chgB ns' o a b=true→sumW (Fa ns' o a b)<sumW ns':=fun h=>by
  refine hsw.2.1 ?_;unfold chgB at h;rw [Bool.or_eq_true] at h;rcases h with h | h
  ·exact .inl (Zk h)
  ·exact .inr (Zk h)
 refine A7 rfl (A5 ?_);refine Aa (s':=⟨[(1,Lv bo),(2,Mb bt),(3,.rptr b3 0),(6,.rptr b6 0),(7,I (j:Nat)),(9,.sref bk 0 ns'.length capk),(12,.slice 0 1 (os.map sdV)),(13,I (os.length:Nat)),(14,I (j:Nat))],[],[],encA ((chgG b6 (c'||chgB ns' o a b)++(netG b3 bn cap ns0.length os++(outG bo++NA')))++(Y1 bk ns' spk++Cf bn (Fa ns' o a b) sp)),false⟩) (Wk.trans (Ad (.k rfl (.k rfl (.k rfl (.k rfl (.k rfl (.k rfl (.k rfl (.k rfl (.k rfl .nil))))))))) .nil .nil rfl rfl) (Wk.sub hA (A:=(outG bo++(NA'++Y1 bk ns' spk))++(netG b3 bn cap ns0.length os++(sdG b8 o++(chgG b6 (c'||chgB ns' o a b)++Cf bn (Fa ns' o a b) sp)))) (D:=sdG b8 o) rfl (by classical exact List.perm_iff_count.2 fun x=>by simp only [List.count_append];omega))) ?_;have keq:=cx_equal (b1:=bk) (b2:=bn) (c1:=capk) (c2:=cap) (s1:=spk) (s2:=sp) (ms:=ns') (ns:=Fa ns' o a b) hlen2.symm (by omega);rw [hlen2] at keq;have keq3:CX Tryz.prog Dk [(bk,.cells (nsC ns'++spk)),(bn,.cells (nsC (Fa ns' o a b)++sp))] [] [.sref bk 0 ns'.length capk,.sref bn 0 ns0.length cap] (fun r B=>(∃b,r=.bool b)∧B=[(bk,.cells (nsC ns'++spk)),(bn,.cells (nsC (Fa ns' o a b)++sp))]):=by
  rw [hnsl'] at keq ⊢;exact keq
 refine A2 (Ae (SrN 1 rfl (Hg rfl (Bz hA rfl rfl (show (b3,Ob.cells (netC bn cap ns0.length os))∈_ by simp [netG]) rfl (Bf hA rfl rfl rfl keq3 (.inl (by simp)) fun r B hΦ=>?_)))));obtain ⟨⟨eq,rfl⟩,rfl⟩:=hΦ;refine Sfn rfl ?_;have hc2:(c'||chgB ns' o a b)=true→sumW (Fa ns' o a b)<sumW ns:=fun h=>by
  rw [Bool.or_eq_true] at h;rcases h with h | h
  ·have:=hc' h;omega
  ·have:=hchg h;omega
 have hw:VLe (I (IntKind.wrap .i64 ((j:Int)+1))) (I ((j+1:Nat):Int)):=VLe.i (w64 (by omega) (by omega));cases eq with
 | true =>
   refine A7 rfl (A5 (TrR rfl ?_));refine ⟨j+1,⟨[(1,Lv bo),(2,Mb bt),(3,.rptr b3 0),(6,.rptr b6 0),(12,.slice 0 1 (os.map sdV)),(13,I (os.length:Nat)),(14,I ((j+1:Nat):Int))],[],[],encA (chgG b6 (c'||chgB ns' o a b)++(netG b3 bn cap ns0.length os++(Cf bn (Fa ns' o a b) sp++(outG bo++NA')))),false⟩,?_,⟨h2,Fa ns' o a b,_,m',NA',⟨hIs,fun _=>hJ ns' hI' o hmo a b hst⟩,hN',by omega,hc2,by omega,rfl⟩,by omega⟩;exact Wk.trans (t:=⟨[(1,Lv bo),(2,Mb bt),(3,.rptr b3 0),(6,.rptr b6 0),(12,.slice 0 1 (os.map sdV)),(13,I (os.length:Nat)),(14,I ((j+1:Nat):Int))],[],[],encA ((chgG b6 (c'||chgB ns' o a b)++(netG b3 bn cap ns0.length os++(outG bo++NA')))++(Y1 bk ns' spk++Cf bn (Fa ns' o a b) sp)),false⟩) (Ad (.k rfl (.k rfl (.k rfl (.k rfl (.k rfl (.k rfl (.cons rfl hw .nil))))))) .nil .nil rfl rfl) (Wk.sub hA (D:=Y1 bk ns' spk) rfl (by classical exact List.perm_iff_count.2 fun x=>by simp only [List.count_append];omega))
 | false =>
   refine A9 rfl ?_;refine Aa (s':=⟨[(1,Lv bo),(2,Mb bt),(3,.rptr b3 0),(6,.rptr b6 0),(7,I (j:Nat)),(12,.slice 0 1 (os.map sdV)),(13,I (os.length:Nat)),(14,I (j:Nat))],[],[],encA ((chgG b6 (c'||chgB ns' o a b)++(netG b3 bn cap ns0.length os++(Cf bn (Fa ns' o a b) sp++outG bo)))++NA'),false⟩) (Wk.trans (Ad (.k rfl (.k rfl (.k rfl (.k rfl (.k rfl (.k rfl (.k rfl (.k rfl .nil)))))))) .nil .nil rfl rfl) (Wk.sub hA (A:=(chgG b6 (c'||chgB ns' o a b)++(netG b3 bn cap ns0.length os++(outG bo++NA')))++(Y1 bk ns' spk++Cf bn (Fa ns' o a b) sp)) (D:=Y1 bk ns' spk) rfl (by classical exact List.perm_iff_count.2 fun x=>by simp only [List.count_append];omega))) ?_;refine Ae (SrN 2 rfl (Jf hA rfl rfl rfl (Uy (Agv (j:Nat) hN' (by omega))) (.inl (by simp)) fun B hB=>Sfn rfl ?_));refine TrR rfl ?_;refine ⟨j+1,⟨[(1,Lv bo),(2,Mb bt),(3,.rptr b3 0),(6,.rptr b6 0),(12,.slice 0 1 (os.map sdV)),(13,I (os.length:Nat)),(14,I ((j+1:Nat):Int))],[],[],encA (chgG b6 (c'||chgB ns' o a b)++(netG b3 bn cap ns0.length os++(Cf bn (Fa ns' o a b) sp++(outG bo++B)))),false⟩,?_,⟨h2,Fa ns' o a b,_,m'+1,B,⟨hIs,fun _=>hJ ns' hI' o hmo a b hst⟩,hB,by omega,hc2,by omega,rfl⟩,by omega⟩;exact Wk.trans (t:=⟨[(1,Lv bo),(2,Mb bt),(3,.rptr b3 0),(6,.rptr b6 0),(12,.slice 0 1 (os.map sdV)),(13,I (os.length:Nat)),(14,I ((j+1:Nat):Int))],[],[],encA ((chgG b6 (c'||chgB ns' o a b)++(netG b3 bn cap ns0.length os++(Cf bn (Fa ns' o a b) sp++outG bo)))++B),false⟩) (Ad (.k rfl (.k rfl (.k rfl (.k rfl (.k rfl (.k rfl (.cons rfl hw .nil))))))) .nil .nil rfl rfl) (Ju hA rfl (by classical exact List.perm_iff_count.2 fun x=>by simp only [List.count_append];omega))
end
end Go.Proofs.YtabedohjkillfaaGreatDoor
namespace Go.Am
section
variable {E:Env}
theorem Ad9 {s:St} {K:List (List Loc×List Loc)→St→List Ins→Prop} {d t u:Nat} {x:X} {v v':V} {rest:List Ins} (hc:Y2 E.P t=true) (hx:evXs s.env [x]=some [v]) (hd:∀b,toD b 6 v=some (v',[]))
  (tr:TraceK E (s.put (some d) (.iface t v')) rest fun fp s' r'=>K (([.slot d],Bp [x])::fp) s' r'):TraceK E s (⟨some d,.raw 20 t u,[x],none⟩::rest) K :=
 .step (ins:=⟨some d,.raw 20 t u,[x],none⟩) (eff:={v:=.iface t v'}) (Aa3 hc (Ay hx) hd) tr
end
end Go.Am
namespace Go.Proofs.YtabedohjkillfaaGreatDoor
section
open Go.Am
attribute [local simp] cells Af mkv Aq B6 under dem dem1 eB Ac As sB eF
def obS:List V:=[I 1,I 0,I 1,I 0,I 2,I 0,I 0,I 0,I 0,I 0,I 0,I 0,I 0,I 0]
def sdS:Sd:=.rng 0 1 0 2
theorem c_readS:C Tryz.prog Ads [.agg obS,I 2] (.tuple [sdV sdS,.bool true]):=by
 have k1:C Tryz.prog Hj [I 0,I 0,I 1] (.bool true):=Qj _ _ _;have k2:C Tryz.prog Hj [I 1,I 0,I 1] (.bool true):=Qj _ _ _;have k3:C Tryz.prog Hj [I 2,I 0,I 17179869184] (.bool true):=Qj _ _ _;refine C_of mixed Abd.2 (by simp) fun S ok=>?_;refine Aw rfl (by simp [obS]) (Aw rfl (by simp [obS]) (Bj rfl (by simp [obS]) (A3 rfl rfl k1 (Ci rfl (by simp [obS]) ?_))));refine Ao (r:=.bool true) rfl rfl rfl rfl (by simp) (fun _=>k2) (Al rfl (by simp [obS]) ?_);refine Aw rfl (by simp [obS]) (A2 (Aw rfl (by simp [obS]) (A4 (TsR rfl (A9 rfl ?_)))));refine A2 (Ab (Bm rfl (by simp [obS]) (.done (KrT ?_))));refine A2 (Ab (Ah 7 rfl (by simp [obS]) (Ad9 Vc rfl (fun _=>rfl) ?_)));refine Bm rfl (by simp [obS]) (Cu (r:=.bool true) rfl rfl rfl rfl (by simp) (fun _=>k3) (Krn rfl (.done (KrT ?_))));exact A8 rfl rfl rfl rfl trivial
def gS:Fr:=⟨(0,9),(0,9),(0,18),(-9,9)⟩
def nsS:List Fr:=[frZ,gS]
theorem tight_z:J5 frZ=some frZ:=by kernel_rfl
theorem tight_g:J5 gS=some gS:=by kernel_rfl
theorem A1r (b:Int×Int) (h:-70000≤b.1∧b.1≤70000) (h2:-70000≤b.2∧b.2≤70000) (h3:b.2-b.1≤256):C Tryz.prog Adr [eB b] (.bool false):=by
 refine C_of mixed Abc.2 (by simp) fun S ok=>?_;refine TsR rfl (TsR rfl (A8 rfl rfl rfl ?_ trivial));show V.bool false=.bool (decide (IntKind.wrap .i64 (b.2-b.1)>256));rw [w64 (by omega) (by omega),decide_eq_false (by omega)]
theorem c_netOfS:C Tryz.prog A8o [.agg [.slice 0 8 [eF frZ,eF gS],.slice 0 14 [.agg obS]]] (.tuple [.agg [.slice 0 8 [eF frZ,eF gS],.slice 0 1 [sdV sdS]],I 0]):=by
 have k1:C Tryz.prog Hj [I 2,I 1,I 8] (.bool true):=Qj _ _ _;have kz:=Ux tight_z;have kg:=Ux tight_g;have w1:=A1r frZ.x (by decide) (by decide) (by decide);have w2:=A1r frZ.y (by decide) (by decide) (by decide);have w3:=A1r gS.x (by decide) (by decide) (by decide);have w4:=A1r gS.y (by decide) (by decide) (by decide);refine C_of mixed A6s.2 (by simp) fun S ok=>?_;refine TsR rfl (A2 (TsC rfl (A3 rfl rfl k1 (Sfn rfl (A7 rfl (A5 ?_))))));refine TsR rfl (A2 (TsR rfl (A4 ?_)));refine Bd 3 (Ag ?_);refine TsR rfl (A2 (A9 rfl (A5 (A2 (A4 (Aw rfl (by simp [nsS]) ?_))))));refine TsC rfl (A3 rfl rfl kz (Sfn rfl ?_));refine A2 (TsC rfl (Ao (r:=.bool false) rfl rfl rfl rfl (by simp) (fun _=>w1) (Srn rfl (Ao (r:=.bool false) rfl rfl rfl rfl (by simp) (fun _=>w2) (Sfn rfl (A7 rfl (A5 ?_)))))));refine TrR rfl (TrR rfl (Ag ?_));refine Aa (s':=⟨[(1,.ptr 1 0),(2,.ptr 2 0),(4,.ptr 4 0),(26,.slice 0 8 [eF frZ,eF gS]),(27,I 2),(28,I 1)],[(1,⟨[.slice 0 8 [eF frZ,eF gS],.slice 0 14 [.agg obS]],false⟩),(2,⟨[.nils,.nils],false⟩),(4,⟨[.slice 55 8 [eF frZ],.nils],false⟩)],[(54,1,8,55)],[],false⟩) (Ad (.k rfl (.k rfl (.k rfl (.k rfl (.k rfl (.cons rfl (VLe.i rfl) .nil)))))) (.k rfl (.k rfl (.k rfl .nil))) (.cons rfl .nil) rfl rfl) ?_;refine TsR rfl (A2 (A9 rfl (A5 (A2 (A4 (Aw rfl (by simp [nsS]) ?_))))));refine TsC rfl (A3 rfl rfl kg (Sfn rfl ?_));refine A2 (TsC rfl (Ao (r:=.bool false) rfl rfl rfl rfl (by simp) (fun _=>w3) (Srn rfl (Ao (r:=.bool false) rfl rfl rfl rfl (by simp) (fun _=>w4) (Sfn rfl (A7 rfl (A5 ?_)))))));refine TrR rfl (TrR rfl (Ag ?_));refine Aa (s':=⟨[(1,.ptr 1 0),(2,.ptr 2 0),(4,.ptr 4 0),(26,.slice 0 8 [eF frZ,eF gS]),(27,I 2),(28,I 2)],[(1,⟨[.slice 0 8 [eF frZ,eF gS],.slice 0 14 [.agg obS]],false⟩),(2,⟨[.nils,.nils],false⟩),(4,⟨[.slice 55 8 [eF frZ,eF gS],.nils],false⟩)],[(54,2,8,55)],[],false⟩) (Ad (.k rfl (.k rfl (.k rfl (.k rfl (.k rfl (.cons rfl (VLe.i rfl) .nil)))))) (.k rfl (.k rfl (.k rfl .nil))) (.cons rfl .nil) rfl rfl) ?_;refine TsR rfl (A2 (A7 rfl (Ak ?_)));refine A2 (TsR rfl (A4 ?_));refine Bd 2 (Ag ?_);refine TsR rfl (A2 (A9 rfl (A5 (A2 (A4 (Aw rfl (by simp [obS]) ?_))))));refine Bj rfl (by simp [obS]) (A3 rfl rfl c_readS (Sfn rfl ?_));refine A2 (TsR rfl (A7 rfl (A5 ?_)));refine TrR rfl (TrR rfl (Ag ?_));refine TsR rfl (A2 (A7 rfl (Ak ?_)));exact TsR rfl (A8 rfl rfl rfl rfl trivial)
end
section
open Go.Am Go.RowKit
attribute [local simp] cells Af mkv Aq B6 under dem dem1 eB Ac As eF
def Acg (ns:List Fr):Prop:=(ns.getD 1 frZ).x.2≤1
theorem cutO_x {r b a:Fr} (h:cutO r b=some a):a.x.2≤b.x.2:=(Jc h).2.2.2.1.1.2
theorem Agj {ns:List Fr} (hI:InvN nsS [sdS] ns) {a b:Fr} (h:Hz ns sdS=some (a,b)):Acg (Fa ns sdS a b):=by
 unfold Hz at h;split at h
 ·cases h
 rename_i a' ha;split at h
 ·cases h
 rename_i b' hb;split at h;rotate_left
 ·cases h
 obtain ⟨rfl,rfl⟩:=Prod.mk.inj (Option.some.inj h);have s0:=hI.sub 0 (by decide);have hx:(ns.getD 0 frZ).x.2≤0:=by unfold subR at s0;exact s0.1.2
 have h1:a'.x.2≤0:=by
  have:=(Jc ha).2.2.1;unfold subR at this;have e:sdS.a=0:=rfl;rw [e] at this;omega
 have h2:=cutO_x hb;have e2:(winF a' sdS.span).x.2=min (a'.x.2+sdS.span.x.2) 32768:=rfl;have e3:sdS.span.x.2=1:=by kernel_rfl
 rw [e2,e3] at h2;unfold Acg Fa;have hlen:=hI.len;rw [Qe (by rw [List.length_set,hlen];decide),if_pos (show 1=sdS.b from rfl)];omega
theorem inv0:InvN nsS [sdS] nsS:=⟨rfl,fun i hi=>by
  have:i=0∨i=1:=by have:i<2:=hi;omega
  rcases this with rfl | rfl<;>decide,fun i hi=>subR.refl _,fun l hl=>hl.2.1⟩
theorem Ag9 {x y:Int} (hx:0≤x∧x≤1) (hy:0≤y∧y≤1):FitL nsS [sdS] [(0,0),(x,y)]:=by
 refine ⟨rfl,fun i hi=>?_,fun o ho=>?_⟩
 ·have:i=0∨i=1:=by have:i<2:=hi;omega
  rcases this with rfl | rfl
  ·show inR frZ (0,0);unfold inR frZ;simp
  ·show inR gS (x,y);unfold inR gS;simp only;omega
 ·rw [List.mem_singleton.1 ho];have h1:x=0∨x=1:=by omega
  have h2:y=0∨y=1:=by omega
  rcases h1 with rfl | rfl<;>rcases h2 with rfl | rfl<;>decide
def FixS (ns:List Fr):Prop:=ns.length=2∧(ns.getD 1 frZ).x=(0,1)
theorem fixS_of {ns:List Fr} (hI:InvN nsS [sdS] ns) (hE:Acg ns):FixS ns:=by
 refine ⟨hI.len,?_⟩;have h0:=hI.has _ (Ag9 (x:=0) (y:=0) (by omega) (by omega)) 1 (by decide);have h1:=hI.has _ (Ag9 (x:=1) (y:=1) (by omega) (by omega)) 1 (by decide);have hs:=hI.sub 1 (by decide);have e:(nsS.getD 1 frZ).x=(0,9):=rfl;unfold inR at h0 h1;unfold subR at hs;unfold Acg at hE;rw [e] at hs;have h0:=h0.1;have h1:=h1.1;simp only [List.getD_cons_succ,List.getD_cons_zero] at h0 h1 hs;have a1:(ns.getD 1 frZ).x.1=0:=by omega
 have a2:(ns.getD 1 frZ).x.2=1:=by omega
 exact Prod.ext a1 a2
theorem Ah3 {b2 bn cap bo bt:Nat} {sp:List V} {NA0:Arena} (hN:Y9 bt 0 NA0) :
  CP Tryz.prog T0 (netG b2 bn cap 2 [sdS]++(Cf bn nsS sp++(outG bo++NA0))) [] [.rptr b2 0,.rptr bo 0,.rptr bt 0]
   (fun _ B=>∃ns m NA,(InvN nsS [sdS] ns∧Acg ns)∧Y9 bt m NA∧B=netG b2 bn cap 2 [sdS]++(Cf bn ns sp++(outG bo++NA))) clashV (fun _=>False):=by
 have kn:=Ah2 (bn:=bn) (cap:=cap) (bo:=bo) (bt:=bt) (m0:=0) (os:=[sdS]) (ns0:=nsS) (sp:=sp) (NA0:=NA0) (J:=Acg) (by simp) (fun ns hI o ho a b h=>by rw [List.mem_singleton.1 ho] at h ⊢;exact Agj hI h) (by simp [nsS]) (by decide) (by decide) (fun o ho=>by rw [List.mem_singleton.1 ho];unfold Sd.ok sdS;decide) inv0 hN (by omega);refine Aid mixed Ry.2 (by simp) fun S ok S1 hA hK hKD=>?_;refine X0 (H9 3 (Tq hA rfl rfl (show (b2,Ob.cells (netC bn cap 2 [sdS]))∈_ by simp [netG]) (by simp [netC]) (Sfn rfl ?_)));refine Tt hA (F:=netG b2 bn cap 2 [sdS]) rfl rfl rfl kn (.inl (by simp)) (fun r B hΦ=>?_) (fun B hΨ=>?_)
 ·obtain ⟨ns,m,NA,hP,hN',rfl⟩:=hΦ;exact ⟨_,⟨_,rfl,ns,m,NA,hP,hN',rfl⟩,_,_,_,Ck rfl,rfl,rfl⟩
 ·obtain ⟨ns,m,NA,⟨_,hno⟩,_⟩:=hΨ;exact absurd (Ag9 (x:=0) (y:=0) (by omega) (by omega)) (hno _)
theorem Agx:CX Tryz.prog X9 [] [] [.agg [.slice 0 8 [eF frZ,eF gS],.slice 0 1 [sdV sdS]],.nils]
  (fun r B=>∃ns bn cap sp v,FixS ns∧2≤cap∧(bn,Ob.cells (nsC ns++sp))∈B∧r=.tuple [.sref bn 0 2 cap,v,.bool true]):=by
 have kcl:=Agz (ns:=nsS) (by simp [nsS]) (by decide);refine A5u mixed Vh.2 (by simp) fun S1 ok1=>?_;have hA:InA (env0 Tryz.prog mixed 19 (SA S1 [] false) (Ke ok1 [] false)) S1 [] false:=⟨Sub.refl _,ok1⟩;refine A2 (Ae (Sv hA (v:=.agg [.slice 0 8 [eF frZ,eF gS],.slice 0 1 [sdV sdS]]) rfl rfl rfl rfl fun b2 hb2=>Sv hA (v:=.nils) rfl rfl rfl rfl fun b3 hb3=>SrN 1 rfl (E0 hA rfl fun b5 hb5=>Sfn rfl ?_)));refine Aa (s':=⟨[(2,.rptr b2 0),(3,.rptr b3 0),(5,.rptr b5 0)],[],[],encA [(b5,.cells [.nils]),(b3,.cells [.nils]),(b2,.cells [.slice 0 8 [eF frZ,eF gS],.slice 0 1 [sdV sdS]])],false⟩) (Ad (.k rfl (.k rfl (.k rfl .nil))) .nil .nil rfl rfl) ?_;refine A2 (Ae (Hg rfl (Bz hA rfl rfl (show (b2,Ob.cells [.slice 0 8 [eF frZ,eF gS],.slice 0 1 [sdV sdS]])∈_ by simp) rfl (Bf (F:=[(b5,.cells [.nils]),(b3,.cells [.nils]),(b2,.cells [.slice 0 8 [eF frZ,eF gS],.slice 0 1 [sdV sdS]])]) hA rfl rfl rfl kcl (.inl (by simp)) fun r B hB=>?_))));obtain ⟨bn,cap,sp,rfl,hcap,hbn,rfl⟩:=hB;refine Hg rfl (Bx hA rfl rfl (show (b2,Ob.cells [.slice 0 8 [eF frZ,eF gS],.slice 0 1 [sdV sdS]])∈_ by simp) (by simp) rfl rfl (Sfn rfl ?_));refine Adc hA rfl fun hnd=>?_;have hset:setA ([(b5,.cells [.nils]),(b3,.cells [.nils]),(b2,.cells [.slice 0 8 [eF frZ,eF gS],.slice 0 1 [sdV sdS]])]++((bn,Ob.cells (nsC nsS++sp))::[])) b2 (.cells ([.slice 0 8 [eF frZ,eF gS],.slice 0 1 [sdV sdS]].set (0+0) (.sref bn 0 nsS.length cap)))=[(b5,.cells [.nils]),(b3,.cells [.nils]),(b2,.cells (netC bn cap 2 [sdS])),(bn,.cells (nsC nsS++sp))]:=by
  rw [C4] at hnd;simp only [List.cons_append,List.nil_append,List.map_cons,List.map_nil,List.nodup_cons,List.mem_cons,List.not_mem_nil,or_false,not_or] at hnd;have n1:b5≠b2:=hnd.1.2.1;have n2:b3≠b2:=hnd.2.1.1;have n3:bn≠b2:=fun e=>hnd.2.2.1 e.symm;simp [setA,n1,n2,n3,netC,nsS]
 have hN:Y9 b5 0 [(b5,.cells [.nils])]:=⟨[],.nils,rfl,List.mem_singleton.2 rfl,.inl ⟨rfl,rfl⟩,fun _ _ _ _ e=>(by cases e)⟩;have kf:=A4d (Ah3 (b2:=b2) (bn:=bn) (cap:=cap) (bo:=b3) (bt:=b5) (sp:=sp) hN);refine Aa (s':=⟨[(2,.rptr b2 0),(3,.rptr b3 0),(5,.rptr b5 0)],[],[],encA (netG b2 bn cap 2 [sdS]++(Cf bn nsS sp++(outG b3++[(b5,.cells [.nils])]))),false⟩) (Wk.trans (Ad (.k rfl (.k rfl (.k rfl .nil))) .nil .nil rfl rfl) (Ju hA (A:=[(b5,.cells [.nils]),(b3,.cells [.nils]),(b2,.cells (netC bn cap 2 [sdS])),(bn,.cells (nsC nsS++sp))]) (congrArg encA hset) (by
    show List.Perm [(b5,Ob.cells [.nils]),(b3,.cells [.nils]),(b2,.cells (netC bn cap 2 [sdS])),(bn,.cells (nsC nsS++sp))] [(b2,.cells (netC bn cap 2 [sdS])),(bn,.cells (nsC nsS++sp)),(b3,.cells [.nils]),(b5,.cells [.nils])]
    classical exact List.perm_iff_count.2 fun x=>by simp only [List.count_cons,List.count_nil];omega))) ?_
 refine A2 (Ae (SrN 1 rfl (Bf (F:=[]) hA rfl rfl rfl kf (.inl (by simp)) fun r B hB=>Sfn rfl ?_)));rcases hB with ⟨rfl,_,ns,m,NA,⟨hI,hE⟩,hN',rfl⟩ | ⟨_,hF⟩;rotate_left
 ·exact hF.elim
 have hfx:=fixS_of hI hE;obtain ⟨xs,v,hxl,hmo,hO,hoff⟩:=hN';obtain ⟨hv1,hv2⟩:=A9k hO;refine Adc hA rfl fun hnd2=>?_;have hne:bn≠b5:=by
  simp only [netG,Cf,outG,List.cons_append,List.nil_append,List.map_cons,List.nodup_cons,List.mem_cons,not_or] at hnd2;intro e;exact hnd2.2.1.2 (e▸List.mem_map.2 ⟨_,hmo,rfl⟩)
 clear hnd2;have m2:(b2,Ob.cells (netC bn cap 2 [sdS]))∈([]:Arena)++(netG b2 bn cap 2 [sdS]++(Cf bn ns sp++(outG b3++NA))):=by simp [netG]
 have m5:(b5,Ob.cells [v])∈([]:Arena)++(netG b2 bn cap 2 [sdS]++(Cf bn ns sp++(outG b3++NA))):=by simp [hmo]
 have mn:(bn,Ob.cells (nsC ns++sp))∈Ov (([]:Arena)++(netG b2 bn cap 2 [sdS]++(Cf bn ns sp++(outG b3++NA)))) b5:=dropA_mem.2 ⟨by simp [Cf],hne⟩;have hcap2:2≤cap:=hcap;have hvv:v=.nils∨∃b n c,v=.sref b 0 n c:=by
  rcases hO with ⟨_,rfl⟩ | ⟨_,_,_,rfl,_⟩
  ·exact .inl rfl
  ·exact .inr ⟨_,_,_,rfl⟩
 clear hO hoff hmo hxl;generalize ([]:Arena)++(netG b2 bn cap 2 [sdS]++(Cf bn ns sp++(outG b3++NA)))=AA at m2 m5 mn ⊢;rcases hvv with rfl | ⟨_,_,_,rfl⟩
 ·refine A2 (Dz rfl rfl rfl (Qp rfl (Br hA rfl rfl rfl m2 (by simp [netC]) (Br hA rfl rfl rfl m5 (by simp) (KrN 3 rfl (Ml hA rfl rfl rfl m5 (by simp) rfl rfl rfl (Krn rfl (.done (KrT ?_)))))))));refine Aa (Wk.take (A:=AA) (t:=5) (blk:=b5) rfl rfl rfl m5 rfl) ?_;exact C8 rfl rfl rfl ⟨_,rfl,ns,bn,cap,sp,_,hfx,hcap2,mn,rfl⟩
 ·refine A2 (Dz rfl rfl rfl (Qp rfl (Br hA rfl rfl rfl m2 (by simp [netC]) (Br hA rfl rfl rfl m5 (by simp) (KrN 3 rfl (Ml hA rfl rfl rfl m5 (by simp) rfl rfl rfl (Krn rfl (.done (KrT ?_)))))))));refine Aa (Wk.take (A:=AA) (t:=5) (blk:=b5) rfl rfl rfl m5 rfl) ?_;exact C8 rfl rfl rfl ⟨_,rfl,ns,bn,cap,sp,_,hfx,hcap2,mn,rfl⟩
def netSV:V:=.agg [.slice 0 8 [eF frZ,eF gS],.slice 0 14 [.agg obS]]
theorem cx_FixS:CX Tryz.prog Aib [] [] [netSV] (fun r _=>∃a b:Fr,b.x=(0,1)∧r=.tuple [.slice 0 8 [eF a,eF b],I 0]):=by
 refine Li mixed Aer.2 (by simp) fun S ok S1 hA hK hKD=>?_;refine Aw rfl (by simp [netSV,obS]) (Bj rfl (by simp [netSV,obS]) (A3 rfl rfl c_netOfS (Sfn rfl ?_)));refine A2 (TsR rfl (A7 rfl (A5 ?_)));refine A2 (Ae (SrN 1 rfl (Bf (F:=[]) hA rfl rfl rfl Agx (.inl (by simp)) fun r B hB=>?_)));obtain ⟨ns,bn,cap,sp,v,⟨hlen,hx⟩,hcap,hmem,rfl⟩:=hB;obtain ⟨a,b,rfl⟩:∃a b,ns=[a,b]:=by
  match ns,hlen with
  | [a,b],_=>exact ⟨a,b,rfl⟩
 refine Sfn rfl ?_;refine A2 (TsR rfl (A7 rfl (A5 ?_)));refine TsR rfl ?_;refine Aa (Wk.close hA (t:=2) (xs:=[eF a,eF b]) (sz:=8) (cs:=nsC [a,b]++sp) rfl rfl (show (bn,Ob.cells (nsC [a,b]++sp))∈([]:Arena)++B from hmem) (by omega) hcap (fun x hx=>?_) ?_) ?_
 ·simp only [List.mem_cons,List.not_mem_nil,or_false] at hx;rcases hx with rfl | rfl<;>rfl
 ·rfl
 ·exact C8 rfl rfl rfl ⟨_,rfl,a,b,hx,rfl⟩
end
section
open Go.Am Go
attribute [local simp] cells Af mkv Aq B6 under dem dem1 eB Ac As sB eF chV chC cruC Fv C2 eLeg legC eCru cS
theorem Ahi:C Tryz.prog A28 [] (.bool true):=by
 refine C_of mixed A0k.2 (by simp) fun S ok=>?_;refine Qr rfl rfl ?_;have hA:=Qw (E:=env0 Tryz.prog mixed 78 S ok) [] false;refine TsR rfl (TsR rfl ?_);refine Aa (s':=⟨[(1,.ptr 1 0)],[(1,⟨cruC cS,false⟩)],[],encA [],false⟩) (Bi (.k rfl .nil) (.cons rfl ?_ .nil) .nil rfl rfl rfl) ?_
 ·exact .cons (VLe.dem _ _ _) (.cons (VLe.nil 0 1) (.cons (VLe.nil 0 2) (.cons (.refl _) (.cons (.refl _) (.cons (.refl _) (.cons (.refl _) (.cons (.refl _) (.cons (.refl _) (.cons (.refl _) (.cons (.refl _) (.cons (.refl _) (.cons (.refl _) (.cons (.refl _) (.cons (.refl _) (.cons (.refl _) (.cons (VLe.dem _ _ _) .nil))))))))))))))))
 refine A2 (Ae (SrN 1 rfl (Bf (F:=[]) (A1:=[]) hA rfl rfl rfl cx_BestS (.inl (by simp)) fun r B hB=>?_)));obtain rfl:=hB;refine Sfn rfl ?_;refine A2 (Ae (SrN 10 rfl (Bf (F:=B) (A1:=[]) hA rfl rfl (congrArg encA (List.append_nil B).symm) cx_FixS (.inl (by simp)) fun r B2 hB=>?_)));obtain ⟨a,b,hb,rfl⟩:=hB;obtain ⟨bx,by',bs,bd⟩:=b;obtain rfl:bx=(0,1):=hb;refine Sfn rfl ?_;refine Aa (s':=⟨[(3,I 12),(4,I 0),(5,.slice 0 8 [eF a,eF ⟨(0,1),by',bs,bd⟩]),(6,I 0)],[],[],encA (B++B2),false⟩) (Bi (.k rfl (.k rfl (.k rfl (.k rfl .nil)))) .nil .nil rfl rfl rfl) ?_;refine TsC rfl (A3 rfl rfl c_StepS (Sfn rfl ?_));refine Aa (s':=⟨[(3,I 12),(4,I 0),(5,.slice 0 8 [eF a,eF ⟨(0,1),by',bs,bd⟩]),(6,I 0),(7,As [5]),(8,I 0)],[],[],encA (B++B2),false⟩) (Bi (.k rfl (.k rfl (.k rfl (.k rfl (.k rfl (.k rfl .nil)))))) .nil .nil rfl rfl rfl) ?_;refine A2 (Ae (SrN 3 rfl (Av rfl rfl (SrN 1 rfl (Av rfl rfl (SrN 1 rfl (SrN 2 rfl (Av rfl rfl (SrN 1 rfl (Av rfl rfl (SrN 1 rfl (SrN 2 rfl (Av rfl rfl (SrN 1 rfl (Av rfl rfl (SrN 1 rfl (SrN 2 rfl (Av rfl rfl (SrN 1 rfl (Av rfl rfl (SrN 1 rfl (Av rfl rfl (SrN 1 rfl (SrN 2 rfl (Av rfl rfl (SrN 1 rfl (Av rfl rfl (SrN 1 rfl (Av rfl rfl (SrN 1 rfl (Av rfl rfl (SrN 1 rfl (Av rfl rfl (SrN 1 rfl (Av rfl rfl (SrN 1 rfl (SrN 2 rfl (Av rfl rfl (SrN 1 rfl (Av rfl rfl (SrN 1 rfl (Av rfl rfl (A3 rfl rfl (Ai3 [5] [5] (by simp)) (Sfn rfl ?_))))))))))))))))))))))))))))))))))))))))))));exact A8 rfl rfl rfl rfl trivial
end
section
open Go.Am Go
attribute [local simp] cells Af mkv Aq B6 under dem dem1 eB Ed sB eQ nfC As firV wayS eSht shtL ruV resS
theorem c_fired:C Tryz.prog A8h [] (.bool true):=by
 refine C_of mixed A6k.2 (by simp) fun S ok=>?_;refine TsR rfl (TsC rfl (A3 rfl rfl c_FireS (Sfn rfl ?_)));refine TsC rfl (A3 rfl rfl c_AllowS (Sfn rfl ?_));refine A2 (Ae (Su rfl (by simp<;>decide +kernel) (Av rfl rfl (A3 rfl rfl Ahi (SrG rfl ?_)))));exact A8 rfl rfl rfl rfl trivial
def gS2:Gd:=⟨(0,0),2,3,2,[(0,25),(26,400)]⟩
def nfS:Nf:=⟨[2,1],[⟨4,[2,0]⟩,⟨3,[0,1]⟩]⟩
theorem cellS:(if El gS2 then (if B7 (1,1)&&B7 (9,3) then .tuple [eB (Kd gS2 (1,1) (9,3)),I 0] else .tuple [.agg [I 0,I 0],I 10]) else .tuple [.agg [I 0,I 0],I 70]:V)=.tuple [eB (5,1),I 0]:=by kernel_rfl
theorem bestS:BestR nfS=.tuple [As [0,1],I 7,I 0]:=by kernel_rfl
theorem Ql:C Tryz.prog A29 [] (.bool true):=by
 have k1:C Tryz.prog A01 [.agg (Ed gS2),eB (1,1),eB (9,3)] (.tuple [eB (5,1),I 0]):=cellS▸c_Cell (by decide) (1,1) (9,3);have k2:C Tryz.prog A02 [.agg (nfC nfS)] (.tuple [As [0,1],I 7,I 0]):=bestS▸c_Best (by decide);have k3:C Tryz.prog Ri [As [0,1],As [0,1]] (.bool true):=Ai3 [0,1] [0,1] (by decide);refine C_of mixed A0l.2 (by simp) fun S ok=>?_;refine TsR rfl (TsR rfl (TsC rfl (A3 rfl rfl k1 (Sfn rfl ?_))));refine TsR rfl (TsC rfl (A3 rfl rfl k2 (Sfn rfl ?_)));refine A2 (Ae (SrG rfl (Av rfl rfl (A3 rfl rfl k3 (SrG rfl ?_)))));refine Av rfl rfl (A3 rfl rfl c_fired (SrG rfl ?_));exact A8 rfl rfl rfl rfl trivial
end
section
open Go.Am
attribute [local simp] cells Af mkv Aq B6 under dem dem1 eB Ac As sB eF cruC Fv C2 eLeg legC eCru eStr strC Cl eHd
def eTail (s:Strm) (b:List (Int×Int)):V:=.agg [I s.head,Cl s.secs,I s.lane.1,I s.lane.2,I s.bend,sB b]
structure Rou where
 a:Int×Int
 w1:Int×Int
 w2:Int×Int
 n0:Int
 n1:Int
 n2:Int
 bits:List Int
def eRou (y:Rou):V:=.agg [I y.a.1,I y.a.2,I y.w1.1,I y.w1.2,I y.w2.1,I y.w2.2,I y.n0,I y.n1,I y.n2,As y.bits]
attribute [local simp] eTail eRou
end
section
open Go.Am
attribute [local simp] cells Af mkv Aq B6 under dem dem1 eB Ed sB Ac eF layC As eStr strC Cl eHd eTail eRou Xj
theorem A7u {g:Gd} {s:Strm} {b:List (Int×Int)} {y:Rou} (hl0:g.cls.length≤9223372036854775807) (hl1:s.secs.length≤9223372036854775807) (hl2:b.length≤9223372036854775807) (hl3:y.bits.length≤9223372036854775807) :
  C Tryz.prog X6 [.agg (Ed g),eTail s b,eRou y] (.bool true):=by
 obtain ⟨a,w1,w2,n0,n1,n2,bits⟩:=y;simp only at hl3;have r0:=Pl (n:=n0) (m:=4) (by omega);obtain ⟨k0,hk0⟩:∃k:Nat,Nh n0 4=(k:Int):=⟨(Nh n0 4).toNat,by omega⟩;have kr0:=Ai0 n0 4 (by omega);rw [hk0] at kr0 r0;obtain ⟨p,q,hx,hax⟩:=axL_get (k:=k0) (by omega);have hxb:=hx.bd;obtain ⟨kw1,kw2⟩:=c_Where (s:=s) (b:=b) (sh:=a) hl1 hl2 hx;refine C_of mixed Vd.2 (by simp) fun S ok=>?_;refine Qr rfl rfl ?_;have hA:=Qw (E:=env0 Tryz.prog mixed 192 S ok) [] false;refine TsR rfl (A2 (Ab (A6 rfl rfl c_axes (Krn rfl (A6 rfl rfl kr0 (Ah 1 rfl (by simp [axL];omega) ?_))))));rw [hax];refine Krn rfl (.done (KrT ?_));cases hw:((Rn s&&Lm s b)&&B7 a&&whOk s b a p q) with
 | false =>
   obtain ⟨e,he,kw⟩:=kw2 hw;have he':(e != 0)=true:=by simp [he]
   refine TsC rfl (A3 rfl rfl kw (Sfn rfl ?_));refine A2 (TsN 2 rfl ?_);rw [he'];refine Sfn rfl (A9 rfl ?_);exact TsC rfl (A3 rfl rfl Ql (Sfn rfl (A8 rfl rfl rfl rfl trivial)))
 | true =>
 have kw:=kw1 hw;simp only [Bool.and_eq_true] at hw;obtain ⟨⟨hso,hpa⟩,hwo⟩:=hw;have ht:=A8w (s:=s) (b:=b) (by simp only [Bool.and_eq_true];exact hso);have hm:=ht.many;have hlen:=ht.len;have hpa2:=Bt hpa;refine TsC rfl (A3 rfl rfl kw (Sfn rfl ?_));refine A2 (TsR rfl (A7 rfl (A5 ?_)));refine TsR rfl (A2 (TsR rfl (A4 ?_)));have fb:(b.map eB).length=b.length:=List.length_map _;refine Bc (fun (i:Nat) st=>i≤b.length∧st=⟨[(3,.ptr 3 0),(4,.ptr 4 0),(5,.ptr 5 0),(7,.ptr 7 0),(8,Xj (whL s b a p q)),(10,.slice 66 1 (((Ma b bits).take i).map I)),(11,I i)],[(3,⟨Ed g,false⟩),(4,⟨[I s.head,Cl s.secs,I s.lane.1,I s.lane.2,I s.bend,sB b],false⟩),(5,⟨[I a.1,I a.2,I w1.1,I w1.2,I w2.1,I w2.2,I n0,I n1,I n2,As bits],false⟩),(7,⟨[I p,I q,I 1],false⟩)],[(65,((Ma b bits).take i).length,1,3)],encA [],false⟩) (fun i=>b.length-i) 0 (Bi (.k rfl (.k rfl (.k rfl (.k rfl (.k rfl (.cons rfl (.nil 66 1) (.k rfl .nil))))))) (.k rfl (.k rfl (.k rfl (.k rfl .nil)))) (.new rfl .nil) rfl rfl rfl) ⟨by omega,rfl⟩ ?_;rintro i st ⟨hi,rfl⟩;by_cases hib:i<b.length
 ·have hofs:=ht.offs i hib;have kp:=c_Pick (l:=bits) (i:Int) hl3;have kwi:=A7m (b:=b.getD i (0,0)) (n:=pickI bits i) (by omega);have ebi:b[i]=b.getD i (0,0):=(Ky hib _).symm;refine A2 (TsN 4 rfl ?_);rw [fb];refine SrN 1 rfl ?_;rw [decide_eq_true (show (i:Int)<(b.length:Int) by omega)];refine Sfn rfl (A9 rfl (A5 ?_));have hoi:i<(Ma b bits).length:=by rw [M9];exact hib
  have htk:(Ma b bits).take (i+1)=(Ma b bits).take i++[F9 b bits i]:=by
   rw [List.take_add_one,List.getElem?_eq_getElem hoi,Vz];rfl
  have hol:=M9 b bits;refine A2 (A4 (Ab (Ah 5 rfl (by simp;omega) ?_)));rw [Aj hib,ebi];refine Krn rfl (A6 rfl rfl kp (A6 rfl rfl kwi (Bm rfl (by simp;omega) (.done (KrT ?_)))));refine TrR rfl ?_;refine ⟨i+1,_,Bi (.k rfl (.k rfl (.k rfl (.k rfl (.k rfl (.cons rfl (.of_eq ?_) (.cons rfl (VLe.i (w64 (by omega) (by omega))) .nil))))))) (.k rfl (.k rfl (.k rfl (.k rfl .nil)))) (.cons ?_ .nil) rfl rfl rfl,⟨hib,rfl⟩,by omega⟩
  ·rw [htk];simp [F9]
  ·show some _=some _;rw [htk];simp
 obtain rfl:i=b.length:=by omega
 refine A2 (TsN 4 rfl ?_);rw [fb];refine SrN 1 rfl ?_;rw [decide_eq_false (show ¬(b.length:Int)<(b.length:Int) by omega)];refine Sfn rfl (A7 rfl (Ak ?_));rw [List.take_of_length_le (show (Ma b bits).length≤b.length by rw [M9];exact Nat.le_refl _)];have kt:=c_towed (bits:=bits) (sh:=a) ht hx (by omega);have ks:=c_spot hpa;have kg:=Oz (g:=g) hl0;refine Aa (s':=⟨[(3,.ptr 3 0),(4,.ptr 4 0),(5,.ptr 5 0),(7,.ptr 7 0),(8,Xj (whL s b a p q)),(10,As (Ma b bits))],[(3,⟨Ed g,false⟩),(4,⟨[I s.head,Cl s.secs,I s.lane.1,I s.lane.2,I s.bend,sB b],false⟩),(5,⟨[I a.1,I a.2,I w1.1,I w1.2,I w2.1,I w2.2,I n0,I n1,I n2,As bits],false⟩),(7,⟨[I p,I q,I 1],false⟩)],[],encA [],false⟩) (Bi (.k rfl (.k rfl (.k rfl (.k rfl (.k rfl (.cons rfl (.dem _ _ _) .nil)))))) (.k rfl (.k rfl (.k rfl (.k rfl .nil)))) .nil rfl rfl rfl) ?_;have fl2:((whL s b a p q).map eF).length=b.length:=by rw [List.length_map,V5]
 cases hbe:Zw s b bits with
 | false =>
   rw [hbe,if_neg (by simp)] at kt;refine TsC rfl (A3 rfl rfl kt (Sfn rfl ?_));refine TsC rfl (A3 rfl rfl ks (Sfn rfl ?_));refine A2 (A2 (Ae (SrN 10 rfl (L9 rfl rfl rfl (fun _=>rfl) rfl rfl (by simp) (Sfn rfl (A7 rfl (A5 ?_)))))));refine A2 (TsC rfl (Ao rfl rfl rfl rfl (by simp) (fun _=>kg) (Sfn rfl (A9 rfl ?_))));exact TsC rfl (A3 rfl rfl Ql (Sfn rfl (A8 rfl rfl rfl rfl trivial)))
 | true =>
 rw [hbe,if_pos rfl] at kt;have fl1:((ptsL s b bits a p q).map eB).length=b.length:=by rw [List.length_map,Q2]
 refine TsC rfl (A3 rfl rfl kt (Sfn rfl ?_));refine TsC rfl (A3 rfl rfl ks (Sfn rfl ?_));refine A2 (A2 (Ae (SrN 10 rfl ?_)));rw [fl1,fl2,show ((b.length:Int) != (b.length:Int))=false from bne_self_eq_false _];refine L9 rfl rfl rfl (fun _=>rfl) rfl rfl (by simp) (Sfn rfl (A7 rfl (A5 ?_)));cases hg:El g with
 | false =>
   rw [hg,if_neg (by simp)] at kg;refine A2 (TsC rfl (Ao rfl rfl rfl rfl (by simp) (fun _=>kg) (Sfn rfl (A9 rfl ?_))));exact TsC rfl (A3 rfl rfl Ql (Sfn rfl (A8 rfl rfl rfl rfl trivial)))
 | true =>
 rw [hg,if_pos rfl] at kg;refine A2 (TsC rfl (Ao rfl rfl rfl rfl (by simp) (fun _=>kg) (Sfn rfl (A7 rfl (A5 ?_)))));refine TsR rfl ?_;refine A2 (Ae (SrN 1 rfl (Bf (F:=[]) (A1:=[]) hA rfl rfl rfl (cx_tally hg) (.inl (by simp)) fun r B hB=>?_)));obtain ⟨rbs,⟨hrl,hrn⟩,rfl,rfl⟩:=hB;refine Sfn rfl (A2 (TsR rfl (A4 ?_)));refine Bc (fun (i:Nat) st=>i≤b.length∧st=⟨[(3,.ptr 3 0),(5,.ptr 5 0),(8,Xj (whL s b a p q)),(12,sB (ptsL s b bits a p q)),(16,.ptr 16 0),(17,.slice 0 1 (Gw g.cls.length rbs)),(18,I i)],[(3,⟨Ed g,false⟩),(5,⟨[I a.1,I a.2,I w1.1,I w1.2,I w2.1,I w2.2,I n0,I n1,I n2,As bits],false⟩),(16,⟨[.slice 104 8 ((selN s b bits a p q i).map eF),.slice 163 2 ((selT s b bits a p q i).map eB)],false⟩)],[(103,(selN s b bits a p q i).length,8,55),(162,(selT s b bits a p q i).length,2,68)],encA (arn rbs (C0 g (selC g s b bits a p q i))),false⟩) (fun i=>b.length-i) 0 (Bi (.k rfl (.k rfl (.k rfl (.k rfl (.k rfl (.k rfl (.k rfl .nil))))))) (.k rfl (.k rfl (.cons rfl (.cons (.refl _) (.cons (.nil 163 2) .nil)) .nil))) (.cons rfl (.new rfl .nil)) rfl rfl rfl) ⟨by omega,rfl⟩ ?_;rintro i st ⟨hi,rfl⟩;by_cases hib:i<b.length
 ·obtain ⟨T,hT,hfit,hin⟩:=A8u (bits:=bits) ht hx hwo hib fun k hk=>of_decide_eq_true (List.all_eq_true.1 hbe k (List.mem_range.2 (by omega)));have hss:=sel_succ (bits:=bits) hib hT;have hil:i<(whL s b a p q).length:=by rw [V5];exact hib
  have hip:i<(ptsL s b bits a p q).length:=by rw [Q2];exact hib
  have eT:(whL s b a p q)[i]=T:=by rw [List.getElem?_eq_getElem hil] at hT;exact Option.some.inj hT
  have eQ:(ptsL s b bits a p q)[i]=Xy s b bits a p q i:=by have:=Uo (s:=s) (bits:=bits) (sh:=a) (p:=p) (q:=q) hib;rw [List.getElem?_eq_getElem hip] at this;exact Option.some.inj this
  have hsl:=A0b (s:=s) (bits:=bits) (a:=a) (p:=p) (q:=q) i hi;obtain ⟨Q,hQ⟩:∃Q,Xy s b bits a p q i=Q:=⟨_,rfl⟩;rw [hQ] at hin eQ hss;have hpq:B7 Q=true:=N1 (Ht hfit) hin;have kh:=c_HasS (f:=T) hfit hpq;rw [(has_iff hpq).2 hin] at kh;have kc:=Ai1 T;rw [hfit,if_pos rfl] at kc;have hcp:=A4g hfit (N4 hin);refine A2 (TsN 3 rfl ?_);rw [fl2];refine SrN 1 rfl ?_;rw [decide_eq_true (show (i:Int)<(b.length:Int) by omega)];refine Sfn rfl (A9 rfl (A5 ?_));refine A2 (A4 (A2 (Ab (Ah 3 rfl (by simp;omega) ?_))));rw [Aj hil,eT];refine Ah 4 rfl (by simp;omega) ?_;rw [Aj hip,eQ];refine Krn rfl (A6 rfl rfl kh (Krn rfl (.done (KrT ?_))));refine Sr 3 rfl (by simp;omega) ?_;rw [Aj hil,eT];refine Srn rfl (A3 rfl rfl kc (Sfn rfl ?_));refine A2 (A2 (Ae (SrG rfl (A7 rfl (A5 ?_)))));refine A2 (TsR rfl (An rfl rfl (fun h2=>Ak ?_) (fun h2=>A5 ?_)))
  ·have h2:decide (Hu T>64)=true:=h2;have h2:=of_decide_eq_true h2;rw [if_neg (by omega)] at hss;have eN:selN s b bits a p q (i+1)=selN s b bits a p q i:=by simp [selN,hss]
   have eY:selT s b bits a p q (i+1)=selT s b bits a p q i:=by simp [selT,hss]
   have eC:selC g s b bits a p q (i+1)=selC g s b bits a p q i:=by simp [selC,hss]
   refine TrR rfl ?_;refine ⟨i+1,_,Bi (.k rfl (.k rfl (.k rfl (.k rfl (.k rfl (.k rfl (.cons rfl (VLe.i (w64 (by omega) (by omega))) .nil))))))) (.k rfl (.k rfl (.cons rfl (by rw [eN,eY];exact LLe.refl _) .nil))) (.cons (by rw [eN];rfl) (.cons (by rw [eY];rfl) .nil)) rfl rfl (by rw [eC];rfl),⟨hib,rfl⟩,by omega⟩
  have h2:decide (Hu T>64)=false:=h2;have h2:=of_decide_eq_false h2;rw [if_pos (by omega)] at hss;have hP64:(selC g s b bits a p q i).length≤64:=by simp [selC];omega
  have km:=ca_mark hg hrl hrn hP64 hpa hpq;have eN:(selN s b bits a p q (i+1)).map eF=(selN s b bits a p q i).map eF++[eF T]:=by simp [selN,hss]
  have eY:(selT s b bits a p q (i+1)).map eB=(selT s b bits a p q i).map eB++[.agg [I 0,I (((selL s b bits a p q i).length:Nat)+1)]]:=by simp [selT,hss,List.range_succ]
  have eC:selC g s b bits a p q (i+1)=selC g s b bits a p q i++[Kd g a Q]:=by simp [selC,hss]
  have lN:(selN s b bits a p q i).length=(selL s b bits a p q i).length+1:=by simp [selN]
  have lT:(selT s b bits a p q i).length=(selL s b bits a p q i).length:=by simp [selT]
  have lN2:((selN s b bits a p q (i+1)).map eF).length=(selL s b bits a p q i).length+2:=by simp [selN,hss]
  refine A2 (Ab (Ah 5 rfl (by simp;omega) ?_));rw [Aj hil,eT];refine Bm rfl (by simp [lN];omega) (.done (KrT ?_));refine Aa (s':=⟨[(3,.ptr 3 0),(5,.ptr 5 0),(8,Xj (whL s b a p q)),(12,sB (ptsL s b bits a p q)),(16,.ptr 16 0),(17,.slice 0 1 (Gw g.cls.length rbs)),(18,I i)],[(3,⟨Ed g,false⟩),(5,⟨[I a.1,I a.2,I w1.1,I w1.2,I w2.1,I w2.2,I n0,I n1,I n2,As bits],false⟩),(16,⟨[.slice 104 8 ((selN s b bits a p q (i+1)).map eF),.slice 163 2 ((selT s b bits a p q i).map eB)],false⟩)],[(103,(selN s b bits a p q (i+1)).length,8,55),(162,(selT s b bits a p q i).length,2,68)],encA (arn rbs (C0 g (selC g s b bits a p q i))),false⟩) (Bi (.k rfl (.k rfl (.k rfl (.k rfl (.k rfl (.k rfl (.k rfl .nil))))))) (.k rfl (.k rfl (.cons rfl (by rw [eN];exact LLe.refl _) .nil))) (.cons (by show some _=some _;simp [selN,hss]) (.cons rfl .nil)) rfl rfl rfl) ?_;refine TsN 5 rfl ?_;rw [lN2];refine SrN 1 rfl ?_;rw [show IntKind.wrap .i64 ((((selL s b bits a p q i).length+2:Nat):Int)-1)=(((selL s b bits a p q i).length:Nat):Int)+1 from (w64 (by omega) (by omega)).trans (by omega)];refine Al rfl (by simp [lT];omega) ?_;refine A2 (Tr.drawC hA (Ah 7 rfl (by simp;omega) ?_));rw [Aj hip,eQ];refine Krn rfl (.done ⟨_,_,_,_,_,_,_,[],_,_,[],rfl,rfl,rfl,rfl,km,.inl (by simp),Krn rfl (.done (KrT ?_))⟩);refine Sfn rfl (A7 rfl (A5 ?_));refine TrR rfl ?_;refine ⟨i+1,_,Bi (.k rfl (.k rfl (.k rfl (.k rfl (.k rfl (.k rfl (.cons rfl (VLe.i (w64 (by omega) (by omega))) .nil))))))) (.k rfl (.k rfl (.cons rfl (by rw [eY];exact LLe.refl _) .nil))) (.cons rfl (.cons ?_ .nil)) rfl rfl (by rw [eC];rfl),⟨hib,rfl⟩,by omega⟩
  ·show some _=some _;simp [selT,hss]
 obtain rfl:i=b.length:=by omega
 obtain ⟨hlo,hpt⟩:=selY_ok (bits:=bits) ht hx hwo hpa hbe (Nat.le_refl _);have kf:=c_Fold (g:=g) (s:=selY s b bits a p q b.length) hl0 (by have:=A0b (s:=s) (bits:=bits) (a:=a) (p:=p) (q:=q) b.length (Nat.le_refl _);simp [selY,selN];omega) (by have:=A0b (s:=s) (bits:=bits) (a:=a) (p:=p) (q:=q) b.length (Nat.le_refl _);simp [selY,selT];omega);unfold FoldR at kf;rw [hg,if_pos rfl,hlo,if_pos rfl] at kf;have hcnt:∀x,(allH (Xg (layD g (selY s b bits a p q b.length))) (selY s b bits a p q b.length).traces.length).count x≤(selC g s b bits a p q b.length).count x∧(selC g s b bits a p q b.length).count x≤(allH (Nr (layD g (selY s b bits a p q b.length))) (selY s b bits a p q b.length).traces.length).count x:=fun x=>by
  have:=Ah4 (g:=g) hlo hpt x _ (Nat.le_refl _);rw [List.take_of_length_le (by simp),selC_eq] at this;exact this
 have ka:=c_among hg hcnt;refine A2 (TsN 3 rfl ?_);rw [fl2];refine SrN 1 rfl ?_;rw [decide_eq_false (show ¬(b.length:Int)<(b.length:Int) by omega)];refine Sfn rfl (A7 rfl (Ak ?_));obtain ⟨s',q1,g1,g2,g3,g4,g5⟩:=Sk hA (t:=17) (m:=g.cls.length) rbs (C0 g (selC g s b bits a p q b.length)) [] ⟨[(3,.ptr 3 0),(16,.ptr 16 0),(17,.slice 0 1 (Gw g.cls.length rbs))],[(3,⟨Ed g,false⟩),(16,⟨layC (selY s b bits a p q b.length),false⟩)],[],encA (arn rbs (C0 g (selC g s b bits a p q b.length))),false⟩ hrn (by rw [Er,hrl]) (fun r hr=>by obtain ⟨b,_,rfl⟩:=List.mem_map.1 hr;exact Es _ _ _) (by simp) rfl rfl;have q2:=Bi (E:=(env0 Tryz.prog mixed 192 S ok).withA [] false) (s:=s') (env:=[(3,.ptr 3 0),(16,.ptr 16 0),(17,Iv (C0 g (selC g s b bits a p q b.length)))]) (bx:=[(3,⟨Ed g,false⟩),(16,⟨layC (selY s b bits a p q b.length),false⟩)]) (rw:=[]) (.cons (by rw [g5 3 (by decide)];rfl) (.refl _) (.cons (by rw [g5 16 (by decide)];rfl) (.refl _) (.cons g1 (.of_eq rfl) .nil))) (.cons (by rw [g4];rfl) (LLe.refl _) (.cons (by rw [g4];rfl) (LLe.refl _) .nil)) .nil rfl rfl g2;refine Aa (s':=⟨[(3,.ptr 3 0),(16,.ptr 16 0),(17,.slice 0 1 (Gw g.cls.length rbs))],[(3,⟨Ed g,false⟩),(16,⟨layC (selY s b bits a p q b.length),false⟩)],[],encA (arn rbs (C0 g (selC g s b bits a p q b.length))),false⟩) (Bi (.k rfl (.k rfl (.k rfl .nil))) (.k rfl (.cons rfl (.cons (.dem _ _ _) (.cons (.dem _ _ _) .nil)) .nil)) .nil rfl rfl rfl) ?_;refine Aa (q1.trans q2) ?_;refine TsC rfl (A3 rfl rfl kf (Sfn rfl ?_));refine A2 (Ae (SrG rfl (Av rfl rfl (A3 rfl rfl ka (SrG rfl ?_)))));refine Av rfl rfl (A3 rfl rfl Ql (SrG rfl ?_));exact A8 rfl rfl rfl rfl trivial
end
section
open Go.Am Go.ChangeShapes Go.WideShapes Go.ChangeAt Go.RowKit
def phi (W:World):Nat→Nat:=fun b=>match W.heap[b]? with
 | some (.cells cs _ _)=>cs.size
 | _=>0
theorem phi_top {W:World}:∀b,W.heap.size≤b→phi W b=0:=fun b hb=>by
 unfold phi;rw [Array.getElem?_eq_none hb]
theorem Af2 {W:World} {b o:Nat} {z:Value} (h:W.cell? ⟨b,o,none⟩=some z):o<phi W b:=by
 unfold World.cell? at h;unfold phi;cases hb:W.heap[b]? with
 | none=>rw [hb] at h;simp at h
 | some ob =>
   rw [hb] at h;cases ob with
   | cells c e m=>simp only at h ⊢;exact (Array.getElem?_eq_some_iff.1 h).1
   | _=>simp at h
section
variable {H:Type} (enc:TypeId×Value→H) (W:World)
def Got (Pr:List V→Prop) (cs:List Value):Prop:=∃vs,Pr vs∧vs.length=cs.length∧∀(i:Nat) v c,vs[i]?=some v→cs[i]?=some c→RepD W (phi W) v c∧Af v=true
def Reads (t:TypeId) (Pr:List V→Prop):Prop:=∀fuel cs x,DataW.trod enc Tryz.prog W 0 (fun _=>true) true fuel t cs=some x→Got W Pr cs
def trods (fuel:Nat):List TypeId→List Value→Prop
 | [],cs=>cs=[]
 | t::ts,cs=>(∃x,DataW.trod enc Tryz.prog W 0 (fun _=>true) true fuel t (cs.take (Tryz.prog.cellsOf t))=some x)∧Tryz.prog.cellsOf t≤cs.length∧trods fuel ts (cs.drop (Tryz.prog.cellsOf t))
def A58 (ts:List TypeId) (Pr:List V→Prop):Prop:=∀fuel cs,trods enc W fuel ts cs→Got W Pr cs
variable {enc W}
theorem Got.mono {P Q:List V→Prop} {cs:List Value} (h:Got W P cs) (k:∀vs,P vs→Q vs):Got W Q cs:=let ⟨vs,a,b⟩:=h;⟨vs,k vs a,b⟩
theorem Reads.mono {t:TypeId} {P Q:List V→Prop} (h:Reads enc W t P) (k:∀vs,P vs→Q vs):Reads enc W t Q:=fun fuel cs x hx=>(h fuel cs x hx).mono k
theorem Fd:A58 enc W [] (fun vs=>vs=[]):=fun fuel cs h=>by
 have h:cs=[]:=h;subst h;exact ⟨[],rfl,rfl,fun i v c h=>by simp at h⟩
theorem B8 {t:TypeId} {ts:List TypeId} {P Q:List V→Prop} (h:Reads enc W t P) (k:A58 enc W ts Q):A58 enc W (t::ts) (fun vs=>∃a b,P a∧Q b∧vs=a++b):=fun fuel cs ht=>by
 obtain ⟨⟨x,hx⟩,hle,hr⟩:=ht;obtain ⟨a,ha,la,ra⟩:=h _ _ _ hx;obtain ⟨b,hb,lb,rb⟩:=k _ _ hr;rw [List.length_take] at la;rw [List.length_drop] at lb;refine ⟨a++b,⟨a,b,ha,hb,rfl⟩,by simp;omega,fun i v c hv hc=>?_⟩;by_cases hi:i<a.length
 ·rw [List.getElem?_append_left hi] at hv;exact ra i v c hv (by rw [List.getElem?_take,if_pos (by omega)];exact hc)
 ·rw [List.getElem?_append_right (by omega)] at hv;refine rb (i-a.length) v c hv ?_;rw [List.getElem?_drop,show Tryz.prog.cellsOf t+(i-a.length)=i by omega];exact hc
theorem Aeq {t:TypeId} (ht:Tryz.prog.underlying t=some (.int .i64)):Reads enc W t (fun vs=>∃n:Int,vs=[I n]∧-9223372036854775808≤n∧n≤9223372036854775807):=fun fuel cs x hx=>by
 obtain ⟨n,rfl,_,hw⟩:=DataW.trod_int ht hx;have hb:=Go.bounds_i64 hw;refine ⟨[I n],⟨n,rfl,by omega,by omega⟩,rfl,fun i v c hv hc=>?_⟩;cases i with
 | zero=>cases hv;cases hc;exact ⟨.int _ _,rfl⟩
 | succ i=>cases hv
noncomputable def A3r:List Field→Nat→Nat→Bool
 | [],o,n=>o==n
 | f::r,o,n=>f.offset==o&&A3r r (o+Tryz.prog.cellsOf f.type) n
theorem A8v {fuel:Nat}:∀(fs:List Field) (o n:Nat) (cs:List Value),A3r fs o n=true→cs.length=n→o≤n→(∀f∈fs,∃x,DataW.trod enc Tryz.prog W 0 (fun _=>true) true fuel f.type ((cs.drop f.offset).take (Tryz.prog.cellsOf f.type))=some x)→trods enc W fuel (fs.map (·.type)) (cs.drop o)
 | [],o,n,cs,h,hl,_,_=>by
   simp only [A3r,beq_iff_eq] at h;show cs.drop o=[];rw [List.drop_eq_nil_of_le (by omega)]
 | f::r,o,n,cs,h,hl,ho,hf=>by
   simp only [A3r,Bool.and_eq_true,beq_iff_eq] at h;have hle:o+Tryz.prog.cellsOf f.type≤n:=by
    have:∀(fs:List Field) (o n:Nat),A3r fs o n=true→o≤n:=by
     intro fs
     induction fs with
     | nil=>intro o n h;simp only [A3r,beq_iff_eq] at h;omega
     | cons g r ih=>intro o n h;simp only [A3r,Bool.and_eq_true,beq_iff_eq] at h;have:=ih _ _ h.2;omega
    exact this _ _ _ h.2
   refine ⟨?_,by rw [List.length_drop];show Tryz.prog.cellsOf f.type≤_;omega,?_⟩
   ·have:=hf f (by simp);rw [h.1] at this;exact this
   ·rw [List.drop_drop];exact A8v r _ n cs h.2 hl hle fun g hg=>hf g (by simp [hg])
theorem F3 {t:TypeId} {fs:Array Field} {Pr:List V→Prop} (ht:Tryz.prog.underlying t=some (.struct fs)) (ho:A3r fs.toList 0 (Tryz.prog.cellsOf t)=true) (h:A58 enc W (fs.toList.map (·.type)) Pr):Reads enc W t Pr:=fun fuel cs x hx=>by
 obtain ⟨xs,n,_,_,hl,hxs,hf⟩:=DataW.trod_struct ht hx;refine h n cs ?_;have:=A8v (enc:=enc) (W:=W) (fuel:=n) fs.toList 0 _ cs ho hl (Nat.zero_le _) fun f hm=>by
  obtain ⟨i,hi,rfl⟩:=List.mem_iff_getElem.1 hm;have h1:=hf i fs.toList[i] (by simp at hi ⊢);rw [h1];have:i<xs.length:=by simp at hi;omega
  exact ⟨_,List.getElem?_eq_getElem this⟩
 simpa using this
theorem A2i {fuel:Nat} {e:TypeId}:∀(n k:Nat) (cs:List Value),cs.length=(k+n)*Tryz.prog.cellsOf e→(∀i,i<n→∃x,DataW.trod enc Tryz.prog W 0 (fun _=>true) true fuel e ((cs.drop ((k+i)*Tryz.prog.cellsOf e)).take (Tryz.prog.cellsOf e))=some x)→trods enc W fuel (List.replicate n e) (cs.drop (k*Tryz.prog.cellsOf e))
 | 0,k,cs,hl,_=>by
   show cs.drop _=[];rw [List.drop_eq_nil_of_le (by rw [hl];simp)]
 | n+1,k,cs,hl,hf=>by
   have e1:(k+(n+1))*Tryz.prog.cellsOf e=k*Tryz.prog.cellsOf e+(n*Tryz.prog.cellsOf e+Tryz.prog.cellsOf e):=by rw [Nat.add_mul,Nat.succ_mul]
   refine ⟨by simpa using hf 0 (by omega),by rw [List.length_drop];omega,?_⟩;rw [List.drop_drop,show k*Tryz.prog.cellsOf e+Tryz.prog.cellsOf e=(k+1)*Tryz.prog.cellsOf e by rw [Nat.succ_mul]];exact A2i n (k+1) cs (by rw [hl];congr 1;omega) fun i hi=>by
    have:=hf (i+1) (by omega)
    rwa [show k+1+i=k+(i+1) by omega]
theorem Vb {t e:TypeId} {n:Nat} {Pr:List V→Prop} (ht:Tryz.prog.underlying t=some (.array n e)) (hc:Tryz.prog.cellsOf t=n*Tryz.prog.cellsOf e) (h:A58 enc W (List.replicate n e) Pr):Reads enc W t Pr:=fun fuel cs x hx=>by
 obtain ⟨xs,m,_,_,hl,hxs,hf⟩:=DataW.trod_array ht hx;refine h m cs ?_;have:=A2i (enc:=enc) (W:=W) (fuel:=m) (e:=e) n 0 cs (by rw [hl,hc];simp) fun i hi=>by
  rw [Nat.zero_add,hf i hi];exact ⟨_,List.getElem?_eq_getElem (by omega)⟩
 simpa using this
def A04 (agg:Bool) (x:List V):V:=bif agg then .agg x else x.headD Cz
theorem Acz {agg:Bool} {x:List V} {sz:Nat} (hx:x.length=sz) (hs:∀v∈x,Af v=true) (ha:agg=false→sz=1):cells (A04 agg x)=x:=by
 cases agg with
 | true=>rfl
 | false =>
   have:=ha rfl;subst this
   match x,hx with
   | [v],_ =>
     have hv:=hs v (by simp);show cells v=[v];cases v<;>simp [Af] at hv<;>rfl
theorem Aha {a:Addr} {z:Value} (h:W.cell? a=some z):a=⟨a.block,a.off,none⟩:=by
 have:=World.cell?_spot h;obtain ⟨b,o,s⟩:=a;simp only at this;subst this;rfl
theorem O9 {t e:TypeId} {sz:Nat} {Pe:List V→Prop} (agg:Bool) (ht:Tryz.prog.underlying t=some (.slice e)) (hc:Tryz.prog.cellsOf e=sz) (h0:0<sz) (ha:agg=false→sz=1) (h:Reads enc W e Pe) :
  Reads enc W t (fun vs=>∃xs:List (List V),(∀x∈xs,Pe x)∧xs.length≤9223372036854775807∧vs=[.slice 0 sz (xs.map (A04 agg))]):=fun fuel cs x hx=>by
 subst hc;rcases DataW.trod_slice ht hx with ⟨rfl,_⟩ | ⟨a,len,cap,elems,rest,n,_,rfl,_,_,hlc,hcm,hel,hE,_⟩
 ·refine ⟨[.slice 0 _ []],⟨[],fun x hx=>by simp at hx,by simp,rfl⟩,rfl,fun i v c hv hc=>?_⟩;cases i with
  | zero=>cases hv;cases hc;exact ⟨.slice0 _ _ _,rfl⟩
  | succ i=>cases hv
 ·have hcm':cap≤9223372036854775807:=by unfold maxLen at hcm;omega
  have step:∀m,m≤len→∃xs:List (List V),xs.length=m∧(∀x∈xs,Pe x∧x.length=Tryz.prog.cellsOf e) ∧
    ∀(i:Nat) x (j:Nat) v,xs[i]?=some x→x[j]?=some v→∃c,W.cell? (a.add (i*Tryz.prog.cellsOf e+j))=some c∧RepD W (phi W) v c∧Af v=true:=by
   intro m
   induction m with
   | zero=>exact fun _=>⟨[],rfl,fun x hx=>by simp at hx,fun i x j v hx=>by simp at hx⟩
   | succ m ih =>
     intro hm;obtain ⟨xs,l1,l2,l3⟩:=ih (by omega);have h1:=hE m (by omega);rw [List.getElem?_eq_getElem (by omega)] at h1;rw [Option.bind_eq_some_iff] at h1;obtain ⟨ccs,h2,h3⟩:=h1;obtain ⟨vs,v1,v2,v3⟩:=h _ _ _ h3;have hcc:ccs.length=Tryz.prog.cellsOf e∧∀(j:Nat) c,ccs[j]?=some c→W.cell? (a.add (m*Tryz.prog.cellsOf e+j))=some c:=by
      unfold World.cells? at h2;rw [if_pos (Nat.zero_le _)] at h2;refine ⟨by simpa using mapM_some_length h2,fun j c hj=>?_⟩;have hjl:j<Tryz.prog.cellsOf e:=by
       have:=(List.getElem?_eq_some_iff.1 hj).1;have hh:=mapM_some_length h2;simp at hh;omega
      have:=mapM_some_get h2 j j (by simp [hjl]);rw [hj] at this;rw [←this,Addr.add_add]
     refine ⟨xs++[vs],by simp [l1],fun x hx=>?_,fun i x j v hx hj=>?_⟩
     ·rcases List.mem_append.1 hx with hx | hx
      ·exact l2 x hx
      ·simp at hx;subst hx;exact ⟨v1,by omega⟩
     ·by_cases hi:i<xs.length
      ·rw [List.getElem?_append_left hi] at hx;exact l3 i x j v hx hj
      ·have hi':i=xs.length:=by
        have:=(List.getElem?_eq_some_iff.1 hx).1;simp at this;omega
       subst hi';rw [List.getElem?_append_right (by omega)] at hx;simp at hx;subst hx;have hjl:j<ccs.length:=by have:=(List.getElem?_eq_some_iff.1 hj).1;omega
       rw [l1];exact ⟨ccs[j],hcc.2 j _ (List.getElem?_eq_getElem hjl),v3 j v _ hj (List.getElem?_eq_getElem hjl)⟩
  obtain ⟨xs,l1,l2,l3⟩:=step len (Nat.le_refl _);have hsc:∀x∈xs,∀v∈x,Af v=true:=fun x hx v hv=>by
   obtain ⟨i,hi,rfl⟩:=List.mem_iff_getElem.1 hx;obtain ⟨j,hj,rfl⟩:=List.mem_iff_getElem.1 hv;obtain ⟨c,_,_,hs⟩:=l3 i _ j _ (List.getElem?_eq_getElem hi) (List.getElem?_eq_getElem hj);exact hs
  have hcw:∀x∈xs,cells (A04 agg x)=x:=fun x hx=>Acz (l2 x hx).2 (hsc x hx) ha;refine ⟨[.slice 0 _ (xs.map (A04 agg))],⟨xs,fun x hx=>(l2 x hx).1,by omega,rfl⟩,rfl,fun i v c hv hc=>?_⟩;cases i with
  | succ i=>cases hv
  | zero =>
    cases hv;cases hc;refine ⟨?_,rfl⟩;by_cases hl0:len=0
    ·subst hl0;have:xs=[]:=List.eq_nil_of_length_eq_zero l1;subst this;exact .slice0 _ _ _
    ·
     have hx0:0<xs.length:=by omega
     have hlen0:=(l2 _ (List.getElem_mem hx0)).2;obtain ⟨c0,hc0,_⟩:=l3 0 xs[0] 0 (xs[0][0]'(by omega)) (List.getElem?_eq_getElem hx0) (List.getElem?_eq_getElem (by omega));have hsp:=Aha hc0;obtain ⟨b,off,sp⟩:=a;have:sp=none:=by simpa [Addr.add] using hsp
     subst this;have hwl:∀y∈xs.map (A04 agg),(cells y).length=Tryz.prog.cellsOf e:=fun y hy=>by
      obtain ⟨x,hx,rfl⟩:=List.mem_map.1 hy;rw [hcw x hx,(l2 x hx).2]
     have at_:∀(j:Nat) v,((xs.map (A04 agg)).flatMap cells)[j]?=some v→∃c,W.cell? ⟨b,off+j,none⟩=some c∧RepD W (phi W) v c∧Af v=true:=fun j v hj=>by
      obtain ⟨i,u,k,hu,hk,rfl⟩:=N6 h0 hwl j v hj;rw [List.getElem?_map,Option.map_eq_some_iff] at hu;obtain ⟨x,hx,rfl⟩:=hu;rw [hcw x (List.mem_of_getElem? hx)] at hk;obtain ⟨c,q1,q2⟩:=l3 i x k v hx hk;refine ⟨c,?_,q2⟩;rw [←q1];unfold Addr.add;split
      ·rename_i h;rw [h];rfl
      ·rfl
     refine .slice _ _ b off len cap (fun j=>(W.cell? ⟨b,off+j,none⟩).getD undef) h0 (by simp [l1]) hlc hwl (fun j v hj=>?_) (fun j v hj=>?_)
     ·obtain ⟨c,q1,q2,q3⟩:=at_ j v hj;exact ⟨Af2 q1,by rw [q1];rfl,q3⟩
     ·obtain ⟨c,q1,q2,q3⟩:=at_ j v hj;rw [q1];exact q2
theorem A82 {t:TypeId} {Pr:List V→Prop} {v:Value} {d:DataW H} {p:List MemPlace} (ha:aggB Tryz.prog t=true) (h:Reads enc W t Pr) (hv:Value.okWide Tryz.prog W .any 0 t v) (ht:DataW.Trod enc Tryz.prog W 0 (fun _=>true) true t v d p):∃vs,Pr vs∧RepD W (phi W) (.agg vs) v:=by
 obtain ⟨fuel,hf⟩:=ht;obtain ⟨vs,h1,h2,h3⟩:=h _ _ _ hf;obtain ⟨cs,rfl,_⟩:∃cs,v=.agg cs∧True:=by
  unfold aggB at ha;unfold Value.okWide at hv;split at ha
  ·rename_i hu;rw [hu] at hv;obtain ⟨cs,rfl,_⟩:=hv;exact ⟨cs,rfl,trivial⟩
  ·rename_i hu;rw [hu] at hv;obtain ⟨cs,rfl,_⟩:=hv;exact ⟨cs,rfl,trivial⟩
  ·cases ha
 refine ⟨vs,h1,.agg _ _ (by simpa [Value.cells] using h2) fun i v x hv hx=>(h3 i v x hv ?_).1⟩;simpa [Value.cells] using hx
theorem Ou {α:Type} {xs:List (List V)} {R:α→Prop} {g:α→List V} (h:∀x∈xs,∃a,R a∧x=g a):∃l:List α,xs=l.map g∧∀a∈l,R a:=by
 induction xs with
 | nil=>exact ⟨[],rfl,fun a ha=>by simp at ha⟩
 | cons x r ih =>
   obtain ⟨a,ha,rfl⟩:=h x (by simp);obtain ⟨l,rfl,hl⟩:=ih fun y hy=>h y (by simp [hy]);exact ⟨a::l,rfl,fun b hb=>by
    rcases List.mem_cons.1 hb with rfl | hb
    ·exact ha
    ·exact hl b hb⟩
end
end
section
open Go.Am Go.ChangeShapes Go.WideShapes Go.ChangeAt Go.RowKit
section
variable {H:Type} {enc:TypeId×Value→H} {W:World}
theorem Gy:Reads enc W 3 (fun vs=>∃n:Int,vs=[I n]∧-9223372036854775808≤n∧n≤9223372036854775807):=Aeq Tryz.underlying3
theorem Un:Reads enc W 23 (fun vs=>∃b:Int×Int,vs=[I b.1,I b.2]):=by
 refine (F3 Tryz.underlying23 (by kernel_rfl) (B8 Gy (B8 Gy Fd))).mono ?_;rintro vs ⟨a,b,⟨x,rfl,_⟩,⟨c,d,⟨y,rfl,_⟩,rfl,rfl⟩,rfl⟩;exact ⟨(x,y),rfl⟩
theorem A99:Reads enc W 29 (fun vs=>∃b:Int×Int,vs=[I b.1,I b.2]):=by
 refine (F3 Tryz.underlying29 (by kernel_rfl) (B8 Gy (B8 Gy Fd))).mono ?_;rintro vs ⟨a,b,⟨x,rfl,_⟩,⟨c,d,⟨y,rfl,_⟩,rfl,rfl⟩,rfl⟩;exact ⟨(x,y),rfl⟩
theorem A2z:Reads enc W 24 (fun vs=>∃l:List (Int×Int),l.length≤9223372036854775807∧vs=[sB l]):=by
 refine (O9 (sz:=2) true Tryz.underlying24 (by kernel_rfl) (by decide) (by decide) A99).mono ?_;rintro vs ⟨xs,h1,h2,rfl⟩;obtain ⟨l,rfl,_⟩:=Ou (R:=fun _=>True) (g:=fun b:Int×Int=>[I b.1,I b.2]) fun x hx=>by obtain ⟨b,rfl⟩:=h1 x hx;exact ⟨b,trivial,rfl⟩
 refine ⟨l,by simpa using h2,?_⟩;simp [sB,A04,Function.comp_def,eB]
theorem rd_ints:Reads enc W 36 (fun vs=>∃l:List Int,l.length≤9223372036854775807∧vs=[As l]):=by
 refine (O9 (sz:=1) false Tryz.underlying36 (by kernel_rfl) (by decide) (fun _=>rfl) Gy).mono ?_;rintro vs ⟨xs,h1,h2,rfl⟩;obtain ⟨l,rfl,_⟩:=Ou (R:=fun _=>True) (g:=fun n:Int=>[I n]) fun x hx=>by obtain ⟨b,rfl,_⟩:=h1 x hx;exact ⟨b,trivial,rfl⟩
 refine ⟨l,by simpa using h2,?_⟩;simp [As,A04,Function.comp_def]
theorem Ab3:Reads enc W 97 (fun vs=>∃x:Sec,vs=secC x):=by
 refine (F3 Tryz.underlying97 (by kernel_rfl) (B8 Gy (B8 Gy (B8 Gy (B8 Gy (B8 Gy Fd)))))).mono ?_;rintro vs ⟨a1,b1,⟨x1,rfl,_⟩,⟨a2,b2,⟨x2,rfl,_⟩,⟨a3,b3,⟨x3,rfl,_⟩,⟨a4,b4,⟨x4,rfl,_⟩,⟨a5,b5,⟨x5,rfl,_⟩,rfl,rfl⟩,rfl⟩,rfl⟩,rfl⟩,rfl⟩;exact ⟨⟨x1,x2,x3,x4,x5⟩,rfl⟩
theorem A6c:Reads enc W 27 (fun vs=>∃l:List Sec,l.length≤9223372036854775807∧vs=[Cl l]):=by
 refine (O9 (sz:=5) true Tryz.underlying27 (by kernel_rfl) (by decide) (by decide) Ab3).mono ?_;rintro vs ⟨xs,h1,h2,rfl⟩;obtain ⟨l,rfl,_⟩:=Ou (R:=fun _=>True) (g:=fun x:Sec=>secC x) fun x hx=>by obtain ⟨b,rfl⟩:=h1 x hx;exact ⟨b,trivial,rfl⟩
 refine ⟨l,by simpa using h2,?_⟩;simp [Cl,A04,Function.comp_def,eSec]
theorem A6b:Reads enc W 31 (fun vs=>∃s:Strm,s.secs.length≤9223372036854775807∧vs=strC s):=by
 refine (F3 Tryz.underlying31 (by kernel_rfl) (B8 Gy (B8 A6c (B8 A99 (B8 Gy Fd))))).mono ?_;rintro vs ⟨a1,b1,⟨x1,rfl,_⟩,⟨a2,b2,⟨x2,h2,rfl⟩,⟨a3,b3,⟨x3,rfl⟩,⟨a4,b4,⟨x4,rfl,_⟩,rfl,rfl⟩,rfl⟩,rfl⟩,rfl⟩;exact ⟨⟨x1,x2,x3,x4⟩,h2,rfl⟩
theorem rd_tail:Reads enc W 33 (fun vs=>∃(s:Strm) (b:List (Int×Int)),s.secs.length≤9223372036854775807∧b.length≤9223372036854775807∧vs=[I s.head,Cl s.secs,I s.lane.1,I s.lane.2,I s.bend,sB b]):=by
 refine (F3 Tryz.underlying33 (by kernel_rfl) (B8 A6b (B8 A2z Fd))).mono ?_;rintro vs ⟨a1,b1,⟨x1,h1,rfl⟩,⟨a2,b2,⟨x2,h2,rfl⟩,rfl,rfl⟩,rfl⟩;exact ⟨x1,x2,h1,h2,rfl⟩
theorem rd_way:Reads enc W 34 (fun vs=>∃a b:Int×Int,vs=[I a.1,I a.2,I b.1,I b.2]):=by
 refine (Vb Tryz.underlying34 (by kernel_rfl) (B8 Un (B8 Un Fd))).mono ?_;rintro vs ⟨a,b,⟨x,rfl⟩,⟨c,d,⟨y,rfl⟩,rfl,rfl⟩,rfl⟩;exact ⟨x,y,rfl⟩
theorem rd_int3:Reads enc W 35 (fun vs=>∃a b c:Int,vs=[I a,I b,I c]):=by
 refine (Vb Tryz.underlying35 (by kernel_rfl) (B8 Gy (B8 Gy (B8 Gy Fd)))).mono ?_;rintro vs ⟨a,b,⟨x,rfl,_⟩,⟨c,d,⟨y,rfl,_⟩,⟨e,f,⟨z,rfl,_⟩,rfl,rfl⟩,rfl⟩,rfl⟩;exact ⟨x,y,z,rfl⟩
theorem rd_route:Reads enc W 38 (fun vs=>∃y:Rou,y.bits.length≤9223372036854775807∧vs=[I y.a.1,I y.a.2,I y.w1.1,I y.w1.2,I y.w2.1,I y.w2.2,I y.n0,I y.n1,I y.n2,As y.bits]):=by
 refine (F3 Tryz.underlying38 (by kernel_rfl) (B8 Un (B8 rd_way (B8 rd_int3 (B8 rd_ints Fd))))).mono ?_;rintro vs ⟨a1,b1,⟨x1,rfl⟩,⟨a2,b2,⟨x2,y2,rfl⟩,⟨a3,b3,⟨x3,y3,z3,rfl⟩,⟨a4,b4,⟨x4,h4,rfl⟩,rfl,rfl⟩,rfl⟩,rfl⟩,rfl⟩;exact ⟨⟨x1,x2,y2,x3,y3,z3,x4⟩,h4,rfl⟩
theorem rd_grid:Reads enc W 26 (fun vs=>∃g:Gd,g.cls.length≤9223372036854775807∧vs=Ed g):=by
 refine (F3 Tryz.underlying26 (by kernel_rfl) (B8 Un (B8 Gy (B8 Gy (B8 Gy (B8 A2z Fd)))))).mono ?_;rintro vs ⟨a,b,⟨o,rfl⟩,⟨c,d,⟨x,rfl,_⟩,⟨e,f,⟨y,rfl,_⟩,⟨k,m,⟨z,rfl,_⟩,⟨p,q,⟨l,hl,rfl⟩,rfl,rfl⟩,rfl⟩,rfl⟩,rfl⟩,rfl⟩;exact ⟨⟨o,x,y,z,l⟩,hl,rfl⟩
end
theorem Aeo {w:World} {φ:Nat→Nat} {b:Bool} {x:Value} (h:RepR w φ (.bool b) x):x=.bool b:=by
 cases h with
 | data r=>cases r;rfl
theorem repL3 {w:World} {φ:Nat→Nat} {a b c:V} {x y z:Value} (h:RepD w φ a x) (k:RepD w φ b y) (m:RepD w φ c z):RepL w φ [a,b,c] #[x,y,z]:=⟨rfl,fun i v y h1 h2=>by
 match i with
 | 0=>cases h1;cases h2;exact h
 | 1=>cases h1;cases h2;exact k
 | 2=>cases h1;cases h2;exact m
 | i+3=>simp at h1⟩
theorem walk_of {f:FuncId} {args:List V} {xs:Array Value} {W:World} (hc:C Tryz.prog f args (.bool true)) (hg:Gl W (phi W)) (hr:RepL W (phi W) args xs):Calls Tryz.prog f xs W fun e W'=>e=.returned (.bool true)∧Below W.heap.size W W' :=
 (hc.2 W (phi W) xs phi_top hg hr).mono fun e w' ⟨φ',x,he,hx,hb,_⟩=>⟨by rw [he,Aeo hx],hb⟩
theorem own:ownKnob Tryz.prog.godebug=none:=by kernel_rfl
theorem A19:laidOutB Tryz.prog=true:=by kernel_rfl
end
section
open Go.Am Go.ChangeShapes Go.WideShapes Go.ChangeAt Go.RowKit
noncomputable def headL:List Char:=([104,97,114,110,101,115,115,32,57,55,97,98,50,53,100,97,98,102,97,97,55,56,48,99,102,54,52,49,56,100,97,52,55,99,56,102,51,56,53,100,53,102,98,50,52,57,50,53,51,97,54,52,97,97,51,53,97,56,99,55,98,49,48,50,97,54,100,99,99,48,98,100,32,99,117,116,32,97,116,32,112,97,114,97,118,97,110,101,47,112,97,114,97,118,97,110,101,116,111,112,46,84,111,112,83,97,105,108,101,100]:List Nat).map Char.ofNat
theorem Ac4:Tryz.prog.initOrder=String.ofList (([104,97,114,110,101,115,115,32,57,55,97,98,50,53,100,97,98,102,97,97,55,56,48,99,102,54,52,49,56,100,97,52,55,99,56,102,51,56,53,100,53,102,98,50,52,57,50,53,51,97,54,52,97,97,51,53,97,56,99,55,98,49,48,50,97,54,100,99,99,48,98,100,32,99,117,116,32,97,116,32,112,97,114,97,118,97,110,101,47,112,97,114,97,118,97,110,101,116,111,112,46,84,111,112,83,97,105,108,101,100]:List Nat).map Char.ofNat):=by
 unfold Tryz.prog
 dsimp only
 show (_:String)=_
 kernel_rfl
theorem W8:Tryz.prog.initOrder.toList=headL:=(congrArg String.toList Ac4).trans String.toList_ofList
section
variable (P:Program) (h:P.initOrder.toList=headL)
include h
theorem make_of:P.make=some .cut:=by
 unfold Program.make;rw [h]
 kernel_rfl
theorem A3w:P.headLifts=[]:=by
 unfold Program.headLifts;rw [h]
 kernel_rfl
theorem lifts_of:P.liftsFinal=false:=by
 unfold Program.liftsFinal;rw [h,A3w P h]
 kernel_rfl
theorem may_of (h1:P.laysLater=false) (h2:P.bearsReflect=false) (h3:P.doorFits []=true):P.mayEnter=true:=by
 unfold Program.mayEnter;rw [h,h1,h2];have e:behindMainWord (wordsSigns headL)= "cut".toList::(behindMainWord (wordsSigns headL)).tail:=by kernel_rfl
 have e2:stripLifts liftWords ("cut".toList::(behindMainWord (wordsSigns headL)).tail)=([],"cut".toList::(behindMainWord (wordsSigns headL)).tail):=by kernel_rfl
 rw [e]
 dsimp only
 rw [e2,h3]
 first | rfl | (show (_:Bool)=true;kernel_rfl)
end
theorem may:Tryz.prog.mayEnter=true:=may_of _ W8 (by kernel_rfl) (by kernel_rfl) (by kernel_rfl)
theorem lifts:Tryz.prog.liftsFinal=false:=lifts_of _ W8
theorem made:Tryz.prog.make=some .cut:=make_of _ W8
theorem heard:Tryz.prog.stopsHeard=true:=by kernel_rfl
theorem On:Tryz.prog.plainKeys=false:=by kernel_rfl
theorem rowed:mapsRowed Tryz.prog=true:=by kernel_rfl
end
section
open Go.Am Go.ChangeShapes Go.WideShapes Go.ChangeAt Go.RowKit
def Ac2:List (String×DataW Unit):=[("paravane/bin.none",Rows.laid_paravane_bin_none)]
theorem Abv {W:World} (h:laidMetH Tryz.prog Ac2 W):W.var? Tryz.prog "paravane/bin.none"=some #[.int .i64 (-1),.int .i64 (-1)]:=by
 rw [MakeChecks.laidMetH_plain _ _ _ (by kernel_rfl)] at h;obtain ⟨ps,⟨g,t,cs,fuel,p,q,hg,ht,hv,hd,_,_⟩,_,_⟩:=h;obtain rfl:=Option.some.inj ((show Tryz.prog.globalNamed "paravane/bin.none"=some 0 by kernel_rfl).symm.trans hg);obtain rfl:=Option.some.inj ((show (Tryz.prog.globals[0]?).map (·.type)=some 85 by kernel_rfl).symm.trans ht);have ci:Tryz.prog.cellsOf 3=1:=by kernel_rfl
 have cc:Tryz.prog.cellsOf 85=2:=by kernel_rfl
 obtain ⟨y0,y1,n,ex,hlen,k0,k1⟩:=trod_struct2 Tryz.underlying85 hd;rw [cc] at hlen;obtain ⟨l⟩:=cs
 match l,hlen with
 | [a,b],_ =>
   have e3:=DataW.agg.inj (Prod.mk.inj ex).1;simp only [List.cons.injEq,and_true] at e3;simp only at k0 k1;rw [ci] at k0 k1;obtain ⟨z0,a0,b0,_⟩:=DataW.trod_int Tryz.underlying3 k0;obtain ⟨z1,a1,b1,_⟩:=DataW.trod_int Tryz.underlying3 k1;rw [b0,b1] at e3;have e4:(-1:Int)=z0∧(-1:Int)=z1:=by simpa [Rows.laid_paravane_bin_none] using e3
   have a2:a=.int .i64 z0:=by simpa using a0
   have a3:b=.int .i64 z1:=by simpa using a1
   rw [hv,a2,a3,←e4.1,←e4.2]
theorem gl_of {W:World} (h:laidMetH Tryz.prog Ac2 W):Gl W (phi W):=by
 have hc:=fun j=>World.var?_cell (show Tryz.prog.globalNamed "paravane/bin.none"=some 0 by kernel_rfl) (Abv h) j;intro p hp;obtain rfl:p=(0,[.int .i64 (-1),.int .i64 (-1)]):=by simpa [Fy] using hp
 refine .vptr _ 0 0 0 (fun _=>.int .i64 (-1)) (fun j v hj=>?_) (fun j v hj=>?_)
 ·match j,hj with
  | 0,hj=>cases hj;exact ⟨Af2 (hc 0),hc 0,rfl⟩
  | 1,hj=>cases hj;exact ⟨Af2 (hc 1),hc 1,rfl⟩
 ·match j,hj with
  | 0,hj=>cases hj;exact .int _ _
  | 1,hj=>cases hj;exact .int _ _
end
end Go.Proofs.YtabedohjkillfaaGreatDoor
