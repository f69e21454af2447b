/-
  Parts of the proof: the abstract machine, the compiled code, contracts of the functions, plain laws (spelled short by a program).
-/
import Derived.Test.YtabedohjkillfaaGreatDoorX8
import Derived.Laws.Concat
set_option maxRecDepth 100000
set_option maxHeartbeats 4000000
set_option linter.unusedVariables false
set_option linter.unusedSimpArgs false
namespace Go.Am
section
open Go.RowKit
theorem A4z {E:Env} {S1:Sur} {l0:List (List V)} {s0:Bool} (hES:E.S=SA S1 l0 s0) (ok1:S1.ok) {s:St} {Q:Exit→St→Prop} {z:X} {ps:List Nat} {asg body:IC} {f:FuncId} {cap us:List V} {yl:YL} {F A1:Arena} {Φ:List (List V)→Bool→Arena→Prop} (hz:evX s.fs z=some (.func (.func f) [] cap)) (hd:toDs s.fs.b cap=some (us,[])) (hl:s.log=encA (F++A1))
  (hit:∀l,CY E.P f l yl [] A1 (.func (.yield l) [] []::us) fun _ ys stp B=>Φ ys stp B)
  (hpin:E.pin.all (C6 s.bx)=true) (henv:s.env.all (fun p=>Bw (C6 s.bx) (fun _=>none) 6 p.2)=true) (hps:ps.all (fun p=>decide (p<E.nt))=true) (hlen:∀pre x,yl (pre++[x])→x.length=ps.length)
  (Inv:List (List V)→St→Prop) (Ix:Exit→St→Prop) (h0:Inv [] {s with log:=encA F}) (hround:∀(a:Act) (L:Nat) (rc:LoopState→Option Code→Loop) (h0:Gh),Round E {s:={s with log:=encA F},a:=a,L:=L,rc:=rc,h0:=h0,Inv:=Inv,Ix:=Ix} yl ps asg body)
  (hdone:∀t log B F',t.log=encA F'→Φ log false B→t.env=s.env→t.stp=s.stp→Inv log t→Q .normal {t with log:=encA (F'++B)}) (hstop:∀e t log B F',t.log=encA F'→Φ log true B→t.env=s.env→Ix e t→Q e {t with log:=encA (F'++B)}):Tr E none (.range z ps asg body) Q s:=fun c hc n a w h R Q' hq=>by
 obtain ⟨p,ca,cb,rfl,e0,e1,e2⟩:=Cb hc;have hES':=hES;have okz:=R.1.opd e0 hz;obtain ⟨f',c',ef,hf',hc',_,hcr⟩:=Kv okz;have hf0:f'=#[]:=by
  have:f'.size=0:=by simpa using hf'.symm
  exact Array.eq_empty_of_size_eq_zero this
 subst hf0;have hcallable:=(hit 0).1;refine wpIn_rangeFunc fun fn hfn=>?_;have hw1:∃w1,(w.alloc (.deferred (some []))).alloc (.loop {state:=.ready,pending:=none,fn:=fn,tmps:=a.tmps,params:=ps.toArray,assign:=ca,body:=cb,defers:=w.heap.size})=w1:=⟨_,rfl⟩;obtain ⟨w1,hw1⟩:=hw1;have hl1:w1.heap[w.heap.size+1]?=some (.loop {state:=.ready,pending:=none,fn:=fn,tmps:=a.tmps,params:=ps.toArray,assign:=ca,body:=cb,defers:=w.heap.size}):=by
  rw [←hw1];have:=World.alloc_heap_new (w.alloc (.deferred (some []))) (.loop {state:=.ready,pending:=none,fn:=fn,tmps:=a.tmps,params:=ps.toArray,assign:=ca,body:=cb,defers:=w.heap.size});rwa [World.size_alloc] at this
 have hk1:w1.heap[w.heap.size]?=some (.deferred (some [])):=by
  rw [←hw1];exact (Below.heap_alloc _ _ _ (by simp)).trans (World.alloc_heap_new w _)
 have R1:=(R.1.alloc E.ok (.deferred (some []))).alloc E.ok (.loop {state:=.ready,pending:=none,fn:=fn,tmps:=a.tmps,params:=ps.toArray,assign:=ca,body:=cb,defers:=w.heap.size});rw [hw1] at R1;obtain ⟨h1,hh1⟩:∃h1:Gh,{h with M:=fun b=>(h.M b∨b=w.heap.size)∨b=(w.alloc (.deferred (some []))).heap.size}=h1:=⟨_,rfl⟩;have R1:Rel E.nt E.S s.log s.stp s.fs a w1 h1:=by rw [←hh1];exact R1
 have q1:h1.φ=h.φ:=by rw [←hh1]
 have q2:h1.y=h.y:=by rw [←hh1]
 have qD:h1.M w.heap.size:=by rw [←hh1];exact .inl (.inr rfl)
 have qL:h1.M (w.heap.size+1):=by rw [←hh1];exact .inr (by simp)
 obtain ⟨a',ha'⟩:∃a':Act,{a with defers:=[{target:=.collected w.heap.size,args:=#[]}]++a.defers}=a':=⟨_,rfl⟩;have ht':a'.tmps=a.tmps:=by rw [←ha']
 have R2:Rel E.nt E.S s.log s.stp s.fs a' w1 h1:=by
  refine {R1 with size:=by rw [ht'];exact R1.size,env:=fun t v hv=>by rw [ht'];exact R1.env t v hv,marks:=?_};rw [←ha'];refine ⟨⟨w.heap.size,rfl,qD,hk1,fun d hd e=>?_⟩,R1.marks⟩;have:∀ds:List Deferred,Marks h.M w ds→∀d∈ds,d≠{target:=.collected w.heap.size,args:=#[]}:=by
   intro ds
   induction ds with
   | nil=>intro _ d hd;cases hd
   | cons d0 ds ih =>
     rintro ⟨⟨r,er,hMr,_,_⟩,hs⟩ d hd e;rcases List.mem_cons.1 hd with rfl | hd
     ·rw [er] at e;simp only [Deferred.mk.injEq,Target.collected.injEq,and_true] at e;have:=R.1.mine r hMr;omega
     ·exact ih hs d hd e
  exact this a.defers R.1.marks d hd e
 let lc:LC:={s:={s with log:=encA F},a:=a',L:=w.heap.size+1,rc:=fun st p=>{state:=st,pending:=p,fn:=fn,tmps:=a.tmps,params:=ps.toArray,assign:=ca,body:=cb,defers:=w.heap.size},h0:=h1,Inv:=Inv,Ix:=Ix}
 have hpin':∀i∈E.pin,C6 s.bx i=true:=by rw [List.all_eq_true] at hpin;exact hpin
 have hps':∀p∈ps,p<E.nt:=fun p hp=>by rw [List.all_eq_true] at hps;simpa using hps p hp
 have hY:Fw E.P (SI E lc) yl (w.heap.size+1):=V1 (c:=lc) (D:=w.heap.size) (fn:=fn) (fun st p=>by rw [show lc.a.tmps=a.tmps from ht']) e1 e2 (by show E.yok h1.y;rw [q2];exact R.2) hpin' henv hps' hlen (hround _ _ _ _);have hsur1:SA S1 l0 s0 (encA (F++A1)) s.stp h1.M w1 h1.φ:=by have:=R2.sur;rw [hES,hl] at this;exact this
 obtain ⟨A0,eA,es0,hA,hS⟩:=hsur1;obtain rfl:=D3 eA;have hnd:=hA.nd;rw [List.map_append,List.nodup_append] at hnd;have arA:Ar w1 h1.φ (fun _=>False) A1:=⟨hnd.2.1,fun p hp=>hA.ok p (List.mem_append.2 (.inr hp)),fun _ _ h=>h,fun p hp=>hA.lt p (List.mem_append.2 (.inr hp)),fun p hp=>hA.z p (List.mem_append.2 (.inr hp))⟩;have hSI:SI E lc [] false (fun b=>b∈A1.map (·.1)) w1 h1.φ:=⟨{s with log:=encA F},h1,none,{
  env:=rfl
  phi:=rfl
  y:=rfl
  rel:=R2.toTop
  sur:=by
   rw [hES];refine ⟨F,rfl,es0,⟨hnd.1,fun p hp=>hA.ok p (List.mem_append.2 (.inl hp)),fun p hp hM=>?_,fun p hp=>hA.lt p (List.mem_append.2 (.inl hp)),fun p hp=>hA.z p (List.mem_append.2 (.inl hp))⟩,ok1.move _ _ _ _ _ _ _ _ hS ⟨Ext.refl _ _,fun _ _ _=>⟨rfl,rfl⟩,Nat.le_refl _,rfl,rfl,rfl,fun b hb=>.inl ?_,R2.top⟩⟩
   ·rcases hM with hM | hM
    ·exact hA.fr p (List.mem_append.2 (.inl hp)) hM
    ·exact hnd.2.2 _ (List.mem_map.2 ⟨p,hp,rfl⟩) _ hM rfl
   ·rw [List.map_append,List.mem_append];rcases hb with (hb | hb) | hb
    ·exact .inl hb
    ·exact .inr (.inr hb)
    ·exact .inr (.inl hb)
  dis:=fun b hb hm=>by
   obtain ⟨p,hp,rfl⟩:=List.mem_map.1 hm;exact hA.fr p (List.mem_append.2 (.inr hp)) hb
  hL:=qL
  rc:=hl1
  keys:=fun _ _ _ e=>e
  go:=fun _=>⟨h0,rfl,rfl⟩
  stop:=fun e=>(by cases e)}⟩
 have hrepc:RepL w1 h1.φ us c':=by
  have hcr1:∀(i:Nat) v x,cap[i]?=some v→c'[i]?=some x→Rep w1 h1.φ h1.β h1.y.l v x:=fun i v x g1 g2=>by
   have ext:Ext w h.φ w1 h1.φ:=by
    have e1:Ext w h.φ w1 h.φ:=fun b o ho=>by
     have hlt:b<w.heap.size:=by
      rcases Nat.lt_or_ge b w.heap.size with h1 | h1
      ·exact h1
      ·rw [R.1.top b h1] at ho;omega
     have hbk:w1.heap[b]?=w.heap[b]?:=by
      rw [←hw1,Below.heap_alloc _ _ _ (by simp;omega),Below.heap_alloc _ _ _ hlt]
     exact ⟨ho,World.cell?_of_block hbk,Bn hbk⟩
    rw [q1];exact e1
   have:=(hcr i v x g1 g2).mono ext (β':=h1.β) (fun _ _ e=>by rw [←hh1];exact e);rw [q2];exact this
  have hd':toDl s.fs.b 6 cap=some (us,[]):=hd;obtain ⟨g1,g2⟩:=Hc hd';refine ⟨by omega,fun i u x hu hx=>?_⟩;have hlt:i<cap.length:=by have:=(List.getElem?_eq_some_iff.1 hu).1;omega
  obtain ⟨js,h5,h6⟩:=g2 i _ u (List.getElem?_eq_getElem hlt) hu;exact (Jn R1 6 _ u x js h5 (fun i hi=>(by cases h6 i hi)) (hcr1 i _ x (List.getElem?_eq_getElem hlt) hx)).1
 obtain ⟨hcall,hcon⟩:=hit (w.heap.size+1);have hrepA:RepL w1 h1.φ (.func (.yield (w.heap.size+1)) [] []::us) (#[.func (.yield (w.heap.size+1)) #[] #[]]++c'):=by
  refine ⟨by have:=hrepc.1;simp;omega,fun i v x hv hx=>?_⟩;cases i with
  | zero =>
    simp at hv;rw [Array.getElem?_append_left (by simp)] at hx;simp at hx;subst hv hx;exact .func _ [] [] #[] #[] rfl rfl (fun i v x h=>by simp at h) (fun i v x h=>by simp at h)
  | succ i =>
    simp at hv;rw [Array.getElem?_append_right (by simp)] at hx;exact hrepc.2 i v x hv (by simpa using hx)
 have hC:=hcon (SI E lc) SI_ok hY w1 h1.φ _ R1.top arA hSI hrepA;refine ⟨w.heap.size+1,[{target:=.collected w.heap.size,args:=#[]}],w1,{target:=.fn (.func f) c',args:=#[.func (.yield (w.heap.size+1)) #[] #[]]},w1,f,
  #[.func (.yield (w.heap.size+1)) #[] #[]]++c',w1,?_,?_,fun _ _=>trivial,?_,fun e=>by simp [Dm,Fence.wide] at e,?_⟩
 ·rw [←hw1];exact run_enterLoop_outer _ _ _ _ _
 ·simp only [resolve,ef];simp [go_sem]
 ·unfold C9 at hcall;cases hf:E.P.funcs[f]? with
  | none=>simp [hf] at hcall
  | some fn =>
    simp only [hf,Bool.and_eq_true,bne_iff_ne,ne_eq] at hcall;have hb:fn.body.isNone=false:=by cases h:fn.body<;>simp [h] at hcall ⊢
    have hnm:(fn.name== "runtime.NumGoroutine")=false:=by simpa using hcall.1
    simp only [invoke,callFunc,Sem.run_bind,run_program,Result.andThen_ok,hf,hnm,hb];simp
 ·refine (Cd hC).mono ?_;rintro e w5 ⟨φ5,x,r,log,stp,B,hΦ,rfl,hres,hB,⟨t,hh,pend,h5⟩,ht5⟩;have e5:=h5.phi;subst e5;have hrun:=run_endLoop (P:=E.P) h5.rc (by cases stp<;>simp [lc]);refine ⟨_,_,hrun,?_⟩;have hs5:=h5.sur;rw [hES] at hs5;obtain ⟨F',eF,es5,hF,hS5⟩:=hs5;have ar5:Ar w5 hh.φ hh.M (F'++B):=by
   refine ⟨?_,fun p hp=>?_,fun p hp hM=>?_,fun p hp=>?_,fun p hp=>?_⟩
   ·rw [List.map_append,List.nodup_append];refine ⟨hF.nd,hB.nd,fun x hx y hy e=>?_⟩;subst e;obtain ⟨p,hp,rfl⟩:=List.mem_map.1 hx;exact hF.fr p hp (.inr hy)
   ·rcases List.mem_append.1 hp with hp | hp
    ·exact hF.ok p hp
    ·exact hB.ok p hp
   ·rcases List.mem_append.1 hp with hp | hp
    ·exact hF.fr p hp (.inl hM)
    ·exact h5.dis _ hM (List.mem_map.2 ⟨p,hp,rfl⟩)
   ·rcases List.mem_append.1 hp with hp | hp
    ·exact hF.lt p hp
    ·exact hB.lt p hp
   ·rcases List.mem_append.1 hp with hp | hp
    ·exact hF.z p hp
    ·exact hB.z p hp
  have hsE:E.S (encA (F'++B)) t.stp hh.M w5 hh.φ:=by
   rw [hES];refine ⟨F'++B,rfl,es5,ar5,ok1.move _ _ _ _ _ _ _ _ hS5 ⟨Ext.refl _ _,fun _ _ _=>⟨rfl,rfl⟩,Nat.le_refl _,rfl,rfl,rfl,fun b hb=>.inl ?_,ht5⟩⟩;rw [List.map_append,List.mem_append] at hb;rcases hb with hb | hb | hb
   ·exact .inl (.inl hb)
   ·exact .inr hb
   ·exact .inl (.inr hb)
  have hQ:E.rel {t with log:=encA (F'++B)} a' (w5.putObj (w.heap.size+1) (.loop {lc.rc (bif stp then .done else .ready) pend with state:=.exhausted})) hh:=by
   have ext:=L3 (φ:=hh.φ) (o:=.loop {lc.rc (bif stp then .done else .ready) pend with state:=.exhausted}) h5.rc (by intro _ _ _ e;cases e) (by intro _ _ _ e;cases e) (by intro _ _ e;cases e) (by intro _ _ e;cases e);refine ⟨h5.rel.pokeS h5.rc (by intro _ _ _ e;cases e) (by intro _ _ _ e;cases e) (by intro _ _ e;cases e) (by intro _ _ e;cases e) rfl (h5.rel.marks.congr fun r hr hd=>⟨hr,(World.putObj_heap_other fun e=>?_).trans hd⟩)
    (E.ok.move _ _ _ _ _ _ _ _ hsE ⟨ext,fun b hb hn=>⟨World.putObj_heap_other fun e=>hn (e▸h5.hL),rfl⟩,by rw [World.putObj_size];exact Nat.le_refl _,rfl,rfl,rfl,fun b hb=>.inl hb,fun b hb=>ht5 b (by rwa [World.putObj_size] at hb)⟩),?_⟩
   ·subst e;rw [h5.rc] at hd;cases hd
   ·have hyy:hh.y=h.y:=h5.y.trans q2;rw [hyy];exact R.2
  have hyy:hh.y=h.y:=h5.y.trans q2;cases stp with
  | false =>
    obtain ⟨g1,g2,g3⟩:=h5.go rfl;subst g3;exact hq .normal _ _ _ hh (hdone t log B F' eF hΦ h5.env g2 g1) (by rw [←ha'] at hQ;exact hQ) hyy
  | true =>
    obtain ⟨e,j,g1,g2,g3⟩:=h5.stop rfl;subst g2;have hQe:=hq e _ _ _ hh (hstop e t log B F' eF hΦ h5.env g1) (by rw [←ha'] at hQ;exact hQ) hyy;show Code.wpIn _ _ _ j _ _ _;cases e<;>simp only [Tg,Option.some.injEq] at g3<;>(try (cases g3;done))<;>subst g3
    ·exact wpIn_exit hQe
    ·exact wpIn_goto hQe
    ·exact wpIn_ret hQe
theorem A5u {P:Program} {f nt:Nat} {ic:IC} {rs:List ResultVar} (hmix:P.follows .mixedOrders=true) (hch:chkF P f=some (nt,ic,rs)) {A:Arena} {K:List (Nat×List V)} {args:List V} {Φ:V→Arena→Prop} (hlen:args.length≤nt)
  (hT:∀(S1:Sur) (ok1:S1.ok),Tr (env0 P hmix nt (SA S1 [] false) (Ke ok1 [] false)) none ic (A30 P rs fun r s=>∃B,s.log=encA B∧Φ r B) {entry args with log:=encA A}):CX P f A K args Φ:=by
 obtain ⟨fn,c,hf,hb,hnt,hc,rfl,hcall⟩:=L6 hch;refine ⟨hcall,fun w φ xs htop hgl hA hK hKA hrep=>?_⟩;have okI:=Adh w φ A hgl;have hT1:=hT (SQ w φ A) okI;have e0:(fun b=>False∨b∈A.map (·.1))=fun b=>b∈A.map (·.1):=by funext b;simp
 have hT2:Tr (env0 P hmix nt (SQ1 w φ A) (Ts w φ A hgl)) none ic (A30 P fn.results.toList fun r s=>∃B,s.log=encA B∧Φ r B) (entry args):=by
  intro c hc n a w1 g R Q' hq;obtain ⟨B0,h1,h2,h3,h4⟩:=R.1.sur;have hB0:B0=A:=by
   rcases h1 with ⟨_,h⟩ | h
   ·exact h
   ·exact absurd h.symm (Mg _)
  subst hB0;have R1:(env0 P hmix nt (SA (SQ w φ B0) [] false) (Ke okI [] false)).rel {entry args with log:=encA B0} a w1 g:=by
   refine ⟨{R.1 with sur:=⟨B0,rfl,rfl,h3,h4⟩},fun l hl=>⟨?_,trivial⟩,R.2.2⟩;intro log x M w φ xs hp;exact False.elim hp
  refine hT1 c hc n a w1 g R1 Q' fun e t a' w' h' hQ R' hy=>?_;refine hq e t a' w' h' hQ ?_ hy;obtain ⟨B',k1,k2,k3,k4⟩:=R'.1.sur;refine ⟨{R'.1 with sur:=⟨B',.inr k1,k2,k3,k4⟩},fun l hl=>⟨?_,trivial⟩,R'.2.2⟩;intro log x M w φ xs hp;exact False.elim hp
 refine (Oy (E:=env0 P hmix nt (SQ1 w φ A) (Ts w φ A hgl)) (φ:=φ) (y:=none) hf hb hc hnt hlen hrep.1 (fun i v x h1 h2=>⟨.data (hrep.2 i v x h1 h2),fun σ h=>Ap (hrep.2 i v x h1 h2)⟩)
  ⟨A,.inl ⟨rfl,rfl⟩,rfl,hA,by rw [e0];exact Moved.refl _ htop⟩ htop (fun _ h=>((by cases h))) hT2).mono ?_
 rintro e w' ⟨r,s',h',x,rfl,hr,⟨B',k1,k2,k3,k4⟩,ht,hk⟩;obtain ⟨B,hk,hΦ⟩:=hk;have hB:B'=B:=by
  rw [hk] at k1;rcases k1 with ⟨h,_⟩ | h
  ·exact absurd h (Mg _)
  ·exact (D3 h).symm
 subst hB;exact ⟨h'.φ,x,r,B',hΦ,rfl,hr,⟨k3.nd,k3.ok,fun _ _ h=>h,k3.lt,k3.z⟩,⟨k4.ext,k4.old,k4.size,k4.os,k4.tape,k4.output,fun b hb=>k4.mine b (.inr hb),k4.top⟩⟩
end
section
open Go.RowKit
section
variable {P:Program} {t:TypeId}
end
section
variable {P:Program}
theorem Af9 {o:Op} {t u:Nat} {os:List Operand} (h:opK P o=some (.raw 12 t u,os)):∃x k v,(o=.mapUpdate t x k v∨o=.insert t x k v)∧os=[x,k,v]:=by
 have h:=M8 h (by simp [Dv]);unfold opKr at h;split at h<;>(try (repeat' (split at h)))<;>first
  | (simp at h;done)
  | (simp only [Option.some.injEq,Prod.mk.injEq,K.raw.injEq,true_and] at h;obtain ⟨⟨rfl,rfl⟩,rfl⟩:=h;first | exact ⟨_,_,_,.inl rfl,rfl⟩ | exact ⟨_,_,_,.inr rfl,rfl⟩)
theorem Af8 {o:Op} {t u:Nat} {os:List Operand} (h:opK P o=some (.raw 13 t u,os)):o=.makeMap t none∧os=[]:=by
 have h:=M8 h (by simp [Dv]);unfold opKr at h;split at h<;>(try (repeat' (split at h)))<;>first
  | (simp at h;done)
  | (simp only [Option.some.injEq,Prod.mk.injEq,K.raw.injEq,true_and] at h;obtain ⟨⟨rfl,rfl⟩,rfl⟩:=h;exact ⟨rfl,rfl⟩)
theorem Af7 {o:Op} {t u:Nat} {os:List Operand} (h:opK P o=some (.raw 15 t u,os)):∃x,o=.range t x∧os=[x]:=by
 have h:=M8 h (by simp [Dv]);unfold opKr at h;split at h<;>(try (repeat' (split at h)))<;>first
  | (simp at h;done)
  | (simp only [Option.some.injEq,Prod.mk.injEq,K.raw.injEq,true_and] at h;obtain ⟨⟨rfl,rfl⟩,rfl⟩:=h;exact ⟨_,rfl,rfl⟩)
end
section
variable {E:Env} {S0:Sur} {l0:List (List V)} {s0:Bool} {A:Arena}
end
section
variable {E:Env} {σ:FSt}
end
end
section
open Go.RowKit
def keyL (k:List Int):Value:=.agg (k.map (Value.int .i64)).toArray
def U9 (k:List Int):V:=.agg (k.map (V.int .i64))
structure GK (P:Program) (t:TypeId) (n:Nat) (z:Value) where
 kt:TypeId
 e:TypeId
 un:P.underlying t=some (.map kt e)
 keyed:Maps.Keyed P kt
 zero:∀w,(zeroValue e).run P w=.ok z w
 key:∀k:List Int,k.length=n→(∀a∈k,inI a)→∃l,keyOf P kt (keyL k)=some l
theorem W1:∀{a b:List Int},a.map (Value.int .i64)=b.map (Value.int .i64)→a=b
 | [],[],_=>rfl
 | [],_::_,h=>by simp at h
 | _::_,[],h=>by simp at h
 | x::a,y::b,h=>by
   simp only [List.map_cons,List.cons.injEq,Value.int.injEq,true_and] at h;rw [h.1,W1 h.2]
theorem A1a {a b:List Int} (h:keyL a=keyL b):a=b:=by
 unfold keyL at h;simp only [Value.agg.injEq] at h;exact W1 (by simpa using congrArg Array.toList h)
def mesL:Nat→List (List Int×Value)→List MapEntry
 | _,[]=>[]
 | i,(k,x)::r=>{key:=keyL k,val:=x,born:=i}::mesL (i+1) r
theorem A9n:∀(i:Nat) (l:List (List Int×Value)) (k:List Int) (x:Value),mesL i (l++[(k,x)])=mesL i l++[{key:=keyL k,val:=x,born:=i+l.length}]
 | i,[],k,x=>rfl
 | i,(a,y)::l,k,x=>by
   have e:i+1+l.length=i+(l.length+1):=by omega
   simp only [List.cons_append,mesL,A9n (i+1) l k x,List.length_cons,e]
theorem Kw:∀{i:Nat} {l:List (List Int×Value)} {e:MapEntry},e∈mesL i l→∃p∈l,e.key=keyL p.1∧e.val=p.2
 | i,[],e,h=>by cases h
 | i,(k,x)::l,e,h=>by
   rcases List.mem_cons.1 h with rfl | h
   ·exact ⟨(k,x),by simp,rfl,rfl⟩
   ·obtain ⟨p,hp,h1⟩:=Kw h;exact ⟨p,by simp [hp],h1⟩
theorem A9m:∀{i:Nat} {l:List (List Int×Value)} {p:List Int×Value},p∈l→∃e∈mesL i l,e.key=keyL p.1
 | i,[],p,h=>by cases h
 | i,(k,x)::l,p,h=>by
   rcases List.mem_cons.1 h with rfl | h
   ·exact ⟨_,List.mem_cons_self,rfl⟩
   ·obtain ⟨e,he,h1⟩:=A9m (i:=i+1) h;exact ⟨e,List.mem_cons_of_mem _ he,h1⟩
def gmO (l:List (List Int×Value)):Ob:=.raw (.map (mesL 0 l).toArray l.length)
def gmOk (n:Nat) (l:List (List Int×Value)):Prop:=∀p∈l,p.1.length=n∧∀a∈p.1,inI a
section
variable {P:Program} {t n:Nat} {z:Value}
theorem run_gput (G:GK P t n z) {w:World} {mb:Nat} {l:List (List Int×Value)} (hb:w.heap[mb]?=some (.map (mesL 0 l).toArray l.length)) (hin:gmOk n l) {k:List Int} (hk:k.length=n∧∀a∈k,inI a) (hnew:∀p∈l,p.1≠k) (x:Value) :
  (Instr.mapUpdate t (.map (some mb)) (keyL k) x).run P w=.ok () (ChangeMaps.setBlock w mb (.map (mesL 0 (l++[(k,x)])).toArray (l++[(k,x)]).length)):=by
 obtain ⟨kl,hkl⟩:=G.key k hk.1 hk.2;have hfind:=G.keyed.find w hkl (mesL 0 l) (fun x hx'=>by
  obtain ⟨p,hp,e1,_⟩:=Kw hx';rw [e1];exact G.key _ (hin p hp).1 (hin p hp).2)
 rcases hfind with ⟨h1,_⟩ | ⟨j,y,h1,h2,h3⟩
 ·simp only [Instr.mapUpdate,Sem.run_bind,run_underlying G.un,Result.andThen_ok,MapKept.run_getObj_map hb,G.keyed.check w false hkl,h1];rw [MapKept.run_setObj_map _ hb,A9n 0 l k x];simp [ChangeMaps.setBlock]
 ·exfalso;obtain ⟨p,hp,e1,_⟩:=Kw (List.mem_of_getElem? h2);exact hnew p hp (A1a (e1.symm.trans h3))
theorem Pj (G:GK P t n z) {w:World} {mb:Nat} {l:List (List Int×Value)} (hb:w.heap[mb]?=some (.map (mesL 0 l).toArray l.length)) (hin:gmOk n l) {k:List Int} (hk:k.length=n∧∀a∈k,inI a) (hnew:∀p∈l,p.1≠k) :
  (Instr.lookup t (.map (some mb)) (keyL k) true).run P w=.ok (.tuple #[z,.bool false]) w:=by
 obtain ⟨kl,hkl⟩:=G.key k hk.1 hk.2;have hfind:=G.keyed.find w hkl (mesL 0 l) (fun x hx'=>by
  obtain ⟨p,hp,e1,_⟩:=Kw hx';rw [e1];exact G.key _ (hin p hp).1 (hin p hp).2)
 rcases hfind with ⟨h1,_⟩ | ⟨j,y,h1,h2,h3⟩
 ·simp only [Instr.lookup,Sem.run_bind,run_underlying G.un,Result.andThen_ok,MapKept.run_getObj_map hb,Sem.run_pure,G.keyed.check w _ hkl,h1,G.zero];rfl
 ·exfalso;obtain ⟨p,hp,e1,_⟩:=Kw (List.mem_of_getElem? h2);exact hnew p hp (A1a (e1.symm.trans h3))
theorem A93 (G:GK P t n z) {w:World} {mb:Nat} {l:List (List Int×Value)} (hb:w.heap[mb]?=some (.map (mesL 0 l).toArray l.length)) (hin:gmOk n l) {p:List Int×Value} (hp:p∈l) (hone:∀q∈l,q.1=p.1→q.2=p.2) :
  (Instr.lookup t (.map (some mb)) (keyL p.1) true).run P w=.ok (.tuple #[p.2,.bool true]) w:=by
 obtain ⟨kl,hkl⟩:=G.key p.1 (hin p hp).1 (hin p hp).2;have hfind:=G.keyed.find w hkl (mesL 0 l) (fun x hx'=>by
  obtain ⟨p,hp,e1,_⟩:=Kw hx';rw [e1];exact G.key _ (hin p hp).1 (hin p hp).2)
 rcases hfind with ⟨h1,h2⟩ | ⟨i,y,h1,h2,h3⟩
 ·obtain ⟨e,he,e1⟩:=A9m (i:=0) hp;exact absurd e1 (h2 e he)
 ·obtain ⟨q,hq,e1,e2⟩:=Kw (List.mem_of_getElem? h2);have:=hone q hq (A1a (e1.symm.trans h3));simp only [Instr.lookup,Sem.run_bind,run_underlying G.un,Result.andThen_ok,MapKept.run_getObj_map hb,Sem.run_pure,G.keyed.check w _ hkl,h1];rw [e2,this];rfl
end
theorem A3q {P:Program} {o:Op} {t u:Nat} {os:List Operand} (h:opK P o=some (.raw 25 t u,os)):∃x k,o=.lookup t x k true∧os=[x,k]:=by
 have h:=M8 h (by simp [Dv]);unfold opKr at h;split at h<;>(try (repeat' (split at h)))<;>first
  | (simp at h;done)
  | (simp only [Option.some.injEq,Prod.mk.injEq,K.raw.injEq,true_and] at h;obtain ⟨⟨rfl,rfl⟩,rfl⟩:=h;exact ⟨_,_,rfl,rfl⟩)
theorem A12 {σ:FSt} {h:Gh} {w:World} {k:List Int} {x:Value} (o:Ok σ h w (U9 k) x):x=keyL k:=by
 obtain ⟨r,_⟩:=o;have fin:∀vs:Array Value,(k.map (V.int .i64)).length=vs.size→(∀(i:Nat) v y,(k.map (V.int .i64))[i]?=some v→vs[i]?=some y→Rep w h.φ h.β h.y.l v y)→Value.agg vs=keyL k:=by
  intro vs hl hh;unfold keyL;congr 1;apply Array.ext
  ·simpa using hl.symm
  ·intro i h1 h2;have hk:i<k.length:=by simpa using h2
   have:=hh i (.int .i64 k[i]) vs[i] (by simp [hk]) (by simp [h1]);have e:vs[i]=.int .i64 k[i]:=by
    generalize vs[i]=y at this;cases this with
    | data r=>cases r;rfl
   rw [e];simp
 cases r with
 | data r=>cases r with
   | agg _ vs hl hh=>exact fin vs hl fun i v y a b=>.data (hh i v y a b)
 | agg _ vs hl hh=>exact fin vs hl hh
section
variable {E:Env} {S0:Sur} {l0:List (List V)} {s0:Bool} {A:Arena}
theorem Qu (hE:InA E S0 l0 s0) {K:St→Prop} {s:St} {d t u:Nat} {rest:List Ins} (hl:s.log=encA A)
  (hk:∀mb,mb∉A.map (·.1)→Steps E rest K {s.put (some d) (.rmap mb) with log:=encA ((mb,gmO [])::A)}):Steps E (⟨some d,.raw 13 t u,[],none⟩::rest) K s:=by
 refine Step1.raw fun slots ops o i ro n a w h hc hs hi R Q next hn=>?_
 obtain ⟨os,cc⟩:=Ba hc;obtain ⟨e1,rfl⟩:=Af8 cc.op;have R':E.relF (encA A) s.stp s.fs a w h:=by rw [←hl];exact R
 obtain ⟨R2,hnm⟩:=hE.fresh R' (.map #[] 0) (gmO []) (fun _=>heap_alloc_new w _);refine B5 hi (Ai (Au cc rfl)) (At cc.op) (.inl ?_) (hn _ _ _ h (hk _ hnm) (Fc cc R2 (.data (.rmap _)) rfl) rfl);simp only [execOp,e1,Sem.run_bind];rfl
theorem Ic (hE:InA E S0 l0 s0) {K:St→Prop} {s:St} {t u n:Nat} {z:Value} (G:GK E.P t n z) {x y q:X} {rest:List Ins} {mb:Nat} {l:List (List Int×Value)} (k:List Int) {v:V} (xv:Value) (hx:evXs s.env [x,y,q]=some [.rmap mb,U9 k,v]) (hl:s.log=encA A)
  (hA:(mb,gmO l)∈A) (hin:gmOk n l) (hkk:k.length=n∧∀a∈k,inI a) (hnew:∀p∈l,p.1≠k) (hv:∀w φ x,RepD w φ v x→x=xv) (hd:isD v=true)
  (hk:Steps E rest K {s with log:=encA (setA A mb (gmO (l++[(k,xv)])))}):Steps E (⟨none,.raw 12 t u,[x,y,q],none⟩::rest) K s:=by
 refine Step1.raw fun slots ops o i ro n a w h hc hs hi R Q next hn=>?_
 obtain ⟨os,cc⟩:=Ba hc;obtain ⟨p,q,r,e1,rfl⟩:=Af9 cc.op;obtain ⟨v1,v2,v3,hu,o1,o2,o3⟩:=(B9 R.1 cc.xs (Ay hx)).three;simp only [List.cons.injEq,and_true] at hu;obtain ⟨hu1,hu2,hu3⟩:=hu;subst hu1 hu2 hu3;have R':E.relF (encA A) s.stp s.fs a w h:=by rw [←hl];exact R
 have hb:w.heap[mb]?=some (.map (mesL 0 l).toArray l.length):=(hE.ar R').ok _ hA;have ev:=hv _ _ _ (Lz hd o3.1);have hrun:=run_gput G hb hin hkk hnew xv;have R2:=hE.turn R' hA (gmO (l++[(k,xv)])) (w':=ChangeMaps.setBlock w mb (.map (mesL 0 (l++[(k,xv)])).toArray (l++[(k,xv)]).length)) (fun k hk=>My _ hk) (by simp [ChangeMaps.setBlock]) rfl rfl rfl (fun ext=>Ph hb _);have hdn:o.dst=none:=cc.d.symm;have R3:E.rel {s with log:=encA (setA A mb (gmO (l++[(k,xv)])))} (a.put o.dst undef) (ChangeMaps.setBlock w mb (.map (mesL 0 (l++[(k,xv)])).toArray (l++[(k,xv)]).length)) h:=by rw [hdn];exact R2
 refine B5 (x:=undef) hi (Ai (Au cc rfl)) (At cc.op) (.inr ⟨?_,rfl⟩) (hn _ _ _ h hk R3 rfl);rcases e1 with e1 | e1 <;>
 ·simp only [execOp,e1,Se o1,A12 o2,ev,Sem.run_bind];rw [hrun];rfl
theorem Zn (hE:InA E S0 l0 s0) (hys:E.ys=noYs) (hlk:E.lk=fun _=>True) {σ:FSt} {d t u mb:Nat} {x y:X} {l:List (List Int×Value)} {k:List Int} {v:V} {xv:Value} {b:Bool} (hx:[x,y].mapM (evX σ)=some [.rmap mb,U9 k]) (hA:(mb,gmO l)∈A)
  (hrun:∀w:World,w.heap[mb]?=some (.map (mesL 0 l).toArray l.length)→(Instr.lookup t (.map (some mb)) (keyL k) true).run E.P w=.ok (.tuple #[xv,.bool b]) w) (hv:∀w φ,RepD w φ v xv):Does (E.pinA A) σ ⟨some d,.raw 25 t u,[x,y],none⟩ {v:=.tuple [v,.bool b]} (Bp [x,y]):=by
 refine .ext rfl hx fun o os log stp σ' a w h ho R hO=>?_;obtain ⟨p,q,e1,rfl⟩:=A3q ho;obtain ⟨v1,v2,hu,o1,o2⟩:=hO.two;simp only [List.cons.injEq,and_true] at hu;obtain ⟨hu1,hu2⟩:=hu;subst hu1 hu2;have hll:log=encA A:=R.1.sur.1;have R':E.relF (encA A) stp σ' a w h:=by rw [←hll];exact Z5 hys hlk R
 have hb:w.heap[mb]?=some (.map (mesL 0 l).toArray l.length):=(hE.ar R').ok _ hA;refine ⟨.tuple #[xv,.bool b],?_,.tuple [v,.bool b] #[xv,.bool b] rfl fun i v' x' h1 h2=>?_,fun j u z hu hz=>?_⟩
 ·simp only [execOp,e1,Se o1,A12 o2,Sem.run_bind];have hrun':(Instr.lookup t (.map (some mb)) (keyL k) true).run (E.pinA A).P w=.ok (.tuple #[xv,.bool b]) w:=hrun w hb;rw [hrun'];rfl
 ·match i with
  | 0=>simp at h1 h2;subst h1 h2;exact hv _ _
  | 1=>simp at h1 h2;subst h1 h2;exact .bool _
  | i+2=>simp at h1
 ·cases j with
  | zero=>simp [cells] at hu;subst hu;intro r' sz xs' e;cases e
  | succ j=>simp [cells] at hu
theorem A4y (hE:InA E S0 l0 s0) (hys:E.ys=noYs) (hlk:E.lk=fun _=>True) {s:St} {K:List (List Loc×List Loc)→St→List Ins→Prop} {d t u n mb:Nat} {z:Value} (G:GK E.P t n z) {x y:X} {l:List (List Int×Value)} (k:List Int) {v:V} {rest:List Ins} (hx:evXs s.env [x,y]=some [.rmap mb,U9 k]) (hA:(mb,gmO l)∈A)
  (hin:gmOk n l) (hkk:k.length=n∧∀a∈k,inI a) (hnew:∀p∈l,p.1≠k) (hv:∀w φ,RepD w φ v z)
  (tr:TraceK (E.pinA A) (s.put (some d) (.tuple [v,.bool false])) rest fun fp s' r'=>K (([.slot d],Bp [x,y])::fp) s' r'):TraceK (E.pinA A) s (⟨some d,.raw 25 t u,[x,y],none⟩::rest) K :=
 .step (ins:=⟨some d,.raw 25 t u,[x,y],none⟩) (eff:={v:=.tuple [v,.bool false]}) (Zn hE hys hlk (Ay hx) hA (fun w hb=>Pj G hb hin hkk hnew) hv) tr
theorem A83 (hE:InA E S0 l0 s0) (hys:E.ys=noYs) (hlk:E.lk=fun _=>True) {s:St} {K:List (List Loc×List Loc)→St→List Ins→Prop} {d t u n mb:Nat} {z:Value} (G:GK E.P t n z) {x y:X} {l:List (List Int×Value)} (k:List Int) {v:V} {xv:Value} {rest:List Ins} (hx:evXs s.env [x,y]=some [.rmap mb,U9 k]) (hA:(mb,gmO l)∈A)
  (hin:gmOk n l) (hp:(k,xv)∈l) (hone:∀q∈l,q.1=k→q.2=xv) (hv:∀w φ,RepD w φ v xv)
  (tr:TraceK (E.pinA A) (s.put (some d) (.tuple [v,.bool true])) rest fun fp s' r'=>K (([.slot d],Bp [x,y])::fp) s' r'):TraceK (E.pinA A) s (⟨some d,.raw 25 t u,[x,y],none⟩::rest) K :=
 .step (ins:=⟨some d,.raw 25 t u,[x,y],none⟩) (eff:={v:=.tuple [v,.bool true]}) (Zn hE hys hlk (Ay hx) hA (fun w hb=>A93 G hb hin hp hone) hv) tr
theorem La (hE:InA E S0 l0 s0) {K:St→Prop} {s:St} {d t u mb:Nat} {x y:X} {l:List (List Int×Value)} {k:List Int} {v:V} {xv:Value} {b:Bool} {rest:List Ins} (hx:evXs s.env [x,y]=some [.rmap mb,U9 k]) (hl:s.log=encA A) (hA:(mb,gmO l)∈A)
  (hrun:∀w:World,w.heap[mb]?=some (.map (mesL 0 l).toArray l.length)→(Instr.lookup t (.map (some mb)) (keyL k) true).run E.P w=.ok (.tuple #[xv,.bool b]) w) (hv:∀w φ,RepD w φ v xv) (hk:Steps E rest K (s.put (some d) (.tuple [v,.bool b]))):Steps E (⟨some d,.raw 25 t u,[x,y],none⟩::rest) K s:=by
 refine Step1.raw fun slots ops o i ro n a w h hc hs hi R Q next hn=>?_
 obtain ⟨os,cc⟩:=Ba hc;have hgo:=Au cc rfl;have hdf:=At cc.op;obtain ⟨p,q,e1,rfl⟩:=A3q cc.op;obtain ⟨v1,v2,hu,o1,o2⟩:=(B9 R.1 cc.xs (Ay hx)).two;simp only [List.cons.injEq,and_true] at hu;obtain ⟨hu1,hu2⟩:=hu;subst hu1 hu2;have R':E.relF (encA A) s.stp s.fs a w h:=by rw [←hl];exact R
 have hb:w.heap[mb]?=some (.map (mesL 0 l).toArray l.length):=(hE.ar R').ok _ hA;have hex:(execOp a.eval o).run E.P w=.ok (.value (.tuple #[xv,.bool b])) w:=by
  simp only [execOp,e1,Se o1,A12 o2,Sem.run_bind];rw [hrun w hb];rfl
 refine B5 hi (Ai hgo) hdf (.inl hex) (hn _ _ _ h hk ?_ rfl);have ok:Ok s.fs h w (.tuple [v,.bool b]) (.tuple #[xv,.bool b]):=by
  refine ⟨.tuple [v,.bool b] #[xv,.bool b] rfl fun i v' x' h1 h2=>?_,fun j u z hu hz=>?_⟩
  ·match i with
   | 0=>simp at h1 h2;subst h1 h2;exact hv _ _
   | 1=>simp at h1 h2;subst h1 h2;exact .bool _
   | i+2=>simp at h1
  ·cases j with
   | zero=>simp [cells] at hu;subst hu;intro r' sz xs' e;cases e
   | succ j=>simp [cells] at hu
 show E.relF _ _ _ _ _ _;rw [(Bq _ _ _).1,(Bq _ _ _).2,Dj];exact Bk (eff:={v:=_}) cc R R.1 ok rfl
end
end
section
open Go.RowKit
def Z9 (P:Program):Nat→TypeId→Bool
 | 0,_=>false
 | d+1,t=>match P.underlying t with
   | some (.int .i64)=>P.cellsOf t==1
   | some (.array n e)=>P.cellsOf t==n*P.cellsOf e&&Z9 P d e
   | some (.struct fs)=>fs.all (fun f=>f.name != "_")&&fs.toList.all (fun f=>Z9 P d f.type&&decide (f.offset+P.cellsOf f.type≤P.cellsOf t))
   | _=>false
theorem W2 {α β:Type} {f:α→Option β}:∀{l:List α},(∀x∈l,∃y,f x=some y)→∃r,l.mapM f=some r
 | [],_=>⟨[],rfl⟩
 | a::l,h=>by
   obtain ⟨y,hy⟩:=h a (by simp);obtain ⟨r,hr⟩:=W2 (l:=l) fun x hx=>h x (by simp [hx]);exact ⟨y::r,by rw [List.mapM_cons,hy,hr];rfl⟩
theorem Or {P:Program}:∀(d:Nat) (t:TypeId) (l:List Int),Z9 P d t=true→l.length=P.cellsOf t→(∀a∈l,inI a)→∀d',d≤d'→∃ls,P.keyLits d' t (l.map (Value.int .i64))=some ls
 | 0,t,l,h,_,_,_,_=>by simp [Z9] at h
 | d+1,t,l,h,hl,hin,d',hd=>by
   obtain ⟨d',rfl⟩:∃k,d'=k+1:=⟨d'-1,by omega⟩;have part:∀(o n:Nat),o+n≤l.length→((l.map (Value.int .i64)).drop o).take n=((l.drop o).take n).map (Value.int .i64)∧((l.drop o).take n).length=n∧∀a∈(l.drop o).take n,inI a:=by
    intro o n ho;refine ⟨by rw [List.map_take,List.map_drop],by rw [List.length_take,List.length_drop];omega,fun a ha=>hin a (List.mem_of_mem_drop (List.mem_of_mem_take ha))⟩
   unfold Z9 at h;split at h
   ·rename_i hu;have hc:P.cellsOf t=1:=by simpa using h
    rw [hc] at hl
    match l,hl with
    | [a],_ =>
      have ha:=hin a (by simp);have wf:(Lit.int .i64 a).wf=true:=WalkArith.wf_i64 ⟨ha.1,by unfold inI at ha;omega⟩;refine ⟨[.int .i64 a],?_⟩;simp only [Program.keyLits,hu,List.map_cons,List.map_nil];rw [if_pos ⟨trivial,wf⟩]
   ·rename_i n e hu;simp only [Bool.and_eq_true,beq_iff_eq] at h;obtain ⟨hc,hk⟩:=h;have hm:∀i∈List.range n,∃y,P.keyLits d' e (((l.map (Value.int .i64)).drop (i*P.cellsOf e)).take (P.cellsOf e))=some y:=by
     intro i hi;have hi:=List.mem_range.1 hi;have hle:i*P.cellsOf e+P.cellsOf e≤l.length:=by
      rw [hl,hc,←Nat.succ_mul];exact Nat.mul_le_mul_right _ hi
     obtain ⟨p1,p2,p3⟩:=part _ _ hle;rw [p1];exact Or d e _ hk p2 p3 d' (by omega)
    obtain ⟨r,hr⟩:=W2 hm;refine ⟨r.flatten,?_⟩;simp only [Program.keyLits,hu];rw [if_pos (by rw [List.length_map,hl]),hr];rfl
   ·rename_i fs hu;simp only [Bool.and_eq_true] at h;obtain ⟨hn,hk⟩:=h;have hm:∀f∈fs.toList,∃y,P.keyLits d' f.type (((l.map (Value.int .i64)).drop f.offset).take (P.cellsOf f.type))=some y:=by
     intro f hf;have:=List.all_eq_true.1 hk f hf;simp only [Bool.and_eq_true,decide_eq_true_eq] at this;obtain ⟨p1,p2,p3⟩:=part _ _ (show f.offset+P.cellsOf f.type≤l.length by omega);rw [p1];exact Or d f.type _ this.1 p2 p3 d' (by omega)
    obtain ⟨r,hr⟩:=W2 hm;refine ⟨r.flatten,?_⟩;simp only [Program.keyLits,hu];rw [if_pos ⟨by rw [List.length_map,hl],hn⟩,hr];rfl
   ·cases h
def gkB (P:Program) (kt:TypeId) (n:Nat):Bool:=laidOutB P&&decide (kt<P.types.size)&&P.keyTypeAt 5 kt&&P.keyType kt&&(P.cellsOf kt==n)&&Z9 P 5 kt&&decide (5≤P.types.size) &&
 (match P.underlying kt with | some (.array _ _)=>true | some (.struct _)=>true | _=>false)
def GK_of {P:Program} {t kt e:TypeId} {n:Nat} {z:Value} (hu:P.underlying t=some (.map kt e)) (h:gkB P kt n=true) (hz:(P.info? e).bind (·.zero)=some z):GK P t n z:=by
 unfold gkB at h;simp only [Bool.and_eq_true,decide_eq_true_eq,beq_iff_eq] at h;obtain ⟨⟨⟨⟨⟨⟨⟨h1,h2⟩,h3⟩,h4⟩,h5⟩,h6⟩,h7⟩,h8⟩:=h;refine ⟨kt,e,hu,Maps.Keyed.of_law (deep_law_laid h1 (m:=5) (by omega) h2 h3 ?_),fun w=>?_,fun k hk hin=>?_⟩
 ·split at h8
  ·rename_i a b hk;rw [hk]
  ·rename_i a hk;rw [hk]
  ·cases h8
 ·cases hi:P.info? e with
  | none=>rw [hi] at hz;cases hz
  | some i =>
    rw [hi] at hz;have hz:i.zero=some z:=hz;simp [zeroValue,typeInfo,hi,hz,Sem.run_bind,Sem.run_pure]
 ·obtain ⟨ls,hls⟩:=Or 5 kt k h6 (by rw [hk,h5]) hin (P.types.size+1) (by omega);have hcl:(keyL k).cells.toList=k.map (Value.int .i64):=by simp [keyL,Value.cells]
  unfold keyOf;split at h8
  ·rename_i a b hu2;rw [hu2];refine ⟨.string (keyBytes ls),?_⟩;simp only;rw [if_pos (by rw [h4];simp [keyL,Value.formed,hu2,hk,h5]),hcl,hls];rfl
  ·rename_i a hu2;rw [hu2];refine ⟨.string (keyBytes ls),?_⟩;simp only;rw [if_pos (by rw [h4];simp [keyL,Value.formed,hu2,hk,h5]),hcl,hls];rfl
  ·cases h8
end
end Go.Am
namespace Go.Proofs.YtabedohjkillfaaGreatDoor
section
open Go.Am Go
attribute [local simp] cells Af mkv Aq B6 under dem dem1 eB Ac As sB eF
def gk1:GK Tryz.prog 231 4 (.bool false):=GK_of (kt:=303) (e:=4) (by kernel_rfl) (by kernel_rfl) (by kernel_rfl)
def chC (c:Cru) (mb:Nat):List V:=cruC c++[.rmap mb]
def chV (c:Cru) (mb:Nat):V:=.vptr (chC c mb) 0
theorem Acs {c:Cru} (hs:c.Sane) (h:Ow c=true):CX Tryz.prog Uk [] [] [eCru c] (fun r B=>∃mb,B=[(mb,gmO [])]∧r=.tuple [chV c mb,I 0]):=by
 have kc:=A1x hs;rw [if_pos h] at kc;refine Li mixed U6.2 (by simp) fun S ok S1 hA hK hKD=>?_;refine Aw rfl (by simp [eCru,cruC,Fv,C2]) (A2 (Bj rfl (by simp [eCru,cruC,Fv,C2]) (A3 rfl rfl kc (Sfn rfl (TsR rfl (A7 rfl (A5 ?_)))))));refine A2 (Ae (Az 1 rfl (by simp [eCru,cruC,Fv,C2]) (Qu hA rfl fun mb hmb=>Al rfl (by simp [eCru,cruC,Fv,C2]) ?_)));exact C8 rfl rfl rfl ⟨_,rfl,mb,rfl,rfl⟩
end
end Go.Proofs.YtabedohjkillfaaGreatDoor
namespace Go.Am
section
open Go.RowKit
section
variable {E:Env} {s:St}
theorem Wn {σ:FSt} {d:Option Nat} {xs:List X} {t:Nat} {want gb:Bool} {gv u:V} {eff:Eff} (hgv:σ.g t=some gv) (hgb:Cg want gv=some gb) (hx:xs.mapM (evX σ)=some [u])
  (he:∀τ,Bl .nilck (d.getD 0) [(under u).2] τ=some eff) (hb:eff.wb=[]) (hr:eff.wr=[]) (hf:∀fn first cap,(under u).2≠.func fn first cap) (hp:gb=true→eff.pre∧(under u).1=true) :
  Does E σ ⟨d,.nilck,xs,some (t,want)⟩ {v:=.cond gb eff.v} (.slot t::Bp xs):=by
 refine .sem fun τ hτ slots ops i o ro n log stp a w h hc hs hi R Q next hn=>?_
 have hgv':τ.g t=some gv:=by rw [g_eq (hτ _ (by simp))];exact hgv
 have hx':xs.mapM (evX τ)=some [u]:=C5 hx fun l hl=>hτ l (by simp [hl]);obtain ⟨os,cc⟩:=Ba hc;have hdf:=At cc.op;obtain ⟨j,want',t',g1,g2,g3⟩:∃j want' t',o.guard=some (j,want')∧slots[j]?=some (some t')∧(some (t,want))=some (t',want'):=by
  rcases cc.guard with ⟨e,_⟩ | e
  ·cases e
  ·exact e
 cases g3;obtain ⟨wt,wf⟩:=Cs R hs g1 g2 hgv' hgb;cases gb with
 | true =>
   obtain ⟨hp1,hp2⟩:=hp rfl;have hO:=B9 R.1 cc.xs hx';have hO':Opds τ h w a os [(under u).2]:=by
    cases hO with
    | cons o1 o2=>exact .cons (o1.under hp2) o2
   obtain ⟨x,w',h',hr',R',ok,hy⟩:=N7 (d:=d.getD 0) R.1 E.ok cc.op hO' (fun _ fn first cap e=>absurd (List.cons.inj e).1 (hf fn first cap)) (he τ) hp1;have eσ:τ.eff eff=τ:=by obtain ⟨p,v,wb,wr,rb,rr⟩:=eff;simp only at hb hr;subst hb hr;rfl
   rw [eσ] at R' ok;refine B5 hi (wt rfl) hdf hr' (hn _ _ h' (Bk (eff:={v:=.cond true eff.v}) cc R R' ⟨.cond true _ _ (fun _=>ok.1) (fun e=>(by cases e)),fun j u z hu hz=>?_⟩ hy) hy);cases j with
   | zero=>simp [cells] at hu;subst hu;intro r' sz xs' e;cases e
   | succ j=>simp [cells] at hu
 | false=>exact F2 cc R hi (wf rfl) R.1 rfl eff.v hn
theorem Tp {K:St→Prop} {d:Option Nat} {xs:List X} {t:Nat} {want gb:Bool} {rest:List Ins} {gv u:V} {eff:Eff} (hx:evXs s.env xs=some [u]) (hgv:get s.env t=some gv) (hgb:Cg want gv=some gb)
  (he:∀τ,Bl .nilck (d.getD 0) [(under u).2] τ=some eff) (hb:eff.wb=[]) (hr:eff.wr=[]) (hf:∀fn first cap,(under u).2≠.func fn first cap) (hp:gb=true→eff.pre∧(under u).1=true) (hk:Steps E rest K ((s.eff {v:=.cond gb eff.v}).put d (.cond gb eff.v))):Steps E (⟨d,.nilck,xs,some (t,want)⟩::rest) K s :=
 Step1.does (ins:=⟨d,.nilck,xs,some (t,want)⟩) (Wn (by rw [fs_g];exact hgv) hgb (Ay hx) he hb hr hf hp) hk
theorem TraceK.gnilck {d:Option Nat} {xs:List X} {t:Nat} {want gb:Bool} {rest:List Ins} {gv u:V} {eff:Eff} {K:List (List Loc×List Loc)→St→List Ins→Prop} (hx:evXs s.env xs=some [u]) (hgv:get s.env t=some gv) (hgb:Cg want gv=some gb)
  (he:∀τ,Bl .nilck (d.getD 0) [(under u).2] τ=some eff) (hb:eff.wb=[]) (hr:eff.wr=[]) (hf:∀fn first cap,(under u).2≠.func fn first cap) (hp:gb=true→eff.pre∧(under u).1=true)
  (tr:TraceK E ((s.eff {v:=.cond gb eff.v}).put d (.cond gb eff.v)) rest fun fp s' r'=>K ((wrOf ⟨d,.nilck,xs,some (t,want)⟩ {v:=.cond gb eff.v},.slot t::Bp xs)::fp) s' r'):TraceK E s (⟨d,.nilck,xs,some (t,want)⟩::rest) K :=
 .step (ins:=⟨d,.nilck,xs,some (t,want)⟩) (Wn (by rw [fs_g];exact hgv) hgb (Ay hx) he hb hr hf hp) tr
end
end
end Go.Am
namespace Go.Proofs.YtabedohjkillfaaGreatDoor
section
open Go.Am Go
attribute [local simp] cells Af mkv Aq B6 under dem dem1 eB Ac As sB eF chV chC cruC Fv C2 eLeg legC eCru
theorem c_clear1 {f:List (Int×Int)} {T:Fr} (hf:G2 f=true) (hT:Bh T=true):C Tryz.prog H2 [sB f,.vptr (Ac T) 0] (.bool (W7 f T).isSome):=by
 have kh:=c_Hits hf hT;refine C_of mixed Ls.2 (by simp) fun S ok=>?_;refine TsR rfl (TsC rfl (A3 rfl rfl kh (Sfn rfl (TsR rfl (A8 rfl rfl rfl ?_ trivial)))));cases (W7 f T).isSome<;>rfl
def Th (c:Cru) (w:Leg):Bool:=match sweO c.spread w.1 w.2 with
 | some T=>!(c.fields.any fun f=>(W7 f T).isSome)
 | none=>false
def kw (w:Leg):List Int:=[w.1.1,w.1.2,w.2.1,w.2.2]
theorem A4f {c:Cru} (h:Ow c=true):∀f∈c.fields,G2 f=true:=by
 unfold Ow at h;simp only [Bool.and_eq_true] at h;exact List.all_eq_true.1 h.1.1.2.1
theorem Aey (T:Fr):Plain [.vptr (Ac T) 0]:=⟨fun b=>rfl,fun B R=>rfl⟩
theorem inI_pl {p:Int×Int} (h:B7 p=true):inI p.1∧inI p.2:=by
 have:=Bt h;unfold inI;omega
theorem kw_ok {w:Leg} (h1:B7 w.1=true) (h2:B7 w.2=true):(kw w).length=4∧∀a∈kw w,inI a:=by
 refine ⟨rfl,fun a ha=>?_⟩;have i1:=inI_pl h1;have i2:=inI_pl h2;simp only [kw,List.mem_cons,List.not_mem_nil,or_false] at ha;rcases ha with rfl | rfl | rfl | rfl
 ·exact i1.1
 ·exact i1.2
 ·exact i2.1
 ·exact i2.2
theorem Aa6 {c:Cru} (hs:c.Sane) (h:Ow c=true) {w:Leg} (h1:B7 w.1=true) (h2:B7 w.2=true) {mb:Nat} {l:List (List Int×Value)} (hin:gmOk 4 l) (hnew:∀p∈l,p.1≠kw w) :
  CX Tryz.prog Fp [(mb,gmO l)] [] [chV c mb,eLeg w] (fun r B=>B=[(mb,gmO (l++[(kw w,.bool (Th c w))]))]∧r=.bool (Th c w)):=by
 have hkk:=kw_ok h1 h2;have hone:∀o:Ob,(mb,o)∈([(mb,o)]:Arena):=fun o=>List.mem_singleton.2 rfl;have hset:∀o,setA [(mb,gmO l)] mb o=[(mb,o)]:=fun o=>by simp [setA]
 obtain ⟨ks,kn⟩:=c_Swept (r:=c.spread) (p:=w.1) (q:=w.2);refine Li mixed Hr.2 (by simp) fun S ok S1 hA hK hKD=>?_;refine TsR rfl ?_;refine A2 (Dz rfl rfl rfl (KrN 5 rfl (A4y hA rfl rfl gk1 (kw w) (v:=.bool false) rfl (hone _) hin hkk hnew (fun w φ=>.bool _) (Krn rfl (.done (KrT ?_))))));refine A2 (TsR rfl (A9 rfl ?_));refine A2 (Ab (Krn rfl ?_));cases hsw:sweO c.spread w.1 w.2 with
 | none =>
   obtain ⟨e,he,kn⟩:=kn hsw;have he':(e==0)=false:=by simp [he]
   have hB:Th c w=false:=by unfold Th;rw [hsw]
   rw [hB];refine A6 rfl rfl kn (Krn rfl (.done (KrT ?_)));refine TsN 2 rfl ?_;rw [he'];refine SrN 2 rfl (Tp rfl rfl rfl (fun _=>rfl) rfl rfl (fun fn first cap e=>by cases e) (fun e=>absurd e (by decide)) ?_);refine Srn rfl (Ao (r:=.bool false) rfl rfl rfl rfl (by simp) (fun e=>by cases e) (Sfn rfl ?_));refine Dz rfl rfl rfl (Krn rfl (.done (KrT ?_)));refine Ic hA gk1 (kw w) (.bool false) rfl rfl (hone _) hin hkk hnew (fun w φ x hx=>by cases hx;rfl) rfl ?_;rw [hset];refine Al rfl trivial ?_;exact TsR rfl (C8 rfl rfl rfl ⟨_,rfl,rfl,rfl⟩)
 | some T =>
   have ks:=ks T hsw;have hT:=(swe_spec hsw).1;have kc:=Wx (l:=c.fields) (p:=fun f=>(W7 f T).isSome) (f:=H2) (us:=[.vptr (Ac T) 0]) (Aey T) (fun _=>rfl) hs.f.1 (fun f hf=>c_clear1 (A4f h f hf) hT);obtain ⟨g,hg⟩:∃g,c.fields.any (fun f=>(W7 f T).isSome)=g:=⟨_,rfl⟩;have hB:Th c w=!g:=by unfold Th;rw [hsw,←hg]
   rw [hg] at kc;rw [hB];refine A6 rfl rfl ks (Krn rfl (.done (KrT ?_)));refine TsN 4 rfl ?_;refine Tp rfl rfl rfl (fun _=>rfl) rfl rfl (fun fn first cap e=>by cases e) (fun _=>⟨trivial,rfl⟩) ?_;refine Srn rfl (Ao (r:=.bool g) rfl rfl rfl rfl (by simp) (fun _=>kc) (Sfn rfl ?_));refine Dz rfl rfl rfl (Krn rfl (.done (KrT ?_)));refine Ic hA gk1 (kw w) (.bool (!g)) rfl rfl (hone _) hin hkk hnew (fun w φ x hx=>by cases hx;rfl) rfl ?_;rw [hset];refine Al rfl trivial ?_;exact TsR rfl (C8 rfl rfl rfl ⟨_,rfl,rfl,rfl⟩)
theorem A4e {c:Cru} {w:Leg} {mb:Nat} {l:List (List Int×Value)} {b:Bool} (h1:B7 w.1=true) (h2:B7 w.2=true) (hin:gmOk 4 l) (hm:(kw w,.bool b)∈l) (hone:∀q∈l,q.1=kw w→q.2=.bool b) :
  CX Tryz.prog Fp [(mb,gmO l)] [] [chV c mb,eLeg w] (fun r B=>B=[(mb,gmO l)]∧r=.bool b):=by
 refine Li mixed Hr.2 (by simp) fun S ok S1 hA hK hKD=>?_;refine TsR rfl ?_;refine A2 (Dz rfl rfl rfl (KrN 5 rfl (A83 hA rfl rfl gk1 (kw w) (v:=.bool b) rfl (List.mem_singleton.2 rfl) hin hm hone (fun w φ=>.bool _) (Krn rfl (.done (KrT ?_))))));refine A2 (TsR rfl (A7 rfl (A5 ?_)));exact TsR rfl (C8 rfl rfl rfl ⟨_,rfl,rfl,rfl⟩)
end
section
open Go.Am
def F9 (b:List (Int×Int)) (bits:List Int) (i:Nat):Int:=V3 (b.getD i (0,0)) (pickI bits i)
def Oq (s:Strm) (b:List (Int×Int)) (bits:List Int):Nat→Int
 | 0=>s.head
 | i+1=>F9 b bits i
def magI (n:Int):Int:=max n (-n)
def curI (s:Strm) (b:List (Int×Int)) (bits:List Int) (i:Nat):Int:=magI (F9 b bits i-Oq s b bits i)
def Z2 (s:Strm) (b:List (Int×Int)) (bits:List Int) (i:Nat):Int:=isq ((Fb s i).len*(Fb s i).len-curI s b bits i*curI s b bits i)
def H7 (s:Strm) (b:List (Int×Int)) (bits:List Int):Nat→Int
 | 0=>0
 | i+1=>H7 s b bits i+Z2 s b bits i
theorem isq_mono {m n:Int} (h0:0≤m) (h:m≤n) (h1:n≤1099511627776):isq m≤isq n:=by
 have a:=Qa h0 (by omega);have b:=Qa (n:=n) (by omega) h1;have:=sq_lt a.1 (show 0≤isq n+1 by omega) (by omega);omega
section
variable {s:Strm} {b:List (Int×Int)} {bits:List Int}
theorem A0a (h:TowOk s b) {i:Nat} (hi:i<b.length):(b.getD i (0,0)).1≤F9 b bits i∧F9 b bits i≤(b.getD i (0,0)).2 :=
 Aar (h.offs i hi).2.1
theorem Afp (h:TowOk s b) {i:Nat} (hi:i<b.length):(S9 (s.head,s.head) b i).1≤Oq s b bits i∧Oq s b bits i≤(S9 (s.head,s.head) b i).2:=by
 cases i with
 | zero=>exact ⟨Int.le_refl _,Int.le_refl _⟩
 | succ i=>exact A0a h (by omega)
theorem cur_bd (h:TowOk s b) {i:Nat} (hi:i<b.length):0≤curI s b bits i∧curI s b bits i≤(Mi s b i).2:=by
 have a:=A0a (bits:=bits) h hi;have c:=Afp (bits:=bits) h hi;rw [h.bend hi];unfold curI magI A4u;simp only;omega
theorem A98 (h:TowOk s b) {i:Nat} (hi:i<b.length) (hc:curI s b bits i≤(Fb s i).len):Tb (Fb s i).len (Mi s b i).2≤Z2 s b bits i∧Z2 s b bits i≤(Fb s i).len:=by
 have hs:=h.secs i hi;have hc2:=cur_bd (bits:=bits) h hi;unfold Z2 Tb;generalize curI s b bits i=c at hc hc2 ⊢;generalize (Fb s i).len=n at hs hc ⊢;generalize (Mi s b i).2=m at hc2 ⊢;have q1:c≤min m n∧min m n≤n:=by omega
 have q2:c*c≤min m n*min m n:=Int.mul_le_mul q1.1 q1.1 hc2.1 (by omega);have q3:min m n*min m n≤n*n:=Int.mul_le_mul q1.2 q1.2 (by omega) (by omega);have q4:n*n≤1000*1000:=Int.mul_le_mul hs.2 hs.2 (by omega) (by omega);have q5:=Int.mul_nonneg hc2.1 hc2.1;refine ⟨isq_mono (by omega) (by omega) (by omega),?_⟩;have hq:=Qa (n:=n*n-c*c) (by omega) (by omega);rcases Int.lt_or_le n (isq (n*n-c*c)) with h1 | h1
 ·have:=Int.mul_le_mul (a:=n+1) (b:=n+1) (c:=isq (n*n-c*c)) (d:=isq (n*n-c*c)) (by omega) (by omega) (by omega) (by omega);have e:(n+1)*(n+1)=n*n+n+n+1:=by rw [Int.add_mul,Int.mul_add];omega
  omega
 ·exact h1
theorem A1z (h:TowOk s b):∀i,i≤b.length→(∀j<i,curI s b bits j≤(Fb s j).len)→Oo s b i≤H7 s b bits i∧H7 s b bits i≤farI s i
 | 0,_,_=>⟨Int.le_refl _,Int.le_refl _⟩
 | i+1,hi,hc=>by
   have ih:=A1z h i (by omega) fun j hj=>hc j (by omega);have hr:=A98 (bits:=bits) h (i:=i) (by omega) (hc i (by omega));rw [Oo,farI,H7];omega
def Xy (s:Strm) (b:List (Int×Int)) (bits:List Int) (ship:Int×Int) (p q:Int) (i:Nat):Int×Int :=
 (ship.1-H7 s b bits (i+1)*p-F9 b bits i*q,ship.2-H7 s b bits (i+1)*q+F9 b bits i*p)
theorem turn_has {f:Fr} {p q:Int} {z:Int×Int} (h:inR f z):inR (V7 f p q) (p*z.1-q*z.2,q*z.1+p*z.2):=by
 have h1:=A9y (p:=p) (q:=-q) h;have h2:=A9y (p:=q) (q:=p) h;have h3:=A9y (p:=p+q) (q:=p-q) h;have h4:=A9y (p:=p-q) (q:=-q-p) h;rw [Int.neg_mul] at h1;rw [Int.add_mul,Int.sub_mul] at h3;rw [Int.sub_mul,Int.sub_mul,Int.neg_mul] at h4;unfold inR V7;simp only;omega
end
end
section
open Go.Am
theorem mov_fit {r a:Fr} {p:Int×Int} (h:movO r p=some a):Bh a=true:=by
 unfold movO at h;split at h;rotate_left
 ·cases h
 rename_i h0;simp only [Bool.and_eq_true] at h0;obtain ⟨⟨⟨h1,h2⟩,h3⟩,h4⟩:=h0;have ha:movF r p=a:=Option.some.inj h;obtain ⟨_,H⟩:=A72 (Ht h1) (Ag0 h3);obtain ⟨p5,q5,e5⟩:=H.c1;obtain ⟨p6,q6,e6⟩:=H.c2;obtain ⟨p7,q7,e7⟩:=H.d1;obtain ⟨p8,q8,e8⟩:=H.d2;have r5:=H.i _ q5;have r6:=H.i _ q6;have r7:=H.i _ q7;have r8:=H.i _ q8;rw [←ha];simp only [okXY,Bool.and_eq_true] at h4;obtain ⟨h4,h5⟩:=h4;rw [Cw];unfold Ez at h4 h5;unfold fitF fitB;unfold movF comb Aex at *;simp only [Bool.and_eq_true,decide_eq_true_eq] at h4 h5 ⊢;omega
section
variable {s:Strm} {b:List (Int×Int)} {bits:List Int}
theorem A8u (h:TowOk s b) {p q:Int} (hx:Ax p q) {ship:Int×Int} (hw:whOk s b ship p q=true) {i:Nat} (hi:i<b.length) (hc:∀j<i+1,curI s b bits j≤(Fb s j).len) :
  ∃T,(whL s b ship p q)[i]?=some T∧Bh T=true∧inR T (Xy s b bits ship p q i):=by
 have hb:=A1z (bits:=bits) h (i+1) (by omega) hc;have hs:=A0a (bits:=bits) h hi;have h1:=(h.has hi (p:=(-H7 s b bits (i+1),F9 b bits i)) (by simp only;omega) hs).2;have h2:=turn_has (p:=p) (q:=q) h1;unfold whOk at hw;have h3:=List.all_eq_true.1 hw i (List.mem_range.2 hi);cases hT:whAt s b ship p q i with
 | none=>rw [hT] at h3;cases h3
 | some T =>
   have hg:=Ae2 (s:=s) (sh:=ship) (p:=p) (q:=q) hi;rw [hT] at hg;unfold whAt at hT;split at hT
   ·have h4:=(A16 hT).2.2.2 _ h2;simp only at h4;refine ⟨T,hg,mov_fit hT,?_⟩;have e:Xy s b bits ship p q i=(p*-H7 s b bits (i+1)-q*F9 b bits i+ship.1,q*-H7 s b bits (i+1)+p*F9 b bits i+ship.2):=by
     unfold Xy;generalize H7 s b bits (i+1)=B;generalize F9 b bits i=S;rw [Int.mul_neg,Int.mul_neg,Int.mul_comm p B,Int.mul_comm q S,Int.mul_comm q B,Int.mul_comm p S];congr 1<;>omega
    rw [e];exact h4
   ·cases hT
end
theorem N4 {f:Fr} {q:Int×Int} (h:inR f q):q∈Df f:=by
 rw [mem_placesL];unfold inR at h;unfold lowY Dd;omega
theorem A4g {f:Fr} (hf:Bh f=true) {q:Int×Int} (h:q∈Df f):1≤Hu f:=by
 rw [←Wq (Hs hf)];have:=List.length_pos_of_mem h;omega
def A1n (g:Gd) (pts:List (Int×Int)) (t:Int×Int):Int×Int:=Kd g (pts.getD t.1.toNat (0,0)) (pts.getD t.2.toNat (0,0))
def PtsIn (s:Ly) (pts:List (Int×Int)):Prop:=∀(i:Nat) (hi:i<s.nodes.length),pts.getD i (0,0)∈Df s.nodes[i]
theorem Acv {x c:Int×Int}:([c]:List (Int×Int)).count x=if c=x then 1 else 0:=by
 by_cases h:c=x
 ·subst h;simp
 ·simp [h]
theorem A5y {l:List (Int×Int)} {c:Int×Int} (h:c∈l) (x:Int×Int):(Rm l).count x≤[c].count x∧[c].count x≤l.count x:=by
 constructor
 ·rcases l with _ | ⟨d,_ | ⟨e,r⟩⟩
  ·simp [Rm]
  ·obtain rfl:c=d:=by simpa using h
   simp only [Rm];split
   ·simp
   ·exact Nat.le_refl _
  ·simp [Rm]
 ·rw [Acv];split
  ·rename_i e;subst e;exact List.count_pos_iff.2 h
  ·exact Nat.zero_le _
section
variable {g:Gd} {s:Ly} {pts:List (Int×Int)}
theorem Ae3 (hs:I3 s=true) {k:Nat} (h1:k<s.traces.length):∃i j:Nat,s.traces[k]=((i:Int),(j:Int))∧i<s.nodes.length∧j<s.nodes.length:=by
 have:=(Sh hs).2.2 _ (List.getElem_mem h1);simp only [Jm,Bool.and_eq_true,Bu] at this;exact ⟨s.traces[k].1.toNat,s.traces[k].2.toNat,Prod.ext (by simp;omega) (by simp;omega),by omega,by omega⟩
theorem Ahc (hs:I3 s=true) (hp:PtsIn s pts) {k:Nat} (h1:k<s.traces.length):A1n g pts s.traces[k]∈Nr (layD g s) k:=by
 obtain ⟨i,j,hij,hi,hj⟩:=Ae3 hs h1;have e:(layD g s).traces.getD k (0,0)=((i:Int),(j:Int)):=by simp [layD,h1,hij]
 unfold Nr pl;rw [e,hij];unfold A1n;simp only [Int.toNat_natCast];have e3:(layD g s).places.getD i []=Df s.nodes[i]:=by simp [layD,hi]
 have e4:(layD g s).places.getD j []=Df s.nodes[j]:=by simp [layD,hj]
 rw [e3,e4];exact mem_hitsOf.2 (List.mem_map.2 ⟨(_,_),mem_pairs.2 ⟨hp i hi,hp j hj⟩,rfl⟩)
theorem Ah4 (hs:I3 s=true) (hp:PtsIn s pts) (x:Int×Int):∀k≤s.traces.length,(allH (Xg (layD g s)) k).count x≤((s.traces.map (A1n g pts)).take k).count x∧((s.traces.map (A1n g pts)).take k).count x≤(allH (Nr (layD g s)) k).count x
 | 0,_=>by simp [allH]
 | k+1,hk=>by
   obtain ⟨i1,i2⟩:=Ah4 hs hp x k (by omega);have h1:k<s.traces.length:=by omega
   obtain ⟨j1,j2⟩:=A5y (Ahc (g:=g) hs hp h1) x;have eT:(s.traces.map (A1n g pts)).take (k+1)=(s.traces.map (A1n g pts)).take k++[A1n g pts s.traces[k]]:=by
    rw [List.take_add_one,List.getElem?_map,List.getElem?_eq_getElem h1];rfl
   rw [Qn,Qn,eT,List.count_append,List.count_append,List.count_append];unfold Xg at *;omega
end
end
section
open Go.Am
attribute [local simp] cells Af mkv Aq B6 under dem dem1 eB Ed sB Ac eF layC Iv As
theorem A5z (m:Nat) (rbs:List Nat) (b:Nat):Gw m (rbs++[b])=Gw m rbs++[.sref b 0 m m]:=by simp [Gw]
theorem cx_tally {g:Gd} (hg:El g=true):CX Tryz.prog A8g [] [] [.agg (Ed g)] (fun r B=>∃rbs:List Nat,(rbs.length=E6 g∧rbs.Nodup)∧r=.slice 0 1 (Gw g.cls.length rbs)∧B=arn rbs (C0 g [])):=by
 obtain ⟨_,hsz,hga,hgd,hcl,_⟩:=F6 hg;have nb:=Q5 hg;have hab:IntKind.wrap .i64 (g.a*g.d)=(E6 g:Int):=by rw [nb.1];exact w64 (by omega) (by omega)
 have ba:btw g.a 1 16=true:=by rw [Bu];exact hga
 have bd:btw g.d 1 16=true:=by rw [Bu];exact hgd
 have ka:C Tryz.prog Gu [I g.a,I 1,I 16] (.bool true):=ba▸Wz _ _ _;have kd:C Tryz.prog Gu [I g.d,I 1,I 16] (.bool true):=bd▸Wz _ _ _;refine A5u mixed A6j.2 (by simp) fun S1 ok1=>?_;have hA:InA (env0 Tryz.prog mixed 32 (SA S1 [] false) (Ke ok1 [] false)) S1 [] false:=⟨Sub.refl _,ok1⟩;refine TsR rfl (TsR rfl ?_);refine A2 (TsC rfl (A3 rfl rfl ka (Srn rfl ?_)));refine Ao rfl rfl rfl rfl (by simp) (fun _=>kd) (Sfn rfl (A7 rfl (A5 ?_)));refine A2 (TsR rfl (A4 ?_));refine Bc (α:=Nat×List Nat) (fun p st=>(p.1≤E6 g∧p.2.length=p.1∧p.2.Nodup) ∧
   st=⟨[(1,.ptr 1 0),(3,.slice 31 1 (Gw g.cls.length p.2)),(4,I (p.1:Nat))],[(1,⟨Ed g,false⟩)],[(30,p.2.length,1,36)],encA (arn p.2 ((List.range p.1).map (C1 g.cls.length []))),false⟩) (fun p=>E6 g-p.1) (0,[])
  (Bi (.k rfl (.cons rfl (.nil 31 1) (.k rfl .nil))) (.k rfl .nil) (.new rfl .nil) rfl rfl rfl) ⟨⟨by omega,rfl,List.Pairwise.nil⟩,rfl⟩ ?_
 rintro ⟨k,rbs⟩ st ⟨⟨hk,hlen,hnd⟩,rfl⟩;simp only at hk hlen hnd;have hlr:rbs.length=((List.range k).map (C1 g.cls.length [])).length:=by simp [hlen]
 have hsr:(Gw g.cls.length rbs).length=k:=by simp [Gw,hlen]
 refine A2 (TsR rfl (An rfl rfl (fun h1=>A5 ?_) (fun h1=>Ak ?_)))
 ·have h1:decide ((k:Int)<IntKind.wrap .i64 (g.a*g.d))=true:=h1;rw [hab] at h1;have h1:k<E6 g:=by simpa using h1
  refine A2 (A4 (Ae ?_));refine SrN 4 rfl (Mq hA (N:=g.cls.length) rfl (by simp) (by simp) (by omega) (by omega) (by omega) rfl fun b hb=>?_);rw [L7 hlr] at hb;refine Al rfl (by simp;omega) (TrR rfl ?_);have ez:(List.replicate g.cls.length [I 0]).flatten=(C1 g.cls.length [] k).map I:=by
   have:C1 g.cls.length [] k=List.replicate g.cls.length 0:=by
    refine List.ext_getElem (by simp [C1]) fun i h1 h2=>by simp [C1]
   rw [this];simp
  have eA:arn (rbs++[b]) ((List.range (k+1)).map (C1 g.cls.length []))=arn rbs ((List.range k).map (C1 g.cls.length []))++[(b,.cells ((C1 g.cls.length [] k).map I))]:=by
   rw [List.range_succ,List.map_append];exact A20 _ _ hlr
  have hnd2:(rbs++[b]).Nodup:=by
   rw [List.nodup_append];exact ⟨hnd,by simp,fun x hx y hy e=>by rw [List.mem_singleton.1 hy] at e;exact hb (e▸hx)⟩
  refine ⟨(k+1,rbs++[b]),_,Wk.trans (Bi (env:=[(1,.ptr 1 0),(3,.slice 31 1 (Gw g.cls.length (rbs++[b]))),(4,I ((k+1:Nat):Int))]) (bx:=[(1,⟨Ed g,false⟩)]) (rw:=[(30,(rbs++[b]).length,1,36)])
    (.k rfl (.cons rfl (.of_eq ?_) (.cons rfl (VLe.i (w64 (by omega) (by omega))) .nil))) (.k rfl .nil) (.cons ?_ .nil) rfl rfl rfl) (Sp hA (B:=arn (rbs++[b]) ((List.range (k+1)).map (C1 g.cls.length []))) rfl ?_ ?_),⟨⟨by simp only;omega,by simp [hlen],hnd2⟩,rfl⟩,by simp only;omega⟩
  ·rw [A5z]
  ·show some _=some _;simp [hsr,hlen]
  ·intro p hp;rw [eA] at hp;rcases List.mem_append.1 hp with hp | hp
   ·exact List.mem_cons_of_mem _ hp
   ·rw [List.mem_singleton.1 hp,ez];exact List.mem_cons_self
  ·rw [L7 (by simp [hlen])];exact hnd2
 have h1:decide ((k:Int)<IntKind.wrap .i64 (g.a*g.d))=false:=h1;rw [hab] at h1;have h1:k=E6 g:=by simp at h1;omega
 subst h1;refine TsR rfl ?_;exact C8 rfl rfl rfl ⟨_,rfl,rbs,⟨hlen,hnd⟩,rfl,rfl⟩
theorem ca_mark {g:Gd} (hg:El g=true) {rbs:List Nat} (hlen:rbs.length=E6 g) (hnd:rbs.Nodup) {P:List (Int×Int)} (hP:P.length≤64) {x y:Int×Int} (hx:B7 x=true) (hy:B7 y=true) :
  CA Tryz.prog Ado (arn rbs (C0 g P)) [] [.agg (Ed g),.slice 0 1 (Gw g.cls.length rbs),eB x,eB y] (.bool true) (arn rbs (C0 g (P++[Kd g x y]))):=by
 obtain ⟨_,hsz,hga,hgd,hcl,_⟩:=F6 hg;have nb:=Q5 hg;have kc:=c_Cell (g:=g) (by omega) x y;rw [if_pos hg,if_pos (by rw [hx,hy];rfl)] at kc;have hin:=Ahb hg x y;obtain ⟨c,hc⟩:∃c,Kd g x y=c:=⟨_,rfl⟩;rw [hc] at hin kc ⊢;have hsl:(Gw g.cls.length rbs).length=E6 g:=by simp [Gw,hlen]
 have hcl1:(g.cls.map eB).length=g.cls.length:=List.length_map _;refine CA_of mixed Ab8.2 (by simp) fun S ok S1 hA _=>?_;refine TsR rfl (TsC rfl (A3 rfl rfl kc (Sfn rfl ?_)));rcases hin with hcn | hin
 ·have c1:c.1=-1:=by rw [hcn];rfl
  have c2:c.2=-1:=by rw [hcn];rfl
  refine A2 (TsN 8 rfl ?_);rw [hsl,decide_eq_false (show ¬(c.1≥(E6 g:Int)) by omega)];refine SrN 8 rfl ?_;rw [hcl1,decide_eq_false (show ¬(c.2≥(g.cls.length:Int)) by omega)];refine Sfn rfl (A7 rfl (A5 ?_));refine A2 (TsN 3 rfl ?_);rw [decide_eq_false (show ¬(c.1≥0) by omega)];refine Sfn rfl (A7 rfl (A5 ?_));refine TsR rfl ?_;rw [hcn,Wr];exact A8 rfl rfl rfl rfl rfl
 obtain ⟨b,q,rfl,hbb,hq⟩:=Afv hg hin;have hbl:b<rbs.length:=by omega
 obtain ⟨n0,hn0⟩:∃n0,P.count ((b:Int),(q:Int))=n0:=⟨_,rfl⟩;have hn1:n0≤64:=by rw [←hn0];exact Nat.le_trans List.count_le_length hP
 have hcl2:=Er g P;have hrow:=H5 (P:=P) hbb;have hcell:((C1 g.cls.length P b).map I)[q]?=some (I n0):=by rw [List.getElem?_map,H6 hq,hn0];rfl
 have hrb:rbs[b]?=some rbs[b]:=List.getElem?_eq_getElem hbl;have hmA:=A81 (rbs:=rbs) hrb hrow;refine A2 (TsN 8 rfl ?_);rw [hsl,decide_eq_false (show ¬((b:Int)≥(E6 g:Int)) by omega)];refine SrN 8 rfl ?_;rw [hcl1,decide_eq_false (show ¬((q:Int)≥(g.cls.length:Int)) by omega)];refine Sfn rfl (A7 rfl (A5 ?_));refine A2 (TsN 3 rfl ?_);rw [decide_eq_true (show ((b:Int)≥0) by omega)];refine SrN 4 rfl ?_;rw [decide_eq_true (show ((q:Int)≥0) by omega)];refine Sfn rfl (A9 rfl ?_);refine Sr 4 rfl (by simp [Gw];omega) ?_;rw [show Gw g.cls.length rbs=rbs.map fun b=>V.sref b 0 g.cls.length g.cls.length from rfl,Aj hbl];refine Sfn rfl ?_;refine Ae (SrN 3 rfl ?_);refine Fi (blk:=rbs[b]) (off:=0) (j:=q) rfl rfl hq ?_;refine Bz hA (v:=I n0) rfl rfl hmA (by simpa using hcell) (SrN 1 rfl ?_);refine Fi (blk:=rbs[b]) (off:=0) (j:=q) rfl rfl hq ?_;refine Bx hA rfl rfl hmA (by simp [Es];omega) rfl rfl (Sfn rfl ?_);have eL:setA (arn rbs (C0 g P)) rbs[b] (.cells (((C1 g.cls.length P b).map I).set (0+q*1) (I (IntKind.wrap .i64 ((n0:Int)+1)))))=arn rbs (C0 g (P++[((b:Int),(q:Int))])):=by
  rw [A4h hbb hq,hn0,w64 (by omega) (by omega),←A80 _ hnd (by rw [hcl2,hlen]) hrb,List.map_set,Nat.zero_add,Nat.mul_one]
 refine TsR rfl ?_;exact A8 rfl rfl rfl rfl (congrArg encA eL)
end
section
open Go.Am
attribute [local simp] cells Af mkv Aq B6 under dem dem1 eB Ed sB Ac eF layC Iv As
theorem c_among {g:Gd} (hg:El g=true) {PA PB PC:List (Int×Int)} (hcnt:∀x,PA.count x≤PC.count x∧PC.count x≤PB.count x):C Tryz.prog A8i [Iv (C0 g PC),Iv (C0 g PA),Iv (C0 g PB)] (.bool true):=by
 have lA:=Er g PA;have lB:=Er g PB;have lC:=Er g PC;have nb:=(Q5 hg).2;have hcl4:g.cls.length≤4:=by obtain ⟨_,_,_,_,h,_⟩:=F6 hg;exact h.2
 refine C_of mixed A6l.2 (by simp) fun S ok=>?_;refine TsR rfl ?_;refine A2 (TsR rfl (A7 ?_ (A5 ?_)))
 ·show some (V.bool (bif (((C0 g PA).map As).length:Int) != (((C0 g PC).map As).length:Int) then true else (((C0 g PB).map As).length:Int) != (((C0 g PC).map As).length:Int)))=_;rw [List.length_map,List.length_map,List.length_map,lA,lB,lC];simp
 refine A2 (TsR rfl (A4 ?_));refine Bc (fun (n:Nat) st=>n≤E6 g∧st=⟨[(0,Iv (C0 g PC)),(1,Iv (C0 g PA)),(2,Iv (C0 g PB)),(7,I (n:Nat))],[],[],[],false⟩) (fun n=>E6 g-n) 0 (Ad (.k rfl (.k rfl (.k rfl (.k rfl .nil)))) .nil .nil rfl rfl) ⟨by omega,rfl⟩ ?_;rintro n st ⟨hn1,rfl⟩;refine A2 (TsR rfl (An rfl rfl (fun h1=>A5 ?_) (fun h1=>Ak ?_)));rotate_left
 ·exact TsR rfl (A8 rfl rfl rfl rfl trivial)
 have h1:n<E6 g:=by
  have h1:decide ((n:Int)<(((C0 g PC).map As).length:Int))=true:=h1;rw [List.length_map,lC] at h1;simpa using h1
 have nA:n<(C0 g PA).length:=by omega
 have nB:n<(C0 g PB).length:=by omega
 have nC:n<(C0 g PC).length:=by omega
 have rA:(C0 g PA)[n]=C1 g.cls.length PA n:=by have:=H5 (P:=PA) h1;rw [List.getElem?_eq_getElem nA] at this;exact Option.some.inj this
 have rB:(C0 g PB)[n]=C1 g.cls.length PB n:=by have:=H5 (P:=PB) h1;rw [List.getElem?_eq_getElem nB] at this;exact Option.some.inj this
 have rC:(C0 g PC)[n]=C1 g.cls.length PC n:=by have:=H5 (P:=PC) h1;rw [List.getElem?_eq_getElem nC] at this;exact Option.some.inj this
 have mA:=Es g.cls.length PA n;have mB:=Es g.cls.length PB n;have mC:=Es g.cls.length PC n;refine A2 (A4 ?_);refine A2 (A2 (Ab (Ah 3 rfl (by simp;omega) ?_)));rw [Aj nA,rA];refine Ah 5 rfl (by simp;omega) ?_;rw [Aj nC,rC];refine Ah 7 rfl (by simp;omega) ?_;rw [Aj nB,rB];refine Ah 5 rfl (by simp;omega) ?_;rw [Aj nC,rC];refine Krn rfl (.done (KrT ?_));refine A7 ?_ (A5 ?_)
 ·show some (V.bool (bif (((C1 g.cls.length PA n).map I).length:Int) != (((C1 g.cls.length PC n).map I).length:Int) then true else (((C1 g.cls.length PB n).map I).length:Int) != (((C1 g.cls.length PC n).map I).length:Int)))=_;rw [List.length_map,List.length_map,List.length_map,mA,mB,mC];simp
 refine TsR rfl (A4 ?_);refine Bc (fun (c:Nat) st=>c≤g.cls.length∧st=⟨[(0,Iv (C0 g PC)),(1,Iv (C0 g PA)),(2,Iv (C0 g PB)),(7,I (n:Nat)),(8,I (c:Nat))],[],[],[],false⟩) (fun c=>g.cls.length-c) 0 (Ad (.k rfl (.k rfl (.k rfl (.k rfl (.k rfl .nil))))) .nil .nil rfl rfl) ⟨by omega,rfl⟩ ?_;rintro c st ⟨hc1,rfl⟩;refine A2 (A2 (Ae (Az 4 rfl (by simp;omega) ?_)));rw [Aj nC,rC];refine Sfn rfl (An rfl rfl (fun h2=>A5 ?_) (fun h2=>Ak ?_));rotate_left
 ·refine TrR rfl ?_;exact ⟨n+1,_,Ad (.k rfl (.k rfl (.k rfl (.cons rfl (VLe.i (w64 (by omega) (by omega))) .nil)))) .nil .nil rfl rfl,⟨h1,rfl⟩,by omega⟩
 have h2:c<g.cls.length:=by
  have h2:decide ((c:Int)<(((C1 g.cls.length PC n).map I).length:Int))=true:=h2;rw [List.length_map,mC] at h2;simpa using h2
 have cA:c<(C1 g.cls.length PA n).length:=by omega
 have cB:c<(C1 g.cls.length PB n).length:=by omega
 have cC:c<(C1 g.cls.length PC n).length:=by omega
 have vA:(C1 g.cls.length PA n)[c]=((PA.count ((n:Int),(c:Int)):Nat):Int):=by have:=H6 (P:=PA) (b:=n) h2;rw [List.getElem?_eq_getElem cA] at this;exact Option.some.inj this
 have vB:(C1 g.cls.length PB n)[c]=((PB.count ((n:Int),(c:Int)):Nat):Int):=by have:=H6 (P:=PB) (b:=n) h2;rw [List.getElem?_eq_getElem cB] at this;exact Option.some.inj this
 have vC:(C1 g.cls.length PC n)[c]=((PC.count ((n:Int),(c:Int)):Nat):Int):=by have:=H6 (P:=PC) (b:=n) h2;rw [List.getElem?_eq_getElem cC] at this;exact Option.some.inj this
 have hx:=hcnt ((n:Int),(c:Int));have kb:C Tryz.prog Gu [I ((PC.count ((n:Int),(c:Int)):Nat):Int),I ((PA.count ((n:Int),(c:Int)):Nat):Int),I ((PB.count ((n:Int),(c:Int)):Nat):Int)] (.bool true):=by
  have:btw ((PC.count ((n:Int),(c:Int)):Nat):Int) ((PA.count ((n:Int),(c:Int)):Nat):Int) ((PB.count ((n:Int),(c:Int)):Nat):Int)=true:=by rw [Bu];omega
  exact this▸Wz _ _ _
 refine A2 (A4 ?_);refine A2 (Ab (Ah 3 rfl (by simp;omega) ?_));rw [Aj nC,rC];refine Ah 3 rfl (by simp;omega) ?_;rw [Aj cC,vC];refine Ah 4 rfl (by simp;omega) ?_;rw [Aj nA,rA];refine Ah 3 rfl (by simp;omega) ?_;rw [Aj cA,vA];refine Ah 4 rfl (by simp;omega) ?_;rw [Aj nB,rB];refine Ah 3 rfl (by simp;omega) ?_;rw [Aj cB,vB];refine Krn rfl (A6 rfl rfl kb (Krn rfl (.done (KrT ?_))));refine A7 rfl (A5 (TrR rfl ?_));exact ⟨c+1,_,Ad (.k rfl (.k rfl (.k rfl (.k rfl (.cons rfl (VLe.i (w64 (by omega) (by omega))) .nil))))) .nil .nil rfl rfl,⟨h2,rfl⟩,by omega⟩
end
section
open Go.Am
theorem c_indexP {l:List (Int×Int)} {p:Int×Int→Bool} {f:FuncId} (hl:l.length≤9223372036854775807) (hp:∀b∈l,C Tryz.prog f [eB b] (.bool (p b))) :
  C Tryz.prog D8 [sB l,.func (.func f) [] []] (I (Em p l 0)):=by
 refine C_of mixed D7.2 (by simp) fun S ok=>?_;refine TsR rfl ?_;refine A2 (TsR rfl (A4 ?_));refine Bc (fun k s=>(k≤l.length∧Em p l 0=Em p (l.drop k) k)∧s=⟨[(0,sB l),(1,.func (.func f) [] []),(7,I l.length),(8,I k)],[],[],[],false⟩) (fun k=>l.length-k) 0 (Ad (.k rfl (.k rfl (.cons rfl (VLe.i (by simp)) (.k rfl .nil)))) .nil .nil rfl rfl) ⟨⟨by omega,by simp⟩,rfl⟩ ?_;rintro k s ⟨⟨hk,hf⟩,rfl⟩;refine TsR rfl (By rfl (fun h1=>?_) (fun h1=>?_))
 ·have h1:k<l.length:=by simpa using h1
  refine Bg (A2 (A4 (TsR rfl (Bj rfl ?_ ?_))))
  ·rw [Aj h1];simp [eB,cells];omega
  ·rw [Aj h1];refine Dr rfl rfl (hp l[k] (List.getElem_mem h1)) (Sfn rfl ?_);refine An rfl rfl (fun h2=>?_) (fun h2=>?_)
   ·refine TsR rfl (Ea ?_);refine ⟨trivial,_,_,_,Ck rfl,rfl,?_⟩;rw [hf,Db p l h1,if_pos h2];rfl
   ·refine A5 (TrR rfl ?_);refine ⟨k+1,_,?_,⟨⟨by omega,?_⟩,rfl⟩,by omega⟩
    ·exact Ad (.k rfl (.k rfl (.k rfl (.cons rfl (VLe.i (w64 (by omega) (by omega))) .nil)))) .nil .nil rfl rfl
    ·rw [hf,Db p l h1,if_neg (by simp [h2])]
 ·have h1:k=l.length:=by simp at h1;omega
  subst h1;refine Ak (TsR rfl (Bs rfl rfl ?_ trivial));rw [hf,List.drop_length];rfl
theorem A7q {l:List (Int×Int)} {p:Int×Int→Bool} {f:FuncId} (hl:l.length≤9223372036854775807) (hp:∀b∈l,C Tryz.prog f [eB b] (.bool (p b))) :
  C Tryz.prog Cy [sB l,.func (.func f) [] []] (.bool (l.any p)):=by
 refine C_of mixed Cv.2 (by simp) fun S ok=>?_;refine TsR rfl ?_;refine TsC rfl (A3 rfl rfl (c_indexP hl hp) (Sfn rfl (Bs rfl rfl ?_ trivial)));rw [←Iw p l 0];rfl
attribute [local simp] cells Af mkv Aq B6 under dem dem1 eB Ac
theorem c_Of1 {p:Int×Int} (h:A1f p):C Tryz.prog Rf [eB p] (.bool false):=by
 refine C_of mixed A0u.2 (by simp) fun S ok=>?_;exact TsR rfl (TsC rfl (A3 rfl rfl (Tk h) (Sfn rfl (A8 rfl rfl rfl rfl trivial))))
theorem i_Of2 (p:Int×Int):Iter Tryz.prog Re [.vptr [sB [p]] 0] ([p].map eEnd):=by
 refine Lb mixed A0t.2 (by simp) fun S ok=>?_;refine Aw rfl (by simp [sB]) (A4 ?_);refine Bd 2 (Ag ?_);refine TsR rfl (By rfl (fun _=>?_) (fun h=>?_));rotate_left
 ·simp at h
 refine Bg (A2 (A4 (TsR rfl ?_)));refine TsC rfl (H8 rfl (by simp) rfl (List.prefix_refl _) rfl (fun b=>Sfn rfl ?_));cases b with
 | false=>exact A9 rfl (Ea ⟨.inl rfl,[],[],[],rfl,rfl,rfl⟩)
 | true =>
   refine A7 rfl (A5 (TrR rfl (Ag ?_)));refine TsR rfl (By rfl (fun h=>?_) (fun _=>?_))
   ·simp at h
   exact Ak ⟨.inr rfl,[],[],[],rfl,rfl,rfl⟩
theorem Aez (p:Int×Int):Plain [.vptr [sB [p]] 0]:=⟨fun b=>rfl,fun B R=>rfl⟩
theorem Pf (b:Int×Int):A2o b b=b:=by
 obtain ⟨x,y⟩:=b;unfold A2o;simp
theorem Afy (p:Int×Int):Ec [p]=(ofF p,true):=by
 show (comb A2o (ofF p) (ofF p),true)=_;unfold comb;rw [Pf,Pf,Pf,Pf]
theorem c_OfOne {p:Int×Int} (h:A1f p):C Tryz.prog A8m [sB [p]] (.tuple [.agg (Ac (ofF p)),I 0]):=by
 have k1:=A7q (l:=[p]) (p:=fun _=>false) (f:=Rf) (by simp) (fun b hb=>by
  obtain rfl:b=p:=by simpa using hb
  exact c_Of1 h)
 have k2:=Ahr (Aez p) (i_Of2 p);rw [Afy] at k2;refine C_of mixed A6q.2 (by simp) fun S ok=>?_;refine Aw rfl (by simp [sB]) (A2 (A4 ?_));refine Aw rfl (by simp [sB]) (A7 rfl ?_);refine Aw rfl (by simp [sB]) (A7 rfl ?_);refine Bj rfl (by simp [sB]) ?_;refine A3 rfl rfl k1 ?_;refine Sfn rfl ?_;refine A7 rfl (A5 ?_);refine TsN 1 rfl ?_;refine Ro (A8t (t:=21) (u:=.func (.func Re) [] [.vptr [sB [p]] 0]) (ids:=[1]) rfl rfl) ?_;refine Srn rfl (A3 rfl rfl k2 (Sfn rfl ?_));exact TsC rfl (A3 rfl rfl (Qi (ofF p)) (Sfn rfl (A8 rfl rfl rfl rfl trivial)))
end
section
open Go.Am
attribute [local simp] cells Af mkv Aq B6 under dem dem1 eB Ac As sB eF eStr strC Cl eHd
theorem c_spot {p:Int×Int} (h:B7 p=true):C Tryz.prog Adn [eB p] (.tuple [.agg (Ac (ofF p)),.bool true]):=by
 have hp:=Bt h;have ko:=c_OfOne (p:=p) ⟨by omega,by omega⟩;refine C_of mixed Ab7.2 (by simp) fun S ok=>?_;refine TsR rfl (TsC rfl (A3 rfl rfl ko (Sfn rfl ?_)));exact TsR rfl (A8 rfl rfl rfl rfl trivial)
def Zw (s:Strm) (b:List (Int×Int)) (bits:List Int):Bool:=(List.range b.length).all fun i=>decide (curI s b bits i≤(Fb s i).len)
def Ma (b:List (Int×Int)) (bits:List Int):List Int:=(List.range b.length).map (F9 b bits)
def ptsL (s:Strm) (b:List (Int×Int)) (bits:List Int) (sh:Int×Int) (p q:Int):List (Int×Int):=(List.range b.length).map (Xy s b bits sh p q)
theorem M9 (b:List (Int×Int)) (bits:List Int):(Ma b bits).length=b.length:=by simp [Ma]
theorem Vz {b:List (Int×Int)} {bits:List Int} {i:Nat} (h:i<(Ma b bits).length):(Ma b bits)[i]=F9 b bits i:=by simp [Ma]
theorem Q2 (s:Strm) (b:List (Int×Int)) (bits:List Int) (sh:Int×Int) (p q:Int):(ptsL s b bits sh p q).length=b.length:=by simp [ptsL]
theorem Uo {s:Strm} {b:List (Int×Int)} {bits:List Int} {sh:Int×Int} {p q:Int} {i:Nat} (h:i<b.length):(ptsL s b bits sh p q)[i]?=some (Xy s b bits sh p q i):=by
 unfold ptsL;rw [List.getElem?_map,List.getElem?_range h];rfl
theorem c_towed {s:Strm} {b:List (Int×Int)} {bits:List Int} {sh:Int×Int} {p q:Int} (ht:TowOk s b) (hx:Ax p q) (hshb:(-33100≤sh.1∧sh.1≤33100)∧-33100≤sh.2∧sh.2≤33100) :
  C Tryz.prog A8f [eStr s,As (Ma b bits),eB sh,eHd p q] (if Zw s b bits then .tuple [sB (ptsL s b bits sh p q),.bool true] else .tuple [.nils,.bool false]):=by
 have hxb:=hx.bd;have hm:=ht.many;have hlen:=ht.len;have fb:((Ma b bits).map I).length=b.length:=by rw [List.length_map,M9]
 have fs:(s.secs.map eSec).length=s.secs.length:=List.length_map _;refine C_of mixed A6i.2 (by simp) fun S ok=>?_;refine TsR rfl (TsR rfl (A2 (Ab (Krn rfl (.done (KrT ?_))))));refine A2 (TsR rfl (A4 ?_));refine Bc (fun (i:Nat) st=>(i≤b.length∧∀j<i,curI s b bits j≤(Fb s j).len)∧st=⟨[(1,As (Ma b bits)),(4,.ptr 4 0),(6,.ptr 6 0),(7,.ptr 7 0),(10,.slice 97 2 (((ptsL s b bits sh p q).take i).map eB)),(11,I (H7 s b bits i)),(12,I (Oq s b bits i)),(13,I i)],[(4,⟨strC s,false⟩),(6,⟨[I sh.1,I sh.2],false⟩),(7,⟨[I p,I q,I 1],false⟩)],[(96,((ptsL s b bits sh p q).take i).length,2,23)],[],false⟩) (fun i=>b.length-i) 0 (Ad (.k rfl (.k rfl (.k rfl (.k rfl (.cons rfl (.nil 97 2) (.k rfl (.k rfl (.k rfl .nil)))))))) (.k rfl (.k rfl (.k rfl .nil))) (.new rfl .nil) rfl rfl) ⟨⟨by omega,fun j hj=>by omega⟩,rfl⟩ ?_;rintro i st ⟨⟨hi,hc⟩,rfl⟩;by_cases hib:i<b.length;rotate_left
 ·obtain rfl:i=b.length:=by omega
  have hbe:Zw s b bits=true:=List.all_eq_true.2 fun j hj=>decide_eq_true (hc j (List.mem_range.1 hj));refine A2 (TsN 5 rfl ?_);rw [fb,decide_eq_false (show ¬(b.length:Int)<(b.length:Int) by omega)];refine Sfn rfl (A7 rfl (Ak ?_));refine TsR rfl (A8 rfl rfl rfl ?_ trivial);rw [hbe,if_pos rfl,List.take_of_length_le (by rw [Q2];omega)];rfl
 have his:i<s.secs.length:=by omega
 have hio:i<(Ma b bits).length:=by rw [M9];exact hib
 refine A2 (TsN 5 rfl ?_);rw [fb,decide_eq_true (show (i:Int)<(b.length:Int) by omega)];refine SrN 5 rfl ?_;rw [fs,decide_eq_true (show (i:Int)<(s.secs.length:Int) by omega)];refine Sfn rfl (A9 rfl (A5 ?_));have hofs:=ht.offs i hib;have hsec:=ht.secs i hib;have hsd:=A0a (bits:=bits) ht hib;have hlb:=Afp (bits:=bits) ht hib;have hpo:=ht.prev hib;unfold offB at hpo;have hcd:=cur_bd (bits:=bits) ht hib;have km:=A7x (n:=F9 b bits i-Oq s b bits i) (by omega);have esi:s.secs[i]=Fb s i:=(Ky his _).symm;refine A2 (A4 (A2 (Ab (Ah 4 rfl (by simp;omega) ?_))));rw [Aj his,esi];refine Ah 5 rfl (by simp [eSec,secC];omega) ?_;rw [Aj hio,Vz];refine KrN 3 rfl ?_;rw [show IntKind.i64.wrap (F9 b bits i-Oq s b bits i)=F9 b bits i-Oq s b bits i from w64 (n:=F9 b bits i-Oq s b bits i) (by omega) (by omega)];refine A6 rfl rfl km (Krn rfl (.done (KrT ?_)));refine A2 (TsR rfl (An rfl rfl (fun h2=>?_) (fun h2=>A5 ?_)))
 ·have h2:decide (max (F9 b bits i-Oq s b bits i) (-(F9 b bits i-Oq s b bits i))>(Fb s i).len)=true:=h2;have h2:=of_decide_eq_true h2;have hbe:Zw s b bits=false:=by
   rw [←Bool.not_eq_true];intro h;have:=of_decide_eq_true (List.all_eq_true.1 h i (List.mem_range.2 hib));unfold curI magI at this;omega
  refine TsR rfl (A8 rfl rfl rfl ?_ trivial);rw [hbe];rfl
 have hci:curI s b bits i≤(Fb s i).len:=by
  have h2:decide (max (F9 b bits i-Oq s b bits i) (-(F9 b bits i-Oq s b bits i))>(Fb s i).len)=false:=h2;have:=of_decide_eq_false h2;unfold curI magI;omega
 have hcs:∀j<i+1,curI s b bits j≤(Fb s j).len:=fun j hj=>by
  by_cases e:j=i
  ·subst e;exact hci
  ·exact hc j (by omega)
 have hbk:=A1z (bits:=bits) ht i (by omega) hc;have hbk1:=A1z (bits:=bits) ht (i+1) (by omega) hcs;have hfar:=ht.far i (by omega);have hfar1:=ht.far (i+1) (by omega);have hrb:=A98 ht hib hci;have hre0:H7 s b bits (i+1)=H7 s b bits i+Z2 s b bits i:=rfl;have hme:max (F9 b bits i-Oq s b bits i) (-(F9 b bits i-Oq s b bits i))=curI s b bits i:=rfl;have q4:(Fb s i).len*(Fb s i).len≤1000*1000:=Int.mul_le_mul hsec.2 hsec.2 (by omega) (by omega);have q5:=Int.mul_nonneg hcd.1 hcd.1;have q6:curI s b bits i*curI s b bits i≤(Fb s i).len*(Fb s i).len:=Int.mul_le_mul hci hci hcd.1 (by omega);have kro:=Aah ((Fb s i).len*(Fb s i).len-curI s b bits i*curI s b bits i);unfold A67 at kro;rw [(Bu _ _ _).2 (by omega),if_pos rfl] at kro;refine TsC rfl ?_;rw [hme,w64 (n:=(Fb s i).len*(Fb s i).len) (by omega) (by omega),w64 (n:=curI s b bits i*curI s b bits i) (by omega) (by omega),w64 (n:=(Fb s i).len*(Fb s i).len-curI s b bits i*curI s b bits i) (by omega) (by omega)];refine A3 rfl rfl kro (Sfn rfl ?_);refine A2 (TsR rfl (A7 rfl (A5 ?_)));obtain ⟨P,hP⟩:∃P,Xy s b bits sh p q i=P:=⟨_,rfl⟩;have hP1:sh.1-H7 s b bits (i+1)*p-F9 b bits i*q=P.1:=by rw [←hP];rfl
 have hP2:sh.2-H7 s b bits (i+1)*q+F9 b bits i*p=P.2:=by rw [←hP];rfl
 refine A2 (Ab (Ah 6 rfl (by simp;omega) ?_));rw [Aj hio,Vz];refine Krn rfl (.done (KrT ?_));refine Aa (s':=⟨[(1,As (Ma b bits)),(4,.ptr 4 0),(6,.ptr 6 0),(7,.ptr 7 0),(10,.slice 97 2 (((ptsL s b bits sh p q).take i).map eB)),(11,I (H7 s b bits (i+1))),(12,I (Oq s b bits (i+1))),(13,I i)],[(4,⟨strC s,false⟩),(6,⟨[I sh.1,I sh.2],false⟩),(7,⟨[I p,I q,I 1],false⟩)],[(96,((ptsL s b bits sh p q).take i).length,2,23)],[],false⟩) (Ad (.k rfl (.k rfl (.k rfl (.k rfl (.k rfl (.cons rfl (VLe.i ?_) (.k rfl (.k rfl .nil)))))))) (.k rfl (.k rfl (.k rfl .nil))) (.cons rfl .nil) rfl rfl) ?_
 ·rw [hre0];exact w64 (n:=H7 s b bits i+Z2 s b bits i) (by omega) (by omega)
 have m1:=Gn (x:=H7 s b bits (i+1)) (y:=p) (B:=10000) (C:=1) (by omega) (by omega) (by omega) hxb.1;have m2:=Gn (x:=H7 s b bits (i+1)) (y:=q) (B:=10000) (C:=1) (by omega) (by omega) (by omega) hxb.2.1;have m3:=Gn (x:=F9 b bits i) (y:=p) (B:=20000) (C:=1) (by omega) (by omega) (by omega) hxb.1;have m4:=Gn (x:=F9 b bits i) (y:=q) (B:=20000) (C:=1) (by omega) (by omega) (by omega) hxb.2.1;have hpl:=Q2 s b bits sh p q;have htk:(ptsL s b bits sh p q).take (i+1)=(ptsL s b bits sh p q).take i++[P]:=by
  rw [List.take_add_one,Uo hib,hP];rfl
 refine Ss rfl (by simp;omega) (TrR rfl ?_);refine ⟨i+1,_,Ad (.k rfl (.k rfl (.k rfl (.k rfl (.cons rfl (.of_eq ?_) (.k rfl (.k rfl (.cons rfl (VLe.i (w64 (by omega) (by omega))) .nil)))))))) (.k rfl (.k rfl (.k rfl .nil))) (.cons ?_ .nil) rfl rfl,⟨⟨hib,hcs⟩,rfl⟩,by omega⟩
 ·show V.slice 97 2 (((ptsL s b bits sh p q).take i).map eB++[.agg [I (w (w (sh.1-w (H7 s b bits (i+1)*p))-w (F9 b bits i*q))),I (w (w (sh.2-w (H7 s b bits (i+1)*q))+w (F9 b bits i*p)))]])=_;unfold w;rw [w64 (n:=H7 s b bits (i+1)*p) (by omega) (by omega),w64 (n:=F9 b bits i*q) (by omega) (by omega),w64 (n:=H7 s b bits (i+1)*q) (by omega) (by omega),w64 (n:=F9 b bits i*p) (by omega) (by omega),w64 (n:=sh.1-H7 s b bits (i+1)*p) (by omega) (by omega),w64 (n:=sh.2-H7 s b bits (i+1)*q) (by omega) (by omega),w64 (n:=sh.1-H7 s b bits (i+1)*p-F9 b bits i*q) (by omega) (by omega),w64 (n:=sh.2-H7 s b bits (i+1)*q+F9 b bits i*p) (by omega) (by omega),hP1,hP2,htk];simp
 ·show some _=some _;rw [htk];simp
end
section
open Go.Am
theorem ofF_fit {a:Int×Int} (h:B7 a=true):Bh (ofF a)=true:=by
 have hp:=Bt h;rw [Z6 h,Cw];unfold fitF fitB;simp only;omega
theorem ofF_has {a:Int×Int} (h:B7 a=true):inR (ofF a) a:=by
 rw [Z6 h];unfold inR;simp only;omega
theorem ofF_one {a:Int×Int} (h:B7 a=true):Hu (ofF a)=1:=by
 rw [Z6 h];have e:(a.1+1-a.1).toNat=1:=by omega
 have e1:lowY ⟨(a.1,a.1),(a.2,a.2),(a.1+a.2,a.1+a.2),(a.1-a.2,a.1-a.2)⟩ a.1=a.2:=by unfold lowY;simp only;omega
 have e2:Dd ⟨(a.1,a.1),(a.2,a.2),(a.1+a.2,a.1+a.2),(a.1-a.2,a.1-a.2)⟩ a.1=a.2:=by unfold Dd;simp only;omega
 unfold Hu Bo;simp only [e,G0,e1,e2,Int.le_refl,if_true,List.map_cons,List.map_nil,List.foldl_cons,List.foldl_nil,rowM];omega
section
variable {s:Strm} {b:List (Int×Int)} {bits:List Int} {a:Int×Int} {p q:Int}
def selL (s:Strm) (b:List (Int×Int)) (bits:List Int) (a:Int×Int) (p q:Int) (i:Nat):List (Fr×(Int×Int)) :=
 (((whL s b a p q).zip (ptsL s b bits a p q)).take i).filter fun x=>decide (Hu x.1≤64)
def selN (s:Strm) (b:List (Int×Int)) (bits:List Int) (a:Int×Int) (p q:Int) (i:Nat):List Fr:=ofF a::(selL s b bits a p q i).map (·.1)
def selT (s:Strm) (b:List (Int×Int)) (bits:List Int) (a:Int×Int) (p q:Int) (i:Nat):List (Int×Int):=(List.range (selL s b bits a p q i).length).map fun j=>((0:Int),((j:Nat):Int)+1)
def selY (s:Strm) (b:List (Int×Int)) (bits:List Int) (a:Int×Int) (p q:Int) (i:Nat):Ly:=⟨selN s b bits a p q i,selT s b bits a p q i⟩
def selP (s:Strm) (b:List (Int×Int)) (bits:List Int) (a:Int×Int) (p q:Int) (i:Nat):List (Int×Int):=a::(selL s b bits a p q i).map (·.2)
def selC (g:Gd) (s:Strm) (b:List (Int×Int)) (bits:List Int) (a:Int×Int) (p q:Int) (i:Nat):List (Int×Int):=(selL s b bits a p q i).map fun x=>Kd g a x.2
theorem A0b (i:Nat) (hi:i≤b.length):(selL s b bits a p q i).length≤i:=by
 unfold selL;refine Nat.le_trans (List.length_filter_le _ _) ?_;rw [List.length_take];omega
theorem sel_succ {i:Nat} (hi:i<b.length) {T:Fr} (hT:(whL s b a p q)[i]?=some T):selL s b bits a p q (i+1)=if Hu T≤64 then selL s b bits a p q i++[(T,Xy s b bits a p q i)] else selL s b bits a p q i:=by
 have hz:((whL s b a p q).zip (ptsL s b bits a p q))[i]?=some (T,Xy s b bits a p q i):=by
  rw [List.getElem?_zip_eq_some];exact ⟨hT,Uo hi⟩
 unfold selL;rw [List.take_add_one,hz,List.filter_append];by_cases h:Hu T≤64
 ·simp [h]
 ·simp [h]
theorem sel_at (ht:TowOk s b) (hx:Ax p q) (hw:whOk s b a p q=true) (hc:Zw s b bits=true) {i:Nat} {x:Fr×(Int×Int)} (h:x∈selL s b bits a p q i):(Bh x.1=true∧inR x.1 x.2)∧Hu x.1≤64:=by
 unfold selL at h;rw [List.mem_filter] at h;obtain ⟨h1,h2⟩:=h;obtain ⟨j,hj,e⟩:=List.mem_iff_getElem.1 (List.mem_of_mem_take h1);have hjb:j<b.length:=by
  have:=hj;rw [List.length_zip,V5,Q2] at this;omega
 have hz:=List.getElem?_eq_getElem hj;rw [e,List.getElem?_zip_eq_some] at hz;obtain ⟨T,g1,g2,g3⟩:=A8u (bits:=bits) ht hx hw hjb fun k hk=>of_decide_eq_true (List.all_eq_true.1 hc k (List.mem_range.2 (by omega)));rw [g1,Uo hjb] at hz;obtain ⟨z1,z2⟩:=hz;cases z1;have z2:=Option.some.inj z2;rw [z2] at g3;exact ⟨⟨g2,g3⟩,of_decide_eq_true h2⟩
theorem selY_ok (ht:TowOk s b) (hx:Ax p q) (hw:whOk s b a p q=true) (ha:B7 a=true) (hc:Zw s b bits=true) {i:Nat} (hi:i≤b.length):I3 (selY s b bits a p q i)=true∧PtsIn (selY s b bits a p q i) (selP s b bits a p q i):=by
 have hm:=ht.many;have hlen:=ht.len;have hl:=A0b (s:=s) (b:=b) (bits:=bits) (a:=a) (p:=p) (q:=q) i hi;have hat:=fun x h=>sel_at (bits:=bits) (a:=a) ht hx hw hc (i:=i) (x:=x) h;refine ⟨?_,?_⟩
 ·simp only [I3,selY,selN,selT,Bool.and_eq_true,decide_eq_true_eq,List.all_eq_true];refine ⟨⟨⟨by simp;omega,by simp;omega⟩,fun f hf=>?_⟩,fun t ht'=>?_⟩
  ·rcases List.mem_cons.1 hf with rfl | hf
   ·simp only [Iq,Bool.and_eq_true,Bu];rw [ofF_one ha];exact ⟨ofF_fit ha,by omega⟩
   ·obtain ⟨x,hx',rfl⟩:=List.mem_map.1 hf;obtain ⟨⟨g1,g2⟩,g3⟩:=hat x hx';have:=A4g g1 (N4 g2);simp only [Iq,Bool.and_eq_true,Bu];exact ⟨g1,by omega⟩
  ·obtain ⟨j,hj,rfl⟩:=List.mem_map.1 ht';have:=List.mem_range.1 hj;simp only [Jm,Bool.and_eq_true,Bu,List.length_cons,List.length_map,bne_iff_ne];omega
 ·intro i' hi'
  match i',hi' with
  | 0,_=>exact N4 (ofF_has ha)
  | j+1,hj =>
    have hj':j<(selL s b bits a p q i).length:=by simpa [selY,selN] using hj
    have:=(hat _ (List.getElem_mem hj')).1.2;have e1:(selP s b bits a p q i).getD (j+1) (0,0)=(selL s b bits a p q i)[j].2:=by simp [selP,List.getD_eq_getElem?_getD,List.getElem?_map,List.getElem?_eq_getElem hj']
    have e2:(selY s b bits a p q i).nodes[j+1]=(selL s b bits a p q i)[j].1:=by simp [selY,selN]
    rw [e1,e2];exact N4 this
theorem selC_eq {g:Gd} {i:Nat}:(selY s b bits a p q i).traces.map (A1n g (selP s b bits a p q i))=selC g s b bits a p q i:=by
 unfold selY selT selC;apply List.ext_getElem?;intro j;rw [List.getElem?_map,List.getElem?_map,List.getElem?_map];by_cases hj:j<(selL s b bits a p q i).length
 ·rw [List.getElem?_range hj,List.getElem?_eq_getElem hj];have e:((0:Int)).toNat=0:=rfl;have e2:(((j:Nat):Int)+1).toNat=j+1:=by omega
  simp only [Option.map_some,A1n,selP,e,e2];simp [List.getD_eq_getElem?_getD,List.getElem?_map,List.getElem?_eq_getElem hj]
 ·rw [List.getElem?_eq_none (by simp;omega),List.getElem?_eq_none (by omega)];rfl
end
end
section
open Go.Am
theorem A4q {l:List Int} {p:Int→Bool} {f:FuncId} {us:List V} (hpl:Plain us) (hl:l.length≤9223372036854775807) (hp:∀b∈l,C Tryz.prog f (I b::us) (.bool (p b))) :
  C Tryz.prog Fm [As l,.func (.func f) [] us] (I (Em p l 0)):=by
 refine C_of mixed Fl.2 (by simp) fun S ok=>?_;refine TsR rfl ?_;refine A2 (TsR rfl (A4 ?_));refine Bc (fun k s=>(k≤l.length∧Em p l 0=Em p (l.drop k) k)∧s=⟨[(0,As l),(1,.func (.func f) [] us),(7,I l.length),(8,I k)],[],[],[],false⟩) (fun k=>l.length-k) 0 (Ad (.k rfl (.k rfl (.cons rfl (VLe.i (by simp)) (.k rfl .nil)))) .nil .nil (by simp only [E4,List.all_cons,C7 hpl];rfl) rfl) ⟨⟨by omega,by simp⟩,rfl⟩ ?_;rintro k s ⟨⟨hk,hf⟩,rfl⟩;refine TsR rfl (By rfl (fun h1=>?_) (fun h1=>?_))
 ·have h1:k<l.length:=by simpa using h1
  refine Bg (A2 (A4 (TsR rfl (Bj rfl ?_ ?_))))
  ·rw [Aj h1];simp [cells];omega
  ·rw [Aj h1];refine Dr (us:=I l[k]::us) (ids:=[]) rfl (by show Jt _ (toDs _ us)=_;rw [hpl.d];rfl) (hp l[k] (List.getElem_mem h1)) (Sfn rfl ?_);refine An rfl rfl (fun h2=>?_) (fun h2=>?_)
   ·refine TsR rfl (Ea ?_);refine ⟨trivial,_,_,_,Ck rfl,rfl,?_⟩;rw [hf,Db p l h1,if_pos h2];rfl
   ·refine A5 (TrR rfl ?_);refine ⟨k+1,_,?_,⟨⟨by omega,?_⟩,rfl⟩,by omega⟩
    ·exact Ad (.k rfl (.k rfl (.k rfl (.cons rfl (VLe.i (w64 (by omega) (by omega))) .nil)))) .nil .nil (by simp only [E4,List.all_cons,C7 hpl];rfl) rfl
    ·rw [hf,Db p l h1,if_neg (by simp [h2])]
 ·have h1:k=l.length:=by simp at h1;omega
  subst h1;refine Ak (TsR rfl (Bs rfl rfl ?_ trivial));rw [hf,List.drop_length];rfl
theorem Tj {l:List Int} {p:Int→Bool} {f:FuncId} {us:List V} (hpl:Plain us) (hd2:∀b,toDs b [V.func (.func f) [] us]=some ([V.func (.func f) [] us],[])) (hl:l.length≤9223372036854775807) (hp:∀b∈l,C Tryz.prog f (I b::us) (.bool (p b))) :
  C Tryz.prog Dc [As l,.func (.func f) [] us] (.bool (l.any p)):=by
 refine C_of mixed Ek.2 (by simp) fun S ok=>?_;refine TsR rfl ?_;refine TsC rfl (A3 (us:=[As l,.func (.func f) [] us]) (ids:=[]) rfl (by show Jt _ (toDs _ [V.func (.func f) [] us])=_;rw [hd2];rfl) (A4q hpl hl hp) (Sfn rfl (Bs rfl rfl ?_ trivial)));rw [←Iw p l 0];rfl
attribute [local simp] cells Af mkv Aq B6 under dem dem1 eB Ac As sB
theorem Ad6 (n m:Int) (hm:0≤m∧m≤65536):C Tryz.prog Hw [I n,.vptr [I m] 0] (.bool (!btw n (-m) m)):=by
 refine C_of mixed Ni.2 (by simp) fun S ok=>?_;have e:IntKind.wrap .i64 (0-m)=-m:=by rw [w64 (by omega) (by omega)];omega
 refine TsR rfl (TsC rfl ?_);rw [e];exact A3 rfl rfl (E9 _ _ _) (Sfn rfl (A8 rfl rfl rfl rfl trivial))
def stS:Strm:=⟨3,[⟨9,64,0,0,0⟩],(-9,9),0⟩
theorem Vp (m:Int):Plain [.vptr [I m] 0]:=⟨fun b=>rfl,fun B R=>rfl⟩
theorem Zt (n m:Int) (hm:0≤m∧m≤65536) (h:btw n (-m) m=true):C Tryz.prog Qx [eStr stS,As [n],I m] (.bool true):=by
 have kc:=Tj (l:=[n]) (p:=fun n=>!btw n (-m) m) (f:=Hw) (us:=[.vptr [I m] 0]) (Vp m) (fun _=>rfl) (by simp) (fun b _=>Ad6 b m hm);have e:[n].any (fun n=>!btw n (-m) m)=false:=by simp [h]
 rw [e] at kc;refine C_of mixed Pm.2 (by simp) fun S ok=>?_;refine Aw rfl (by simp [eStr,strC,Cl,stS]) (Bj rfl (by simp [eStr,strC,Cl,stS]) ?_);exact Ao (r:=.bool false) rfl rfl rfl rfl (by simp) (fun _=>kc) (Sfn rfl (A8 rfl rfl rfl rfl trivial))
theorem Aht:C Tryz.prog Adk [I 192] (I 3):=by
 refine C_of mixed Ab4.2 (by simp) fun S ok=>?_;exact TsR rfl (TsR rfl (A2 (TsR rfl (A7 rfl (A5 (TsR rfl (A8 rfl rfl rfl rfl trivial)))))))
theorem c_easedS:C Tryz.prog Ue [eStr stS,I 0,I 0,I 3,I 2] (I 5):=by
 refine C_of mixed Tx.2 (by simp) fun S ok=>?_;refine Aw rfl (by simp [eStr,strC,Cl,stS]) (Aw rfl (by simp [eStr,strC,Cl,stS,eSec,secC]) (Bj rfl (by simp [eStr,strC,Cl,stS,eSec,secC]) ?_));refine A3 rfl rfl Aht (Sfn rfl ?_);refine A2 (Aw rfl (by simp [eStr,strC,Cl,stS]) (A7 rfl (Aw rfl (by simp [eStr,strC,Cl,stS]) (A7 rfl (A5 ?_)))));exact TsR rfl (A8 rfl rfl rfl rfl trivial)
theorem c_stepS1:C Tryz.prog Tu [I 0,I 0,I 3,.vptr (strC stS) 0,.vptr [As [2]] 0] (I 5):=by
 refine C_of mixed A33.2 (by simp) fun S ok=>?_;refine TsR rfl (A2 (Ab (Bm rfl (by simp [strC,Cl,stS]) ?_)));exact A6 rfl rfl c_easedS (Krn rfl (.done ⟨by kernel_rfl,by kernel_rfl,A8 rfl rfl rfl rfl trivial⟩))
theorem c_eachS:C Tryz.prog Yf [As [0],I 3,.func (.func Tu) [] [.vptr (strC stS) 0,.vptr [As [2]] 0]] (As [5]):=by
 refine C_of mixed Xm.2 (by simp) fun S ok=>?_;refine TsR rfl (TsR rfl (TsR rfl (A2 (TsR rfl (A4 ?_)))));refine Bd 2 (Ag ?_);refine TsR rfl (A2 (A9 rfl (A5 (A2 (A4 (TsR rfl (TsC rfl (Dr rfl rfl c_stepS1 (Sfn rfl (TrR rfl (TrR rfl (Ag ?_))))))))))));refine TsR rfl (A2 (A7 rfl (Ak ?_)));refine Aa (Wk.bsl (t:=7) (i:=13) (off:=0) (sz:=1) (n:=1) (cs:=[I 5]) (xs:=[I 5]) rfl rfl (Zc [5])) ?_;exact TsR rfl (A8 rfl rfl rfl rfl trivial)
theorem c_StepS:C Tryz.prog Adm [eStr stS,As [0],As [2]] (.tuple [As [5],I 0]):=by
 have kc:C Tryz.prog X5 [eStr stS] (I 0):=Aag (s:=stS) (by simp [stS]);have n1:=Zt 0 16384 (by omega) (by decide);have n2:=Zt 2 100 (by omega) (by decide);refine C_of mixed Ab6.2 (by simp) fun S ok=>?_;refine Aw rfl (by simp [eStr,strC,Cl,stS]) (A2 (Bj rfl (by simp [eStr,strC,Cl,stS]) (A3 rfl rfl kc (Sfn rfl (TsR rfl (A7 rfl (A5 ?_)))))));refine Aw rfl (by simp [eStr,strC,Cl,stS]) (A2 (A4 ?_));refine Bj rfl (by simp [eStr,strC,Cl,stS]) (A3 rfl rfl n1 (Sfn rfl (A7 rfl ?_)));refine Bj rfl (by simp [eStr,strC,Cl,stS]) (A3 rfl rfl n2 (Sfn rfl (A7 rfl (A5 ?_))));refine Bj rfl (by simp [eStr,strC,Cl,stS]) (A3 rfl rfl c_eachS (Sfn rfl (A8 rfl rfl rfl rfl trivial)))
end
end Go.Proofs.YtabedohjkillfaaGreatDoor
namespace Go.Am
section
open Go.RowKit
section
variable {E:Env}
theorem Av {K:St→Prop} {s:St} {d:Option Nat} {k:Am.K} {xs:List X} {t:Nat} {want:Bool} {gv:V} {rest:List Ins} (hgv:get s.env t=some gv) (hgb:Cg want gv=some true) (h:Steps E (⟨d,k,xs,none⟩::rest) K s):Steps E (⟨d,k,xs,some (t,want)⟩::rest) K s:=by
 refine Step1.raw fun slots ops o i ro n a w g hc hs hi R Q next hn=>?_
 obtain ⟨os,cc⟩:=Ba hc;obtain ⟨j,want',t',g1,g2,g3⟩:∃j want' t',o.guard=some (j,want')∧slots[j]?=some (some t')∧(some (t,want))=some (t',want'):=by
  rcases cc.guard with ⟨e,_⟩ | e
  ·cases e
  ·exact e
 cases g3;have hw:=(Cs R hs g1 g2 (by rw [fs_g];exact hgv) hgb).1 rfl;obtain ⟨hlt,ho⟩:=Array.getElem?_eq_some_iff.1 hi;have hi':(ops.setIfInBounds i {o with guard:=none})[i]?=some {o with guard:=none}:=by
  rw [Array.getElem?_setIfInBounds_self,if_pos hlt]
 have hs':slots=(ops.setIfInBounds i {o with guard:=none}).toList.map (·.dst):=by
  rw [hs,Array.toList_setIfInBounds,List.map_set];apply List.ext_getElem?;intro m;rw [List.getElem?_set];by_cases e:i=m
  ·subst e;rw [if_pos rfl,if_pos (by simpa using hlt)];simp [hlt,ho]
  ·rw [if_neg e]
 have hc':Jd E.P E.nt slots {o with guard:=none}=some ⟨d,k,xs,none⟩:=by
  have e4:A3x slots none=some none:=rfl;revert hc;unfold Jd;simp only [e4];intro hc;cases e1:opK E.P o.op with
  | none=>rw [e1] at hc;cases hc
  | some p =>
    obtain ⟨k',os'⟩:=p;rw [e1] at hc;simp only at hc ⊢;cases e2:os'.mapM Qh with
    | none=>rw [e2] at hc;cases hc
    | some xs' =>
      rw [e2] at hc;simp only at hc ⊢;cases e3:A3x slots o.guard with
      | none=>rw [e3] at hc;cases hc
      | some g' =>
        rw [e3] at hc;simp only at hc ⊢;cases hd:Agk E.nt k' o.dst with
        | false=>rw [hd] at hc;cases hc
        | true =>
          rw [hd] at hc;simp only [cond_true,Option.some.injEq,Ins.mk.injEq] at hc ⊢;exact ⟨hc.1,hc.2.1,hc.2.2.1,trivial⟩
 have h2:=O6 (ops:=ops.setIfInBounds i {o with guard:=none}) (Q:=Q) h hc' hs' hi' R hn (ro:=ro) (n:=n);unfold wpOpIn at h2 ⊢;rw [hi'] at h2;rw [hi];simp only [hw,if_true] at h2 ⊢;have hw':Region.wanted {o with guard:=none} (yielded (ops.setIfInBounds i {o with guard:=none}) a.tmps)=true:=rfl;rw [hw',if_pos rfl] at h2;exact h2
theorem Qo {s:St} {t:Nat} {v:V} (ht:get s.env t=some (.cond true v)) (hd:toD s.fs.b 6 v=some (v,[])):Wk E s (s.put (some t) v):=by
 intro a w h R;obtain ⟨q1,q2,_⟩:=R.1.env t _ (by rw [fs_g];exact ht);have r:RepD w h.φ v (a.tmps.getD t undef):=by
  cases q2 with
  | data r=>cases r
  | cond _ _ _ h1 _=>exact (Jn R.1 6 v v _ [] hd (by simp) (h1 rfl)).1
 have R3:=R.1.put (d:=t) (v:=v) (x:=a.tmps.getD t undef) q1 (.data r) (Ap r);rw [N0 (by rw [R.1.size];exact q1)] at R3;rw [←Dj] at R3;exact ⟨_,⟨R3,R.2⟩,rfl⟩
end
end
section
open Go.RowKit
def stepG (ins:Ins) (s:St):Option (Prop×Eff×List Loc) :=
 match ins.g with
 | none=>A2n ins s
 | some (t,want)=>match Am.get s.env t with
   | some (.bool b)=>match b==want with
     | true=>A2n {ins with g:=none} s
     | false=>none
   | _=>none
theorem step_G {E:Env} {ins:Ins} {s:St} {p:Prop} {eff:Eff} {rd:List Loc} {rest:List Ins} {K:St→Prop} (h:stepG ins s=some (p,eff,rd)) (hp:p) (hk:Steps E rest K ((s.eff eff).put ins.d eff.v)):Steps E (ins::rest) K s:=by
 obtain ⟨d,k,xs,g⟩:=ins;unfold stepG at h;cases g with
 | none=>exact Step1.does (Mv h hp) hk
 | some tw =>
   obtain ⟨t,want⟩:=tw;simp only at h;split at h
   ·rename_i b hb;split at h
    ·rename_i hbw;exact Av hb (by simp only [Cg,hbw]) (Step1.does (Mv h hp) hk)
    ·cases h
   ·cases h
def runG:List Ins→St→Prop→Prop×St×List Ins
 | [],s,p=>(p,s,[])
 | i::r,s,p=>match stepG i s with
   | some (q,eff,_)=>runG r ((s.eff eff).put i.d eff.v) (p∧q)
   | none=>(p,s,i::r)
theorem A97:∀(il:List Ins) (s:St) (p:Prop),(runG il s p).1→p
 | [],s,p,h=>h
 | i::r,s,p,h=>by
   unfold runG at h;split at h
   ·exact (A97 r _ _ h).1
   ·exact h
theorem Aej {E:Env} {K:St→Prop}:∀(il:List Ins) (s:St) (p:Prop),(runG il s p).1→Am.Steps E (runG il s p).2.2 K (runG il s p).2.1→Am.Steps E il K s
 | [],s,p,_,h=>h
 | i::r,s,p,h1,h2=>by
   unfold runG at h1 h2;split at h1
   ·rename_i q eff rd hq;rw [hq] at h2;exact step_G hq (A97 r _ _ h1).2 (Aej r _ _ h1 h2)
   ·rename_i hq;rw [hq] at h2;exact h2
theorem Su {E:Env} {K:St→Prop} {s s':St} {il rest:List Ins} {p:Prop} (h:Am.runG il s True=(p,s',rest)) (hp:p) (hs:Am.Steps E rest K s'):Am.Steps E il K s:=by
 refine Aej il s True ?_ ?_
 ·rw [h];exact hp
 ·rw [h];exact hs
theorem SrG {E:Env} {K:St→Prop} {s s':St} {il rest:List Ins} {p:Prop} (h:Am.runG il s True=(p,s',rest)) (hs:Am.Steps E rest K s') (hp:p:=by simp):Am.Steps E il K s:=Su h hp hs
end
end Go.Am
namespace Go.Proofs.YtabedohjkillfaaGreatDoor
section
open Go.Am
attribute [local simp] cells Af mkv Aq B6 under dem dem1 As
theorem En (n lo hi:Int):C Tryz.prog Ce [I n,I lo,I hi] (.bool (btw n lo hi)):=by
 refine C_of mixed A0m.2 (by simp) fun S ok=>?_;refine TsR rfl (TsR rfl (Bs rfl rfl ?_ trivial));simp [D2,btw]
def firV:V:=.agg [I 10,I 5,I 2,I 4,I 4]
def wayS:List Int:=[0,8,12,14,20,27]
def eSht (t s:Int) (b:Bool):V:=.agg [I t,I s,.bool b]
def shtL:List V:=[eSht 2 0 false,eSht 4 1 false,eSht 4 0 true,eSht 5 1 true]
attribute [local simp] firV wayS eSht shtL
theorem Y5:C Tryz.prog R4 [firV] (I 0):=by
 have k1:C Tryz.prog Ce [I 10,I 0,I 1048576] (.bool true):=En _ _ _;have k2:C Tryz.prog Ce [I 5,I 1,I 1000] (.bool true):=En _ _ _;have k3:C Tryz.prog Ce [I 2,I 1,I 4] (.bool true):=En _ _ _;have k4:C Tryz.prog Ce [I 4,I 1,I 64] (.bool true):=En _ _ _;have k5:C Tryz.prog Ce [I 4,I 0,I 1000] (.bool true):=En _ _ _;refine C_of mixed Pp.2 (by simp) fun S ok=>?_;refine TsR rfl (A2 (A2 (Ae (SrG rfl (A3 rfl rfl k1 (SrG rfl ?_))))));refine Av rfl rfl (A3 rfl rfl k2 (SrG rfl (Av rfl rfl (A3 rfl rfl k3 (SrG rfl ?_)))));refine Av rfl rfl (A3 rfl rfl k4 (SrG rfl (Av rfl rfl (A3 rfl rfl k5 (SrG rfl (A7 rfl (A5 ?_)))))));exact TsR rfl (A8 rfl rfl rfl rfl trivial)
theorem Ahx (a b:Int):C Tryz.prog O3 [I a,I b] (.bool (decide (a<b))):=by
 refine C_of mixed Xw.2 (by simp) fun S ok=>?_;refine TsR rfl (TsC rfl (A3 rfl rfl (A7n a) (Srn rfl ?_)));exact Ao (r:=.bool false) rfl rfl rfl rfl (by simp) (fun h=>(by cases h)) (Sfn rfl (A8 rfl rfl rfl rfl trivial))
theorem Ahl:C Tryz.prog Jw [As wayS] (.bool true):=by
 have k:∀(a b:Int),decide (a<b)=false→C Tryz.prog O3 [I a,I b] (.bool false):=fun a b h=>h▸Ahx a b;refine C_of mixed Jo.2 (by simp) fun S ok=>?_;refine TsR rfl (A2 (TsR rfl (A4 ?_)));refine Bc (fun (k:Nat) st=>k≤5∧st=⟨[(0,As wayS),(3,I k)],[],[],[],false⟩) (fun k=>k) 5 (Ad (.k rfl (.k rfl .nil)) .nil .nil rfl rfl) ⟨by omega,rfl⟩ ?_;rintro n st ⟨hn,rfl⟩;have hc:n=0∨n=1∨n=2∨n=3∨n=4∨n=5:=by omega
 rcases hc with rfl | hc
 ·exact A2 (TsR rfl (A7 rfl (Ak (TsR rfl (A8 rfl rfl rfl rfl trivial)))))
 rcases hc with rfl | rfl | rfl | rfl | rfl
 all_goals
  refine A2 (TsR rfl (A9 rfl (A5 (A2 (A4 (A2 (Ab (Bm rfl (by simp<;>decide +kernel) (A6 rfl rfl (k _ _ (by decide)) (.done (KrT ?_)))))))))));refine A7 rfl (A5 (TrR rfl ?_))
 ·exact ⟨0,_,Ad (.k rfl (.cons rfl (VLe.i rfl) .nil)) .nil .nil rfl rfl,⟨by omega,rfl⟩,by omega⟩
 ·exact ⟨1,_,Ad (.k rfl (.cons rfl (VLe.i rfl) .nil)) .nil .nil rfl rfl,⟨by omega,rfl⟩,by omega⟩
 ·exact ⟨2,_,Ad (.k rfl (.cons rfl (VLe.i rfl) .nil)) .nil .nil rfl rfl,⟨by omega,rfl⟩,by omega⟩
 ·exact ⟨3,_,Ad (.k rfl (.cons rfl (VLe.i rfl) .nil)) .nil .nil rfl rfl,⟨by omega,rfl⟩,by omega⟩
 ·exact ⟨4,_,Ad (.k rfl (.cons rfl (VLe.i rfl) .nil)) .nil .nil rfl rfl,⟨by omega,rfl⟩,by omega⟩
theorem Aaf (n:Int) (h:0≤n∧n≤3):C Tryz.prog Adq [firV,I n] (I (10+n*5)):=by
 refine C_of mixed Aba.2 (by simp) fun S ok=>?_;refine TsR rfl (TsR rfl (A8 rfl rfl rfl ?_ trivial));show _=I (IntKind.wrap .i64 (10+IntKind.wrap .i64 (n*5)));rw [w64 (n:=n*5) (by omega) (by omega),w64 (by omega) (by omega)]
theorem Ad4 (n m:Int):C Tryz.prog Ug [I n,.vptr [I m] 0] (.bool (decide (n≥m))):=by
 refine C_of mixed U0.2 (by simp) fun S ok=>?_;exact TsR rfl (TsR rfl (A8 rfl rfl rfl rfl trivial))
theorem Nb (m:Int):C Tryz.prog Fx [As wayS,I m] (I (Em (fun n=>decide (n≥m)) wayS 0)):=by
 have k:=A4q (l:=wayS) (p:=fun n=>decide (n≥m)) (Vp m) (by decide) fun b _=>Ad4 b m;refine C_of mixed Xo.2 (by simp) fun S ok=>?_;exact TsR rfl (TsC rfl (A3 rfl rfl k (Sfn rfl (A8 rfl rfl rfl rfl trivial))))
theorem c_fireS:C Tryz.prog A8j [firV,As wayS] (.slice 0 3 shtL):=by
 have r0:C Tryz.prog Fx [As wayS,I (10+0*5)] (I 2):=Nb _;have r1:C Tryz.prog Fx [As wayS,I (10+1*5)] (I 4):=Nb _;have r2:C Tryz.prog Fx [As wayS,I (10+2*5)] (I 4):=Nb _;have r3:C Tryz.prog Fx [As wayS,I (10+3*5)] (I 5):=Nb _;refine C_of mixed A6m.2 (by simp) fun S ok=>?_;refine TsR rfl (TsR rfl (A2 (TsR rfl (A4 ?_))));refine Bc (fun (k:Nat) st=>k≤4∧st=⟨[(1,As wayS),(2,.ptr 2 0),(5,.slice 53 3 (shtL.take k)),(9,I 4),(10,I k)],[(2,⟨[I 10,I 5,I 2,I 4,I 4],false⟩)],[(52,(shtL.take k).length,3,148)],[],false⟩) (fun k=>4-k) 0 (Ad (.k rfl (.k rfl (.cons rfl (.nil 53 3) (.k rfl (.k rfl .nil))))) (.k rfl .nil) (.new rfl .nil) rfl rfl) ⟨by omega,rfl⟩ ?_;rintro k st ⟨hk,rfl⟩;have hc:k=4∨k=0∨k=1∨k=2∨k=3:=by omega
 rcases hc with rfl | rfl | hc
 ·exact TsR rfl (A2 (A7 rfl (Ak (TsR rfl (A8 rfl rfl rfl rfl trivial)))))
 ·refine TsR rfl (A2 (A9 rfl (A5 (A2 (A4 (TsR rfl ?_))))));refine A2 (Ab (Krn rfl (A6 rfl rfl (Aaf 0 (by omega)) (A6 rfl rfl r0 (Krn rfl (.done (KrT ?_)))))));refine A2 (Ab (KrN 17 rfl (Gf (.vptr [] 0) rfl rfl (Gf (.vptr [] 0) rfl rfl (Gf (I 0) rfl rfl (Krn rfl (.done (KrT ?_))))))));refine TrR rfl (TrR rfl ?_);exact ⟨1,_,Ad (.k rfl (.k rfl (.k rfl (.k rfl (.cons rfl (VLe.i rfl) .nil))))) (.k rfl .nil) (.cons rfl .nil) rfl rfl,⟨by omega,rfl⟩,by omega⟩
 rcases hc with rfl | rfl | rfl
 ·refine TsR rfl (A2 (A9 rfl (A5 (A2 (A4 (TsR rfl ?_))))));refine A2 (Ab (Krn rfl (A6 rfl rfl (Aaf 1 (by omega)) (A6 rfl rfl r1 (Krn rfl (.done (KrT ?_)))))));refine A2 (Ab (Bm rfl (by simp<;>decide +kernel) (.done (KrT ?_))));refine TrR rfl (TrR rfl ?_);exact ⟨2,_,Ad (.k rfl (.k rfl (.k rfl (.k rfl (.cons rfl (VLe.i rfl) .nil))))) (.k rfl .nil) (.cons rfl .nil) rfl rfl,⟨by omega,rfl⟩,by omega⟩
 ·refine TsR rfl (A2 (A9 rfl (A5 (A2 (A4 (TsR rfl ?_))))));refine A2 (Ab (Krn rfl (A6 rfl rfl (Aaf 2 (by omega)) (A6 rfl rfl r2 (Krn rfl (.done (KrT ?_)))))));refine A2 (Ab (Bm rfl (by simp<;>decide +kernel) (.done (KrT ?_))));refine TrR rfl (TrR rfl ?_);exact ⟨3,_,Ad (.k rfl (.k rfl (.k rfl (.k rfl (.cons rfl (VLe.i rfl) .nil))))) (.k rfl .nil) (.cons rfl .nil) rfl rfl,⟨by omega,rfl⟩,by omega⟩
 ·refine TsR rfl (A2 (A9 rfl (A5 (A2 (A4 (TsR rfl ?_))))));refine A2 (Ab (Krn rfl (A6 rfl rfl (Aaf 3 (by omega)) (A6 rfl rfl r3 (Krn rfl (.done (KrT ?_)))))));refine A2 (Ab (Bm rfl (by simp<;>decide +kernel) (.done (KrT ?_))));refine TrR rfl (TrR rfl ?_);exact ⟨4,_,Ad (.k rfl (.k rfl (.k rfl (.k rfl (.cons rfl (VLe.i rfl) .nil))))) (.k rfl .nil) (.cons rfl .nil) rfl rfl,⟨by omega,rfl⟩,by omega⟩
theorem c_FireS:C Tryz.prog A8k [firV,As wayS] (.tuple [.slice 0 3 shtL,I 0]):=by
 have k1:C Tryz.prog Ce [I 6,I 1,I 512] (.bool true):=En _ _ _;refine C_of mixed A6n.2 (by simp) fun S ok=>?_;refine TsR rfl (A2 (TsC rfl (A3 rfl rfl Y5 (Sfn rfl (TsR rfl (A7 rfl (A5 ?_)))))));refine A2 (Ae (SrG rfl (A3 rfl rfl k1 (SrG rfl (Av rfl rfl (A3 rfl rfl Ahl (SrG rfl ?_)))))));refine A2 (A2 (Ae (Su rfl (by simp<;>decide +kernel) (A7 rfl (A5 ?_)))));exact TsC rfl (A3 rfl rfl c_fireS (Sfn rfl (A8 rfl rfl rfl rfl trivial)))
end
section
open Go.Am
attribute [local simp] cells Af mkv Aq B6 under dem dem1 As
def ruV:V:=.agg [I 3,I 5,I 3,I 6]
def resS:List Int:=[0,1,1]
attribute [local simp] ruV resS
theorem A1u:C Tryz.prog Sy [ruV] (I 0):=by
 have k1:C Tryz.prog Ce [I 3,I 1,I 12] (.bool true):=En _ _ _;have k2:C Tryz.prog Ce [I 5,I 1,I 12] (.bool true):=En _ _ _;have k3:C Tryz.prog Ce [I 3,I 1,I 5] (.bool true):=En _ _ _;have k4:C Tryz.prog Ce [I 6,I 1,I 256] (.bool true):=En _ _ _;refine C_of mixed Ru.2 (by simp) fun S ok=>?_;refine TsR rfl (A2 (A2 (Ae (SrG rfl (A3 rfl rfl k1 (SrG rfl ?_))))));refine Av rfl rfl (A3 rfl rfl k2 (SrG rfl (Av rfl rfl (A3 rfl rfl k3 (SrG rfl ?_)))));refine Av rfl rfl (A3 rfl rfl k4 (SrG rfl (A7 rfl (A5 ?_))));exact TsR rfl (A8 rfl rfl rfl rfl trivial)
theorem Ad3 (n m:Int):C Tryz.prog Ln [I n,.vptr [I m] 0] (.bool (!btw n 0 m)):=by
 refine C_of mixed Tz.2 (by simp) fun S ok=>?_;exact TsR rfl (TsC rfl (A3 rfl rfl (En _ _ _) (Sfn rfl (A8 rfl rfl rfl rfl trivial))))
theorem Ad2:C Tryz.prog Yg [As resS,I 1] (.bool true):=by
 have k:C Tryz.prog Dc [As resS,.func (.func Ln) [] [.vptr [I 1] 0]] (.bool false) :=
  Tj (l:=resS) (p:=fun n=>!btw n 0 1) (Vp 1) (fun b=>rfl) (by decide) fun b _=>Ad3 b 1
 refine C_of mixed Xn.2 (by simp) fun S ok=>?_;refine TsR rfl (A2 (Ae (SrG rfl (Av rfl rfl (A3 rfl rfl k (SrG rfl ?_))))));exact A8 rfl rfl rfl rfl trivial
theorem c_ruledS:C Tryz.prog A5c [ruV,As resS] (I 0):=by
 refine C_of mixed A35.2 (by simp) fun S ok=>?_;refine TsR rfl (A2 (TsC rfl (A3 rfl rfl A1u (Sfn rfl (TsR rfl (A7 rfl (A5 ?_)))))));refine A2 (TsC rfl (A3 rfl rfl Ad2 (Sfn rfl (A7 rfl (A5 ?_)))));exact TsR rfl (A8 rfl rfl rfl rfl trivial)
theorem Qm {f n:Int} (hf:f=-4∨f=-3∨f=-2∨f=-1∨f=0) (hn:n=1∨n=2∨n=3):C Tryz.prog Fk [As resS,I f,I n] (I (n-1)):=by
 rcases hf with rfl | rfl | rfl | rfl | rfl<;>rcases hn with rfl | rfl | rfl
 all_goals
  refine C_of mixed Abb.2 (by simp) fun S ok=>?_;refine TsR rfl (TsR rfl (A2 (Aw rfl (by simp<;>decide +kernel) (A4 (Bd 4 (Ag ?_))))));refine TsR rfl (A2 (A9 rfl (A5 (A2 (A4 (Aw rfl (by simp<;>decide +kernel) (TsR rfl ?_)))))));refine A7 rfl (A5 (TrR rfl (Ag ?_)))
 all_goals first
  | exact TsR rfl (A2 (A7 rfl (Ak (TsR rfl (A8 rfl rfl rfl rfl trivial)))))
  | (refine TsR rfl (A2 (A9 rfl (A5 (A2 (A4 (Aw rfl (by simp<;>decide +kernel) (TsR rfl ?_)))))))
     refine A9 rfl (TrR rfl (TrR rfl (Ag ?_))))
 all_goals first
  | exact TsR rfl (A2 (A7 rfl (Ak (TsR rfl (A8 rfl rfl rfl rfl trivial)))))
  | (refine TsR rfl (A2 (A9 rfl (A5 (A2 (A4 (Aw rfl (by simp<;>decide +kernel) (TsR rfl ?_)))))))
     refine A9 rfl (TrR rfl (TrR rfl (Ag ?_))))
 all_goals exact TsR rfl (A2 (A7 rfl (Ak (TsR rfl (A8 rfl rfl rfl rfl trivial)))))
theorem Wy {i:Int} (hi:i=0∨i=1∨i=2):C Tryz.prog A2a [ruV,As resS,I i] (I 0):=by
 rcases hi with rfl | rfl | rfl
 ·refine C_of mixed Kl.2 (by simp) fun S ok=>?_;have k1:C Tryz.prog Fk [As resS,I (-2),I 1] (I 0):=Qm (by omega) (by omega);have k2:C Tryz.prog Fk [As resS,I (-4),I 1] (I 0):=Qm (by omega) (by omega);have k3:C Tryz.prog Fk [As resS,I 0,I 1] (I 0):=Qm (by omega) (by omega);refine TsR rfl (A2 (A4 (A2 (Ab (Krn rfl (A6 rfl rfl k1 (Krn rfl (.done ⟨by kernel_rfl,by kernel_rfl,A7 rfl ?_⟩))))))));refine A2 (Ab (Krn rfl (A6 rfl rfl k2 (Krn rfl (.done ⟨by kernel_rfl,by kernel_rfl,A7 rfl ?_⟩)))));refine A2 (Ab (Krn rfl (A6 rfl rfl k3 (Krn rfl (.done ⟨by kernel_rfl,by kernel_rfl,A7 rfl (A5 ?_)⟩)))));exact TsR rfl (A8 rfl rfl rfl rfl trivial)
 ·refine C_of mixed Kl.2 (by simp) fun S ok=>?_;have k1:C Tryz.prog Fk [As resS,I (-1),I 2] (I 1):=Qm (by omega) (by omega);have k2:C Tryz.prog Fk [As resS,I (-3),I 2] (I 1):=Qm (by omega) (by omega);have k3:C Tryz.prog Fk [As resS,I 0,I 2] (I 1):=Qm (by omega) (by omega);refine TsR rfl (A2 (A4 (A2 (Ab (Krn rfl (A6 rfl rfl k1 (Krn rfl (.done ⟨by kernel_rfl,by kernel_rfl,A7 rfl ?_⟩))))))));refine A2 (Ab (Krn rfl (A6 rfl rfl k2 (Krn rfl (.done ⟨by kernel_rfl,by kernel_rfl,A7 rfl ?_⟩)))));refine A2 (Ab (Krn rfl (A6 rfl rfl k3 (Krn rfl (.done ⟨by kernel_rfl,by kernel_rfl,A7 rfl (A5 ?_)⟩)))));exact TsR rfl (A8 rfl rfl rfl rfl trivial)
 ·refine C_of mixed Kl.2 (by simp) fun S ok=>?_;have k1:C Tryz.prog Fk [As resS,I 0,I 3] (I 2):=Qm (by omega) (by omega);have k2:C Tryz.prog Fk [As resS,I (-2),I 3] (I 2):=Qm (by omega) (by omega);refine TsR rfl (A2 (A4 (A2 (Ab (Krn rfl (A6 rfl rfl k1 (Krn rfl (.done ⟨by kernel_rfl,by kernel_rfl,A7 rfl ?_⟩))))))));refine A2 (Ab (Krn rfl (A6 rfl rfl k2 (Krn rfl (.done ⟨by kernel_rfl,by kernel_rfl,A7 rfl ?_⟩)))));refine A2 (Ab (Krn rfl (A6 rfl rfl k1 (Krn rfl (.done ⟨by kernel_rfl,by kernel_rfl,A7 rfl (A5 ?_)⟩)))));exact TsR rfl (A8 rfl rfl rfl rfl trivial)
theorem c_judgeS:C Tryz.prog A5d [ruV,As resS] (.tuple [I 3,I 0]):=by
 refine C_of mixed A36.2 (by simp) fun S ok=>?_;refine TsR rfl (A2 (TsR rfl (A4 (Bd 4 (Ag ?_)))));refine TsR rfl (A2 (A9 rfl (A5 (A2 (A4 (TsR rfl (TsC rfl (A3 rfl rfl (Wy (i:=0) (by omega)) (Sfn rfl (TsR rfl (A7 rfl (A5 (TrR rfl (Ag ?_))))))))))))));refine TsR rfl (A2 (A9 rfl (A5 (A2 (A4 (TsR rfl (TsC rfl (A3 rfl rfl (Wy (i:=1) (by omega)) (Sfn rfl (TsR rfl (A7 rfl (A5 (TrR rfl (Ag ?_))))))))))))));refine TsR rfl (A2 (A9 rfl (A5 (A2 (A4 (TsR rfl (TsC rfl (A3 rfl rfl (Wy (i:=2) (by omega)) (Sfn rfl (TsR rfl (A7 rfl (A5 (TrR rfl (Ag ?_))))))))))))));refine TsR rfl (A2 (A7 rfl (Ak ?_)));exact TsR rfl (A8 rfl rfl rfl rfl trivial)
def bitK (a:Int) (k:Nat):Int:=(a.fdiv (2^(min k 64))).tmod 2
def rowK (a:Int):Nat→Bool
 | 0=>true
 | k+1=>bif rowK a k then (bif decide ((k:Int)≥3) then true else bitK a k==1) else false
def U8 (a:Int):Nat→Int
 | 0=>0
 | k+1=>if k<5 then U8 a k+bitK a k else U8 a k
theorem Ai4 {a:Int} (ha:0≤a) (k:Nat):0≤bitK a k∧bitK a k≤1:=by
 unfold bitK;have h1:0≤a.fdiv (2^(min k 64)):=by
  rw [Int.fdiv_eq_ediv_of_nonneg _ (Int.pow_nonneg (by omega))];exact Int.ediv_nonneg ha (Int.pow_nonneg (by omega))
 rw [Int.tmod_eq_emod_of_nonneg h1];omega
theorem A9p {a:Int} (ha:0≤a):∀k:Nat,0≤U8 a k∧U8 a k≤k
 | 0=>by simp [U8]
 | k+1=>by
   have:=A9p ha k;have:=Ai4 ha k;unfold U8;split<;>omega
theorem c_next {a x:Int} (ha:0≤a∧a≤4095) (hx:0≤x∧x≤1):C Tryz.prog D0 [.agg [I a],ruV,I x] (.tuple [.agg [I ((2*a+x)%4096)],.bool (bif !rowK ((2*a+x)%4096) 12 then decide (U8 ((2*a+x)%4096) 12<3) else false)]):=by
 have e0:IntKind.wrap .i64 (2*a)=2*a:=w64 (by omega) (by omega);have e1:IntKind.wrap .i64 (2*a+x)=2*a+x:=w64 (by omega) (by omega);have e2:(2*a+x).tmod 4096=(2*a+x)%4096:=Int.tmod_eq_emod_of_nonneg (by omega);refine C_of mixed Rt.2 (by simp) fun S ok=>?_;refine TsR rfl (TsN 3 rfl ?_);rw [e0];refine SrN 2 rfl ?_;rw [e1];refine SrN 1 rfl ?_;rw [e2];obtain ⟨n,hn⟩:∃n,(2*a+x)%4096=n:=⟨_,rfl⟩;rw [hn];have hn0:0≤n:=by omega
 refine Sfn rfl (TsR rfl (A2 (TsR rfl (A4 ?_))));refine Bc (fun (k:Nat) st=>k≤12∧st=⟨[(4,.ptr 4 0),(6,.ptr 6 0),(8,I n),(9,.bool (rowK n k)),(10,I (U8 n k)),(19,I k)],[(4,⟨[I 3,I 5,I 3,I 6],false⟩),(6,⟨[I 0],false⟩)],[],[],false⟩) (fun k=>12-k) 0 (Ad (.k rfl (.k rfl (.k rfl (.k rfl (.k rfl (.k rfl .nil)))))) (.k rfl (.k rfl .nil)) .nil rfl rfl) ⟨by omega,rfl⟩ ?_;rintro k st ⟨hk,rfl⟩;by_cases hk2:k=12
 ·subst hk2;refine TsR rfl (A2 (A7 rfl (Ak ?_)));refine A2 (Ab (Krn rfl (.done (KrT ?_))));exact A8 rfl rfl rfl rfl trivial
 have hlt:k<12:=by omega
 have hb:=Ai4 hn0 k;have hm:=A9p hn0 k;refine TsN 1 rfl ?_;rw [decide_eq_true (show (k:Int)<12 by omega)];refine Sfn rfl (A2 (A9 rfl (A5 (A2 (A4 (TsR rfl (TsR rfl (A2 (Ae (SrN 9 rfl (L9 rfl rfl rfl (fun _=>rfl) rfl rfl (by simp;exact fun h=>⟨fun h2=>⟨h,h2⟩,h⟩) (Sfn rfl ?_))))))))))));refine TsR rfl (An rfl rfl (fun h=>?_) (fun h=>A5 ?_))
 ·have h5:k<5:=by
   have h:decide ((k:Int)<5)=true:=h;have:=of_decide_eq_true h;omega
  refine TrR rfl (TrR rfl ?_);exact ⟨k+1,_,Ad (.k rfl (.k rfl (.k rfl (.k rfl (.cons rfl (VLe.i (by rw [U8,if_pos h5];exact w64 (n:=U8 n k+bitK n k) (by omega) (by omega))) (.cons rfl (VLe.i (w64 (by omega) (by omega))) .nil)))))) (.k rfl (.k rfl .nil)) .nil rfl rfl,⟨by omega,rfl⟩,by omega⟩
 ·have h5:¬k<5:=by
   have h:decide ((k:Int)<5)=false:=h;have:=of_decide_eq_false h;omega
  refine TrR rfl ?_;exact ⟨k+1,_,Ad (.k rfl (.k rfl (.k rfl (.k rfl (.cons rfl (VLe.i (by rw [U8,if_neg h5])) (.cons rfl (VLe.i (w64 (by omega) (by omega))) .nil)))))) (.k rfl (.k rfl .nil)) .nil rfl rfl,⟨by omega,rfl⟩,by omega⟩
end
end Go.Proofs.YtabedohjkillfaaGreatDoor
namespace Go.Am
section
open Go.RowKit
abbrev giL (l:List (List Int×Int)):List (List Int×Value):=l.map fun p=>(p.1,.int .i64 p.2)
theorem Q6:∀(i:Nat) (l:List (List Int×Value)) (j:Nat) (hj:j<l.length),(mesL i l)[j]?=some {key:=keyL l[j].1,val:=l[j].2,born:=i+j}
 | i,(k,x)::l,0,_=>rfl
 | i,(k,x)::l,j+1,hj=>by
   have:=Q6 (i+1) l j (by simpa using hj);simp only [mesL,List.getElem?_cons_succ,this,List.getElem_cons_succ];congr 2;omega
theorem Up:∀(i:Nat) (l:List (List Int×Value)),(mesL i l).length=l.length
 | _,[]=>rfl
 | i,(k,x)::l=>by simp only [mesL,List.length_cons,Up (i+1) l]
theorem Afm {i:Nat} {l:List (List Int×Value)} {e:MapEntry} (h:e∈mesL i l):∃(j:Nat) (hj:j<l.length),e={key:=keyL l[j].1,val:=l[j].2,born:=i+j}:=by
 obtain ⟨j,hj,rfl⟩:=List.mem_iff_getElem.1 h;rw [Up] at hj;have:=Q6 i l j hj;rw [List.getElem?_eq_getElem (by rw [Up];exact hj)] at this;exact ⟨j,hj,Option.some.inj this⟩
theorem A2w {w:World} {φ:Nat→Nat} (k:List Int):RepD w φ (U9 k) (keyL k) :=
 .agg _ _ (by simp) fun j u z g1 g2=>by
  simp only [List.getElem?_toArray,List.getElem?_map,Option.map_eq_some_iff] at g1 g2;obtain ⟨a,ha,rfl⟩:=g1;obtain ⟨b,hb,rfl⟩:=g2;rw [ha] at hb;cases hb;exact .int _ _
def giI (mb n:Nat) (seen:List Nat):Ob:=.raw (.mapIter (some mb) n seen.toArray n)
section
variable {E:Env} {S0:Sur} {l0:List (List V)} {s0:Bool} {A:Arena}
theorem A5w {σ:FSt} {h:Gh} {w:World} {vs:List V} {xs:List Value} (hl:vs.length=xs.length) (hr:∀(i:Nat) v x,vs[i]?=some v→xs[i]?=some x→RepD w h.φ v x):Ok σ h w (.tuple vs) (.tuple xs.toArray) :=
 ⟨.tuple _ _ (by simpa using hl) (fun i v x h1 h2=>hr i v x h1 (by simpa using h2)),fun j u z hu hz=>by
   cases j with
   | zero=>simp [cells] at hu;subst hu;intro r sz xs e;cases e
   | succ j=>simp [cells] at hu⟩
theorem To (hE:InA E S0 l0 s0) {K:St→Prop} {s:St} {d t u n:Nat} {z:Value} (G:GK E.P t n z) {x:X} {rest:List Ins} {mb:Nat} {l:List (List Int×Value)} (hx:evXs s.env [x]=some [.rmap mb]) (hl:s.log=encA A) (hA:(mb,gmO l)∈A)
  (hk:∀ib,ib∉A.map (·.1)→Steps E rest K {s.put (some d) (.rptr ib 0) with log:=encA ((ib,giI mb l.length [])::A)}):Steps E (⟨some d,.raw 15 t u,[x],none⟩::rest) K s:=by
 refine Step1.raw fun slots ops o i ro n a w h hc hs hi R Q next hn=>?_
 obtain ⟨os,cc⟩:=Ba hc;obtain ⟨p,e1,rfl⟩:=Af7 cc.op;obtain ⟨v,hu,o1⟩:=(B9 R.1 cc.xs (Ay hx)).one;simp only [List.cons.injEq,and_true] at hu;subst hu;have R':E.relF (encA A) s.stp s.fs a w h:=by rw [←hl];exact R
 have hb:w.heap[mb]?=some (.map (mesL 0 l).toArray l.length):=(hE.ar R').ok _ hA;obtain ⟨R2,hnm⟩:=hE.fresh R' (.mapIter (some mb) l.length #[] l.length) (giI mb l.length []) (fun _=>heap_alloc_new w _);refine B5 hi (Ai (Au cc rfl)) (At cc.op) (.inl ?_) (hn _ _ _ h (hk _ hnm) (Fc cc R2 (.data (.rptr _ _)) rfl) rfl);simp only [execOp,e1,Se o1,Sem.run_bind];rw [run_range_map w t G.kt G.e mb _ _ G.un hb];rfl
theorem F7 (hE:InA E S0 l0 s0) {K:St→Prop} {s:St} {d t u:Nat} {x:X} {rest:List Ins} {ib mb:Nat} (l:List (List Int×Int)) (seen:List Nat) (hx:evXs s.env [x]=some [.rptr ib 0]) (hl:s.log=encA A) (hI:(ib,giI mb l.length seen)∈A) (hM:(mb,gmO (giL l))∈A)
  (h0:(∀j<l.length,j∈seen)→Steps E rest K (s.put (some d) (.tuple [.bool false])))
  (h1:∀(j:Nat) (hj:j<l.length),j∉seen→Steps E rest K {s.put (some d) (.tuple [.bool true,U9 l[j].1,.int .i64 l[j].2]) with log:=encA (setA A ib (giI mb l.length (seen++[j])))}):Steps E (⟨some d,.raw 3 t u,[x],none⟩::rest) K s:=by
 refine Step1.raw fun slots ops o i ro n a w h hc hs hi R Q next hn=>?_
 obtain ⟨os,cc⟩:=Ba hc;obtain ⟨p,e1,rfl⟩:=A9i cc.op;obtain ⟨v,hu,o1⟩:=(B9 R.1 cc.xs (Ay hx)).one;simp only [List.cons.injEq,and_true] at hu;subst hu;have R':E.relF (encA A) s.stp s.fs a w h:=by rw [←hl];exact R
 have hb:w.heap[mb]?=some (.map (mesL 0 (giL l)).toArray (giL l).length):=(hE.ar R').ok _ hM;have hr:w.heap[ib]?=some (.mapIter (some mb) l.length seen.toArray l.length):=(hE.ar R').ok _ hI;have hll:(giL l).length=l.length:=List.length_map _;have hold:∀e∈(mesL 0 (giL l)).toArray.toList,e.born<l.length:=fun e he=>by
  obtain ⟨j,hj,rfl⟩:=Afm he;simp only;omega
 rcases run_next_at (P:=E.P) w o.type ib mb l.length l.length seen.toArray _ _ hr hb hold (Nat.le_refl _) with ⟨hz,hrun⟩ | ⟨e,he,w1,hal,hrun⟩
 ·have hall:∀j<l.length,j∈seen:=fun j hj=>by
   apply Classical.byContradiction;intro hno;have hmem:({key:=keyL (giL l)[j].1,val:=(giL l)[j].2,born:=0+j}:MapEntry)∈(leftOf (mesL 0 (giL l)).toArray seen.toArray).toList:=by
    unfold leftOf;simp only [Array.toList_filter,List.mem_filter];refine ⟨List.mem_of_getElem? (Q6 0 (giL l) j (by omega)),?_⟩;simpa using hno
   have:(leftOf (mesL 0 (giL l)).toArray seen.toArray).toList=[]:=by
    rw [←List.length_eq_zero_iff];simpa using hz
   rw [this] at hmem;cases hmem
  have ok:Ok s.fs h w (.tuple [.bool false]) (.tuple [Value.bool false].toArray):=A5w rfl (fun i v x h1 h2=>by
   match i with
   | 0=>cases h1;cases h2;exact .bool _)
  refine B5 (x:=.tuple #[.bool false]) (w':=w) hi (Ai (Au cc rfl)) (At cc.op) (.inl ?_) (hn _ _ w h (h0 hall) ?_ rfl)
  ·simp only [execOp,e1,F5 o1,Sem.run_bind];rw [hrun];rfl
  ·show E.relF _ _ _ _ _ _;rw [(Bq _ _ _).1,(Bq _ _ _).2,Dj];exact Bk (eff:={v:=_}) cc R R.1 ok rfl
 ·have hee:e∈mesL 0 (giL l)∧¬e.born∈seen:=by
   unfold leftOf at he;simp only [Array.toList_filter,List.mem_filter] at he;exact ⟨he.1,by simpa using he.2⟩
  obtain ⟨j,hj,rfl⟩:=Afm hee.1;have hjs:=hee.2;rw [hll] at hj hrun;simp only [Nat.zero_add,List.getElem_map] at hjs hrun;have R1:E.relF (encA A) s.stp s.fs a w1 h:=by
   rcases hal with rfl | rfl
   ·exact R'
   ·exact M3 R'
  have hr1:w1.heap[ib]?=some (.mapIter (some mb) l.length seen.toArray l.length):=(hE.ar R1).ok _ hI;have R2:=hE.turn R1 hI (giI mb l.length (seen++[j])) (w':=ChangeMaps.setBlock w1 ib (.mapIter (some mb) l.length (seen.toArray.push j) l.length)) (fun k hk=>My _ hk) (by simp [ChangeMaps.setBlock]) rfl rfl rfl (fun _=>by
   show (ChangeMaps.setBlock w1 ib _).heap[ib]?=_;rw [Ph hr1];simp)
  have ok:∀w2,Ok s.fs h w2 (.tuple [.bool true,U9 l[j].1,.int .i64 l[j].2]) (.tuple [.bool true,keyL l[j].1,.int .i64 l[j].2].toArray):=fun w2=>A5w rfl (fun i v x h1 h2=>by
   match i with
   | 0=>cases h1;cases h2;exact .bool _
   | 1=>cases h1;cases h2;exact A2w _
   | 2=>cases h1;cases h2;exact .int _ _)
  refine B5 (x:=.tuple #[.bool true,keyL l[j].1,.int .i64 l[j].2]) hi (Ai (Au cc rfl)) (At cc.op) (.inl ?_) (hn _ _ _ h (h1 j hj hjs) (Fc cc R2 (ok _) rfl) rfl);simp only [execOp,e1,F5 o1,Sem.run_bind];rw [hrun];rfl
theorem Hi (hE:InA E S0 l0 s0) {K:St→Prop} {s:St} {d t u:Nat} {x:X} {rest:List Ins} {ib mb:Nat} (l:List (List Int×Int)) (seen:List Nat) (j:Nat) (hj:j<l.length) (hx:evXs s.env [x]=some [.rptr ib 0]) (hl:s.log=encA A) (hI:(ib,giI mb l.length (seen++[j]))∈A) (hM:(mb,gmO (giL l))∈A)
  (hk:Steps E rest K (s.put (some d) (.tuple [U9 l[j].1,.int .i64 l[j].2]))):Steps E (⟨some d,.raw 4 t u,[x],none⟩::rest) K s:=by
 refine Step1.raw fun slots ops o i ro n a w h hc hs hi R Q next hn=>?_
 obtain ⟨os,cc⟩:=Ba hc;obtain ⟨p,e1,rfl⟩:=A9h cc.op;obtain ⟨v,hu,o1⟩:=(B9 R.1 cc.xs (Ay hx)).one;simp only [List.cons.injEq,and_true] at hu;subst hu;have R':E.relF (encA A) s.stp s.fs a w h:=by rw [←hl];exact R
 have hll:(giL l).length=l.length:=List.length_map _;have hb:w.heap[mb]?=some (.map (mesL 0 (giL l)).toArray l.length):=by rw [←hll];exact (hE.ar R').ok _ hM
 have hr:w.heap[ib]?=some (.mapIter (some mb) l.length (seen++[j]).toArray l.length):=(hE.ar R').ok _ hI;have hget:=Q6 0 (giL l) j (by omega);have hnd:((mesL 0 (giL l)).toArray.toList.map (·.born)).Nodup:=by
  have:(mesL 0 (giL l)).map (·.born)=List.range (giL l).length:=by
   apply List.ext_getElem?;intro i;rw [List.getElem?_map];by_cases hi:i<(giL l).length
   ·rw [Q6 0 (giL l) i hi,List.getElem?_range hi];simp
   ·rw [List.getElem?_eq_none (by rw [Up];omega),List.getElem?_eq_none (by simp at hi ⊢;omega)];rfl
  show ((mesL 0 (giL l)).map (·.born)).Nodup;rw [this];exact List.nodup_range
 have hr':w.heap[ib]?=some (.mapIter (some mb) l.length (seen.toArray.push ({key:=keyL (giL l)[j].1,val:=(giL l)[j].2,born:=0+j}:MapEntry).born) l.length):=by rw [hr];simp
 have hrun:=run_entry_at (P:=E.P) w ib mb l.length seen.toArray _ _ _ hr' hb (List.mem_of_getElem? hget) hnd;simp only [List.getElem_map] at hrun;have ok:Ok s.fs h w (.tuple [U9 l[j].1,.int .i64 l[j].2]) (.tuple [keyL l[j].1,.int .i64 l[j].2].toArray):=A5w rfl (fun i v x h1 h2=>by
  match i with
  | 0=>cases h1;cases h2;exact A2w _
  | 1=>cases h1;cases h2;exact .int _ _)
 refine B5 (x:=.tuple #[keyL l[j].1,.int .i64 l[j].2]) (w':=w) hi (Ai (Au cc rfl)) (At cc.op) (.inl ?_) (hn _ _ w h hk ?_ rfl)
 ·simp only [execOp,e1,F5 o1,Sem.run_bind];rw [hrun];rfl
 ·show E.relF _ _ _ _ _ _;rw [(Bq _ _ _).1,(Bq _ _ _).2,Dj];exact Bk (eff:={v:=_}) cc R R.1 ok rfl
end
end
end Go.Am
namespace Go.Proofs.YtabedohjkillfaaGreatDoor
section
open Go.Am
attribute [local simp] cells Af mkv Aq B6 under dem dem1 As ruV resS U9
def gk3:GK Tryz.prog 190 1 (.int .i64 0):=GK_of (kt:=186) (e:=3) (by kernel_rfl) (by kernel_rfl) (by kernel_rfl)
theorem nxS {a x:Int} {r:V} (ha:0≤a∧a≤4095) (hx:0≤x∧x≤1) (h:V.tuple [.agg [I ((2*a+x)%4096)],.bool (bif !rowK ((2*a+x)%4096) 12 then decide (U8 ((2*a+x)%4096) 12<3) else false)]=r):C Tryz.prog D0 [.agg [I a],ruV,I x] r:=h▸c_next ha hx
abbrev KM1:=List (List Int×Int)
def aA (ib nb mb:Nat) (seen:List Nat) (now most:KM1):Arena:=[(ib,giI mb most.length seen),(nb,gmO (giL now)),(mb,gmO (giL most))]
theorem aA_ib {ib nb mb:Nat} (h1:nb≠ib) (h2:mb≠ib) {seen seen':List Nat} {now most:KM1}:setA (aA ib nb mb seen now most) ib (giI mb most.length seen')=aA ib nb mb seen' now most:=by simp [setA,aA,h1,h2]
theorem aA_nb {ib nb mb:Nat} (h1:nb≠ib) (h2:mb≠nb) {seen:List Nat} {now most:KM1} {k:List Int} {v:Int}:setA (aA ib nb mb seen now most) nb (gmO (giL now++[(k,.int .i64 v)]))=aA ib nb mb seen (now++[(k,v)]) most:=by simp [setA,aA,h1.symm,h2,giL]
def Fu:Nat→KM1
 | 0=>[([3],0)]
 | 1=>[([6],0)]
 | 2=>[([12],0)]
 | 3=>[([24],0)]
 | _=>[([48],0),([49],1)]
theorem A74 {l:KM1} (h:∀p∈l,p.1.length=1∧∀a∈p.1,inI a):gmOk 1 (giL l):=fun p hp=>by
 obtain ⟨q,hq,rfl⟩:=List.mem_map.1 hp;exact h q hq
theorem repI {w:World} {φ:Nat→Nat} {n:Int} {x:Value} (h:RepD w φ (.int .i64 n) x):x=.int .i64 n:=by cases h;rfl
theorem sml {a:Int} (h:0≤a∧a≤4095):([a]:List Int).length=1∧∀b∈([a]:List Int),inI b:=⟨rfl,fun b hb=>by rw [List.mem_singleton.1 hb];unfold inI;omega⟩
theorem c_AllowS:C Tryz.prog A5e [ruV,As resS,I 4] (.tuple [I 1,I 0]):=by
 have k0:C Tryz.prog Ce [I 4,I 0,I 64] (.bool true):=En _ _ _;have n0:C Tryz.prog D0 [.agg [I 0],ruV,I 0] (.tuple [.agg [I 0],.bool true]):=nxS (by omega) (by omega) (by kernel_rfl);have n1:C Tryz.prog D0 [.agg [I 0],ruV,I 1] (.tuple [.agg [I 1],.bool true]):=nxS (by omega) (by omega) (by kernel_rfl);have n2:C Tryz.prog D0 [.agg [I 1],ruV,I 1] (.tuple [.agg [I 3],.bool true]):=nxS (by omega) (by omega) (by kernel_rfl);refine C_of mixed A37.2 (by simp) fun S ok=>?_;refine Qr rfl rfl ?_;have hA:=Qw (E:=env0 Tryz.prog mixed 132 S ok) [] false;refine TsR rfl ?_;refine A2 (TsC rfl (A3 rfl rfl c_ruledS (Sfn rfl (TsR rfl (A7 rfl (A5 ?_))))));refine A2 (TsC rfl (A3 rfl rfl k0 (Sfn rfl (A7 rfl (A5 ?_)))));refine A2 (TsC rfl (A3 rfl rfl c_judgeS (Sfn rfl (TsR rfl (A7 rfl (A5 ?_))))));refine TsR rfl (A2 (TsR rfl (A4 (Bd 4 (Ag ?_)))));refine TsR rfl (A2 (A9 rfl (A5 (A2 (A4 (TsR rfl (Ae (Srn rfl (A3 rfl rfl n0 (Sfn rfl (TrR rfl (Ag ?_))))))))))));refine TsR rfl (A2 (A9 rfl (A5 (A2 (A4 (Aw rfl (by simp<;>decide +kernel) (Ae (Srn rfl (A3 rfl rfl n1 (Sfn rfl (TrR rfl (Ag ?_))))))))))));refine TsR rfl (A2 (A9 rfl (A5 (A2 (A4 (Aw rfl (by simp<;>decide +kernel) (Ae (Srn rfl (A3 rfl rfl n2 (Sfn rfl (TrR rfl (Ag ?_))))))))))));refine TsR rfl (A2 (A7 rfl (Ak ?_)));refine Aa (s':=⟨[(1,As resS),(2,I 4),(3,.ptr 3 0),(11,.ptr 11 0)],[(3,⟨[I 3,I 5,I 3,I 6],false⟩),(11,⟨[I 3],false⟩)],[],encA [],false⟩) (Bi (.k rfl (.k rfl (.k rfl (.k rfl .nil)))) (.k rfl (.k rfl .nil)) .nil rfl rfl rfl) ?_;refine A2 (Ab (Krn rfl (A6 rfl rfl (Qm (f:=0) (n:=3) (by omega) (by omega)) (Krn rfl (.done (KrT ?_))))));refine A2 (Ae (Qu hA rfl fun mb hmb=>SrN 1 rfl (Ic hA gk3 [3] (.int .i64 0) (l:=[]) rfl rfl List.mem_cons_self (fun p hp=>by cases hp) (sml (by omega)) (fun p hp=>by cases hp) (fun w φ x h=>repI h) rfl (Sfn rfl ?_))));refine A2 (TsR rfl (A4 ?_));refine Bc (α:=Nat×Nat) (fun p st=>p.1≤4∧st=⟨[(3,.ptr 3 0),(14,I 3),(15,.rmap p.2),(69,I 4),(70,I (p.1:Nat))],[(3,⟨[I 3,I 5,I 3,I 6],false⟩)],[],encA [(p.2,gmO (giL (Fu p.1)))],false⟩) (fun p=>4-p.1) (0,mb) (Bi (.k rfl (.k rfl (.k rfl (.k rfl (.k rfl .nil))))) (.k rfl .nil) .nil rfl rfl (congrArg encA (by simp [setA,Fu,giL]))) ⟨by simp,rfl⟩ ?_;clear hmb mb;rintro ⟨k,mb⟩ st ⟨hk,rfl⟩;simp only at hk;by_cases hk4:k=4
 ·
  subst hk4;refine TsR rfl (A2 (A7 rfl (Ak ?_)));refine TsR rfl ?_;refine A2 (A2 (Ae (SrN 1 rfl (To hA gk3 (l:=giL (Fu 4)) rfl rfl List.mem_cons_self fun ib hib=>Sfn rfl (A4 (Bd 3 (Ag ?_)))))));have h1:mb≠ib:=fun e=>hib (by simp [e]);have eS:∀seen seen':List Nat,setA [(ib,giI mb 2 seen),(mb,gmO (giL (Fu 4)))] ib (giI mb 2 seen')=[(ib,giI mb 2 seen'),(mb,gmO (giL (Fu 4)))]:=fun seen seen'=>by simp [setA,h1]
  refine A2 (Ae (F7 hA (Fu 4) [] rfl rfl List.mem_cons_self (by simp) (fun h=>absurd (h 0 (by decide)) (by simp)) fun j hj hn=>?_));rw [show setA ((ib,giI mb (giL (Fu 4)).length [])::[(mb,gmO (giL (Fu 4)))]) ib (giI mb (Fu 4).length ([]++[j]))=[(ib,giI mb 2 [j]),(mb,gmO (giL (Fu 4)))] from eS [] [j]];have hj2:j=0∨j=1:=by have:j<2:=hj;omega
  rcases hj2 with rfl | rfl
  ·refine Sfn rfl (A2 (A9 rfl (A5 (A4 (A2 (Ae (Hi hA (Fu 4) [] 0 (by decide) rfl rfl List.mem_cons_self (by simp) (Sfn rfl ?_))))))));refine TrR rfl (Ag ?_);refine A2 (Ae (F7 hA (Fu 4) [0] rfl rfl List.mem_cons_self (by simp) (fun h=>absurd (h 1 (by decide)) (by simp)) fun j hj hn=>?_));rw [show setA [(ib,giI mb 2 [0]),(mb,gmO (giL (Fu 4)))] ib (giI mb (Fu 4).length ([0]++[j]))=[(ib,giI mb 2 [0,j]),(mb,gmO (giL (Fu 4)))] from eS _ _];obtain rfl:j=1:=by have:j<2:=hj;simp at hn;omega
   refine Sfn rfl (A2 (A9 rfl (A5 (A4 (A2 (Ae (Hi hA (Fu 4) [0] 1 (by decide) rfl rfl List.mem_cons_self (by simp) (Sfn rfl ?_))))))));refine TrR rfl (Ag ?_);refine Aa (s':=⟨[(24,I 1),(123,.rptr ib 0)],[],[],encA [(ib,giI mb 2 [0,1]),(mb,gmO (giL (Fu 4)))],false⟩) (Bi (.cons rfl (VLe.i rfl) (.k rfl .nil)) .nil .nil rfl rfl rfl) ?_;refine A2 (Ae (F7 hA (Fu 4) [0,1] rfl rfl List.mem_cons_self (by simp) (fun h=>Sfn rfl (A2 (A7 rfl (Ak ?_)))) fun j hj hn=>?_))
   ·exact TsR rfl (A8 rfl rfl rfl rfl trivial)
   ·have:j<2:=hj;simp at hn;omega
  ·refine Sfn rfl (A2 (A9 rfl (A5 (A4 (A2 (Ae (Hi hA (Fu 4) [] 1 (by decide) rfl rfl List.mem_cons_self (by simp) (Sfn rfl ?_))))))));refine TrR rfl (Ag ?_);refine A2 (Ae (F7 hA (Fu 4) [1] rfl rfl List.mem_cons_self (by simp) (fun h=>absurd (h 0 (by decide)) (by simp)) fun j hj hn=>?_));rw [show setA [(ib,giI mb 2 [1]),(mb,gmO (giL (Fu 4)))] ib (giI mb (Fu 4).length ([1]++[j]))=[(ib,giI mb 2 [1,j]),(mb,gmO (giL (Fu 4)))] from eS _ _];obtain rfl:j=0:=by have:j<2:=hj;simp at hn;omega
   refine Sfn rfl (A2 (A9 rfl (A5 (A4 (A2 (Ae (Hi hA (Fu 4) [1] 0 (by decide) rfl rfl List.mem_cons_self (by simp) (Sfn rfl ?_))))))));refine TrR rfl (Ag ?_);refine Aa (s':=⟨[(24,I 1),(123,.rptr ib 0)],[],[],encA [(ib,giI mb 2 [1,0]),(mb,gmO (giL (Fu 4)))],false⟩) (Bi (.cons rfl (VLe.i rfl) (.k rfl .nil)) .nil .nil rfl rfl rfl) ?_;refine A2 (Ae (F7 hA (Fu 4) [1,0] rfl rfl List.mem_cons_self (by simp) (fun h=>Sfn rfl (A2 (A7 rfl (Ak ?_)))) fun j hj hn=>?_))
   ·exact TsR rfl (A8 rfl rfl rfl rfl trivial)
   ·have:j<2:=hj;simp at hn;omega
 obtain ⟨s,s',s1,b1,hm,hs,hs',hs1,hm',kn0,kn1⟩:∃(s s' s1:Int) (b1:Bool),Fu k=[([s],0)]∧(0≤s∧s≤4095)∧(0≤s'∧s'≤4095)∧(0≤s1∧s1≤4095∧s'≠s1)∧Fu (k+1)=(if b1 then [([s'],0),([s1],1)] else [([s'],0)])∧C Tryz.prog D0 [.agg [I s],ruV,I 0] (.tuple [.agg [I s'],.bool true])∧C Tryz.prog D0 [.agg [I s],ruV,I 1] (.tuple [.agg [I s1],.bool b1]):=by
  have hc:k=0∨k=1∨k=2∨k=3:=by omega
  rcases hc with rfl | rfl | rfl | rfl
  ·exact ⟨3,6,7,false,rfl,by omega,by omega,by omega,rfl,nxS (by omega) (by omega) (by kernel_rfl),nxS (by omega) (by omega) (by kernel_rfl)⟩
  ·exact ⟨6,12,13,false,rfl,by omega,by omega,by omega,rfl,nxS (by omega) (by omega) (by kernel_rfl),nxS (by omega) (by omega) (by kernel_rfl)⟩
  ·exact ⟨12,24,25,false,rfl,by omega,by omega,by omega,rfl,nxS (by omega) (by omega) (by kernel_rfl),nxS (by omega) (by omega) (by kernel_rfl)⟩
  ·exact ⟨24,48,49,true,rfl,by omega,by omega,by omega,rfl,nxS (by omega) (by omega) (by kernel_rfl),nxS (by omega) (by omega) (by kernel_rfl)⟩
 rw [hm];refine TsN 1 rfl ?_;rw [decide_eq_true (show (k:Int)<4 by omega)];refine Sfn rfl (A2 (A9 rfl (A5 (A2 (A4 (A2 (Ae (Qu hA rfl fun nb hnb=>Sfn rfl ?_))))))));refine A2 (A2 (Ae (SrN 1 rfl (To hA gk3 (mb:=mb) (l:=giL [([s],0)]) rfl rfl (by simp) fun ib hib=>Sfn rfl (A4 ?_)))));have d1:mb≠nb:=fun e=>hnb (by simp [e]);have d2:nb≠ib:=fun e=>hib (by simp [e]);have d3:mb≠ib:=fun e=>hib (by simp [e]);clear hnb hib;have mI:∀seen now,(ib,giI mb ([([s],0)]:KM1).length seen)∈aA ib nb mb seen now [([s],0)]:=fun _ _=>List.mem_cons_self;have mM:∀seen now,(mb,gmO (giL [([s],0)]))∈aA ib nb mb seen now [([s],0)]:=fun _ _=>by simp [aA]
 have mN:∀seen now,(nb,gmO (giL now))∈aA ib nb mb seen now [([s],0)]:=fun _ _=>by simp [aA]
 refine Aa (s':=⟨[(3,.ptr 3 0),(14,I 3),(16,.rmap nb),(69,I 4),(70,I k),(74,.rptr ib 0)],[(3,⟨[I 3,I 5,I 3,I 6],false⟩)],[],encA (aA ib nb mb [] [] [([s],0)]),false⟩) (Bi (.k rfl (.k rfl (.k rfl (.k rfl (.k rfl (.k rfl .nil)))))) (.k rfl .nil) .nil rfl rfl rfl) ?_;refine Bd 2 (Ag ?_);refine A2 (Ae (F7 hA [([s],0)] [] rfl rfl (mI _ _) (mM _ _) (fun h=>absurd (h 0 (by simp)) (by simp)) fun j hj hn=>?_));obtain rfl:j=0:=by simpa using hj
 rw [aA_ib d2 d3];refine Sfn rfl (A2 (A9 rfl (A5 (A4 (A2 (Ae (Hi hA [([s],0)] [] 0 (by simp) rfl rfl (mI _ _) (mM _ _) (Sfn rfl ?_))))))));refine TsR rfl (A4 ?_);refine Aa (s':=⟨[(3,.ptr 3 0),(14,I 3),(16,.rmap nb),(17,.ptr 17 0),(18,I 0),(69,I 4),(70,I k),(74,.rptr ib 0),(80,I 0)],[(3,⟨[I 3,I 5,I 3,I 6],false⟩),(17,⟨[I s],false⟩)],[],encA (aA ib nb mb [0] [] [([s],0)]),false⟩) (Bi (.k rfl (.k rfl (.k rfl (.k rfl (.k rfl (.k rfl (.k rfl (.k rfl (.k rfl .nil))))))))) (.k rfl (.k rfl .nil)) .nil rfl rfl rfl) ?_;refine Bd 3 (Ag ?_);refine TsR rfl (A2 (A9 rfl (A5 (A2 (A4 (TsR rfl (TsC rfl (A3 rfl rfl kn0 (Sfn rfl ?_)))))))));refine A2 (A2 (Ae (SrG rfl (A7 rfl (A5 ?_)))));refine A2 (Ae (SrN 2 rfl (La hA (l:=giL []) (k:=[s']) rfl rfl (mN _ _) (fun w hb=>Pj gk3 hb (A74 fun p hp=>by cases hp) (sml hs') fun p hp=>by cases hp) (fun w φ=>.int _ _) (Sfn rfl ?_))));refine TsR rfl (A9 rfl (Ae (SrN 5 rfl (Ic hA gk3 [s'] (.int .i64 0) (l:=giL []) rfl rfl (mN _ _) (A74 fun p hp=>by cases hp) (sml hs') (fun p hp=>by cases hp) (fun w φ x h=>repI h) rfl (Al rfl trivial ?_)))));rw [aA_nb d2 d1];refine TrR rfl (Ag ?_);refine Aa (s':=⟨[(3,.ptr 3 0),(14,I 3),(16,.rmap nb),(17,.ptr 17 0),(18,I 0),(69,I 4),(70,I k),(74,.rptr ib 0),(80,I 1)],[(3,⟨[I 3,I 5,I 3,I 6],false⟩),(17,⟨[I s],false⟩)],[],encA (aA ib nb mb [0] [([s'],0)] [([s],0)]),false⟩) (Bi (.k rfl (.k rfl (.k rfl (.k rfl (.k rfl (.k rfl (.k rfl (.k rfl (.cons rfl (VLe.i rfl) .nil))))))))) (.k rfl (.k rfl .nil)) .nil rfl rfl rfl) ?_;refine TsR rfl (A2 (A9 rfl (A5 (A2 (A4 (TsR rfl (TsC rfl (A3 rfl rfl kn1 (Sfn rfl ?_)))))))));cases b1 with
 | false =>
   have hm':Fu (k+1)=[([s'],0)]:=hm';refine A2 (TsR rfl (A9 rfl (Ak ?_)));refine TrR rfl (Ag ?_);refine TsR rfl (A2 (A7 rfl (Ak ?_)));refine Ag ?_;refine A2 (Ae (F7 hA [([s],0)] [0] rfl rfl (mI _ _) (mM _ _) (fun h=>Sfn rfl (A2 (A7 rfl (Ak ?_)))) fun j hj hn=>absurd hj (by simp at hn ⊢;omega)));refine TrR rfl (TrR rfl ?_);refine ⟨(k+1,nb),_,Wk.trans (Bi (env:=[(3,.ptr 3 0),(14,I 3),(15,.rmap nb),(69,I 4),(70,I ((k+1:Nat):Int))]) (bx:=[(3,⟨[I 3,I 5,I 3,I 6],false⟩)]) (rw:=[]) (.k rfl (.k rfl (.k rfl (.k rfl (.cons rfl (VLe.i (w64 (by omega) (by omega))) .nil))))) (.k rfl .nil) .nil rfl rfl rfl) (Sp hA (B:=[(nb,gmO (giL (Fu (k+1))))]) rfl (fun p hp=>by rw [List.mem_singleton.1 hp,hm'];exact mN _ _) (by simp)),⟨by simp only;omega,rfl⟩,by simp only;omega⟩
 | true =>
   have hm':Fu (k+1)=[([s'],0),([s1],1)]:=hm';have hs1':0≤s1∧s1≤4095:=⟨hs1.1,hs1.2.1⟩;have okN:gmOk 1 (giL [([s'],0)]):=A74 fun p hp=>by rw [List.mem_singleton.1 hp];exact sml hs'
   have neN:∀p∈giL [([s'],0)],p.1≠[s1]:=fun p hp=>by
    rw [List.mem_singleton.1 hp];intro e;exact hs1.2.2 (List.cons.inj e).1
   refine A2 (A2 (Ae (SrG rfl (A7 rfl (A5 ?_)))));refine A2 (Ae (SrN 2 rfl (La hA (l:=giL [([s'],0)]) (k:=[s1]) rfl rfl (mN _ _) (fun w hb=>Pj gk3 hb okN (sml hs1') neN) (fun w φ=>.int _ _) (Sfn rfl ?_))));refine TsR rfl (A9 rfl (Ae (SrN 5 rfl (Ic hA gk3 [s1] (.int .i64 1) (l:=giL [([s'],0)]) rfl rfl (mN _ _) okN (sml hs1') neN (fun w φ x h=>repI h) rfl (Al rfl trivial ?_)))));rw [aA_nb d2 d1];refine TrR rfl (Ag ?_);refine TsR rfl (A2 (A7 rfl (Ak ?_)));refine Ag ?_;refine A2 (Ae (F7 hA [([s],0)] [0] rfl rfl (mI _ _) (mM _ _) (fun h=>Sfn rfl (A2 (A7 rfl (Ak ?_)))) fun j hj hn=>absurd hj (by simp at hn ⊢;omega)));refine TrR rfl (TrR rfl ?_);refine ⟨(k+1,nb),_,Wk.trans (Bi (env:=[(3,.ptr 3 0),(14,I 3),(15,.rmap nb),(69,I 4),(70,I ((k+1:Nat):Int))]) (bx:=[(3,⟨[I 3,I 5,I 3,I 6],false⟩)]) (rw:=[]) (.k rfl (.k rfl (.k rfl (.k rfl (.cons rfl (VLe.i (w64 (by omega) (by omega))) .nil))))) (.k rfl .nil) .nil rfl rfl rfl) (Sp hA (B:=[(nb,gmO (giL (Fu (k+1))))]) rfl (fun p hp=>by rw [List.mem_singleton.1 hp,hm'];exact mN _ _) (by simp)),⟨by simp only;omega,rfl⟩,by simp only;omega⟩
end
section
open Go.Am Go
attribute [local simp] cells Af mkv Aq B6 under dem dem1 eB Ac As sB eF chV chC cruC Fv C2 eLeg legC eCru
def cS:Cru:=⟨[((0,0),(10,0))],[],[],frZ,(0,0),0,2,3,[[(7,100)]]⟩
attribute [local simp] cS
def w1S:Leg:=((0,0),(10,0))
def w2S:Leg:=((10,0),(0,0))
def eSh (i w:Int):V:=.agg [I i,I w]
attribute [local simp] eSh F1
theorem cS_ok:Ow cS=true:=by kernel_rfl
theorem A7y:cS.Sane:=⟨by decide,⟨by decide,fun f hf=>by cases hf⟩,by decide,by decide,fun f hf=>by
 rw [List.mem_singleton.1 hf];decide⟩
theorem clear1S:Th cS w1S=true:=by kernel_rfl
theorem clear2S:Th cS w2S=true:=by kernel_rfl
theorem c_way1 (mb:Nat):C Tryz.prog Jk [chV cS mb,eSh 0 0] (eLeg w1S):=by
 refine C_of mixed J9.2 (by simp) fun S ok=>?_;refine TsR rfl (A2 (Ab (Krn rfl (.done (KrT ?_)))));refine A2 (TsR rfl (A7 rfl (A5 ?_)));exact TsR rfl (A8 rfl rfl rfl rfl trivial)
theorem c_way2 (mb:Nat):C Tryz.prog Jk [chV cS mb,eSh 0 1] (eLeg w2S):=by
 refine C_of mixed J9.2 (by simp) fun S ok=>?_;refine TsR rfl (A2 (Ab (Krn rfl (.done (KrT ?_)))));refine A2 (TsR rfl (A9 rfl ?_));exact TsR rfl (A8 rfl rfl rfl rfl trivial)
theorem c_oct0:C Tryz.prog Mt [eB (10,0)] (I 0):=by
 have k1:C Tryz.prog F8 [I 10,I (-131072),I 131072] (.bool true):=Gs _ _ _;have k2:C Tryz.prog F8 [I 0,I (-131072),I 131072] (.bool true):=Gs _ _ _;refine C_of mixed M6.2 (by simp) fun S ok=>?_;refine TsR rfl (A2 (TsC rfl (A3 rfl rfl k1 (Srn rfl (Ao (r:=.bool true) rfl rfl rfl rfl (by simp) (fun _=>k2) (Sfn rfl (A7 rfl (A5 ?_))))))));refine A2 (Ab (Krn rfl (.done (KrT ?_))));refine Aa (s':=⟨[(1,.ptr 1 0),(3,I 10),(4,I 10)],[(1,⟨[I 10,I 0],false⟩)],[],[],false⟩) (Ad (.k rfl (.cons rfl (VLe.i rfl) (.cons rfl (VLe.i rfl) .nil))) (.k rfl .nil) .nil rfl rfl) ?_;refine A2 (TsR rfl (A4 ?_));refine Bd 1 (Ag ?_);refine TsR rfl (A2 (A9 rfl (A5 (A2 (A4 (TsR rfl (TsR rfl (A9 rfl ?_))))))));exact TsR rfl (A8 rfl rfl rfl rfl trivial)
theorem c_oct3:C Tryz.prog Mt [eB (-10,0)] (I 3):=by
 have k1:C Tryz.prog F8 [I (-10),I (-131072),I 131072] (.bool true):=Gs _ _ _;have k2:C Tryz.prog F8 [I 0,I (-131072),I 131072] (.bool true):=Gs _ _ _;refine C_of mixed M6.2 (by simp) fun S ok=>?_;refine TsR rfl (A2 (TsC rfl (A3 rfl rfl k1 (Srn rfl (Ao (r:=.bool true) rfl rfl rfl rfl (by simp) (fun _=>k2) (Sfn rfl (A7 rfl (A5 ?_))))))));refine A2 (Ab (Krn rfl (.done (KrT ?_))));refine Aa (s':=⟨[(1,.ptr 1 0),(3,I (-10)),(4,I (-10))],[(1,⟨[I (-10),I 0],false⟩)],[],[],false⟩) (Ad (.k rfl (.cons rfl (VLe.i rfl) (.cons rfl (VLe.i rfl) .nil))) (.k rfl .nil) .nil rfl rfl) ?_;refine A2 (TsR rfl ?_);refine Aa (s':=⟨[(76,.agg [.bool false,.bool false,.bool false,.bool true,.bool true,.bool false,.bool false]),(77,I 0)],[],[],[],false⟩) (Ad (.cons rfl (.of_eq ?_) (.k rfl .nil)) .nil .nil rfl rfl) (A4 ?_)
 ·rfl
 refine Bd 4 (Ag ?_);refine TsR rfl (A2 (A9 rfl (A5 (A2 (A4 (TsR rfl (TsR rfl (A7 rfl (A5 (TrR rfl (Ag ?_)))))))))));refine Aa (s':=⟨[(76,.agg [.bool false,.bool false,.bool false,.bool true,.bool true,.bool false,.bool false]),(77,I 1)],[],[],[],false⟩) (Ad (.k rfl (.cons rfl (VLe.i rfl) .nil)) .nil .nil rfl rfl) ?_;refine TsR rfl (A2 (A9 rfl (A5 (A2 (A4 (TsR rfl (TsR rfl (A7 rfl (A5 (TrR rfl (Ag ?_)))))))))));refine Aa (s':=⟨[(76,.agg [.bool false,.bool false,.bool false,.bool true,.bool true,.bool false,.bool false]),(77,I 2)],[],[],[],false⟩) (Ad (.k rfl (.cons rfl (VLe.i rfl) .nil)) .nil .nil rfl rfl) ?_;refine TsR rfl (A2 (A9 rfl (A5 (A2 (A4 (TsR rfl (TsR rfl (A7 rfl (A5 (TrR rfl (Ag ?_)))))))))));refine Aa (s':=⟨[(76,.agg [.bool false,.bool false,.bool false,.bool true,.bool true,.bool false,.bool false]),(77,I 3)],[],[],[],false⟩) (Ad (.k rfl (.cons rfl (VLe.i rfl) .nil)) .nil .nil rfl rfl) ?_;refine TsR rfl (A2 (A9 rfl (A5 (A2 (A4 (TsR rfl (TsR rfl (A9 rfl ?_))))))));exact TsR rfl (A8 rfl rfl rfl rfl trivial)
theorem A7o (mb:Nat):C Tryz.prog G6 [chV cS mb,eSh 0 0] (.tuple [F1 (0,0) 0,F1 (10,0) 0]):=by
 refine C_of mixed Il.2 (by simp) fun S ok=>?_;refine TsR rfl (TsC rfl (A3 rfl rfl (c_way1 mb) (Al rfl (by simp [w1S]) ?_)));refine TsC rfl (A3 rfl rfl c_oct0 (Sfn rfl ?_));refine A2 (Ab (Krn rfl (.done (KrT ?_))));exact A8 rfl rfl rfl rfl trivial
theorem c_ends2 (mb:Nat):C Tryz.prog G6 [chV cS mb,eSh 0 1] (.tuple [F1 (10,0) 3,F1 (0,0) 3]):=by
 refine C_of mixed Il.2 (by simp) fun S ok=>?_;refine TsR rfl (TsC rfl (A3 rfl rfl (c_way2 mb) (Al rfl (by simp [w2S]) ?_)));refine TsC rfl (A3 rfl rfl c_oct3 (Sfn rfl ?_));refine A2 (Ab (Krn rfl (.done (KrT ?_))));exact A8 rfl rfl rfl rfl trivial
theorem A4o:C Tryz.prog Rc [I 100] (.tuple [I 10,I 0]):=by
 have h:=Aah 100;have e:A67 100=.tuple [I 10,I 0]:=by kernel_rfl
 rw [e] at h;exact h
theorem Aaa (mb:Nat):C Tryz.prog Hy [chV cS mb,eLeg w1S] (I 5):=by
 refine C_of mixed Hq.2 (by simp) fun S ok=>?_;refine Aw rfl (by simp [w1S]) (A2 (Ab (Bm rfl (by simp [w1S]) (.done (KrT ?_)))));refine TsC rfl (A3 rfl rfl A4o (Sfn rfl ?_));refine A2 (TsR rfl (A7 rfl (A5 ?_)));refine A2 (Ab (Krn rfl (.done (KrT ?_))));exact A8 rfl rfl rfl rfl trivial
theorem c_steps2 (mb:Nat):C Tryz.prog Hy [chV cS mb,eLeg w2S] (I 5):=by
 refine C_of mixed Hq.2 (by simp) fun S ok=>?_;refine Aw rfl (by simp [w2S]) (A2 (Ab (Bm rfl (by simp [w2S]) (.done (KrT ?_)))));refine TsC rfl (A3 rfl rfl A4o (Sfn rfl ?_));refine A2 (TsR rfl (A7 rfl (A5 ?_)));refine A2 (Ab (Krn rfl (.done (KrT ?_))));exact A8 rfl rfl rfl rfl trivial
theorem Ww:C Tryz.prog Ms [I 0,I 0] (I 0):=by
 refine C_of mixed M5.2 (by simp) fun S ok=>?_;exact TsR rfl (TsR rfl (TsR rfl (A8 rfl rfl rfl rfl trivial)))
theorem A7p:C Tryz.prog Ms [I 0,I 3] (I 3):=by
 refine C_of mixed M5.2 (by simp) fun S ok=>?_;exact TsR rfl (TsR rfl (TsR rfl (A8 rfl rfl rfl rfl trivial)))
end
section
open Go.Am Go
attribute [local simp] cells Af mkv Aq B6 under dem dem1 eB Ac As sB eF chV chC cruC Fv C2 eLeg legC eCru cS eSh F1
@[simp] theorem wr0:IntKind.i64.wrap 0=0:=by decide
abbrev KM:=List (List Int×Value)
def ClrP (mb:Nat) (l l':KM) (w:Leg):Prop:=CX Tryz.prog Fp [(mb,gmO l)] [] [chV cS mb,eLeg w] (fun r B=>B=[(mb,gmO l')]∧r=.bool true)
theorem Aa4 {mb:Nat} {l l':KM} (hc:ClrP mb l l' w1S):CX Tryz.prog Ei [(mb,gmO l)] [] [chV cS mb,eSh 0 0,I 0] (fun r B=>B=[(mb,gmO l')]∧r=.tuple [eB (7,12),.bool true]):=by
 refine Li mixed Ik.2 (by simp) fun S ok S1 hA hK hKD=>?_;refine TsR rfl (TsC rfl (A3 rfl rfl (c_way1 mb) (Al rfl (by simp [w1S]) ?_)));refine A2 (A2 (Ae (Az 2 rfl (by simp [w1S]) (Bf (F:=[]) hA rfl rfl rfl hc (.inl (by simp)) fun r B hB=>?_))));obtain ⟨rfl,rfl⟩:=hB;refine Sfn rfl (A7 rfl (A5 ?_));refine Bj rfl (by simp [w1S]) (A3 rfl rfl (Aaa mb) (Sfn rfl ?_));refine A2 (A2 (Ab (Krn rfl (.done ⟨by kernel_rfl,by kernel_rfl,A4 ?_⟩))));refine Bd 1 (Ag ?_);refine TsR rfl (A2 (A9 rfl (A5 (A2 (A4 (TsR rfl (TsR rfl (TsR rfl (A9 rfl ?_)))))))));refine TsR rfl ?_;exact C8 rfl rfl rfl ⟨_,rfl,rfl,rfl⟩
theorem cx_shot2 {mb:Nat} {l l':KM} (hc:ClrP mb l l' w2S):CX Tryz.prog Ei [(mb,gmO l)] [] [chV cS mb,eSh 0 1,I 14] (fun r B=>B=[(mb,gmO l')]∧r=.tuple [eB (14,19),.bool true]):=by
 refine Li mixed Ik.2 (by simp) fun S ok S1 hA hK hKD=>?_;refine TsR rfl (TsC rfl (A3 rfl rfl (c_way2 mb) (Al rfl (by simp [w2S]) ?_)));refine A2 (A2 (Ae (Az 2 rfl (by simp [w2S]) (Bf (F:=[]) hA rfl rfl rfl hc (.inl (by simp)) fun r B hB=>?_))));obtain ⟨rfl,rfl⟩:=hB;refine Sfn rfl (A7 rfl (A5 ?_));refine Bj rfl (by simp [w2S]) (A3 rfl rfl (c_steps2 mb) (Sfn rfl ?_));refine A2 (A2 (Ab (Krn rfl (.done ⟨by kernel_rfl,by kernel_rfl,A4 ?_⟩))));refine Bd 1 (Ag ?_);refine TsR rfl (A2 (A9 rfl (A5 (A2 (A4 (TsR rfl (TsR rfl (TsR rfl (A9 rfl ?_)))))))));refine TsR rfl ?_;exact C8 rfl rfl rfl ⟨_,rfl,rfl,rfl⟩
theorem c_costA (mb:Nat):C Tryz.prog G7 [chV cS mb,sB [(0,0)],I 0,I 0] (.tuple [I 0,.bool true]):=by
 refine C_of mixed G1.2 (by simp) fun S ok=>?_;refine TsR rfl (TsR rfl (A2 (TsR rfl (A4 ?_))));refine Bd 1 (Ag ?_);refine A2 (TsR rfl (A7 rfl (Ak ?_)));refine A2 (Ab (Krn rfl (A6 rfl rfl Ww (Krn rfl (.done (KrT ?_))))));exact A8 rfl rfl rfl rfl trivial
theorem c_costAA (mb:Nat):C Tryz.prog G7 [chV cS mb,sB [(0,0),(0,0)],I 0,I 0] (.tuple [I 0,.bool false]):=by
 refine C_of mixed G1.2 (by simp) fun S ok=>?_;refine TsR rfl (TsR rfl (A2 (TsR rfl (A4 ?_))));refine Bd 1 (Ag ?_);refine A2 (TsR rfl (A9 rfl (A5 ?_)));refine A2 (A4 (A2 (Ab (Krn rfl (.done (KrT ?_))))));refine A2 (TsC rfl (Ao (r:=.bool true) rfl rfl rfl rfl (by simp) (fun e=>absurd e (by decide)) (Sfn rfl (A9 rfl ?_))));exact TsR rfl (A8 rfl rfl rfl rfl trivial)
theorem Agy {mb:Nat} {l:KM} (hc:ClrP mb l l w1S):CX Tryz.prog G7 [(mb,gmO l)] [] [chV cS mb,sB [(0,0),(10,0)],I 0,I 3] (fun r B=>B=[(mb,gmO l)]∧r=.tuple [I 14,.bool true]):=by
 refine Li mixed G1.2 (by simp) fun S ok S1 hA hK hKD=>?_;refine TsR rfl (TsR rfl (A2 (TsR rfl (A4 ?_))));refine Bd 2 (Ag ?_);refine A2 (TsR rfl (A9 rfl (A5 ?_)));refine A2 (A4 (A2 (Ab (Krn rfl (.done (KrT ?_))))));refine Aa (s':=⟨[(0,chV cS mb),(1,sB [(0,0),(10,0)]),(2,I 0),(3,I 3),(10,I 0),(11,I 1),(12,.ptr 12 0)],[(12,⟨legC w1S,false⟩)],[],encA [(mb,gmO l)],false⟩) (Ad (.k rfl (.k rfl (.k rfl (.k rfl (.k rfl (.k rfl (.k rfl .nil))))))) (.k rfl .nil) .nil rfl rfl) ?_;refine A2 (Sr 6 rfl (by simp [w1S]) ?_);refine Av rfl rfl (SrN 1 rfl (Av rfl rfl (Az 1 rfl (by simp [w1S]) (Av rfl rfl (Bf (F:=[]) hA rfl rfl rfl hc (.inl (by simp)) fun r B hB=>?_)))));obtain ⟨rfl,rfl⟩:=hB;refine Al rfl (by simp [w1S]) (A7 rfl (A5 ?_));refine Bj rfl (by simp [w1S]) (A3 rfl rfl c_oct0 (Sfn rfl ?_));refine A2 (Ab (Bm rfl (by simp [w1S]) (A6 rfl rfl (Aaa mb) (Krn rfl (A6 rfl rfl Ww (Krn rfl (.done (KrT ?_))))))));refine TrR rfl (TrR rfl (Ag ?_));refine Aa (s':=⟨[(0,chV cS mb),(1,sB [(0,0),(10,0)]),(2,I 0),(3,I 3),(10,I 5),(11,I 2)],[],[],encA [(mb,gmO l)],false⟩) (Ad (.k rfl (.k rfl (.k rfl (.k rfl (.cons rfl (VLe.i rfl) (.cons rfl (VLe.i rfl) .nil)))))) .nil .nil rfl rfl) ?_;refine A2 (TsR rfl (A7 rfl (Ak ?_)));refine A2 (Ab (Krn rfl (A6 rfl rfl A7p (Krn rfl (.done (KrT ?_))))));exact C8 rfl rfl rfl ⟨_,rfl,rfl,rfl⟩
end
end Go.Proofs.YtabedohjkillfaaGreatDoor
namespace Go.Am
section
open Go.RowKit
theorem Zl {E:Env} {σ:FSt} {d sz e:Nat} (hd:σ.r d=none):Does E σ ⟨some d,.mkslice sz e,[],none⟩ {v:=.slice (d+1) sz [],wr:=[(d,0,sz,e)],rr:=[d]} [.row d]:=by
 refine .sem fun τ hτ slots ops j o ro nn log stp a w h hc hs hi R Q next hnx=>?_
 have hd':τ.r d=none:=by rw [r_eq (hτ (.row d) (by simp))];exact hd
 obtain ⟨os,cc⟩:=Ba hc;have hdf:=At cc.op;have hgo:o.guard=none:=by
  rcases cc.guard with ⟨_,e⟩ | ⟨_,_,_,_,_,e⟩
  ·exact e
  ·cases e
 obtain ⟨t,len,parts,ie,z,ho,ht,hie,hz,hzs,hsz,hidx,rfl⟩:=Te cc.op;have hO:=B9 R.1 cc.xs (vs:=[]) rfl;have hlen:len=0:=by
  have h1:=hO.get.1;have h2:=congrArg List.length hidx;simp at h1 h2;omega
 subst hlen;have hp:parts=#[]:=by
  have h1:=hO.get.1;simp at h1;exact Array.size_eq_zero_iff.1 h1.symm
 have hrun:(Instr.buildSlice t 0 (parts.map fun (i,x)=>(i,a.eval x))).run E.P w=.ok (.slice (some ⟨w.heap.size,0,none⟩) 0 0) (w.alloc (.cells #[] e)):=by
  subst hp;have hr0:Array.range 0=#[]:=rfl;simp [Instr.buildSlice,run_underlying ht,sizeOf,typeInfo,zeroValue,hie,hz,newRow,Instr.fill,hr0]
 have hex:(execOp a.eval o).run E.P w=.ok (.value (.slice (some ⟨w.heap.size,0,none⟩) 0 0)) (w.alloc (.cells #[] e)):=by
  simp only [execOp,ho,Sem.run_bind,hrun];rfl
 obtain ⟨R1,ext⟩:=R.1.setRow (r:=d) (n:=0) (sz:=sz) (e:=e) (blk:=w.heap.size) (cs:=#[]) (w':=w.alloc (.cells #[] e)) E.ok (.inl hd') (.inl (Nat.le_refl _)) (by rw [Iu];simp) (fun b hb _=>Below.heap_alloc w _ b hb) (by simp) rfl rfl rfl (fun o' ho'=>by rw [R.1.top _ (Nat.le_refl _)] at ho';omega) (by simp) (by simp);have hg:=A40 (σ':=τ.set (.row d) (.r 0 sz e)) (h':={h with φ:=fun b=>if b=w.heap.size then 0*sz else h.φ b,M:=fun b=>h.M b∨b=w.heap.size,γ:=fun k=>if k=d then some w.heap.size else h.γ k}) (w':=w.alloc (.cells #[] e)) (r:=d) (n:=0) (sz:=sz) (e:=e) (blk:=w.heap.size) (cap:=0) (xs:=[]) (cs:=#[]) (by simp) rfl (by simp) (by rw [Iu];simp) (by simp) (by omega) (by unfold maxLen;omega);have key:=Bk (eff:={v:=.slice (d+1) sz [],wr:=[(d,0,sz,e)],rr:=[d]}) cc R R1 ⟨.named d sz [] _ (.slice0 _ _ _),hg⟩ rfl;exact B5 hi (Ai hgo) hdf (.inl hex) (hnx _ _ _ key rfl)
theorem P0 {E:Env} {s:St} {K:St→Prop} {d sz e:Nat} {rest:List Ins} (hd:get s.rw d=none)
  (hk:Steps E rest K ((s.eff {v:=.slice (d+1) sz [],wr:=[(d,0,sz,e)],rr:=[d]}).put (some d) (.slice (d+1) sz []))):Steps E (⟨some d,.mkslice sz e,[],none⟩::rest) K s :=
 Step1.does (ins:=⟨some d,.mkslice sz e,[],none⟩) (Zl (by rw [fs_r];exact hd)) hk
theorem TraceK.mkRow {E:Env} {s:St} {K:List (List Loc×List Loc)→St→List Ins→Prop} {d sz e:Nat} {rest:List Ins} (hd:get s.rw d=none)
  (tr:TraceK E ((s.eff {v:=.slice (d+1) sz [],wr:=[(d,0,sz,e)],rr:=[d]}).put (some d) (.slice (d+1) sz [])) rest fun fp s' r'=>K ((wrOf ⟨some d,.mkslice sz e,[],none⟩ {v:=.slice (d+1) sz [],wr:=[(d,0,sz,e)],rr:=[d]},[.row d])::fp) s' r'):TraceK E s (⟨some d,.mkslice sz e,[],none⟩::rest) K :=
 .step (ins:=⟨some d,.mkslice sz e,[],none⟩) (Zl (by rw [fs_r];exact hd)) tr
end
section
open Go.RowKit
abbrev intV (n:Int):V:=.int .i64 n
section
variable {E:Env} {σ:FSt}
end
end
section
open Go.RowKit
abbrev prV (p:Int×Int):V:=.agg [.int .i64 p.1,.int .i64 p.2]
def flP (l:List (Int×Int)):List Int:=l.flatMap fun p=>[p.1,p.2]
def CG2 (P:Program) (f:FuncId) (args:List V) (e:Nat) (l:List (Int×Int)):Prop :=
 C9 P f=true∧∀(w:World) (φ:Nat→Nat) (vs:Array Value),(∀b,w.heap.size≤b→φ b=0)→Gl w φ→RepL w φ args vs →
  Calls P f vs w fun er w'=>((l=[]∧er=.returned (.slice none 0 0))∨∃blk cap cs,er=.returned (.slice (some ⟨blk,0,none⟩) l.length cap)∧l.length≤cap∧cap≤maxLen∧cs.size=cap*2∧w.heap.size≤blk∧blk<w'.heap.size∧w'.heap[blk]?=some (.cells cs e (0,0)) ∧
   ∀(j:Nat) n,(flP l)[j]?=some n→cs[j]?=some (.int .i64 n))∧Below w.heap.size w w'
theorem A9x (l:List (Int×Int)):(l.map prV).flatMap cells=(flP l).map intV:=by
 induction l with
 | nil=>rfl
 | cons a l ih=>rw [List.map_cons,List.flatMap_cons,ih];rfl
def qRow2 (t e:Nat) (l:List (Int×Int)):Exit→St→Prop
 | .ret,s | .normal,s=>∃r,get s.env t=some (.slice (r+1) 2 (l.map prV))∧get s.rw r=some (l.length,2,e)
 | _,_=>False
theorem CG2_of {P:Program} {f nt t e:Nat} {ic:IC} (hmix:P.follows .mixedOrders=true) (hch:chkF P f=some (nt,ic,[.tmp t])) {args:List V} {l:List (Int×Int)} (hlen:args.length≤nt)
  (hT:∀(S:Sur) (ok:S.ok),Tr (env0 P hmix nt S ok) none ic (qRow2 t e l) (entry args)):CG2 P f args e l:=by
 obtain ⟨fn,c,hf,hb,hnt,hc,hres,hcall⟩:=L6 hch;refine ⟨hcall,fun w φ vs htop hgl hrep=>?_⟩;have hT:=hT (S0 w φ) (A8a w φ hgl);rw [←callsIn_wide (n:=0)];refine callsIn_of_wp_marks hf hb trivial ?_;have R0:(env0 P hmix nt (S0 w φ) (A8a w φ hgl)).rel (entry args) {tmps:=vs++Array.replicate (fn.ntmps-vs.size) undef,defers:=[]} w {φ:=φ,β:=fun _=>none,γ:=fun _=>none,M:=fun _=>False,y:=⟨none,fun _=>none⟩}:=by
  have hl:=hrep.1;refine ⟨{size:=by simp;omega,env:=fun t v hv=>?_,bx:=fun i bo hb=>?_,dom:=fun _ _ h=>((by cases h)),inj:=fun _ _ _ h=>((by cases h)),rows:=fun r n sz e hr=>?_,rdom:=fun _ _ h=>((by cases h)),rinj:=fun _ _ _ h=>((by cases h)),apart:=fun _ _ _ h=>((by cases h)),pins:=fun _ _ h=>((by cases h)),mine:=fun _ h=>((by cases h)),top:=htop,marks:=trivial,sur:=Moved.refl _ htop},fun _ h=>((by cases h)),fun _ h=>((by cases h))⟩
  ·rw [fs_g] at hv;obtain ⟨_,h1⟩:=Ia 0 args t v hv;simp only [Nat.sub_zero] at h1;have ht:t<args.length:=(List.getElem?_eq_some_iff.1 h1).1;have ht':t<vs.size:=by omega
   have e:(vs++Array.replicate (fn.ntmps-vs.size) undef).getD t undef=vs[t]:=by
    simp [Array.getElem?_append_left ht',ht']
   rw [e];have h2:=hrep.2 t v _ h1 (Array.getElem?_eq_getElem ht');exact ⟨by show t<nt;omega,.data h2,Ap h2⟩
  ·rw [fs_b] at hb;simp [entry,get] at hb
  ·rw [fs_r] at hr;simp [entry,get] at hr
 refine hT c hc 0 _ w _ R0 _ fun ex s' a' w' h' k R' ey=>?_;have fin:(∃r,get s'.env t=some (.slice (r+1) 2 (l.map prV))∧get s'.rw r=some (l.length,2,e))→LeavesInM Fence.wide 0 P fn a'.tmps (fun er w'=>((l=[]∧er=.returned (.slice none 0 0))∨∃blk cap cs,er=.returned (.slice (some ⟨blk,0,none⟩) l.length cap)∧l.length≤cap∧cap≤maxLen∧cs.size=cap*2∧w.heap.size≤blk∧blk<w'.heap.size∧w'.heap[blk]?=some (.cells cs e (0,0)) ∧
     ∀(j:Nat) n,(flP l)[j]?=some n→cs[j]?=some (.int .i64 n))∧Below w.heap.size w w') a'.defers .returning w':=by
  rintro ⟨r,htr,hrr⟩;refine Ac1 (E:=env0 P hmix nt (S0 w φ) (A8a w φ hgl)) a'.defers a' w' rfl R' fun a2 w2 ht R2=>?_;obtain ⟨g1,g2,g3⟩:=R2.1.env t _ (by rw [fs_g];exact htr);obtain ⟨x,hx⟩:∃x,a2.tmps.getD t undef=x:=⟨_,rfl⟩;rw [hx] at g2 g3;have hS:Moved (fun _=>False) w φ h'.M w2 h'.φ:=R2.1.sur;have hbel:Below w.heap.size w w2:=⟨hS.os,hS.tape,hS.output,hS.size,fun k hk=>(hS.old k hk (fun h=>h)).1⟩;have hrl:h'.γ=h'.γ:=rfl;cases g2 with
  | data rr=>cases rr
  | named _ _ _ _ hrep =>
    have hxc:x.cells[0]?=some x:=by rcases Ex hrep with ⟨⟨_,_,rfl⟩,_⟩ | ⟨_,_,_,_,rfl,_⟩<;>rfl
    obtain ⟨n,e',hr',hle,himp⟩:=g3 0 _ x rfl hxc r 2 (l.map prV) rfl;rw [fs_r,hrr] at hr';cases hr';have hrun:=Ie (P:=P) (w:=w2) (fn:=fn) (tmps:=a2.tmps) (xs:=[x]) (by rw [hres];rfl) (fun j r z h1 h2=>by
     rw [hres] at h1;cases j with
     | zero=>simp at h1 h2;subst h1 h2;simp only [hx];rfl
     | succ j=>simp at h1)
    rw [ht] at hrun;rcases himp (by simp) with ⟨h1,rfl⟩ | ⟨blk,cap,cs,hγ,rfl,hheap,hsz,hcap,hmax⟩
    ·exact ⟨_,hrun,.inl ⟨by simpa using h1,rfl⟩,hbel⟩
    ·have hM:h'.M blk:=R2.1.rowM hγ;refine ⟨_,hrun,.inr ⟨blk,cap,cs,by rw [List.length_map],by simpa using hcap,hmax,by omega,(hS.mine _ hM).elim (fun h=>h.elim) id,R2.1.mine _ hM,hheap,fun j m hj=>?_⟩,hbel⟩;have hjl:((l.map prV).flatMap cells)[j]?=some (intV m):=by
      rw [A9x,List.getElem?_map,hj];rfl
     have hne:l.map prV≠[]:=fun e=>by
      rw [e] at hjl;simp at hjl
     rcases Ex hrep with ⟨_,e0⟩ | ⟨blk2,off2,cap2,cv,e2,_,_,_,ay⟩
     ·exact absurd e0 hne
     ·cases e2;obtain ⟨_,k2,k3,_⟩:=ay j _ hjl;have k4:cv j=.int .i64 m:=by
       generalize cv j=z at k3;cases k3;rfl
      rw [k4] at k2;unfold World.cell? at k2;rw [hheap] at k2;simpa using k2
 cases ex with
 | normal=>exact fin k
 | ret=>exact fin k
 | _=>exact k.elim
section
variable {E:Env} {σ:FSt}
theorem Wo {d:Nat} {f:FuncId} {xs:List X} {vs us:List V} {e:Nat} {l:List (Int×Int)} (hx:xs.mapM (evX σ)=some vs) (hd:∀b,toDs b vs=some (us,[])) (hC:CG2 E.P f us e l) (hrd:σ.r d=none) :
  Does E σ ⟨some d,.call f,xs,none⟩ {v:=.slice (d+1) 2 (l.map prV),wr:=[(d,l.length,2,e)],rr:=[d]} (Bp xs++[.row d]):=by
 refine .sem fun τ hτ slots ops i o ro n log stp a w h hc hs hi R Q next hn=>?_
 have hrd':τ.r d=none:=by rw [r_eq (hτ (.row d) (by simp))];exact hrd
 have hx':xs.mapM (evX τ)=some vs:=C5 hx fun l hl=>hτ l (by simp [hl]);obtain ⟨os,cc⟩:=Ba hc;have hdf:=At cc.op;have hgo:o.guard=none:=by
  rcases cc.guard with ⟨_,e⟩ | ⟨_,_,_,_,_,e⟩
  ·exact e
  ·cases e
 obtain ⟨c,e1,e2,e3⟩:=I1 cc.op;have hO:=B9 R.1 cc.xs hx';obtain ⟨q1,q2⟩:=hO.get;subst e3;have hw:=Ai (ops:=ops) (a:=a) hgo;have hrun:=I0 (E:=E) (a:=a) (w:=w) hC.1 e2 e1;unfold wpOpIn;simp only [hi,hw,if_true,Oper.wpIn];refine ⟨fun _ _=>trivial,?_⟩;rw [Oper.semAt_eq _ _ _ hdf,hrun];simp only [Oper.uponIn];refine ⟨fun e=>by simp [Dm,Fence.wide] at e,?_⟩;obtain ⟨h1,R1,ext1,p1,p2,p3,hrep⟩:=De R.1 (hd τ.b);have hRL:RepL w h1.φ us (c.args.map a.eval):=hrep _ (by simpa using q1) (fun i v x hv hx=>by
  simp only [Array.getElem?_map,Option.map_eq_some_iff] at hx;obtain ⟨p,hp,rfl⟩:=hx;exact (q2 i v p hv (by simpa using hp)).1)
 refine (Cd (hC.2 w h1.φ _ R1.top (E.ok.gl _ _ _ _ _ R1.sur) hRL)).mono ?_;rintro er w' ⟨hcase,hbel⟩;have R1:Rel E.nt E.S log stp τ a w h1:=R1;rcases hcase with ⟨hl0,rfl⟩ | ⟨blk,cap,cs,rfl,hcap,hmax,hsz,hge,hlt,hheap,hcells⟩
 ·subst hl0;have ex:Ext w h1.φ w' h1.φ:=fun b o ho=>by
   have hlt:b<w.heap.size:=by
    rcases Nat.lt_or_ge b w.heap.size with h1 | h1
    ·exact h1
    ·rw [R1.top b h1] at ho;omega
   exact ⟨ho,hbel.cell (p:=⟨b,o,none⟩) hlt,Bn (hbel.block b hlt)⟩
  have R2:=R1.move E.ok (w':=w') (h':=h1) rfl rfl rfl (fun _ h=>h) ⟨ex,fun b hlt _=>⟨hbel.block b hlt,rfl⟩,hbel.size,hbel.os,hbel.tape,hbel.output,fun b hb=>.inl hb,fun b hb=>R1.top b (Nat.le_trans hbel.size hb)⟩ (fun b hM=>⟨hbel.block b (R1.mine b hM),rfl⟩) (fun b hM=>Nat.lt_of_lt_of_le (R1.mine b hM) hbel.size) (fun b hb=>R1.top b (Nat.le_trans hbel.size hb));have R3:=R2.row0 (r:=d) (sz:=2) (e:=e) hrd';have hg:=Ag4 (r:=d) (n:=0) (sz:=2) (e:=e) (σ':=τ.set (.row d) (.r 0 2 e)) (h':=h1) (w':=w') (by simp);exact hn _ _ _ (Bk (eff:={v:=.slice (d+1) 2 [],wr:=[(d,0,2,e)],rr:=[d]}) cc R R3 ⟨.named d 2 [] _ (.slice0 _ _ _),hg⟩ (by simpa using p3)) (by simpa using p3)
 ·obtain ⟨R3,ext⟩:=R1.setRow (r:=d) (n:=l.length) (sz:=2) (e:=e) (blk:=blk) (cs:=cs) (w':=w') E.ok (.inl hrd') (.inl hge) hheap (fun b hb _=>hbel.block b hb) hbel.size hbel.os hbel.tape hbel.output (fun o' ho'=>by rw [R1.top _ hge] at ho';omega) (by omega) hlt;have hrow:=A0f (w':=w') (φ':=fun b=>if b=blk then l.length*2 else h1.φ b) (sz:=2) (blk:=blk) (cap:=cap) (e:=e) (us:=l.map prV) (cs:=cs) (by omega) (by rw [List.length_map];exact hcap) (fun u hu=>by obtain ⟨_,_,rfl⟩:=List.mem_map.1 hu;rfl) hheap (by rw [List.length_map,if_pos rfl];exact Nat.le_refl _) (fun j v hv=>by
   rw [A9x,List.getElem?_map,Option.map_eq_some_iff] at hv;obtain ⟨m,hm,rfl⟩:=hv;exact ⟨_,hcells j m hm,.int _ _,rfl⟩)
  rw [List.length_map] at hrow;have hg:=A40 (σ':=τ.set (.row d) (.r l.length 2 e)) (h':={h1 with φ:=fun b=>if b=blk then l.length*2 else h1.φ b,M:=fun b=>h1.M b∨b=blk,γ:=fun k=>if k=d then some blk else h1.γ k}) (w':=w') (r:=d) (n:=l.length) (sz:=2) (e:=e) (blk:=blk) (cap:=cap) (xs:=l.map prV) (cs:=cs) (by simp) (by rw [List.length_map]) (if_pos rfl) hheap (by omega) hcap hmax;exact hn _ _ _ (Bk (eff:={v:=.slice (d+1) 2 (l.map prV),wr:=[(d,l.length,2,e)],rr:=[d]}) cc R R3 ⟨.named d 2 (l.map prV) _ hrow,hg⟩ (by simpa using p3)) (by simpa using p3)
theorem Steps.callG2 {s:St} {K:St→Prop} {d:Nat} {f:FuncId} {xs:List X} {vs us:List V} {e:Nat} {l:List (Int×Int)} {rest:List Ins} (hx:evXs s.env xs=some vs) (hd:∀b,toDs b vs=some (us,[])) (hC:CG2 E.P f us e l) (hrd:get s.rw d=none)
  (hk:Steps E rest K ((s.eff {v:=.slice (d+1) 2 (l.map prV),wr:=[(d,l.length,2,e)],rr:=[d]}).put (some d) (.slice (d+1) 2 (l.map prV)))):Steps E (⟨some d,.call f,xs,none⟩::rest) K s :=
 Step1.does (ins:=⟨some d,.call f,xs,none⟩) (Wo (Ay hx) hd hC (by rw [fs_r];exact hrd)) hk
theorem Qq {E:Env} {s:St} {K:List (List Loc×List Loc)→St→List Ins→Prop} {d:Nat} {f:FuncId} {xs:List X} {vs us:List V} {e:Nat} {l:List (Int×Int)} {rest:List Ins} (hx:evXs s.env xs=some vs) (hd:∀b,toDs b vs=some (us,[])) (hC:CG2 E.P f us e l) (hrd:get s.rw d=none)
  (tr:TraceK E ((s.eff {v:=.slice (d+1) 2 (l.map prV),wr:=[(d,l.length,2,e)],rr:=[d]}).put (some d) (.slice (d+1) 2 (l.map prV))) rest fun fp s' r'=>K ((wrOf ⟨some d,.call f,xs,none⟩ {v:=.slice (d+1) 2 (l.map prV),wr:=[(d,l.length,2,e)],rr:=[d]},Bp xs++[.row d])::fp) s' r'):TraceK E s (⟨some d,.call f,xs,none⟩::rest) K :=
 .step (ins:=⟨some d,.call f,xs,none⟩) (Wo (Ay hx) hd hC (by rw [fs_r];exact hrd)) tr
end
end
end Go.Am
namespace Go.Proofs.YtabedohjkillfaaGreatDoor
section
open Go.Am Go
attribute [local simp] cells Af mkv Aq B6 under dem dem1 eB Ac As sB eF chV chC cruC Fv C2 eLeg legC eCru cS eSh F1
theorem c_clone1:C Tryz.prog Cn [sB [(0,0)]] (sB [(0,0)]):=by
 refine C_of mixed Cm.2 (by simp) fun S ok=>?_;refine TsR rfl (A2 (A2 (Ae (SrN 1 rfl ?_))));refine Ib rfl fun b hb=>?_;obtain rfl:=hb (by simp);refine Sfn rfl (A7 rfl (A5 (A2 (Ae (P0 rfl (Sfn rfl ?_))))));exact A8 rfl rfl rfl rfl trivial
theorem c_clone2:C Tryz.prog Cn [sB [(0,0),(10,0)]] (sB [(0,0),(10,0)]):=by
 refine C_of mixed Cm.2 (by simp) fun S ok=>?_;refine TsR rfl (A2 (A2 (Ae (SrN 1 rfl ?_))));refine Ib rfl fun b hb=>?_;obtain rfl:=hb (by simp);refine Sfn rfl (A7 rfl (A5 (A2 (Ae (P0 rfl (Sfn rfl ?_))))));exact A8 rfl rfl rfl rfl trivial
def pasV (l:List (Int×Int)) (n:Int):V:=.agg [sB l,I n]
def yV (l:Nat):V:=.func (.yield l) [] []
def pV (a:Int×Int) (o:Int):V:=.vptr [I a.1,I a.2,I o] 0
attribute [local simp] pasV yV pV
def ysA:List (List V):=[[pasV [(0,0)] 0]]
def ysB:List (List V):=[[pasV [(0,0),(10,0)] 14]]
theorem Agt (mb l:Nat) (A:Arena):CY Tryz.prog Cp l (Q3 ysA) [] A [sB [(0,0)],.vptr [chV cS mb] 0,pV (0,0) 0,pV (0,0) 0,.vptr [yV l] 0] (fun r ys stp B=>ys=ysA∧r=.bool (!stp)∧B=A):=by
 refine Ady mixed Dn.2 (by simp) fun S ok S1 hE=>?_;refine TsR rfl (TsC rfl (A3 rfl rfl (c_costA mb) (Sfn rfl ?_)));refine A2 (Ab (Krn rfl (Cu (r:=sB [(0,0)]) rfl rfl rfl rfl (by simp) (fun _=>c_clone1) (KrN 2 rfl (.done (KrT ?_))))));refine Pd (Wk.trans (Qo (t:=22) (v:=yV l) rfl rfl) (Qo (t:=26) (v:=pasV [(0,0)] 0) rfl rfl)) ?_;refine Av rfl rfl (Mn hE (A:=A) (ys:=[]) rfl rfl rfl rfl (List.prefix_refl _) fun b=>?_);cases b with
 | true =>
   refine Sfn rfl (C8 rfl rfl rfl ⟨A,ysA,rfl,rfl,rfl,rfl⟩)
 | false =>
   refine Sfn rfl (C8 rfl rfl rfl ⟨A,ysA,rfl,rfl,rfl,rfl⟩)
theorem Aho (mb l:Nat):C Tryz.prog Cp [sB [(0,0),(0,0)],.vptr [chV cS mb] 0,pV (0,0) 0,pV (0,0) 0,.vptr [yV l] 0] (.bool true):=by
 refine C_of mixed Dn.2 (by simp) fun S ok=>?_;refine TsR rfl (TsC rfl (A3 rfl rfl (c_costAA mb) (Sfn rfl ?_)));refine A2 (Ab (Krn rfl (Cu (r:=sB [(0,0)]) rfl rfl rfl rfl (by simp) (fun e=>absurd e (by decide)) (KrN 2 rfl (Gf (.bool true) rfl rfl (Krn rfl (.done (KrT ?_))))))));exact A8 rfl rfl rfl rfl trivial
theorem Ags {mb:Nat} {L:KM} (hc:ClrP mb L L w1S) (l:Nat):CY Tryz.prog Cp l (Q3 ysB) [] [(mb,gmO L)] [sB [(0,0),(10,0)],.vptr [chV cS mb] 0,pV (0,0) 0,pV (10,0) 3,.vptr [yV l] 0] (fun r ys stp B=>ys=ysB∧r=.bool (!stp)∧B=[(mb,gmO L)]):=by
 have kc:=Agy hc;refine Ady mixed Dn.2 (by simp) fun S ok S1 hE=>?_;refine TsR rfl (A2 (Ae (Hh 7 rfl rfl (A:=[(mb,gmO L)]) (ys:=[]) rfl ?_)));have hA:=hE.inA [] false;refine SrN 6 rfl (Bf (F:=[]) hA rfl rfl rfl kc (.inl (by simp)) fun r B hB=>?_);obtain ⟨rfl,rfl⟩:=hB;refine ⟨_,rfl,Sfn rfl ?_⟩;refine A2 (Ab (Krn rfl (Cu (r:=sB [(0,0),(10,0)]) rfl rfl rfl rfl (by simp) (fun _=>c_clone2) (KrN 2 rfl (.done (KrT ?_))))));refine Pd (Wk.trans (Qo (t:=22) (v:=yV l) rfl rfl) (Qo (t:=26) (v:=pasV [(0,0),(10,0)] 14) rfl rfl)) ?_;refine Av rfl rfl (Mn hE (A:=[(mb,gmO L)]) (ys:=[]) rfl rfl rfl rfl (List.prefix_refl _) fun b=>?_);cases b with
 | true =>
   refine Sfn rfl (C8 rfl rfl rfl ⟨_,ysB,rfl,rfl,rfl,rfl⟩)
 | false =>
   refine Sfn rfl (C8 rfl rfl rfl ⟨_,ysB,rfl,rfl,rfl,rfl⟩)
theorem A4m:CG2 Tryz.prog Cn [sB [(0,0)]] 23 [(0,0)]:=by
 refine CG2_of mixed Cm.2 (by simp) fun S ok=>?_;refine TsR rfl (A2 (A2 (Ae (SrN 1 rfl ?_))));refine Ib rfl fun b hb=>?_;obtain rfl:=hb (by simp);refine Sfn rfl (A7 rfl (A5 (A2 (Ae (P0 rfl (Sfn rfl ?_))))));exact Ea ⟨5,rfl,rfl⟩
def offV (mb l:Nat) (b:Int×Int) (o:Int):V:=.func (.func Cp) [] [.vptr [chV cS mb] 0,pV (0,0) 0,pV b o,.vptr [yV l] 0]
attribute [local simp] offV
theorem c_nextA (mb l b6:Nat):C Tryz.prog Bb [sB [(0,0)],I 0,.vptr [offV mb l (0,0) 0] 0,pV (0,0) 0,.vptr [chV cS mb] 0,.rptr b6 0] (.bool true):=by
 refine C_of mixed F4.2 (by simp) fun S ok=>?_;refine TsR rfl (A2 (A2 (Ab (KrN 2 rfl (Qq rfl (fun _=>rfl) A4m rfl (Krn rfl ?_))))));refine Ch (us:=[sB [(0,0),(0,0)],.vptr [chV cS mb] 0,pV (0,0) 0,pV (0,0) 0,.vptr [yV l] 0]) rfl rfl (Aho mb l) (Krn rfl (.done (KrT ?_)));refine A7 rfl (A5 ?_);refine A2 (TsR rfl (A4 ?_));refine Bd 1 (Ag ?_);refine TsR rfl (A2 (A7 rfl (Ak ?_)));exact TsR rfl (A8 rfl rfl rfl rfl trivial)
theorem cy_nextB {mb:Nat} {L:KM} (hc:ClrP mb L L w1S) (l b6:Nat):CY Tryz.prog Bb l (Q3 ysB) [] [(mb,gmO L)] [sB [(0,0)],I 0,.vptr [offV mb l (10,0) 3] 0,pV (10,0) 3,.vptr [chV cS mb] 0,.rptr b6 0] (fun r ys stp B=>ys=ysB∧B=[(mb,gmO L)]):=by
 have ko:=Ags hc l;refine Ady mixed F4.2 (by simp) fun S ok S1 hE=>?_;refine TsR rfl (A2 (A2 (Ab (KrN 2 rfl (Qq rfl (fun _=>rfl) A4m rfl (Krn rfl (.done (KrT ?_))))))));refine Mo hE (F:=[]) (A1:=[(mb,gmO L)]) (ys:=[]) (us:=[sB [(0,0),(10,0)],.vptr [chV cS mb] 0,pV (0,0) 0,pV (10,0) 3,.vptr [yV l] 0]) rfl rfl rfl rfl ko fun r ys' stp' B hB=>?_;obtain ⟨rfl,rfl,rfl⟩:=hB;refine Sfn rfl ?_;cases stp' with
 | true =>
   refine A9 rfl (TsR rfl (C8 rfl rfl rfl ⟨_,ysB,rfl,rfl,rfl⟩))
 | false =>
   refine A7 rfl (A5 ?_);refine A2 (TsR rfl (A4 ?_));refine Bd 1 (Ag ?_);refine TsR rfl (A2 (A7 rfl (Ak ?_)));exact TsR rfl (C8 rfl rfl rfl ⟨_,ysB,rfl,rfl,rfl⟩)
end
section
open Go.Am Go
attribute [local simp] cells Af mkv Aq B6 under dem dem1 eB Ac As sB eF chV chC cruC Fv C2 eLeg legC eCru cS eSh F1 pasV yV pV offV
def restA (ys0:List (List V)) (A:Arena) (ys:List (List V)) (stp:Bool) (B:Arena):Prop:=ys=ys0∧∃D,B=D++A
theorem A2q {A:Arena} {b:Nat} {o o':Ob} (h:b∉A.map (·.1)):setA ((b,o)::A) b o'=(b,o')::A:=by
 unfold setA;rw [List.map_cons,if_pos rfl];congr 1;have e:A.map (fun p=>if p.1=b then (b,o') else p)=A.map id:=List.map_congr_left fun p hp=>by
  rw [if_neg (fun e=>h (List.mem_map.2 ⟨p,hp,e⟩))];rfl
 rw [e,List.map_id]
theorem cy_pasA (mb l:Nat) (A:Arena):CY Tryz.prog Cc l (Q3 ysA) [] A [yV l,.vptr [chV cS mb] 0,pV (0,0) 0,pV (0,0) 0] (fun _ ys stp B=>restA ysA A ys stp B):=by
 have ko:=Agt mb l A;refine Ady mixed Fs.2 (by simp) fun S ok S1 hE=>?_;refine TsR rfl (TsR rfl ?_);refine A2 (TsN 6 rfl ?_);refine Av rfl rfl (SrN 1 rfl (Av rfl rfl (SrN 1 rfl (Av rfl rfl (SrN 1 rfl (Av rfl rfl (SrN 1 rfl ?_)))))));refine Av rfl rfl (Mo hE (F:=[]) (A1:=A) (ys:=[]) (us:=[sB [(0,0)],.vptr [chV cS mb] 0,pV (0,0) 0,pV (0,0) 0,.vptr [yV l] 0]) rfl rfl rfl rfl ko fun r ys' stp' B hB=>?_);obtain ⟨rfl,rfl,eB⟩:=hB;have eB:=eB.symm;subst eB;refine Av rfl rfl (Al rfl (by cases stp'<;>simp) ?_);cases stp' with
 | true=>exact A9 rfl (C8 rfl rfl rfl ⟨_,ysA,rfl,rfl,[],rfl⟩)
 | false =>
 refine A7 rfl (A5 ?_);refine A2 (Ae (Hh 1 rfl rfl (A:=A) (ys:=ysA) rfl (E0 (hE.inA ysA false) rfl fun b6 hb6=>⟨(b6,.cells [.nilf])::A,rfl,?_⟩)));have htop:=A2q (o:=Ob.cells [.nilf]) (o':=.cells [.func (.func Bb) [] [.vptr [offV mb l (0,0) 0] 0,pV (0,0) 0,.vptr [chV cS mb] 0,.rptr b6 0]]) hb6;refine A2 (Ae (SrN 1 rfl (Ro (A8t (t:=21) rfl rfl) (Hh 1 rfl rfl (A:=(b6,.cells [.nilf])::A) (ys:=ysA) rfl (I7 (hE.inA ysA false) rfl rfl List.mem_cons_self (by simp) rfl rfl ⟨(b6,.cells [.func (.func Bb) [] [.vptr [offV mb l (0,0) 0] 0,pV (0,0) 0,.vptr [chV cS mb] 0,.rptr b6 0]])::A,congrArg encA htop,?_⟩)))));refine Ae (Hh 1 rfl rfl (A:=(b6,.cells [.func (.func Bb) [] [.vptr [offV mb l (0,0) 0] 0,pV (0,0) 0,.vptr [chV cS mb] 0,.rptr b6 0]])::A) (ys:=ysA) rfl (Bz (hE.inA ysA false) rfl rfl List.mem_cons_self rfl ⟨_,rfl,?_⟩));refine SrN 3 rfl (Dr (us:=[sB [(0,0)],I 0,.vptr [offV mb l (0,0) 0] 0,pV (0,0) 0,.vptr [chV cS mb] 0,.rptr b6 0]) rfl rfl (c_nextA mb l b6) ?_);exact ⟨_,⟨_,ysA,rfl,rfl,[_],rfl⟩,_,_,_,Ck rfl,rfl,rfl⟩
theorem cy_pasB {mb:Nat} {L:KM} (hc:ClrP mb L L w1S) (l:Nat):CY Tryz.prog Cc l (Q3 ysB) [] [(mb,gmO L)] [yV l,.vptr [chV cS mb] 0,pV (0,0) 0,pV (10,0) 3] (fun _ ys stp B=>restA ysB [(mb,gmO L)] ys stp B):=by
 refine Ady mixed Fs.2 (by simp) fun S ok S1 hE=>?_;obtain ⟨A,hAA⟩:∃A:Arena,[(mb,gmO L)]=A:=⟨_,rfl⟩;rw [hAA];refine TsR rfl (TsR rfl ?_);refine A2 (TsN 6 rfl ?_);refine Cx (.bool true) rfl rfl rfl (Cx (.bool true) rfl rfl rfl (Cx (.bool true) rfl rfl rfl (Cx (.bool true) rfl rfl rfl (Cx (.bool true) rfl rfl rfl (Cx (.bool true) rfl rfl rfl (Sfn rfl ?_))))));refine A7 rfl (A5 ?_);refine A2 (Ae (Hh 1 rfl rfl (A:=A) (ys:=[]) rfl (E0 (hE.inA [] false) rfl fun b6 hb6=>⟨(b6,.cells [.nilf])::A,rfl,?_⟩)));have htop:=A2q (o:=Ob.cells [.nilf]) (o':=.cells [.func (.func Bb) [] [.vptr [offV mb l (10,0) 3] 0,pV (10,0) 3,.vptr [chV cS mb] 0,.rptr b6 0]]) hb6;refine A2 (Ae (SrN 1 rfl (Ro (A8t (t:=21) rfl rfl) (Hh 1 rfl rfl (A:=(b6,.cells [.nilf])::A) (ys:=[]) rfl (I7 (hE.inA [] false) rfl rfl List.mem_cons_self (by simp) rfl rfl ⟨(b6,.cells [.func (.func Bb) [] [.vptr [offV mb l (10,0) 3] 0,pV (10,0) 3,.vptr [chV cS mb] 0,.rptr b6 0]])::A,congrArg encA htop,?_⟩)))));refine Ae (Hh 1 rfl rfl (A:=(b6,.cells [.func (.func Bb) [] [.vptr [offV mb l (10,0) 3] 0,pV (10,0) 3,.vptr [chV cS mb] 0,.rptr b6 0]])::A) (ys:=[]) rfl (Bz (hE.inA [] false) rfl rfl List.mem_cons_self rfl ⟨_,rfl,?_⟩));have kn:=cy_nextB hc l b6;rw [hAA] at kn;refine SrN 3 rfl (Mo hE (F:=[(b6,.cells [.func (.func Bb) [] [.vptr [offV mb l (10,0) 3] 0,pV (10,0) 3,.vptr [chV cS mb] 0,.rptr b6 0]])]) (A1:=A) (ys:=[]) (us:=[sB [(0,0)],I 0,.vptr [offV mb l (10,0) 3] 0,pV (10,0) 3,.vptr [chV cS mb] 0,.rptr b6 0]) rfl rfl rfl rfl kn fun r ys' stp' B hB=>?_);obtain ⟨rfl,eB⟩:=hB;have eB:=eB.symm;subst eB;exact ⟨_,⟨_,ysB,rfl,rfl,[_],rfl⟩,_,_,_,Ck rfl,rfl,rfl⟩
theorem Zs (mb:Nat) (a b:Int×Int) (oa ob:Int):C Tryz.prog Lg [chV cS mb,F1 a oa,F1 b ob] (.func (.func Cc) [] [.vptr [chV cS mb] 0,pV a oa,pV b ob]):=by
 refine C_of mixed Kp.2 (by simp) fun S ok=>?_;exact TsR rfl (TsR rfl (A8 rfl rfl rfl rfl trivial))
end
section
open Go.Am Go
attribute [local simp] cells Af mkv Aq B6 under dem dem1 eB Ac As sB eF chV chC cruC Fv C2 eLeg legC eCru cS eSh F1 pasV yV pV offV
theorem A4b {A:Arena} {p:List (Int×Int)} {n:Int} {it:FuncId} {us:List V} (hus:Plain us)
  (hit:∀l,CY Tryz.prog it l (Q3 [[pasV p n]]) [] A (yV l::us) (fun _ ys stp B=>restA [[pasV p n]] A ys stp B)) :
  CX Tryz.prog Ho A [] [.func (.func it) [] us,.func (.func Cj) [] []] (fun r B=>(∃D,B=D++A)∧r=.tuple [pasV p n,.bool true]):=by
 refine A5u mixed Hk.2 (by simp) fun S1 ok1=>?_;refine TsR rfl ?_;refine Aa (s':=⟨[(0,.func (.func it) [] us),(3,.ptr 3 0),(4,.ptr 4 0),(5,.ptr 5 0)],[(3,⟨[.func (.func Cj) [] []],false⟩),(4,⟨[.nils,I 0],false⟩),(5,⟨[.bool false],false⟩)],[],encA A,false⟩) (Ad (.k rfl (.k rfl (.k rfl (.k rfl .nil)))) (.k rfl (.k rfl (.k rfl .nil))) .nil (by simp only [E4,List.all_cons,C7 hus];rfl) rfl) ?_;refine A2 (TsR rfl (A4 ?_));refine Aa (s':=⟨[(7,.func (.func it) [] us),(3,.ptr 3 0),(4,.ptr 4 0),(5,.ptr 5 0)],[(3,⟨[.func (.func Cj) [] []],false⟩),(4,⟨[.nils,I 0],false⟩),(5,⟨[.bool false],false⟩)],[],encA A,false⟩) (Ad (.k rfl (.k rfl (.k rfl (.k rfl .nil)))) (.k rfl (.k rfl (.k rfl .nil))) .nil (by simp only [E4,List.all_cons,C7 hus];rfl) rfl) ?_;refine A4z (F:=[]) (A1:=A) rfl ok1 rfl (hus.d _) rfl hit rfl (by simp only [List.all_cons,C7 hus];rfl) rfl (by
   intro pre x hx;have:=List.IsPrefix.length_le hx;obtain ⟨t,ht⟩:=hx;rcases pre with _ | ⟨a,pre⟩
   ·simp at ht;rw [ht.1];rfl
   ·simp at this)
  (fun pre t=>t.bx=(if pre=[] then [(3,⟨[.func (.func Cj) [] []],false⟩),(4,⟨[.nils,I 0],false⟩),(5,⟨[.bool false],false⟩)] else [(3,⟨[.func (.func Cj) [] []],false⟩),(4,⟨[sB p,I n],false⟩),(5,⟨[.bool true],false⟩)])∧t.rw=[]∧t.log=encA [])
  (fun e t=>False) ⟨rfl,rfl,rfl⟩ ?_ ?_ ?_
 ·rintro a0 L0 rc0 h0 T1 T2 okT1 okT2 pre q t lp hpre ⟨hbx,hrw,hlog⟩ henv hstp;obtain ⟨env,bx,rw,log,stp⟩:=t;simp only at hbx hrw hlog henv hstp;obtain ⟨rfl,rfl⟩:pre=[]∧q=[pasV p n]:=by
   have hl:=List.IsPrefix.length_le hpre;obtain ⟨u,hu⟩:=hpre;rcases pre with _ | ⟨a,pre⟩
   ·simp at hu;exact ⟨rfl,hu.1⟩
   ·simp at hl
  rw [if_pos rfl] at hbx;subst hbx hrw hlog henv hstp;refine TrR rfl ?_;refine A4 (A2 (Ae (SrN 6 rfl (Cx (.bool true) rfl rfl rfl (Sfn rfl ?_)))));refine A9 rfl (TrR rfl ?_);exact ⟨⟨[],[(3,⟨[.func (.func Cj) [] []],false⟩),(4,⟨[sB p,I n],false⟩),(5,⟨[.bool true],false⟩)],[],encA [],false⟩,Bi .nil (.k rfl (.k rfl (.k rfl .nil))) .nil rfl rfl rfl,⟨rfl,rfl,rfl⟩,rfl⟩
 ·rintro t log B F' hlt ⟨rfl,D,rfl⟩ henv hstp ⟨hbx,hrw,hlog⟩;obtain ⟨env,bx,rw,log,stp⟩:=t;simp only at hbx hrw hlog henv hstp hlt;obtain rfl:=D3 (hlt.symm.trans hlog);rw [if_neg (by simp)] at hbx;subst hbx hrw henv hstp;show Tr _ _ _ _ _;refine A2 (Ab (Krn rfl (.done (KrT ?_))));exact C8 rfl rfl rfl ⟨_,rfl,⟨D,rfl⟩,rfl⟩
 ·rintro e t log B F' hlt hΦ henv h;exact h.elim
end
section
open Go.Am Go
attribute [local simp] cells Af mkv Aq B6 under dem dem1 eB Ac As sB eF chV chC cruC Fv C2 eLeg legC eCru cS eSh F1 pasV yV pV offV
theorem cx_bestA (mb:Nat) (A:Arena):CX Tryz.prog G8 A [] [chV cS mb,F1 (0,0) 0,F1 (0,0) 0] (fun r B=>(∃D,B=D++A)∧r=.tuple [pasV [(0,0)] 0,.bool true]):=by
 have kf:=A4b (A:=A) (p:=[(0,0)]) (n:=0) (it:=Cc) (us:=[.vptr [chV cS mb] 0,pV (0,0) 0,pV (0,0) 0]) ⟨fun b=>rfl,fun B R=>rfl⟩ (fun l=>cy_pasA mb l A);refine Li mixed Im.2 (by simp) fun S ok S1 hA hK hKD=>?_;refine TsR rfl (A2 (Ae (SrN 3 rfl (A3 rfl rfl (Zs mb (0,0) (0,0) 0 0) (Bf (F:=[]) hA rfl rfl rfl kf (.inl (by simp)) fun r B hB=>?_)))));obtain ⟨⟨D,rfl⟩,rfl⟩:=hB;refine Sfn rfl (C8 rfl rfl rfl ⟨_,rfl,⟨D,rfl⟩,rfl⟩)
theorem cx_bestB {mb:Nat} {L:KM} (hc:ClrP mb L L w1S):CX Tryz.prog G8 [(mb,gmO L)] [] [chV cS mb,F1 (0,0) 0,F1 (10,0) 3] (fun r B=>(∃D,B=D++[(mb,gmO L)])∧r=.tuple [pasV [(0,0),(10,0)] 14,.bool true]):=by
 have kf:=A4b (A:=[(mb,gmO L)]) (p:=[(0,0),(10,0)]) (n:=14) (it:=Cc) (us:=[.vptr [chV cS mb] 0,pV (0,0) 0,pV (10,0) 3]) ⟨fun b=>rfl,fun B R=>rfl⟩ (fun l=>cy_pasB hc l);refine Li mixed Im.2 (by simp) fun S ok S1 hA hK hKD=>?_;refine TsR rfl (A2 (Ae (SrN 3 rfl (A3 rfl rfl (Zs mb (0,0) (10,0) 0 3) (Bf (F:=[]) hA rfl rfl rfl kf (.inl (by simp)) fun r B hB=>?_)))));obtain ⟨⟨D,rfl⟩,rfl⟩:=hB;refine Sfn rfl (C8 rfl rfl rfl ⟨_,rfl,⟨D,rfl⟩,rfl⟩)
def gk2:GK Tryz.prog 226 6 (.int .i64 0):=GK_of (kt:=279) (e:=3) (by kernel_rfl) (by kernel_rfl) (by kernel_rfl)
end
section
open Go.Am Go
attribute [local simp] cells Af mkv Aq B6 under dem dem1 eB Ac As sB eF chV chC cruC Fv C2 eLeg legC eCru cS eSh F1 pasV yV pV offV
def Ey (cb mb:Nat):List V:=[chV cS mb,.rmap cb]
def In (cb mb:Nat):V:=.agg (Ey cb mb)
def eRe (p:Int×Int) (o s:Int):V:=.agg [I p.1,I p.2,I o,I s]
attribute [local simp] Ey In eRe
def keyC (pa:Int×Int) (oa:Int):List Int:=[0,0,0,pa.1,pa.2,oa]
def arP (cb mb:Nat) (Kc L:KM):Arena:=[(cb,gmO Kc),(mb,gmO L)]
theorem Aa5 {cb mb:Nat} {Kc L L':KM} {i w n oa:Int} {pa T:Int×Int} {r2:V} {p:List (Int×Int)} (hends:C Tryz.prog G6 [chV cS mb,eSh i w] (.tuple [F1 pa oa,r2])) (h2:∃q o,r2=F1 q o)
  (hbest:CX Tryz.prog G8 [(mb,gmO L)] [] [chV cS mb,F1 (0,0) 0,F1 pa oa] (fun r B=>(∃D,B=D++[(mb,gmO L)])∧r=.tuple [pasV p n,.bool true]))
  (hshot:CX Tryz.prog Ei [(mb,gmO L)] [] [chV cS mb,eSh i w,I n] (fun r B=>B=[(mb,gmO L')]∧r=.tuple [eB T,.bool true]))
  (hn:0≤n∧n<1000) (hin:gmOk 6 Kc) (hkk:(keyC pa oa).length=6∧∀a∈keyC pa oa,inI a) (hnew:∀q∈Kc,q.1≠keyC pa oa) :
  CX Tryz.prog D9 (arP cb mb Kc L) [] [In cb mb,eRe (0,0) 0 0,eSh i w] (fun r B=>B=arP cb mb (Kc++[(keyC pa oa,.int .i64 n)]) L'∧r=.tuple [eB T,.bool true]):=by
 obtain ⟨q2,o2,rfl⟩:=h2;have kv:C Tryz.prog J2 [F1 (0,0) 0] (.bool true):=Ahg _ _;refine Li mixed J8.2 (by simp) fun S ok S1 hA hK hKD=>?_;refine Adc hA rfl fun hnd=>?_;have hne:mb≠cb:=by
  simp only [arP,List.map_cons,List.map_nil,List.nodup_cons,List.mem_cons,List.not_mem_nil,or_false] at hnd;exact fun e=>hnd.1 e.symm
 clear hnd;have hset:∀o L,setA (arP cb mb Kc L) cb o=[(cb,o),(mb,gmO L)]:=fun o L=>by simp [setA,arP,hne]
 refine TsR rfl (TsC rfl (A3 rfl rfl hends (Sfn rfl ?_)));refine TsR rfl ?_;refine A2 (Ae (SrN 3 rfl (La hA (A:=arP cb mb Kc L) (mb:=cb) (k:=keyC pa oa) (v:=I 0) (xv:=.int .i64 0) (b:=false) rfl rfl (by simp [arP]) (fun w hb=>Pj gk2 hb hin hkk hnew) (fun w φ=>.int _ _) (Sfn rfl ?_))));refine A2 (TsR rfl (A9 rfl (TsR rfl ?_)));refine A2 (TsC rfl (A3 rfl rfl kv (Sfn rfl (A9 rfl ?_))));refine A2 (Ae (SrN 5 rfl (Bf (F:=[(cb,gmO Kc)]) (A1:=[(mb,gmO L)]) hA rfl rfl rfl hbest (.inl (by simp)) fun r B hB=>?_)));obtain ⟨⟨D,rfl⟩,rfl⟩:=hB;refine Sfn rfl ?_;refine TsR rfl (A9 rfl (TrR rfl ?_));refine Aa (Wk.sub hA (A:=[(cb,gmO Kc)]++(D++[(mb,gmO L)])) (B:=arP cb mb Kc L) (D:=D) rfl (by
  show List.Perm ([(cb,gmO Kc)]++(D++[(mb,gmO L)])) ([(cb,gmO Kc),(mb,gmO L)]++D)
  classical exact List.perm_iff_count.2 fun x=>by simp only [List.count_append,List.count_cons,List.count_nil];omega)) ?_
 refine Ae (SrN 4 rfl (Ic hA (A:=arP cb mb Kc L) gk2 (keyC pa oa) (.int .i64 n) rfl rfl (by simp [arP]) hin hkk hnew (fun w φ x hx=>by cases hx;rfl) rfl ?_));rw [hset];refine Al rfl trivial ?_;have hn0:decide (n<0)=false:=decide_eq_false (by omega);refine A2 (TsN 2 rfl ?_);rw [hn0];refine Al rfl trivial (A7 rfl (A5 ?_));refine A2 (Ae (SrN 7 rfl ?_));rw [show IntKind.i64.wrap (0+n)=n from by rw [Int.zero_add,w64 (by omega) (by omega)]];refine Bf (F:=[(cb,gmO (Kc++[(keyC pa oa,.int .i64 n)]))]) (A1:=[(mb,gmO L)]) hA rfl rfl rfl hshot (.inl (by simp)) fun r B hB=>?_;obtain ⟨rfl,rfl⟩:=hB;refine Sfn rfl (C8 rfl rfl rfl ⟨_,rfl,rfl,rfl⟩)
end
section
open Go.Am Go
attribute [local simp] cells Af mkv Aq B6 under dem dem1 eB Ac As sB eF chV chC cruC Fv C2 eLeg legC eCru cS eSh F1 pasV yV pV offV Ey In eRe
theorem cx_goesH {cb mb:Nat} {Kc L:KM} (hshot:CX Tryz.prog Ei [(mb,gmO L)] [] [chV cS mb,eSh 0 0,I 0] (fun r B=>B=[(mb,gmO L)]∧r=.tuple [eB (7,12),.bool true]))
  (hin:gmOk 6 Kc) (hm:(keyC (0,0) 0,.int .i64 0)∈Kc) (hone:∀q∈Kc,q.1=keyC (0,0) 0→q.2=.int .i64 0) :
  CX Tryz.prog D9 (arP cb mb Kc L) [] [In cb mb,eRe (0,0) 0 0,eSh 0 0] (fun r B=>B=arP cb mb Kc L∧r=.tuple [eB (7,12),.bool true]):=by
 refine Li mixed J8.2 (by simp) fun S ok S1 hA hK hKD=>?_;refine TsR rfl (TsC rfl (A3 rfl rfl (A7o mb) (Sfn rfl ?_)));refine TsR rfl ?_;refine A2 (Ae (SrN 3 rfl (La hA (A:=arP cb mb Kc L) (mb:=cb) (k:=keyC (0,0) 0) (v:=I 0) (xv:=.int .i64 0) (b:=true) rfl rfl (by simp [arP]) (fun w hb=>A93 gk2 hb hin hm hone) (fun w φ=>.int _ _) (Sfn rfl ?_))));refine A2 (TsR rfl (A7 rfl (A5 ?_)));refine A2 (TsR rfl (A7 rfl (A5 ?_)));refine A2 (Ae (SrN 7 rfl (Bf (F:=[(cb,gmO Kc)]) (A1:=[(mb,gmO L)]) hA rfl rfl rfl hshot (.inl (by simp)) fun r B hB=>?_)));obtain ⟨rfl,rfl⟩:=hB;refine Sfn rfl (C8 rfl rfl rfl ⟨_,rfl,rfl,rfl⟩)
theorem Ahj (cb mb:Nat):C Tryz.prog P8 [In cb mb] (eRe (0,0) 0 0):=by
 refine C_of mixed Oj.2 (by simp) fun S ok=>?_;exact TsR rfl (TsR rfl (A8 rfl rfl rfl rfl trivial))
theorem c_after (cb mb:Nat):C Tryz.prog P9 [In cb mb,eSh 0 0,I 12] (eRe (10,0) 0 12):=by
 refine C_of mixed Ol.2 (by simp) fun S ok=>?_;refine TsR rfl (TsC rfl (A3 rfl rfl (A7o mb) (Sfn rfl ?_)));exact TsR rfl (A8 rfl rfl rfl rfl trivial)
theorem Aad (cb mb:Nat):C Tryz.prog J3 [In cb mb,I 1,eSh 0 0] (I 2):=by
 refine C_of mixed Ij.2 (by simp) fun S ok=>?_;refine TsR rfl (A2 (Ab (Krn rfl (.done (KrT ?_)))));exact A8 rfl rfl rfl rfl trivial
theorem Aac (cb mb:Nat):C Tryz.prog J3 [In cb mb,I 1,eSh 0 1] (I 3):=by
 refine C_of mixed Ij.2 (by simp) fun S ok=>?_;refine TsR rfl (A2 (Ab (Krn rfl (.done (KrT ?_)))));exact A8 rfl rfl rfl rfl trivial
def plP (cb mb:Nat):V:=.vptr (Ey cb mb) 0
attribute [local simp] plP
theorem Uw (cb mb:Nat) (n:Int):C Tryz.prog Nv [In cb mb,I n] (.func (.func C3) [] [plP cb mb,.vptr [I n] 0]):=by
 refine C_of mixed Nn.2 (by simp) fun S ok=>?_;exact TsR rfl (TsR rfl (A8 rfl rfl rfl rfl trivial))
end
section
open Go.Am Go
attribute [local simp] cells Af mkv Aq B6 under dem dem1 eB Ac As sB eF chV chC cruC Fv C2 eLeg legC eCru cS eSh F1 pasV yV pV offV Ey In eRe plP
theorem bit0:(Uc BinOp.and IntKind.i64 0 (IntKind.i64.wrap (1*2^min (Int.toNat 0) IntKind.i64.bits)) != 0)=false:=by decide
theorem bit1:(Uc BinOp.and IntKind.i64 1 (IntKind.i64.wrap (1*2^min (Int.toNat 0) IntKind.i64.bits)) != 0)=true:=by decide
theorem Afw (cb mb:Nat):Iter Tryz.prog C3 [plP cb mb,.vptr [I 0] 0] []:=by
 refine Lb mixed H1.2 (by simp) fun S ok=>?_;refine TsR rfl (A4 ?_);refine Bd 2 (Ag ?_);refine Aa (s':=⟨[(0,.yld),(1,plP cb mb),(2,.vptr [I 0] 0),(12,I 1),(13,I 0)],[],[],[],false⟩) (Ad (.k rfl (.k rfl (.k rfl (.cons rfl (VLe.i rfl) (.cons rfl (VLe.i rfl) .nil))))) .nil .nil rfl rfl) ?_;refine TsR rfl (A2 (A9 rfl (A5 (A2 (A4 (TsR rfl (TsR rfl (A4 ?_))))))));refine Bd 3 (Ag ?_);refine Aa (s':=⟨[(0,.yld),(1,plP cb mb),(2,.vptr [I 0] 0),(4,I 0),(12,I 1),(13,I 0),(16,I 0)],[],[],[],false⟩) (Ad (.k rfl (.k rfl (.k rfl (.cons rfl (VLe.i rfl) (.cons rfl (VLe.i rfl) (.cons rfl (VLe.i rfl) (.cons rfl (VLe.i rfl) .nil))))))) .nil .nil rfl rfl) ?_;refine TsR rfl (A2 (A9 rfl (A5 (A2 (A4 (TsR rfl (A2 ?_)))))));refine Ab (KrN 5 rfl ?_);rw [bit0];refine KrN 5 rfl (Gf (.bool true) rfl rfl (Krn rfl (.done (KrT ?_))));refine A7 rfl (A5 (TrR rfl (Ag ?_)));refine Aa (s':=⟨[(0,.yld),(1,plP cb mb),(2,.vptr [I 0] 0),(4,I 0),(12,I 1),(13,I 0),(16,I 1)],[],[],[],false⟩) (Ad (.k rfl (.k rfl (.k rfl (.cons rfl (VLe.i rfl) (.cons rfl (VLe.i rfl) (.cons rfl (VLe.i rfl) (.cons rfl (VLe.i rfl) .nil))))))) .nil .nil rfl rfl) ?_;refine TsR rfl (A2 (A9 rfl (A5 (A2 (A4 (TsR rfl (A2 ?_)))))));refine Ab (KrN 5 rfl ?_);rw [bit0];refine KrN 5 rfl (Gf (.bool true) rfl rfl (Krn rfl (.done (KrT ?_))));refine A7 rfl (A5 (TrR rfl (Ag ?_)));refine Aa (s':=⟨[(0,.yld),(1,plP cb mb),(2,.vptr [I 0] 0),(4,I 0),(12,I 1),(13,I 0),(16,I 2)],[],[],[],false⟩) (Ad (.k rfl (.k rfl (.k rfl (.cons rfl (VLe.i rfl) (.cons rfl (VLe.i rfl) (.cons rfl (VLe.i rfl) (.cons rfl (VLe.i rfl) .nil))))))) .nil .nil rfl rfl) ?_;refine TsR rfl (A2 (A7 rfl (Ak ?_)));refine TrR rfl (Ag ?_);refine Aa (s':=⟨[(0,.yld),(1,plP cb mb),(2,.vptr [I 0] 0),(12,I 1),(13,I 1)],[],[],[],false⟩) (Ad (.k rfl (.k rfl (.k rfl (.cons rfl (VLe.i rfl) (.cons rfl (VLe.i rfl) .nil))))) .nil .nil rfl rfl) ?_;refine TsR rfl (A2 (A7 rfl (Ak ?_)));exact ⟨.inr rfl,[],[],[],rfl,rfl,rfl⟩
theorem W5 (cb mb:Nat):Iter Tryz.prog C3 [plP cb mb,.vptr [I 1] 0] [[eSh 0 0],[eSh 0 1]]:=by
 refine Lb mixed H1.2 (by simp) fun S ok=>?_;refine TsR rfl (A4 ?_);refine Bd 2 (Ag ?_);refine Aa (s':=⟨[(0,.yld),(1,plP cb mb),(2,.vptr [I 1] 0),(12,I 1),(13,I 0)],[],[],[],false⟩) (Ad (.k rfl (.k rfl (.k rfl (.cons rfl (VLe.i rfl) (.cons rfl (VLe.i rfl) .nil))))) .nil .nil rfl rfl) ?_;refine TsR rfl (A2 (A9 rfl (A5 (A2 (A4 (TsR rfl (TsR rfl (A4 ?_))))))));refine Bd 3 (Ag ?_);refine Aa (s':=⟨[(0,.yld),(1,plP cb mb),(2,.vptr [I 1] 0),(4,I 0),(12,I 1),(13,I 0),(16,I 0)],[],[],[],false⟩) (Ad (.k rfl (.k rfl (.k rfl (.cons rfl (VLe.i rfl) (.cons rfl (VLe.i rfl) (.cons rfl (VLe.i rfl) (.cons rfl (VLe.i rfl) .nil))))))) .nil .nil rfl rfl) ?_;refine TsR rfl (A2 (A9 rfl (A5 (A2 (A4 (TsR rfl (A2 ?_)))))));refine Ab (KrN 5 rfl ?_);rw [bit1];refine KrN 5 rfl (.done (KrT ?_));refine Je rfl rfl rfl rfl (by simp [allU]) rfl (by exact ⟨[[eSh 0 1]],rfl⟩) rfl fun b=>?_;refine Al rfl (by cases b<;>simp) ?_;cases b with
 | false =>
   refine A9 rfl ?_;exact Ea ⟨.inl rfl,[],[],[],rfl,rfl,rfl⟩
 | true =>
 refine A7 rfl (A5 (TrR rfl (Ag ?_)));refine Aa (s':=⟨[(0,.yld),(1,plP cb mb),(2,.vptr [I 1] 0),(4,I 0),(12,I 1),(13,I 0),(16,I 1)],[],[],[[eSh 0 0]],false⟩) (Bi (.k rfl (.k rfl (.k rfl (.cons rfl (VLe.i rfl) (.cons rfl (VLe.i rfl) (.cons rfl (VLe.i rfl) (.cons rfl (VLe.i rfl) .nil))))))) .nil .nil rfl rfl rfl) ?_;refine TsR rfl (A2 (A9 rfl (A5 (A2 (A4 (TsR rfl (A2 ?_)))))));refine Ab (KrN 5 rfl ?_);rw [bit1];refine KrN 5 rfl (.done (KrT ?_));refine Je rfl rfl rfl rfl (by simp [allU]) rfl (by exact ⟨[],rfl⟩) rfl fun b=>?_;refine Al rfl (by cases b<;>simp) ?_;cases b with
 | false =>
   refine A9 rfl ?_;exact Ea ⟨.inl rfl,[],[],[],rfl,rfl,rfl⟩
 | true =>
 refine A7 rfl (A5 (TrR rfl (Ag ?_)));refine Aa (s':=⟨[(0,.yld),(1,plP cb mb),(2,.vptr [I 1] 0),(4,I 0),(12,I 1),(13,I 0),(16,I 2)],[],[],[[eSh 0 0],[eSh 0 1]],false⟩) (Bi (.k rfl (.k rfl (.k rfl (.cons rfl (VLe.i rfl) (.cons rfl (VLe.i rfl) (.cons rfl (VLe.i rfl) (.cons rfl (VLe.i rfl) .nil))))))) .nil .nil rfl rfl rfl) ?_;refine TsR rfl (A2 (A7 rfl (Ak ?_)));refine TrR rfl (Ag ?_);refine Aa (s':=⟨[(0,.yld),(1,plP cb mb),(2,.vptr [I 1] 0),(12,I 1),(13,I 1)],[],[],[[eSh 0 0],[eSh 0 1]],false⟩) (Bi (.k rfl (.k rfl (.k rfl (.cons rfl (VLe.i rfl) (.cons rfl (VLe.i rfl) .nil))))) .nil .nil rfl rfl rfl) ?_;refine TsR rfl (A2 (A7 rfl (Ak ?_)));exact ⟨.inr rfl,[],[],[],rfl,rfl,rfl⟩
end
section
open Go.Am Go
attribute [local simp] cells Af mkv Aq B6 under dem dem1 eB Ac As sB eF chV chC cruC Fv C2 eLeg legC eCru cS eSh F1 pasV yV pV offV Ey In eRe plP
def shP (w:Int):V:=.vptr [I 0,I w] 0
def tbV (tb:Nat):V:=.sref tb 0 4 4
attribute [local simp] shP tbV
theorem bitN:(Uc BinOp.andNot IntKind.i64 1 (IntKind.i64.wrap (1*2^min (Int.toNat 0) IntKind.i64.bits)))=0:=by decide
theorem c_before (cb mb tb:Nat) (w:Int):C Tryz.prog Nw [In cb mb,tbV tb,I 1,eSh 0 w] (.func (.func Du) [] [.vptr [I 1] 0,shP w,plP cb mb,.vptr [tbV tb] 0]):=by
 refine C_of mixed No.2 (by simp) fun S ok=>?_;exact TsR rfl (TsR rfl (A8 rfl rfl rfl rfl trivial))
theorem i_before (cb mb tb:Nat) (w:Int):Iter Tryz.prog Du [.vptr [I 1] 0,shP w,plP cb mb,.vptr [tbV tb] 0] [[eRe (0,0) 0 0]]:=by
 refine Lb mixed Lr.2 (by simp) fun S ok=>?_;refine TsR rfl ?_;refine A2 (Ab (KrN 5 rfl ?_));rw [bitN];refine Krn rfl (.done (KrT ?_));refine A2 (TsR rfl (A9 rfl ?_));refine A2 (Ab (Krn rfl (A6 rfl rfl (Ahj cb mb) (.done (KrT ?_)))));refine H8 rfl trivial rfl (List.prefix_refl _) rfl fun b=>?_;refine Al rfl trivial ?_;exact Ea ⟨.inr rfl,[],[],[],rfl,rfl,rfl⟩
theorem Zv (cb mb tb:Nat) (w:Int):C Tryz.prog Lu [In cb mb,tbV tb,I 1,eSh 0 w] (.func (.func Da) [] [plP cb mb,.vptr [tbV tb] 0,.vptr [I 1] 0,shP w]):=by
 refine C_of mixed Lq.2 (by simp) fun S ok=>?_;exact TsR rfl (TsR rfl (A8 rfl rfl rfl rfl trivial))
theorem Wp {cb mb tb:Nat} {Kc L Kc' L':KM} {w t0 e:Int} (hg:CX Tryz.prog D9 (arP cb mb Kc L) [] [In cb mb,eRe (0,0) 0 0,eSh 0 w] (fun r B=>B=arP cb mb Kc' L'∧r=.tuple [eB (t0,e),.bool true])) (l:Nat) :
  CY Tryz.prog Da l (Q3 [[I e]]) [] (arP cb mb Kc L) [yV l,plP cb mb,.vptr [tbV tb] 0,.vptr [I 1] 0,shP w] (fun _ ys stp B=>ys=[[I e]]∧B=arP cb mb Kc' L'):=by
 refine Ady mixed K6.2 (by simp) fun S ok S1 hE=>?_;refine TsR rfl ?_;refine TsC rfl (A3 rfl rfl (c_before cb mb tb w) (Sfn rfl (A4 ?_)));refine Aa (s':=⟨[(13,.func (.func Du) [] [.vptr [I 1] 0,shP w,plP cb mb,.vptr [tbV tb] 0]),(1,plP cb mb),(4,shP w),(5,.ptr 5 0)],[(5,⟨[yV l],false⟩)],[],encA (arP cb mb Kc L)++[],false⟩) (Bi (.k rfl (.k rfl (.k rfl (.k rfl .nil)))) (.k rfl .nil) .nil rfl rfl rfl) ?_;refine Fz (us:=[.vptr [I 1] 0,shP w,plP cb mb,.vptr [tbV tb] 0]) rfl rfl (i_before cb mb tb w) rfl rfl rfl (by intro x hx;rw [List.mem_singleton.1 hx];rfl) (fun pre t=>t.bx=[(5,⟨[yV l],false⟩)]∧t.rw=[]∧t.log=(if pre=[] then encA (arP cb mb Kc L)++[] else encA (arP cb mb Kc' L')++[[I e]])) (fun x t=>x=.ret∧t.log=encA (arP cb mb Kc' L')++[[I e]]) ⟨rfl,rfl,rfl⟩ ?_ ?_ ?_
 ·rintro a0 L0 rc0 h0 T1 T2 okT1 okT2 pre q t lp hpre ⟨hbx,hrw,hlog⟩ henv hstp;obtain ⟨env,bx,rw,log,stp⟩:=t;simp only at hbx hrw hlog henv hstp;obtain ⟨rfl,rfl⟩:pre=[]∧q=[eRe (0,0) 0 0]:=by
   have hl:=List.IsPrefix.length_le hpre;obtain ⟨u,hu⟩:=hpre;rcases pre with _ | ⟨a,pre⟩
   ·simp at hu;exact ⟨rfl,by simpa using hu.1⟩
   ·simp at hl
  rw [if_pos rfl] at hlog;subst hbx hrw hlog henv hstp;refine TrR rfl ?_;have hE2:=hE.inner (cc:={s:=⟨[(13,.func (.func Du) [] [.vptr [I 1] 0,shP w,plP cb mb,.vptr [tbV tb] 0]),(1,plP cb mb),(4,shP w),(5,.ptr 5 0)],[(5,⟨[yV l],false⟩)],[],encA (arP cb mb Kc L)++[],false⟩,a:=a0,L:=L0,rc:=rc0,h0:=h0,Inv:=fun pre t=>t.bx=[(5,⟨[yV l],false⟩)]∧t.rw=[]∧t.log=(if pre=[] then encA (arP cb mb Kc L)++[] else encA (arP cb mb Kc' L')++[[I e]]),Ix:=fun x t=>x=.ret∧t.log=encA (arP cb mb Kc' L')++[[I e]]}) okT2;refine A4 (A2 (Ae (Hh 4 rfl rfl (A:=arP cb mb Kc L) (ys:=[]) rfl ?_)));have hA:=hE2.inA [] false;refine SrN 3 rfl (Bf (F:=[]) hA rfl rfl rfl hg (.inl (by simp)) fun r B hB=>?_);obtain ⟨rfl,rfl⟩:=hB;refine ⟨_,rfl,Sfn rfl ?_⟩;refine A2 (Ae (SrN 2 rfl (Av rfl rfl (SrN 1 rfl (Av rfl rfl (SrN 1 rfl (Av rfl rfl (SrN 1 rfl ?_))))))));refine Av rfl rfl (Mn hE2 (A:=arP cb mb Kc' L') (ys:=[]) rfl rfl rfl rfl (List.prefix_refl _) fun b=>?_);refine Av rfl rfl (Al rfl (by cases b<;>simp) ?_);cases b with
  | false =>
    refine A9 rfl (Ea ?_);exact ⟨⟨[],[(5,⟨[yV l],false⟩)],[],encA (arP cb mb Kc' L')++[[I e]],true⟩,Bi .nil (.k rfl .nil) .nil rfl rfl rfl,rfl,rfl⟩
  | true =>
    refine A7 rfl (A5 ?_);exact ⟨⟨[],[(5,⟨[yV l],false⟩)],[],encA (arP cb mb Kc' L')++[[I e]],false⟩,Bi .nil (.k rfl .nil) .nil rfl rfl rfl,⟨rfl,rfl,by simp⟩,rfl⟩
 ·rintro t henv hstp ⟨hbx,hrw,hlog⟩;rw [if_neg (by simp)] at hlog;exact ⟨_,⟨_,_,hlog,rfl,rfl⟩,_,_,_,Ck rfl,rfl,rfl⟩
 ·rintro x t henv ⟨rfl,hlog⟩;exact ⟨_,⟨_,_,hlog,rfl,rfl⟩,_,_,_,Ck rfl,rfl,rfl⟩
end
section
open Go.Am Go
attribute [local simp] cells Af mkv Aq B6 under dem dem1 eB Ac As sB eF chV chC cruC Fv C2 eLeg legC eCru cS eSh F1 pasV yV pV offV Ey In eRe plP shP tbV
theorem A4c {A A':Arena} {e:Int} {it:FuncId} {us:List V} (hus:Plain us)
  (hit:∀l,CY Tryz.prog it l (Q3 [[I e]]) [] A (yV l::us) (fun _ ys stp B=>ys=[[I e]]∧B=A')) :
  CX Tryz.prog Gv A [] [.func (.func it) [] us,.func (.func D6) [] []] (fun r B=>B=A'∧r=.tuple [I e,.bool true]):=by
 refine A5u mixed Q0.2 (by simp) fun S1 ok1=>?_;refine TsR rfl ?_;refine Aa (s':=⟨[(0,.func (.func it) [] us),(3,.ptr 3 0),(4,.ptr 4 0),(5,.ptr 5 0)],[(3,⟨[.func (.func D6) [] []],false⟩),(4,⟨[I 0],false⟩),(5,⟨[.bool false],false⟩)],[],encA A,false⟩) (Ad (.k rfl (.k rfl (.k rfl (.k rfl .nil)))) (.k rfl (.k rfl (.k rfl .nil))) .nil (by simp only [E4,List.all_cons,C7 hus];rfl) rfl) ?_;refine A2 (TsR rfl (A4 ?_));refine Aa (s':=⟨[(7,.func (.func it) [] us),(3,.ptr 3 0),(4,.ptr 4 0),(5,.ptr 5 0)],[(3,⟨[.func (.func D6) [] []],false⟩),(4,⟨[I 0],false⟩),(5,⟨[.bool false],false⟩)],[],encA A,false⟩) (Ad (.k rfl (.k rfl (.k rfl (.k rfl .nil)))) (.k rfl (.k rfl (.k rfl .nil))) .nil (by simp only [E4,List.all_cons,C7 hus];rfl) rfl) ?_;refine A4z (F:=[]) (A1:=A) rfl ok1 rfl (hus.d _) rfl hit rfl (by simp only [List.all_cons,C7 hus];rfl) rfl (by
   intro pre x hx;have:=List.IsPrefix.length_le hx;obtain ⟨t,ht⟩:=hx;rcases pre with _ | ⟨a,pre⟩
   ·simp at ht;rw [ht.1];rfl
   ·simp at this)
  (fun pre t=>t.bx=(if pre=[] then [(3,⟨[.func (.func D6) [] []],false⟩),(4,⟨[I 0],false⟩),(5,⟨[.bool false],false⟩)] else [(3,⟨[.func (.func D6) [] []],false⟩),(4,⟨[I e],false⟩),(5,⟨[.bool true],false⟩)])∧t.rw=[]∧t.log=encA [])
  (fun e t=>False) ⟨rfl,rfl,rfl⟩ ?_ ?_ ?_
 ·rintro a0 L0 rc0 h0 T1 T2 okT1 okT2 pre q t lp hpre ⟨hbx,hrw,hlog⟩ henv hstp;obtain ⟨env,bx,rw,log,stp⟩:=t;simp only at hbx hrw hlog henv hstp;obtain ⟨rfl,rfl⟩:pre=[]∧q=[I e]:=by
   have hl:=List.IsPrefix.length_le hpre;obtain ⟨u,hu⟩:=hpre;rcases pre with _ | ⟨a,pre⟩
   ·simp at hu;exact ⟨rfl,hu.1⟩
   ·simp at hl
  rw [if_pos rfl] at hbx;subst hbx hrw hlog henv hstp;refine TrR rfl ?_;refine A4 (A2 (Ae (SrN 6 rfl (Cx (.bool true) rfl rfl rfl (Sfn rfl ?_)))));refine A9 rfl (TrR rfl ?_);exact ⟨⟨[],[(3,⟨[.func (.func D6) [] []],false⟩),(4,⟨[I e],false⟩),(5,⟨[.bool true],false⟩)],[],encA [],false⟩,Bi .nil (.k rfl (.k rfl (.k rfl .nil))) .nil rfl rfl rfl,⟨rfl,rfl,rfl⟩,rfl⟩
 ·rintro t log B F' hlt ⟨rfl,rfl⟩ henv hstp ⟨hbx,hrw,hlog⟩;obtain ⟨env,bx,rw,log,stp⟩:=t;simp only at hbx hrw hlog henv hstp hlt;obtain rfl:=D3 (hlt.symm.trans hlog);rw [if_neg (by simp)] at hbx;subst hbx hrw henv hstp;show Tr _ _ _ _ _;refine A2 (Ab (Krn rfl (.done (KrT ?_))));exact C8 rfl rfl rfl ⟨_,rfl,rfl,rfl⟩
 ·rintro e t log B F' hlt hΦ henv h;exact h.elim
end
section
open Go.Am Go
def L1:KM:=[(kw w1S,.bool true)]
def L2:KM:=L1++[(kw w2S,.bool true)]
def K1:KM:=[(keyC (0,0) 0,.int .i64 0)]
def K2:KM:=K1++[(keyC (10,0) 3,.int .i64 14)]
theorem ok1:gmOk 4 L1:=fun p hp=>by
 rw [List.mem_singleton.1 hp];exact kw_ok (w:=w1S) (by decide) (by decide)
theorem ok2:gmOk 4 L2:=fun p hp=>by
 rcases List.mem_append.1 hp with h | h
 ·exact ok1 p h
 ·rw [List.mem_singleton.1 h];exact kw_ok (w:=w2S) (by decide) (by decide)
theorem Afq {pa:Int×Int} {oa:Int} (h1:inI pa.1) (h2:inI pa.2) (h3:inI oa):(keyC pa oa).length=6∧∀a∈keyC pa oa,inI a:=by
 refine ⟨rfl,fun a ha=>?_⟩;have h0:inI 0:=by unfold inI;omega
 simp only [keyC,List.mem_cons,List.not_mem_nil,or_false] at ha;rcases ha with rfl | rfl | rfl | rfl | rfl | rfl<;>assumption
theorem kA_ok:(keyC (0,0) 0).length=6∧∀a∈keyC (0,0) 0,inI a:=Afq (by unfold inI;simp) (by unfold inI;simp) (by unfold inI;simp)
theorem kB_ok:(keyC (10,0) 3).length=6∧∀a∈keyC (10,0) 3,inI a:=Afq (by unfold inI;simp) (by unfold inI;simp) (by unfold inI;simp)
theorem okK1:gmOk 6 K1:=fun p hp=>by rw [List.mem_singleton.1 hp];exact kA_ok
theorem okK2:gmOk 6 K2:=fun p hp=>by
 rcases List.mem_append.1 hp with h | h
 ·exact okK1 p h
 ·rw [List.mem_singleton.1 h];exact kB_ok
theorem clr1 (mb:Nat):ClrP mb [] L1 w1S:=by
 have h:=Aa6 A7y cS_ok (w:=w1S) (by decide) (by decide) (mb:=mb) (l:=[]) (fun p hp=>by cases hp) (fun p hp=>by cases hp);rw [clear1S] at h;exact h
theorem clr1h (mb:Nat) {L:KM} (hL:L=L1∨L=L2):ClrP mb L L w1S:=by
 rcases hL with rfl | rfl
 ·exact A4e (by decide) (by decide) ok1 (List.mem_singleton.2 rfl) (fun q hq _=>by rw [List.mem_singleton.1 hq])
 ·refine A4e (by decide) (by decide) ok2 (by simp [L2,L1]) (fun q hq he=>?_);rcases List.mem_append.1 hq with h | h
  ·rw [List.mem_singleton.1 h]
  ·rw [List.mem_singleton.1 h]
theorem clr2 (mb:Nat):ClrP mb L1 L2 w2S:=by
 have h:=Aa6 A7y cS_ok (w:=w2S) (by decide) (by decide) (mb:=mb) (l:=L1) ok1 (fun p hp=>by rw [List.mem_singleton.1 hp];decide);rw [clear2S] at h;exact h
theorem goes1 (cb mb:Nat):CX Tryz.prog D9 (arP cb mb [] []) [] [In cb mb,eRe (0,0) 0 0,eSh 0 0] (fun r B=>B=arP cb mb K1 L1∧r=.tuple [eB (7,12),.bool true]) :=
 Aa5 (n:=0) (A7o mb) ⟨_,_,rfl⟩ (cx_bestA mb _) (Aa4 (clr1 mb)) (by omega) (fun p hp=>by cases hp) kA_ok (fun p hp=>by cases hp)
theorem goes2 (cb mb:Nat):CX Tryz.prog D9 (arP cb mb K1 L1) [] [In cb mb,eRe (0,0) 0 0,eSh 0 1] (fun r B=>B=arP cb mb K2 L2∧r=.tuple [eB (14,19),.bool true]) :=
 Aa5 (n:=14) (c_ends2 mb) ⟨_,_,rfl⟩ (cx_bestB (clr1h mb (.inl rfl))) (cx_shot2 (clr2 mb)) (by omega) okK1 kB_ok (fun p hp=>by rw [List.mem_singleton.1 hp];decide)
theorem goes3 (cb mb:Nat):CX Tryz.prog D9 (arP cb mb K2 L2) [] [In cb mb,eRe (0,0) 0 0,eSh 0 0] (fun r B=>B=arP cb mb K2 L2∧r=.tuple [eB (7,12),.bool true]) :=
 cx_goesH (Aa4 (clr1h mb (.inr rfl))) okK2 (by simp [K2,K1]) (fun q hq he=>by
  rcases List.mem_append.1 hq with h | h
  ·rw [List.mem_singleton.1 h]
  ·rw [List.mem_singleton.1 h] at he;exact absurd he (by decide))
def earV (cb mb tb:Nat) (w:Int):List V:=[plP cb mb,.vptr [tbV tb] 0,.vptr [I 1] 0,shP w]
theorem first1 (cb mb tb:Nat):CX Tryz.prog Gv (arP cb mb [] []) [] [.func (.func Da) [] (earV cb mb tb 0),.func (.func D6) [] []] (fun r B=>B=arP cb mb K1 L1∧r=.tuple [I 12,.bool true]) :=
 A4c ⟨fun b=>rfl,fun B R=>rfl⟩ (fun l=>Wp (goes1 cb mb) l)
theorem first2 (cb mb tb:Nat):CX Tryz.prog Gv (arP cb mb K1 L1) [] [.func (.func Da) [] (earV cb mb tb 1),.func (.func D6) [] []] (fun r B=>B=arP cb mb K2 L2∧r=.tuple [I 19,.bool true]) :=
 A4c ⟨fun b=>rfl,fun B R=>rfl⟩ (fun l=>Wp (goes2 cb mb) l)
end
section
open Go.Am Go
attribute [local simp] cells Af mkv Aq B6 under dem dem1 eB Ac As sB eF chV chC cruC Fv C2 eLeg legC eCru cS eSh F1 pasV yV pV offV Ey In eRe plP shP tbV
def tbA (tb cb mb:Nat) (l:List V) (Kc L:KM):Arena:=(tb,.cells l)::arP cb mb Kc L
theorem Rq {tb cb mb:Nat} {l l':List V} {Kc L:KM} (h1:cb≠tb) (h2:mb≠tb):setA (tbA tb cb mb l Kc L) tb (.cells l')=tbA tb cb mb l' Kc L:=by
 simp [setA,tbA,arP,h1,h2]
theorem cx_table (cb mb:Nat):CX Tryz.prog P7 (arP cb mb [] []) [] [In cb mb] (fun r B=>∃tb,B=tbA tb cb mb [I (-1),I (-1),I 12,I 19] K2 L2∧r=tbV tb):=by
 refine Li mixed Oi.2 (by simp) fun S ok S1 hA hK hKD=>?_;refine TsR rfl (TsR rfl ?_);refine Aa (s':=⟨[(1,.ptr 1 0),(3,I 1)],[(1,⟨Ey cb mb,false⟩)],[],encA (arP cb mb [] []),false⟩) (Bi (.k rfl (.cons rfl (VLe.i rfl) .nil)) (.k rfl .nil) .nil rfl rfl rfl) ?_;refine A2 (Ae (SrN 4 rfl (Mq hA (N:=4) rfl (by decide) (by decide) (by omega) (by omega) (by omega) rfl fun tb htb=>Sfn rfl ?_)));have h1:cb≠tb:=fun e=>htb (by simp [arP,e]);have h2:mb≠tb:=fun e=>htb (by simp [arP,e]);refine Aa (s':=⟨[(1,.ptr 1 0),(3,I 1),(4,.ptr 4 0)],[(1,⟨Ey cb mb,false⟩),(4,⟨[tbV tb],false⟩)],[],encA (tbA tb cb mb [I 0,I 0,I 0,I 0] [] []),false⟩) (Bi (.k rfl (.k rfl (.k rfl .nil))) (.k rfl (.k rfl .nil)) .nil rfl rfl rfl) ?_;refine A2 (A2 (Ae (SrN 1 rfl (Ne rfl (Sfn rfl (A4 ?_))))));refine Bd 5 (Ag ?_);refine Aa (s':=⟨[(1,.ptr 1 0),(3,I 1),(4,.ptr 4 0),(23,I 4),(24,I 0)],[(1,⟨Ey cb mb,false⟩),(4,⟨[tbV tb],false⟩)],[],encA (tbA tb cb mb [I 0,I 0,I 0,I 0] [] []),false⟩) (Bi (.k rfl (.k rfl (.k rfl (.cons rfl (VLe.i rfl) (.cons rfl (VLe.i rfl) .nil))))) (.k rfl (.k rfl .nil)) .nil rfl rfl rfl) ?_;refine TsR rfl (A2 (A9 rfl (A5 (A2 (A4 (TsR rfl (Ae (SrN 2 rfl (Fi (j:=0) rfl rfl (by omega) (Bx hA (A:=tbA tb cb mb [I 0,I 0,I 0,I 0] [] []) rfl rfl List.mem_cons_self (by simp) rfl rfl (Al rfl trivial ?_)))))))))));refine TrR rfl (Ag ?_);refine Aa (s':=⟨[(1,.ptr 1 0),(3,I 1),(4,.ptr 4 0),(23,I 4),(24,I 1)],[(1,⟨Ey cb mb,false⟩),(4,⟨[tbV tb],false⟩)],[],encA (tbA tb cb mb [I (-1),I 0,I 0,I 0] [] []),false⟩) (Bi (.k rfl (.k rfl (.k rfl (.cons rfl (VLe.i rfl) (.cons rfl (VLe.i rfl) .nil))))) (.k rfl (.k rfl .nil)) .nil rfl rfl (congrArg encA (Rq h1 h2))) ?_;refine TsR rfl (A2 (A9 rfl (A5 (A2 (A4 (TsR rfl (Ae (SrN 2 rfl (Fi (j:=1) rfl rfl (by omega) (Bx hA (A:=tbA tb cb mb [I (-1),I 0,I 0,I 0] [] []) rfl rfl List.mem_cons_self (by simp) rfl rfl (Al rfl trivial ?_)))))))))));refine TrR rfl (Ag ?_);refine Aa (s':=⟨[(1,.ptr 1 0),(3,I 1),(4,.ptr 4 0),(23,I 4),(24,I 2)],[(1,⟨Ey cb mb,false⟩),(4,⟨[tbV tb],false⟩)],[],encA (tbA tb cb mb [I (-1),I (-1),I 0,I 0] [] []),false⟩) (Bi (.k rfl (.k rfl (.k rfl (.cons rfl (VLe.i rfl) (.cons rfl (VLe.i rfl) .nil))))) (.k rfl (.k rfl .nil)) .nil rfl rfl (congrArg encA (Rq h1 h2))) ?_;refine TsR rfl (A2 (A9 rfl (A5 (A2 (A4 (TsR rfl (Ae (SrN 2 rfl (Fi (j:=2) rfl rfl (by omega) (Bx hA (A:=tbA tb cb mb [I (-1),I (-1),I 0,I 0] [] []) rfl rfl List.mem_cons_self (by simp) rfl rfl (Al rfl trivial ?_)))))))))));refine TrR rfl (Ag ?_);refine Aa (s':=⟨[(1,.ptr 1 0),(3,I 1),(4,.ptr 4 0),(23,I 4),(24,I 3)],[(1,⟨Ey cb mb,false⟩),(4,⟨[tbV tb],false⟩)],[],encA (tbA tb cb mb [I (-1),I (-1),I (-1),I 0] [] []),false⟩) (Bi (.k rfl (.k rfl (.k rfl (.cons rfl (VLe.i rfl) (.cons rfl (VLe.i rfl) .nil))))) (.k rfl (.k rfl .nil)) .nil rfl rfl (congrArg encA (Rq h1 h2))) ?_;refine TsR rfl (A2 (A9 rfl (A5 (A2 (A4 (TsR rfl (Ae (SrN 2 rfl (Fi (j:=3) rfl rfl (by omega) (Bx hA (A:=tbA tb cb mb [I (-1),I (-1),I (-1),I 0] [] []) rfl rfl List.mem_cons_self (by simp) rfl rfl (Al rfl trivial ?_)))))))))));refine TrR rfl (Ag ?_);refine Aa (s':=⟨[(1,.ptr 1 0),(3,I 1),(4,.ptr 4 0),(23,I 4),(24,I 4)],[(1,⟨Ey cb mb,false⟩),(4,⟨[tbV tb],false⟩)],[],encA (tbA tb cb mb [I (-1),I (-1),I (-1),I (-1)] [] []),false⟩) (Bi (.k rfl (.k rfl (.k rfl (.cons rfl (VLe.i rfl) (.cons rfl (VLe.i rfl) .nil))))) (.k rfl (.k rfl .nil)) .nil rfl rfl (congrArg encA (Rq h1 h2))) ?_;refine TsR rfl (A2 (A7 rfl (Ak ?_)))
 refine Aa (s':=⟨[(1,.ptr 1 0),(3,I 1),(4,.ptr 4 0)],[(1,⟨Ey cb mb,false⟩),(4,⟨[tbV tb],false⟩)],[],encA (tbA tb cb mb [I (-1),I (-1),I (-1),I (-1)] [] []),false⟩) (Bi (.k rfl (.k rfl (.k rfl .nil))) (.k rfl (.k rfl .nil)) .nil rfl rfl rfl) ?_;refine A2 (TsR rfl (A4 ?_));refine Bd 3 (Ag ?_);refine Aa (s':=⟨[(1,.ptr 1 0),(3,I 1),(4,.ptr 4 0),(32,I 2),(33,I 0)],[(1,⟨Ey cb mb,false⟩),(4,⟨[tbV tb],false⟩)],[],encA (tbA tb cb mb [I (-1),I (-1),I (-1),I (-1)] [] []),false⟩) (Bi (.k rfl (.k rfl (.k rfl (.cons rfl (VLe.i rfl) (.cons rfl (VLe.i rfl) .nil))))) (.k rfl (.k rfl .nil)) .nil rfl rfl rfl) ?_;refine TsR rfl (A2 (A9 rfl (A5 (A2 (A4 (TsR rfl (TsC rfl (A3 rfl rfl (Uw cb mb 0) (Al rfl trivial (A4 ?_))))))))));refine Aa (s':=⟨[(38,.func (.func C3) [] [plP cb mb,.vptr [I 0] 0]),(1,.ptr 1 0),(3,I 1),(4,.ptr 4 0),(6,.ptr 6 0),(32,I 2),(33,I 0)],[(1,⟨Ey cb mb,false⟩),(4,⟨[tbV tb],false⟩),(6,⟨[I 0],false⟩)],[],encA (tbA tb cb mb [I (-1),I (-1),I (-1),I (-1)] [] []),false⟩) (Bi (.k rfl (.k rfl (.k rfl (.k rfl (.k rfl (.k rfl (.k rfl .nil))))))) (.k rfl (.k rfl (.k rfl .nil))) .nil rfl rfl rfl) ?_;refine Fz rfl rfl (Afw cb mb) rfl rfl rfl (by intro x hx;cases hx) (fun pre t=>t.bx=[(1,⟨Ey cb mb,false⟩),(4,⟨[tbV tb],false⟩),(6,⟨[I 0],false⟩)]∧t.rw=[]∧t.log=encA (tbA tb cb mb [I (-1),I (-1),I (-1),I (-1)] [] [])) (fun e t=>False) ⟨rfl,rfl,rfl⟩ ?_ ?_ ?_
 ·rintro a0 L0 rc0 h0 T1 T2 okT1 okT2 pre q t lp hpre hI henv hstp;exfalso;have:=List.IsPrefix.length_le hpre;simp at this
 rotate_left
 ·rintro e t henv h;exact h.elim
 rintro ⟨env,bx,rw,log,stp⟩ henv hstp ⟨hbx,hrw,hlog⟩;simp only at hbx hrw hlog henv hstp;subst hbx hrw hlog henv hstp;refine TrR rfl (Ag ?_);refine Aa (s':=⟨[(1,.ptr 1 0),(3,I 1),(4,.ptr 4 0),(32,I 2),(33,I 1)],[(1,⟨Ey cb mb,false⟩),(4,⟨[tbV tb],false⟩)],[],encA (tbA tb cb mb [I (-1),I (-1),I (-1),I (-1)] [] []),false⟩) (Bi (.k rfl (.k rfl (.k rfl (.cons rfl (VLe.i rfl) (.cons rfl (VLe.i rfl) .nil))))) (.k rfl (.k rfl .nil)) .nil rfl rfl rfl) ?_;refine TsR rfl (A2 (A9 rfl (A5 (A2 (A4 (TsR rfl (TsC rfl (A3 rfl rfl (Uw cb mb 1) (Al rfl trivial (A4 ?_))))))))));refine Aa (s':=⟨[(38,.func (.func C3) [] [plP cb mb,.vptr [I 1] 0]),(1,.ptr 1 0),(3,I 1),(4,.ptr 4 0),(6,.ptr 6 0),(32,I 2),(33,I 1)],[(1,⟨Ey cb mb,false⟩),(4,⟨[tbV tb],false⟩),(6,⟨[I 1],false⟩)],[],encA (tbA tb cb mb [I (-1),I (-1),I (-1),I (-1)] [] []),false⟩) (Bi (.k rfl (.k rfl (.k rfl (.k rfl (.k rfl (.k rfl (.k rfl .nil))))))) (.k rfl (.k rfl (.k rfl .nil))) .nil rfl rfl rfl) ?_;refine Fz rfl rfl (W5 cb mb) rfl rfl rfl (by intro x hx;simp only [List.mem_cons,List.not_mem_nil,or_false] at hx;rcases hx with rfl | rfl<;>rfl) (fun pre t=>t.bx=[(1,⟨Ey cb mb,false⟩),(4,⟨[tbV tb],false⟩),(6,⟨[I 1],false⟩)]∧t.rw=[]∧t.log=encA (match pre.length with | 0=>tbA tb cb mb [I (-1),I (-1),I (-1),I (-1)] [] [] | 1=>tbA tb cb mb [I (-1),I (-1),I 12,I (-1)] K1 L1 | _=>tbA tb cb mb [I (-1),I (-1),I 12,I 19] K2 L2)) (fun e t=>False) ⟨rfl,rfl,rfl⟩ ?_ ?_ ?_
 ·rintro a0 L0 rc0 h0 T1 T2 okT1 okT2 pre q t lp hpre ⟨hbx,hrw,hlog⟩ henv hstp;obtain ⟨env,bx,rw,log,stp⟩:=t;simp only at hbx hrw hlog henv hstp;have hcase:(pre=[]∧q=[eSh 0 0])∨(pre=[[eSh 0 0]]∧q=[eSh 0 1]):=by
   obtain ⟨u,hu⟩:=hpre;rcases pre with _ | ⟨a,_ | ⟨b,pre⟩⟩
   ·rw [List.nil_append,List.cons_append] at hu;exact .inl ⟨rfl,(List.cons.inj hu).1⟩
   ·rw [List.cons_append,List.cons_append,List.nil_append,List.cons_append] at hu;obtain ⟨e1,e2⟩:=List.cons.inj hu;exact .inr ⟨by rw [e1],(List.cons.inj e2).1⟩
   ·simp at hu
  rcases hcase with ⟨rfl,rfl⟩ | ⟨rfl,rfl⟩
  ·have hlog:log=encA (tbA tb cb mb [I (-1),I (-1),I (-1),I (-1)] [] []):=hlog;subst hbx hrw hlog henv hstp;refine TrR rfl ?_;have hA2:∀c,InA ((env0 Tryz.prog mixed 59 S ok).inner c T2 okT2.ok) S1 [] false:=fun c=>⟨okT2.sub.trans hA.sub,hA.ok⟩;refine A4 (A2 (Ae (SrN 4 rfl (A3 rfl rfl (Zv cb mb tb 0) (Bf (F:=[(tb,.cells [I (-1),I (-1),I (-1),I (-1)])]) (A1:=arP cb mb [] []) (hA2 _) rfl rfl rfl (first1 cb mb tb) (.inl (by simp)) fun r B hB=>?_)))));obtain ⟨rfl,rfl⟩:=hB;refine Sfn rfl ?_;refine TsR rfl (A9 rfl ?_);refine Dz rfl rfl rfl (KrN 4 rfl (A6 rfl rfl (Aad cb mb) (KrN 1 rfl (Co (j:=2) rfl rfl (by omega) (.done (KrT ?_))))));refine Bx (hA2 _) (A:=tbA tb cb mb [I (-1),I (-1),I (-1),I (-1)] K1 L1) rfl rfl List.mem_cons_self (by simp) rfl rfl (Al rfl trivial ?_);exact ⟨⟨[],[(1,⟨Ey cb mb,false⟩),(4,⟨[tbV tb],false⟩),(6,⟨[I 1],false⟩)],[],encA (tbA tb cb mb [I (-1),I (-1),I 12,I (-1)] K1 L1),false⟩,Bi .nil (.k rfl (.k rfl (.k rfl .nil))) .nil rfl rfl (congrArg encA (Rq h1 h2)),⟨rfl,rfl,rfl⟩,rfl⟩
  ·have hlog:log=encA (tbA tb cb mb [I (-1),I (-1),I 12,I (-1)] K1 L1):=hlog;subst hbx hrw hlog henv hstp;refine TrR rfl ?_;have hA2:∀c,InA ((env0 Tryz.prog mixed 59 S ok).inner c T2 okT2.ok) S1 [] false:=fun c=>⟨okT2.sub.trans hA.sub,hA.ok⟩;refine A4 (A2 (Ae (SrN 4 rfl (A3 rfl rfl (Zv cb mb tb 1) (Bf (F:=[(tb,.cells [I (-1),I (-1),I 12,I (-1)])]) (A1:=arP cb mb K1 L1) (hA2 _) rfl rfl rfl (first2 cb mb tb) (.inl (by simp)) fun r B hB=>?_)))));obtain ⟨rfl,rfl⟩:=hB;refine Sfn rfl ?_;refine TsR rfl (A9 rfl ?_);refine Dz rfl rfl rfl (KrN 4 rfl (A6 rfl rfl (Aac cb mb) (KrN 1 rfl (Co (j:=3) rfl rfl (by omega) (.done (KrT ?_))))));refine Bx (hA2 _) (A:=tbA tb cb mb [I (-1),I (-1),I 12,I (-1)] K2 L2) rfl rfl List.mem_cons_self (by simp) rfl rfl (Al rfl trivial ?_);exact ⟨⟨[],[(1,⟨Ey cb mb,false⟩),(4,⟨[tbV tb],false⟩),(6,⟨[I 1],false⟩)],[],encA (tbA tb cb mb [I (-1),I (-1),I 12,I 19] K2 L2),false⟩,Bi .nil (.k rfl (.k rfl (.k rfl .nil))) .nil rfl rfl (congrArg encA (Rq h1 h2)),⟨rfl,rfl,rfl⟩,rfl⟩
 rotate_left
 ·rintro e t henv h;exact h.elim
 rintro ⟨env,bx,rw,log,stp⟩ henv hstp ⟨hbx,hrw,hlog⟩;simp only at hbx hrw hlog henv hstp;have hlog:log=encA (tbA tb cb mb [I (-1),I (-1),I 12,I 19] K2 L2):=hlog;subst hbx hrw hlog henv hstp;refine TrR rfl (Ag ?_);refine Aa (s':=⟨[(1,.ptr 1 0),(3,I 1),(4,.ptr 4 0),(32,I 2),(33,I 2)],[(1,⟨Ey cb mb,false⟩),(4,⟨[tbV tb],false⟩)],[],encA (tbA tb cb mb [I (-1),I (-1),I 12,I 19] K2 L2),false⟩) (Bi (.k rfl (.k rfl (.k rfl (.cons rfl (VLe.i rfl) (.cons rfl (VLe.i rfl) .nil))))) (.k rfl (.k rfl .nil)) .nil rfl rfl rfl) ?_;refine TsR rfl (A2 (A7 rfl (Ak ?_)));refine TsR rfl ?_;exact C8 rfl rfl rfl ⟨_,rfl,tb,rfl,rfl⟩
end
end Go.Proofs.YtabedohjkillfaaGreatDoor
namespace Go.Am
section
open Go.RowKit
theorem Ade {E:Env} {s:St} {K:St→Prop} {d t:Nat} {x y:X} {rest:List Ins} (hx:evXs s.env [x,y]=some [.nils,.nils]) (hk:Steps E rest K (s.put (some d) (.bool true))):Steps E (⟨some d,.raw 8 0 t,[x,y],none⟩::rest) K s:=by
 refine Step1.raw fun slots ops o i ro n a w h hc hs hi R Q next hn=>?_
 obtain ⟨os,cc⟩:=Ba hc;have hgo:=Au cc rfl;obtain ⟨p,q,u,e,e1,e2,rfl⟩:=A10 cc.op;obtain ⟨v1,v2,hu,o1,o2⟩:=(B9 R.1 cc.xs (Ay hx)).two;simp only [List.cons.injEq,and_true] at hu;obtain ⟨hu1,hu2⟩:=hu;subst hu1 hu2;have hp:=Ku o1;have hq:=Ku o2;have hex:(execOp a.eval o).run E.P w=.ok (.value (.bool true)) w:=by
  have g2:(binOp .eql t (.slice none 0 0) (.slice none 0 0)).run E.P w=.ok (.bool true) w:=Lib.run_eql_slice_nil w t e none 0 0 0 0 e2;have g1:(eqGuard .eql t p q (.slice none 0 0) (.slice none 0 0)).run E.P w=.ok () w:=rfl;simp only [execOp,e1,hp,hq,Sem.run_bind,g1,g2,Result.andThen_ok,Sem.run_pure]
 refine B5 (x:=.bool true) (w':=w) hi (Ai hgo) (At cc.op) (.inl hex) (hn _ _ w h hk ?_ rfl);show E.relF _ _ _ _ _ _;rw [(Bq _ _ _).1,(Bq _ _ _).2,Dj];exact Bk (eff:={v:=.bool true}) cc R R.1 (.data (.bool _)) rfl
end
section
open Go.RowKit
theorem Wk.take {E:Env} {S1:Sur} {l0:List (List V)} {s0:Bool} {A:Arena} (hES:E.S=SA S1 l0 s0) {s:St} {t blk:Nat} {cs:List V} (ht:get s.env t=some (.rptr blk 0)) (hl:s.log=encA A) (hA:(blk,Ob.cells cs)∈A) (hb:get s.bx t=none) :
  Wk E s {(s.setB t ⟨cs,false⟩).put (some t) (.ptr t 0) with log:=encA (Ov A blk)}:=by
 intro a w h R;obtain ⟨q1,q2,_⟩:=R.1.env t _ (by rw [fs_g];exact ht);have hsur:SA S1 l0 s0 s.log s.stp h.M w h.φ:=by rw [←hES];exact R.1.sur
 obtain ⟨A0,e,hs,hAr,hS⟩:=hsur;obtain rfl:=D3 (hl.symm.trans e);obtain ⟨vs,et,h1,h2,h3⟩:=hAr.ok _ hA;have hlt:=hAr.lt _ hA;have hfr:=hAr.fr _ hA;have hz:=hAr.z _ hA;simp only at hlt hfr hz h1;have e1:a.tmps.getD t undef=.pointer (some ⟨blk,0,none⟩):=by
  revert q2;generalize a.tmps.getD t undef=x1;intro q2;cases q2 with
  | data r=>cases r;rfl
 have hsur2:E.S (encA (Ov A blk)) s.stp (fun b=>h.M b∨b=blk) w h.φ:=by
  rw [hES];refine ⟨Ov A blk,rfl,hs,⟨A1j hAr.nd,fun p hp=>hAr.ok p (dropA_mem.1 hp).1,fun p hp hM=>?_,fun p hp=>hAr.lt p (dropA_mem.1 hp).1,fun p hp=>hAr.z p (dropA_mem.1 hp).1⟩,?_⟩
  ·rcases hM with hM | hM
   ·exact hAr.fr p (dropA_mem.1 hp).1 hM
   ·exact (dropA_mem.1 hp).2 hM
  ·have eM:(fun b=>(h.M b∨b=blk)∨b∈(Ov A blk).map (·.1))=fun b=>h.M b∨b∈A.map (·.1):=by
    funext b;apply propext;constructor
    ·rintro ((hM | rfl) | hm)
     ·exact .inl hM
     ·exact .inr (List.mem_map.2 ⟨_,hA,rfl⟩)
     ·obtain ⟨p,hp,rfl⟩:=List.mem_map.1 hm;exact .inr (List.mem_map.2 ⟨p,(dropA_mem.1 hp).1,rfl⟩)
    ·rintro (hM | hm)
     ·exact .inl (.inl hM)
     ·obtain ⟨p,hp,rfl⟩:=List.mem_map.1 hm;by_cases eb:p.1=blk
      ·exact .inl (.inr eb)
      ·exact .inr (List.mem_map.2 ⟨p,dropA_mem.2 ⟨hp,eb⟩,rfl⟩)
   rw [eM];exact hS
 have R1:=R.1.grow (S':=E.S) (log':=encA (Ov A blk)) (stp':=s.stp) (fun b=>h.M b∨b=blk) (fun b hb=>.inl hb) (fun b hb=>by
  rcases hb with hb | rfl
  ·exact R.1.mine b hb
  ·exact hlt) hsur2
 have R2:=R1.addBox (d:=t) (blk:=blk) (zs:=cs) (cs:=vs) (e:=et) (by rw [fs_b];exact hb) (.inr rfl) h1 h2 (fun j v x hv hx=>by
  obtain ⟨r1,r2⟩:=h3 j v x hv hx;exact ⟨.data r1,D5 r1,r2⟩) hz (fun i hi=>hfr (R.1.boxM hi)) (fun r hr=>hfr (R.1.rowM hr))
 rw [←W9] at R2;have R3:=R2.put (d:=t) (v:=.ptr t 0) (x:=a.tmps.getD t undef) q1 (by rw [e1];exact .ptr t 0 blk (by simp)) (fun j u z hu hz=>by
  cases j with
  | zero=>simp [cells] at hu;subst hu;intro r sz xs e;cases e
  | succ j=>simp [cells] at hu)
 rw [N0 (by rw [R.1.size];exact q1)] at R3;rw [←Dj] at R3;exact ⟨_,⟨R3,R.2⟩,rfl⟩
end
end Go.Am
namespace Go.Proofs.YtabedohjkillfaaGreatDoor
section
open Go.Am Go
attribute [local simp] cells Af mkv Aq B6 under dem dem1 eB Ac As sB eF chV chC cruC Fv C2 eLeg legC eCru cS eSh F1 pasV yV pV offV Ey In eRe plP shP tbV
theorem c_cloneN:C Tryz.prog Gj [.nils] .nils:=by
 refine C_of mixed Gg.2 (by simp) fun S ok=>?_;refine TsR rfl (A2 (A2 (Ae (SrN 1 rfl (Ade rfl (Sfn rfl (A9 rfl ?_)))))));exact TsR rfl (A8 rfl rfl rfl rfl trivial)
theorem Agu:CX Tryz.prog Xb [] [] [eCru cS] (fun r B=>∃cb mb,B=arP cb mb [] []∧r=.tuple [In cb mb,I 0]):=by
 have kc:=Acs A7y cS_ok;refine Li mixed Vj.2 (by simp) fun S ok S1 hA hK hKD=>?_;refine TsR rfl (A2 (Ae (SrN 1 rfl (Bf (F:=[]) hA rfl rfl rfl kc (.inl (by simp)) fun r B hB=>?_))));obtain ⟨mb,rfl,rfl⟩:=hB;refine Sfn rfl ?_;refine A2 (Ae (SrN 1 rfl (Qu hA (A:=[(mb,gmO [])]) rfl fun cb hcb=>Sfn rfl ?_)));exact C8 rfl rfl rfl ⟨_,rfl,cb,mb,rfl,rfl⟩
def srS:V:=.slice 0 2 [eSh 0 0]
def nxV (fb eb nb cb mb:Nat):V:=.func (.func J4) [] [.rptr fb 0,.rptr eb 0,plP cb mb,.rptr nb 0]
def seB (fb eb:Nat) (v:V):Arena:=[(fb,.cells [v]),(eb,.cells [I 12])]
attribute [local simp] srS nxV
theorem Agw {fb eb nb cb mb:Nat} (hne:eb≠fb):CX Tryz.prog J4 (seB fb eb .nils) [] [srS,eRe (10,0) 0 12,I 0,.rptr fb 0,.rptr eb 0,plP cb mb,.rptr nb 0] (fun r B=>r=.bool true∧B=seB fb eb srS):=by
 refine Li mixed M7.2 (by simp) fun S ok S1 hA hK hKD=>?_;have hset:setA (seB fb eb .nils) fb (.cells ([V.nils].set 0 srS))=seB fb eb srS:=by simp [setA,seB,hne]
 refine TsR rfl (A23 (A2 (TsR rfl (A9 rfl ?_))));refine A2 (Ae (SrN 1 rfl (Bx hA (A:=seB fb eb .nils) (v:=srS) (blk:=fb) (off:=0) rfl rfl List.mem_cons_self (by simp) rfl rfl ?_)));rw [hset];refine Al rfl trivial ?_;refine A2 (Ae (SrN 2 rfl (Bz hA (A:=seB fb eb srS) rfl rfl (show (eb,Ob.cells [I 12])∈_ by simp [seB]) rfl (Sfn rfl ?_))));exact C8 rfl rfl rfl ⟨_,rfl,rfl,rfl⟩
def nbA (fb eb nb cb mb:Nat):Arena:=[(nb,.cells [nxV fb eb nb cb mb])]
theorem Acr {fb eb nb cb mb:Nat} (hne:eb≠fb):CX Tryz.prog J4 (nbA fb eb nb cb mb++(seB fb eb .nils++arP cb mb K2 L2)) [] [.nils,eRe (0,0) 0 0,I 1,.rptr fb 0,.rptr eb 0,plP cb mb,.rptr nb 0] (fun r B=>r=.bool true∧B=nbA fb eb nb cb mb++(arP cb mb K2 L2++seB fb eb srS)):=by
 refine Li mixed M7.2 (by simp) fun S ok S1 hA hK hKD=>?_;refine TsR rfl (A23 (A2 (TsR rfl (A7 rfl (A5 (A2 (Aak ?_)))))));refine A2 (TsC rfl (A3 rfl rfl (Uw cb mb 1) (Al rfl trivial (A4 ?_))));refine Aa (s':=⟨[(23,.func (.func C3) [] [plP cb mb,.vptr [I 1] 0]),(4,.rptr eb 0),(5,plP cb mb),(6,.rptr nb 0),(7,.ptr 7 0),(8,.ptr 8 0),(9,.ptr 9 0),(10,.ptr 10 0)],[(7,⟨[.nils],false⟩),(8,⟨[I 0,I 0,I 0,I 0],false⟩),(9,⟨[I 1],false⟩),(10,⟨[.bool false],false⟩)],[],encA (nbA fb eb nb cb mb++(seB fb eb .nils++arP cb mb K2 L2)),false⟩) (Bi (.k rfl (.k rfl (.k rfl (.k rfl (.k rfl (.k rfl (.k rfl (.k rfl .nil)))))))) (.k rfl (.k rfl (.k rfl (.k rfl .nil)))) .nil rfl rfl rfl) ?_;refine Fz rfl rfl (W5 cb mb) rfl rfl rfl (by intro x hx;simp only [List.mem_cons,List.not_mem_nil,or_false] at hx;rcases hx with rfl | rfl<;>rfl) (fun pre t=>pre=[]∧t.bx=[(7,⟨[.nils],false⟩),(8,⟨[I 0,I 0,I 0,I 0],false⟩),(9,⟨[I 1],false⟩),(10,⟨[.bool false],false⟩)]∧t.rw=[]∧t.log=encA (nbA fb eb nb cb mb++(seB fb eb .nils++arP cb mb K2 L2))) (fun e t=>e=.ret∧t.bx=[(7,⟨[.nils],false⟩),(8,⟨[I 0,I 0,I 0,I 0],false⟩),(9,⟨[I 1],false⟩),(10,⟨[.bool true],false⟩)]∧t.log=encA (nbA fb eb nb cb mb++(arP cb mb K2 L2++seB fb eb srS))) ⟨rfl,rfl,rfl,rfl⟩ ?_ ?_ ?_
 ·rintro a0 L0 rc0 h0 T1 T2 okT1 okT2 pre q t lp hpre ⟨rfl,hbx,hrw,hlog⟩ henv hstp;obtain ⟨env,bx,rw,log,stp⟩:=t;simp only at hbx hrw hlog henv hstp;obtain rfl:q=[eSh 0 0]:=by
   obtain ⟨u,hu⟩:=hpre;rw [List.nil_append,List.cons_append] at hu;exact (List.cons.inj hu).1
  subst hbx hrw hlog henv hstp;have hA2:∀c,InA ((env0 Tryz.prog mixed 57 S ok).inner c T2 okT2.ok) S1 [] false:=fun c=>⟨okT2.sub.trans hA.sub,hA.ok⟩;refine TrR rfl ?_;refine A4 (A2 (Ae (SrN 3 rfl (Bf (F:=nbA fb eb nb cb mb++seB fb eb .nils) (A1:=arP cb mb K2 L2) (hA2 _) rfl rfl rfl (goes3 cb mb) (.inl (by simp)) fun r B hB=>?_))));obtain ⟨rfl,rfl⟩:=hB;refine Sfn rfl ?_;refine Aa (s':=⟨[(4,.rptr eb 0),(5,plP cb mb),(6,.rptr nb 0),(7,.ptr 7 0),(8,.ptr 8 0),(9,.ptr 9 0),(10,.ptr 10 0),(11,.ptr 11 0),(12,.ptr 12 0),(13,.bool true)],[(7,⟨[.nils],false⟩),(8,⟨[I 0,I 0,I 0,I 0],false⟩),(9,⟨[I 1],false⟩),(10,⟨[.bool false],false⟩),(11,⟨[I 0,I 0],false⟩),(12,⟨[I 7,I 12],false⟩)],[],encA (nbA fb eb nb cb mb++(seB fb eb .nils++arP cb mb K2 L2)),false⟩) (Bi (.k rfl (.k rfl (.k rfl (.k rfl (.k rfl (.k rfl (.k rfl (.k rfl (.k rfl (.k rfl .nil)))))))))) (.k rfl (.k rfl (.k rfl (.k rfl (.k rfl (.k rfl .nil)))))) .nil rfl rfl rfl) ?_;refine A2 (A2 (Ae (SrN 3 rfl (Av rfl rfl (SrN 1 rfl (Av rfl rfl (SrN 1 rfl (Av rfl rfl (Bz (hA2 _) (A:=nbA fb eb nb cb mb++(seB fb eb .nils++arP cb mb K2 L2)) rfl rfl (show (eb,Ob.cells [I 12])∈_ by simp [seB]) rfl (Av rfl rfl (Sfn rfl (A7 rfl (A5 ?_)))))))))))));refine A2 (Dz rfl rfl rfl (A:=nbA fb eb nb cb mb++(seB fb eb .nils++arP cb mb K2 L2)) (Br (hA2 _) rfl rfl rfl (show (nb,Ob.cells [nxV fb eb nb cb mb])∈_ by simp [nbA]) (by simp) (KrN 1 rfl (A6 rfl rfl c_cloneN (KrN 7 rfl (A6 rfl rfl (c_after cb mb) (KrN 5 rfl ?_)))))));rw [bitN];refine .done (KrT ?_);refine Pd (Ju (hA2 _) (A:=nbA fb eb nb cb mb++(seB fb eb .nils++arP cb mb K2 L2)) (B:=nbA fb eb nb cb mb++arP cb mb K2 L2++seB fb eb .nils) rfl (by classical exact List.perm_iff_count.2 fun x=>by simp only [List.count_append];omega)) ?_;refine Jf (F:=nbA fb eb nb cb mb++arP cb mb K2 L2) (A1:=seB fb eb .nils) (us:=[srS,eRe (10,0) 0 12,I 0,.rptr fb 0,.rptr eb 0,plP cb mb,.rptr nb 0]) (hA2 _) rfl rfl rfl (Uy (Agw hne)) (.inl (by simp)) fun B hB=>?_;obtain rfl:=hB;refine Al rfl trivial (A9 rfl (TsR rfl (Ea ?_)));exact ⟨⟨[],[(7,⟨[.nils],false⟩),(8,⟨[I 0,I 0,I 0,I 0],false⟩),(9,⟨[I 1],false⟩),(10,⟨[.bool true],false⟩)],[],encA (nbA fb eb nb cb mb++(arP cb mb K2 L2++seB fb eb srS)),false⟩,Bi .nil (.k rfl (.k rfl (.k rfl (.k rfl .nil)))) .nil rfl rfl rfl,rfl,rfl,rfl⟩
 ·rintro t henv hstp ⟨h,_⟩;cases h
 ·rintro e ⟨env,bx,rw,log,stp⟩ henv ⟨rfl,hbx,hlog⟩;simp only at hbx hlog henv;subst hbx hlog henv;exact ⟨_,⟨_,rfl,rfl,rfl⟩,_,_,_,Ck rfl,rfl,rfl⟩
end
end Go.Proofs.YtabedohjkillfaaGreatDoor
