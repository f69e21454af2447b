/-
  Parts of the proof: the abstract machine, the compiled code, contracts of the functions, plain laws (spelled short by a program).
-/
import Derived.Test.YtabedohjkillfaaGreatDoorX1
import Derived.RangeFuncRecord
import Derived.RangeFuncLeaves
import Derived.LoopNIn
set_option maxRecDepth 100000
set_option maxHeartbeats 4000000
set_option linter.unusedVariables false
set_option linter.unusedSimpArgs false
namespace Go.Am
section
open Go.RowKit
inductive Step1 (E:Env) (ins:Ins) (K:St→Prop) (s:St):Prop
 | raw (hr:∀(slots:List (Option Nat)) (ops:Array Oper) (o:Oper) (i:Nat) (ro:Option Nat) (n:Nat) (a:Act) (w:World) (h:Gh),Jd E.P E.nt slots o=some ins→slots=ops.toList.map (·.dst)→ops[i]?=some o→E.rel s a w h →
    ∀(Q:Exit→Act→World→Prop) (next:Act→World→Prop),(∀s' a' w' h',K s'→E.rel s' a' w' h'→h'.y=h.y→next a' w')→wpOpIn (Dm ro) n E.P ops Q i next a w)
 | does {eff:Eff} {rd:List Loc} (hd:Does E s.fs ins eff rd) (hk:K ((s.eff eff).put ins.d eff.v))
 | off {t:Nat} {want:Bool} {gv:V} (v:V) (hg:ins.g=some (t,want)) (hgv:s.fs.g t=some gv) (hgb:Cg want gv=some false) (hk:K (s.put ins.d (.cond false v)))
 | yield {fv:V} {vs us:List V} {ids:List Nat} {vr:Bool→V} (hc:ins.k=.callv) (hg:ins.g=none∨∃t want gv,ins.g=some (t,want)∧s.fs.g t=some gv∧Cg want gv=some true)
    (hx:ins.xs.mapM (evX s.fs)=some (fv::vs)) (hf:(under fv).2=.yld) (hu:∀v∈fv::vs,(under v).1=true) (hd:toDs s.fs.b (vs.map fun v=>(under v).2)=some (us,ids))
    (hp:E.ys (s.log++[us])) (hstp:s.stp=false) (hvr:∀b,vr b=.bool b∨vr b=.cond true (.bool b))
    (hk:∀b,K ((({s with log:=s.log++[us],stp:=!b}:St).eff {v:=vr b,wb:=freeze s.fs.b ids}).put ins.d (vr b)))
def Steps (E:Env):List Ins→(St→Prop)→St→Prop
 | [],K,s=>K s
 | i::r,K,s=>Step1 E i (Steps E r K) s
def Mh (P:Program) (nt:Nat) (ops:Array Oper):Option (List Ins):=ops.toList.mapM (Jd P nt (ops.toList.map (·.dst)))
theorem Me (s:St) (e:Eff) (d:Option Nat) (v:V):((s.eff e).put d v).fs=(s.fs.eff e).put d v:=by
 cases d with
 | none=>simp only [St.put,FSt.put,Gc]
 | some d=>rw [Dj,Gc];rfl
theorem Bq (s:St) (d:Option Nat) (v:V):(s.put d v).log=s.log∧(s.put d v).stp=s.stp:=by cases d<;>exact ⟨rfl,rfl⟩
section
variable {E:Env} {log:List (List V)} {stp:Bool} {σ:FSt} {a:Act} {w:World} {h:Gh} {ro:Option Nat} {n i:Nat} {ops:Array Oper} {slots:List (Option Nat)} {o:Oper} {ins:Ins} {eff:Eff} {rd:List Loc}
theorem O6 {K:St→Prop} {s:St} (st:Step1 E ins K s) (hc:Jd E.P E.nt slots o=some ins) (hs:slots=ops.toList.map (·.dst)) (hi:ops[i]?=some o) (R:E.rel s a w h)
  {Q:Exit→Act→World→Prop} {next:Act→World→Prop} (hn:∀s' a' w' h',K s'→E.rel s' a' w' h'→h'.y=h.y→next a' w'):wpOpIn (Dm ro) n E.P ops Q i next a w:=by
 cases st with
 | raw hr=>exact hr slots ops o i ro n a w h hc hs hi R Q next hn
 | does hd hk =>
   refine Wl hc hs hi hd R fun a' w' h' R' hy=>hn _ a' w' h' hk ?_ hy;show E.relF _ _ _ a' w' h';rw [Me,(Bq _ _ _).1,(Bq _ _ _).2,(G3 _ _).1,(G3 _ _).2];exact R'
 | off v hg hgv hgb hk =>
   obtain ⟨os,cc⟩:=Ba hc;obtain ⟨j,want',t',g1,g2,g3⟩:∃j want t,o.guard=some (j,want)∧slots[j]?=some (some t)∧ins.g=some (t,want):=by
    rcases cc.guard with ⟨e,_⟩ | e
    ·rw [hg] at e;cases e
    ·exact e
   rw [hg] at g3;cases g3;refine F2 cc R hi ((Cs R hs g1 g2 hgv hgb).2 rfl) R.1 rfl v fun a' w' h' R' hy=>hn _ a' w' h' hk ?_ hy;show E.relF _ _ _ a' w' h';rw [(Bq _ _ _).1,(Bq _ _ _).2];have:(s.put ins.d (.cond false v)).fs=s.fs.put ins.d (.cond false v):=by
    cases ins.d with
    | none=>rfl
    | some d=>exact Dj s d _
   rw [this];exact R'
 | @yield fv vs us ids vr hk hg hx hf hu hd hp hstp hvr hkk =>
   obtain ⟨os,cc⟩:=Ba hc;have hw:Region.wanted o (yielded ops a.tmps)=true:=by
    rcases cc.guard with ⟨e,e'⟩ | ⟨j,want',t',g1,g2,g3⟩
    ·exact Ai e'
    ·rcases hg with hg | ⟨t,want,gv,hg,hgv,hgb⟩
     ·rw [hg] at g3;cases g3
     ·rw [hg] at g3;cases g3;exact (Cs R hs g1 g2 hgv hgb).1 rfl
   refine yield_ok hc hi hk hw hx hf hu hd hp hstp R hvr fun b a' w' h' R' hy=>hn _ a' w' h' (hkk b) ?_ hy;show E.relF _ _ _ a' w' h';rw [Me,(Bq _ _ _).1,(Bq _ _ _).2,(G3 _ _).1,(G3 _ _).2];exact R'
theorem E8 {P:Program} {nt:Nat} {il:List Ins} (hc:Mh P nt ops=some il):il.length=ops.size ∧
  ∀(i:Nat) o,ops[i]?=some o→∃ins,il[i]?=some ins∧Jd P nt (ops.toList.map (·.dst)) o=some ins:=by
 unfold Mh at hc;have key:∀(l:List Oper) (il:List Ins) (f:Oper→Option Ins),l.mapM f=some il→il.length=l.length∧∀(i:Nat) o,l[i]?=some o→∃ins,il[i]?=some ins∧f o=some ins:=by
  intro l
  induction l with
  | nil=>intro il f h;simp at h;subst h;exact ⟨rfl,fun i o h=>by simp at h⟩
  | cons x l ih =>
    intro il f h;simp only [List.mapM_cons,Option.bind_eq_bind,Option.bind_eq_some_iff,Option.pure_def,Option.some.injEq] at h;obtain ⟨y,hy,ys,hys,rfl⟩:=h;obtain ⟨h1,h2⟩:=ih ys f hys;refine ⟨by simp [h1],fun i o ho=>?_⟩;cases i with
    | zero=>simp at ho;subst ho;exact ⟨y,rfl,hy⟩
    | succ i=>simp at ho;simpa using h2 i o ho
 obtain ⟨h1,h2⟩:=key _ _ _ hc;exact ⟨by simpa using h1,fun i o ho=>h2 i o (by simpa using ho)⟩
theorem steps_ok {K:St→Prop} {il:List Ins} (hc:Mh E.P E.nt ops=some il) {Q:Exit→Act→World→Prop} (y:Pin)
  (hn:∀s' a' w' h',K s'→E.rel s' a' w' h'→h'.y=y→Q .normal a' w') :
  ∀(m k:Nat) (s:St) (a:Act) (w:World) (h:Gh),k+m=ops.size→Steps E (il.drop k) K s→E.rel s a w h→h.y=y→wpOpsIn (Dm ro) n E.P ops Q (List.range' k m) a w:=by
 obtain ⟨hl,hg⟩:=E8 hc;intro m
 induction m with
 | zero =>
   intro k s a w h hk hs R hy;rw [List.drop_eq_nil_of_le (by omega)] at hs;simp only [List.range'_zero,wpOpsIn];exact hn s a w h hs R hy
 | succ m ih =>
   intro k s a w h hk hs R hy;have hlt:k<ops.size:=by omega
   obtain ⟨ins,h1,h2⟩:=hg k ops[k] (Array.getElem?_eq_getElem hlt);rw [List.range'_succ,wpOpsIn_cons];rw [List.drop_eq_getElem_cons (by omega)] at hs;have e1:il[k]'(by omega)=ins:=by rw [List.getElem?_eq_getElem (by omega)] at h1;exact Option.some.inj h1
   rw [e1] at hs;exact O6 hs h2 rfl (Array.getElem?_eq_getElem hlt) R fun s' a' w' h' k' R' hy'=>ih (k+1) s' a' w' h' (by omega) k' R' (hy'.trans hy)
theorem Aep {K:St→Prop} {il:List Ins} {s:St} {id:Nat} (hc:Mh E.P E.nt ops=some il) (hs:Steps E il K s) (R:E.rel s a w h) {Q:Exit→Act→World→Prop}
  (hn:∀s' a' w' h',K s'→E.rel s' a' w' h'→h'.y=h.y→Q .normal a' w'):(Code.region id ops false).wpIn (Dm ro) n E.P Q a w:=by
 refine wpIn_region ?_;have:=steps_ok (ro:=ro) (n:=n) hc h.y hn ops.size 0 s a w h (by omega) (by simpa using hs) R rfl
 rwa [List.range_eq_range']
end
end
section
open Go.RowKit
theorem b_eq {σ τ:FSt} {i:Nat} (h:τ (.bx i)=σ (.bx i)):τ.b i=σ.b i:=by simp [FSt.b,h]
theorem r_eq {σ τ:FSt} {i:Nat} (h:τ (.row i)=σ (.row i)):τ.r i=σ.r i:=by simp [FSt.r,h]
theorem g_eq {σ τ:FSt} {i:Nat} (h:τ (.slot i)=σ (.slot i)):τ.g i=σ.g i:=by simp [FSt.g,h]
theorem A2l {b b':Nat→Option Box}:∀(n:Nat) (v u:V) (ids:List Nat),toD b n v=some (u,ids)→(∀i∈ids,b' i=b i)→toD b' n v=some (u,ids)
 | 0,v,u,ids,he,_=>by simp [toD] at he
 | n+1,v,u,ids,he,hb=>by
   have ih:=A2l (b:=b) (b':=b') n;have hl:∀{vs us:List V} {ids:List Nat},toDl b n vs=some (us,ids)→(∀i∈ids,b' i=b i)→toDl b' n vs=some (us,ids):=by
    intro vs
    induction vs with
    | nil=>intro us ids h _;exact h
    | cons v vs ihv =>
      intro us ids h hb;simp only [toDl,List.foldr_cons,Jt] at h ⊢;split at h<;>(try (cases h;done));rename_i y i1 ys is h1 h2;simp only [Option.some.injEq,Prod.mk.injEq] at h;obtain ⟨rfl,rfl⟩:=h;have e2:=ihv (us:=ys) (ids:=is) h2 (fun i hi=>hb i (by simp [hi]));simp only [toDl,Jt] at e2;rw [ih _ _ _ h1 (fun i hi=>hb i (by simp [hi])),e2]
   cases v<;>simp only [toD] at he ⊢<;>(try exact he)
   case ptr i off =>
    cases hbi:b i with
    | none=>simp [hbi] at he
    | some bo =>
      simp only [hbi,Option.map_eq_some_iff] at he;obtain ⟨⟨us,js⟩,h3,h4⟩:=he;simp only [Prod.mk.injEq] at h4;obtain ⟨rfl,rfl⟩:=h4;have h5:=hl h3 (fun k hk=>hb k (by simp [hk]));simp only [toDl] at h5;rw [hb i (by simp),hbi];simp only [h5,Option.map_some]
   case func fn first cap =>
    split at he<;>(try (cases he;done));rename_i p i q j h1 h2;cases he;have e1:=hl h1 (fun k hk=>hb k (by simp [hk]));have e2:=hl h2 (fun k hk=>hb k (by simp [hk]));simp only [toDl] at e1 e2;rw [e1,e2]
   case agg cs =>
    simp only [Option.map_eq_some_iff] at he;obtain ⟨⟨us,js⟩,h3,h4⟩:=he;simp only [Prod.mk.injEq] at h4;obtain ⟨rfl,rfl⟩:=h4;have h5:=hl h3 hb;simp only [toDl] at h5;simp only [h5,Option.map_some]
theorem H3 {b b':Nat→Option Box}:∀{vs us:List V} {ids:List Nat},toDs b vs=some (us,ids)→(∀i∈ids,b' i=b i)→toDs b' vs=some (us,ids):=by
 intro vs
 induction vs with
 | nil=>intro us ids h _;exact h
 | cons v vs ihv =>
   intro us ids h hb;simp only [toDs,List.foldr_cons,Jt] at h ⊢;split at h<;>(try (cases h;done));rename_i y i1 ys is h1 h2;simp only [Option.some.injEq,Prod.mk.injEq] at h;obtain ⟨rfl,rfl⟩:=h;have e2:=ihv (us:=ys) (ids:=is) h2 (fun i hi=>hb i (by simp [hi]));simp only [toDs,Jt] at e2;rw [A2l 6 _ _ _ h1 (fun i hi=>hb i (by simp [hi])),e2]
theorem Ja {b b':Nat→Option Box}:∀{ids:List Nat},(∀i∈ids,b' i=b i)→freeze b' ids=freeze b ids:=by
 intro ids h;unfold freeze
 induction ids with
 | nil=>rfl
 | cons i ids ih =>
   simp only [List.filterMap_cons,h i (by simp)];rw [ih fun k hk=>h k (by simp [hk])]
theorem Wf {k:K} {d:Nat} {vs:List V} {σ τ:FSt} {eff:Eff} (he:Bl k d vs σ=some eff) (hb:∀i∈eff.rb,τ.b i=σ.b i) (hr:∀i∈eff.rr,τ.r i=σ.r i):Bl k d vs τ=some eff:=by
 unfold Bl at he ⊢;split at he<;>(try exact he)
 all_goals first
  | (split at he<;>(try (cases he;done))
     rename_i e;cases he;have:=hb _ (List.mem_singleton.2 rfl);simp only [this,e]
     done)
  | (split at he<;>(try (cases he;done))
     rename_i e1 e2;cases he;have h2:=hr _ (List.mem_singleton.2 rfl);have h1:=H3 (b':=τ.b) e1 (fun i hi=>(by cases hi));simp only [h2,e2,h1]
     done)
  | (split at he<;>(try (cases he;done))
     all_goals
      rename_i e2;cases he;have h2:=hr _ (List.mem_singleton.2 rfl);simp only [h2,e2])
end
section
open Go.RowKit
theorem C5 {σ τ:FSt}:∀{xs:List X} {vs:List V},xs.mapM (evX σ)=some vs→(∀l∈Bp xs,τ l=σ l)→xs.mapM (evX τ)=some vs
 | [],vs,h,_=>h
 | x::xs,vs,h,hl=>by
   simp only [List.mapM_cons,Option.bind_eq_bind,Option.bind_eq_some_iff,Option.pure_def,Option.some.injEq] at h ⊢;obtain ⟨v,hv,us,hus,rfl⟩:=h;cases x with
   | t n =>
     refine ⟨v,?_,us,C5 hus (fun l hm=>hl l (by simp [Bp,hm])),rfl⟩;simp only [evX] at hv ⊢;rw [g_eq (hl (.slot n) (by simp [Bp]))];exact hv
   | c c=>exact ⟨v,hv,us,C5 hus (fun l hm=>hl l (by simpa [Bp] using hm)),rfl⟩
theorem N8 {E:Env} {σ τ:FSt} {ins:Ins} {eff:Eff} {rd:List Loc} (hd:Does E σ ins eff rd) (hr:∀l∈rd,τ l=σ l):Does E τ ins eff rd:=by
 cases hd with
 | sem hs=>exact .sem fun τ' h'=>hs τ' fun l hl=>(h' l hl).trans (hr l hl)
 | op hg hx he hp hfn =>
   exact .op hg (C5 hx fun l hl=>hr l (by simp [hl])) (Wf he (fun i hi=>b_eq (hr _ (by simp [hi]))) (fun i hi=>r_eq (hr _ (by simp [hi])))) hp hfn
 | call hk hg hx hd hc =>
   rw [←Ja (b:=σ.b) (b':=τ.b) (fun i hi=>b_eq (hr _ (by simp [hi])))];exact .call hk hg (C5 hx fun l hl=>hr l (by simp [hl])) (H3 hd fun i hi=>b_eq (hr _ (by simp [hi]))) hc
 | callv hk hg hx hd hc =>
   rw [←Ja (b:=σ.b) (b':=τ.b) (fun i hi=>b_eq (hr _ (by simp [hi])))];exact .callv hk hg (C5 hx fun l hl=>hr l (by simp [hl])) (H3 hd fun i hi=>b_eq (hr _ (by simp [hi]))) hc
 | ext hg hx hs=>exact .ext hg (C5 hx fun l hl=>hr l hl) hs
 | gop hg hgv hgb hx he hp hb hw hfn =>
   exact .gop hg (by rw [g_eq (hr _ (by simp))];exact hgv) hgb (C5 hx fun l hl=>hr l (by simp [hl])) (Wf he (fun i hi=>b_eq (hr _ (by simp [hi]))) (fun i hi=>r_eq (hr _ (by simp [hi])))) hp hb hw hfn
 | gcall hk hg hgv hgb hx hd hc =>
   rw [←Ja (b:=σ.b) (b':=τ.b) (fun i hi=>b_eq (hr _ (by simp [hi])))];exact .gcall hk hg (by rw [g_eq (hr _ (by simp))];exact hgv) hgb (C5 hx fun l hl=>hr l (by simp [hl])) (H3 hd fun i hi=>b_eq (hr _ (by simp [hi]))) hc
 | gcallv hk hg hgv hgb hx hf hd hc =>
   rw [←Ja (b:=σ.b) (b':=τ.b) (fun i hi=>b_eq (hr _ (by simp [hi])))];exact .gcallv hk hg (by rw [g_eq (hr _ (by simp))];exact hgv) hgb (C5 hx fun l hl=>hr l (by simp [hl])) hf (H3 hd fun i hi=>b_eq (hr _ (by simp [hi]))) hc
def upF (u σ:FSt):FSt:=fun l=>match u l with | some c=>some c | none=>σ l
def nof:FSt:=fun _=>none
def wrF (ins:Ins) (eff:Eff) (σ:FSt):FSt:=(σ.eff eff).put ins.d eff.v
def wrOf (ins:Ins) (eff:Eff):List Loc:=(match ins.d with | some d=>[.slot d] | none=>[])++eff.wb.map (fun p=>.bx p.1)++eff.wr.map (fun p=>.row p.1)
theorem upF_nof (σ:FSt):upF nof σ=σ:=rfl
theorem A62 (u σ:FSt) (l:Loc) (c:Cell):(upF u σ).set l c=upF (u.set l c) σ:=by
 funext k;by_cases h:k=l
 ·subst h;simp [FSt.set,upF]
 ·simp [FSt.set,upF,h]
theorem wrF_up (ins:Ins) (eff:Eff) (u σ:FSt):wrF ins eff (upF u σ)=upF (wrF ins eff u) σ:=by
 have hb:∀(l:List (Nat×Box)) (u:FSt),l.foldl (fun σ p=>σ.set (.bx p.1) (.b p.2)) (upF u σ)=upF (l.foldl (fun σ p=>σ.set (.bx p.1) (.b p.2)) u) σ:=by
  intro l
  induction l with
  | nil=>intro u;rfl
  | cons p l ih=>intro u;simp only [List.foldl_cons];rw [A62,ih]
 have hr:∀(l:List (Nat×Nat×Nat×Nat)) (u:FSt),l.foldl (fun σ p=>σ.set (.row p.1) (.r p.2.1 p.2.2.1 p.2.2.2)) (upF u σ)=upF (l.foldl (fun σ p=>σ.set (.row p.1) (.r p.2.1 p.2.2.1 p.2.2.2)) u) σ:=by
  intro l
  induction l with
  | nil=>intro u;rfl
  | cons p l ih=>intro u;simp only [List.foldl_cons];rw [A62,ih]
 unfold wrF FSt.eff;rw [hb,hr];cases ins.d with
 | none=>rfl
 | some d=>simp only [FSt.put];rw [A62]
theorem Jl (ins:Ins) (eff:Eff) (σ:FSt):wrF ins eff σ=upF (wrF ins eff nof) σ:=by
 conv=>lhs;rw [←upF_nof σ]
 exact wrF_up ins eff nof σ
theorem Fo {ins:Ins} {eff:Eff} {l:Loc} (h:l∉wrOf ins eff):wrF ins eff nof l=none:=by
 have hb:∀(bs:List (Nat×Box)) (u:FSt),l∉bs.map (fun p=>Loc.bx p.1)→bs.foldl (fun σ p=>σ.set (.bx p.1) (.b p.2)) u l=u l:=by
  intro bs
  induction bs with
  | nil=>intro u _;rfl
  | cons p bs ih =>
    intro u hm;simp only [List.map_cons,List.mem_cons,not_or] at hm;simp only [List.foldl_cons];rw [ih _ hm.2,Sw _ _ hm.1]
 have hr:∀(bs:List (Nat×Nat×Nat×Nat)) (u:FSt),l∉bs.map (fun p=>Loc.row p.1)→bs.foldl (fun σ p=>σ.set (.row p.1) (.r p.2.1 p.2.2.1 p.2.2.2)) u l=u l:=by
  intro bs
  induction bs with
  | nil=>intro u _;rfl
  | cons p bs ih =>
    intro u hm;simp only [List.map_cons,List.mem_cons,not_or] at hm;simp only [List.foldl_cons];rw [ih _ hm.2,Sw _ _ hm.1]
 unfold wrOf at h;simp only [List.mem_append,not_or] at h;have base:nof.eff eff l=none:=by unfold FSt.eff;rw [hr _ _ h.2,hb _ _ h.1.2];rfl
 unfold wrF;cases hd:ins.d with
 | none=>exact base
 | some d =>
   rw [hd] at h;simp only [FSt.put];rw [Sw _ _ (by simpa using h.1.1)];exact base
def FL (us:List FSt) (L:Nat→Bool) (σ:FSt):Nat→FSt
 | 0=>σ
 | k+1=>if L k then upF (us.getD k nof) (FL us L σ k) else FL us L σ k
theorem Yc {us:List FSt} {L:Nat→Bool} {σ:FSt} {i:Nat} {l:Loc} (h1:∀k,k<i→L k=false→us.getD k nof l=none) (h2:∀k,i≤k→L k=true→us.getD k nof l=none) :
  ∀m,i≤m→FL us L σ m l=FL us (fun _=>true) σ i l:=by
 have p1:∀m,m≤i→FL us L σ m l=FL us (fun _=>true) σ m l:=by
  intro m
  induction m with
  | zero=>intro _;rfl
  | succ m ih =>
    intro hm;simp only [FL,if_true];cases hL:L m with
    | true=>simp only [if_true,upF];cases us.getD m nof l<;>simp [ih (by omega)]
    | false=>simp [upF,h1 m (by omega) hL,ih (by omega)]
 intro m hm
 induction m with
 | zero=>obtain rfl:i=0:=by omega
         rfl
 | succ m ih =>
   rcases Nat.lt_or_ge m i with h | h
   ·exact (by omega:m+1=i)▸p1 (m+1) (by omega)
   ·rw [←ih h];simp only [FL];cases hL:L m with
    | true=>simp [upF,h2 m h hL]
    | false=>rfl
theorem Aao {us:List FSt} {L:Nat→Bool} {σ:FSt} {i:Nat} (hL:L i=false) (h:∀k,i<k→L k=true→∀l,us.getD k nof l=none∨us.getD i nof l=none) :
  ∀m,i<m→FL us (fun k=>L k||k==i) σ m=upF (us.getD i nof) (FL us L σ m):=by
 have p1:∀m,m≤i→FL us (fun k=>L k||k==i) σ m=FL us L σ m:=by
  intro m
  induction m with
  | zero=>intro _;rfl
  | succ m ih =>
    intro hm;simp only [FL];have:(m==i)=false:=by simp;omega
    simp only [this,Bool.or_false,ih (by omega)]
 intro m hm
 induction m with
 | zero=>omega
 | succ m ih =>
   rcases Nat.lt_or_ge i m with hlt | hge
   ·simp only [FL];have:(m==i)=false:=by simp;omega
    simp only [this,Bool.or_false,ih hlt];cases hm:L m with
    | false=>rfl
    | true =>
      simp only [if_true];funext l;simp only [upF];rcases h m hlt hm l with e | e
      ·rw [e]
      ·rw [e]
   ·have:m=i:=by omega
    subst this;simp only [FL,beq_self_eq_true,Bool.or_true,if_true,p1 m (Nat.le_refl _),hL];rfl
def dirs (o:Oper):List Nat:=(o.after.toList.filter (Region.binds .any)).map (·.on)
def Aaj (acc:List Nat):List Oper→List Nat
 | []=>acc
 | o::r=>Aaj (acc++[(dirs o).foldl (fun m i=>m ||| ((1 <<< i) ||| acc.getD i 0)) 0]) r
def befs (ops:Array Oper):List Nat:=Aaj [] ops.toList
def Q8 (ops:Array Oper):Bool:=(List.range ops.size).all fun j=>match ops[j]? with | some o=>(dirs o).all fun i=>decide (i<j) | none=>true
def Xf (ops:Array Oper) (L:Nat→Bool):Prop:=∀j o,ops[j]?=some o→L j=true→∀i∈dirs o,L i=true
theorem Zf (acc:List Nat) (L:Nat→Bool):∀(ds:List Nat) (m:Nat),(∀i∈ds,L i=true)→(∀i∈ds,∀k,(acc.getD i 0).testBit k=true→L k=true)→(∀k,m.testBit k=true→L k=true) →
  ∀k,(ds.foldl (fun m i=>m ||| ((1 <<< i) ||| acc.getD i 0)) m).testBit k=true→L k=true
 | [],m,_,_,hm=>hm
 | d::ds,m,h1,h2,hm=>by
   refine Zf acc L ds _ (fun i hi=>h1 i (by simp [hi])) (fun i hi=>h2 i (by simp [hi])) ?_;intro k hk;simp only [Nat.testBit_or,Bool.or_eq_true,Nat.one_shiftLeft,Nat.testBit_two_pow,decide_eq_true_eq] at hk;rcases hk with hk | rfl | hk
   ·exact hm k hk
   ·exact h1 d (by simp)
   ·exact h2 d (by simp) k hk
theorem A4v {ops:Array Oper} {L:Nat→Bool} (hc:Xf ops L):∀(r:List Oper) (acc:List Nat),ops.toList.drop acc.length=r→acc.length≤ops.size →
  (∀j o,j<acc.length→ops[j]?=some o→(∀i∈dirs o,L i=true)→∀i,(acc.getD j 0).testBit i=true→L i=true) →
  ∀j o,j<ops.size→ops[j]?=some o→(∀i∈dirs o,L i=true)→∀i,((Aaj acc r).getD j 0).testBit i=true→L i=true
 | [],acc,hr,hle,h=>fun j o hj=>by
   have:ops.toList.length≤acc.length:=by
    rcases Nat.lt_or_ge acc.length ops.toList.length with h1 | h1
    ·rw [List.drop_eq_getElem_cons h1] at hr;cases hr
    ·exact h1
   exact h j o (by simp at this;omega)
 | p::r,acc,hr,hle,h=>by
   have hlt:acc.length<ops.toList.length:=by
    rcases Nat.lt_or_ge acc.length ops.toList.length with h1 | h1
    ·exact h1
    ·rw [List.drop_eq_nil_of_le h1] at hr;cases hr
   rw [List.drop_eq_getElem_cons hlt] at hr;simp only [List.cons.injEq] at hr;obtain ⟨h1,h2⟩:=hr;have hp:ops[acc.length]?=some p:=by rw [←h1];simp at hlt;simp [hlt]
   simp only [Aaj];refine A4v hc r _ (by simpa using h2) (by simp at hlt ⊢;omega) ?_;intro j o hj ho hd i hi;simp only [List.length_append,List.length_singleton] at hj;rcases Nat.lt_or_ge j acc.length with hlt' | hge
   ·rw [List.getD_eq_getElem?_getD,List.getElem?_append_left hlt',←List.getD_eq_getElem?_getD] at hi;exact h j o hlt' ho hd i hi
   ·have e:j=acc.length:=by omega
    subst e;rw [hp] at ho;cases ho;rw [List.getD_eq_getElem?_getD,List.getElem?_append_right (Nat.le_refl _)] at hi;simp only [Nat.sub_self,List.getElem?_cons_zero,Option.getD_some] at hi;refine Zf acc L (dirs p) 0 hd (fun k hk b hb=>?_) (fun k hk=>by simp at hk) i hi;rcases Nat.lt_or_ge k acc.length with h3 | h3
    ·have hk':k<ops.size:=by simp at hlt;omega
     exact h k ops[k] h3 (Array.getElem?_eq_getElem hk') (hc k _ (Array.getElem?_eq_getElem hk') (hd k hk)) b hb
    ·rw [List.getD_eq_getElem?_getD,List.getElem?_eq_none h3] at hb;simp at hb
theorem Hm {ops:Array Oper} {L:Nat→Bool} (hc:Xf ops L) {j:Nat} {o:Oper} (ho:ops[j]?=some o) (hd:∀i∈dirs o,L i=true) {i:Nat} (hi:((befs ops).getD j 0).testBit i=true):L i=true :=
 A4v hc ops.toList [] (by simp) (by simp) (fun j o h=>by simp at h) j o (Array.getElem?_eq_some_iff.1 ho).1 ho hd i hi
def Abx:List Loc→List Loc→Bool
 | [],_=>false
 | l::r,m=>m.contains l||Abx r m
theorem Bv {a b:List Loc} (h:Abx a b=false):∀l∈a,l∉b:=by
 induction a with
 | nil=>intro l hl;cases hl
 | cons x a ih =>
   simp only [Abx,Bool.or_eq_false_iff,List.contains_eq_mem,decide_eq_false_iff_not] at h;intro l hl;rcases List.mem_cons.1 hl with rfl | hl
   ·exact h.1
   ·exact ih h.2 l hl
def E3 (x y:List Loc×List Loc):Bool:=!(Abx x.1 y.1)&&!(Abx x.1 y.2)&&!(Abx x.2 y.1)
def Gm (bef:List Nat) (fp:List (List Loc×List Loc)):Bool :=
 (List.range fp.length).all fun j=>(List.range j).all fun i=>(bef.getD j 0).testBit i||E3 (fp.getD i ([],[])) (fp.getD j ([],[]))
def Eg (bef:List Nat) (m n:Nat):Bool:=(List.range (n-m)).all fun k=>(List.range (m+k)).all fun i=>(bef.getD (m+k) 0).testBit i
inductive Trace (E:Env):St→List Ins→List (List Loc×List Loc)→St→Prop
 | nil {s:St}:Trace E s [] [] s
 | cons {s s':St} {ins:Ins} {il:List Ins} {eff:Eff} {rd:List Loc} {fp:List (List Loc×List Loc)} (hd:Does E s.fs ins eff rd) (t:Trace E ((s.eff eff).put ins.d eff.v) il fp s'):Trace E s (ins::il) ((wrOf ins eff,rd)::fp) s'
theorem X4 (u:FSt) (us:List FSt) (σ:FSt):∀m,FL (u::us) (fun _=>true) σ (m+1)=FL us (fun _=>true) (upF u σ) m
 | 0=>rfl
 | m+1=>by
   have:=X4 u us σ m;simp only [FL,if_true] at this ⊢;rw [this];rfl
theorem I9 {E:Env} {s s':St} {il:List Ins} {fp:List (List Loc×List Loc)} (t:Trace E s il fp s'):fp.length=il.length∧s'.log=s.log∧s'.stp=s.stp ∧
  ∃us:List FSt,us.length=il.length∧s'.fs=FL us (fun _=>true) s.fs il.length ∧
   ∀i,i<il.length→∃ins eff rd,il[i]?=some ins∧fp[i]?=some (wrOf ins eff,rd)∧us[i]?=some (wrF ins eff nof)∧Does E (FL us (fun _=>true) s.fs i) ins eff rd:=by
 induction t with
 | nil=>exact ⟨rfl,rfl,rfl,[],rfl,rfl,fun i hi=>absurd hi (by simp)⟩
 | @cons s s' ins il eff rd fp hd t ih =>
   obtain ⟨h1,h2,h3,us,h4,h5,h6⟩:=ih;have e:((s.eff eff).put ins.d eff.v).fs=upF (wrF ins eff nof) s.fs:=by rw [Me,←Jl];rfl
   refine ⟨by simp [h1],by rw [h2,(Bq _ _ _).1,(G3 _ _).1],by rw [h3,(Bq _ _ _).2,(G3 _ _).2],wrF ins eff nof::us,by simp [h4],?_,?_⟩
   ·rw [h5,List.length_cons,X4,e]
   ·intro i hi;cases i with
    | zero=>exact ⟨ins,eff,rd,rfl,rfl,rfl,hd⟩
    | succ i =>
      obtain ⟨ins',eff',rd',g1,g2,g3,g4⟩:=h6 i (by simpa using hi);refine ⟨ins',eff',rd',by simpa using g1,by simpa using g2,by simpa using g3,?_⟩;rw [X4,←e];exact g4
section
variable {E:Env} {ro:Option Nat} {n:Nat} {ops:Array Oper}
theorem Is {listed:Array Bool} {i:Nat} (hs:listed.size=ops.size):i∈Region.ready .any ops listed↔i<ops.size∧listed.getD i false=false∧∃o,ops[i]?=some o∧∀k∈dirs o,listed.getD k false=true:=by
 unfold Region.ready;simp only [List.mem_filter,List.mem_range];constructor
 ·rintro ⟨hi,hh⟩;refine ⟨hi,?_,ops[i],Array.getElem?_eq_getElem hi,?_⟩
  ·simp only [Bool.and_eq_true,Bool.not_eq_true'] at hh;have:=hh.1;simp only [Array.getD_eq_getD_getElem?,Array.getElem?_eq_getElem (show i<listed.size by omega),Option.getD_some] at this ⊢;exact this
  ·simp only [Bool.and_eq_true,Array.getElem?_eq_getElem hi,Option.map_some,Option.getD_some,Array.all_eq_true',Bool.or_eq_true,Bool.not_eq_true'] at hh;intro k hk;simp only [dirs,List.mem_map,List.mem_filter] at hk;obtain ⟨e,⟨he,hb⟩,rfl⟩:=hk;rcases hh.2 e (by simpa using he) with h | h
   ·rw [hb] at h;cases h
   ·exact h
 ·rintro ⟨hi,h1,o,ho,h2⟩;refine ⟨hi,?_⟩;rw [Array.getElem?_eq_getElem hi] at ho;cases ho;simp only [Bool.and_eq_true,Array.getElem?_eq_getElem hi,Option.map_some,Option.getD_some,Array.all_eq_true',Bool.or_eq_true,Bool.not_eq_true'];refine ⟨?_,fun e he=>?_⟩
  ·simp only [Array.getD_eq_getD_getElem?,Array.getElem?_eq_getElem (show i<listed.size by omega),Option.getD_some] at h1 ⊢;exact h1
  ·cases hb:Region.binds .any e with
   | false=>exact .inl rfl
   | true=>exact .inr (h2 _ (by simp only [dirs,List.mem_map,List.mem_filter];exact ⟨e,⟨by simpa using he,hb⟩,rfl⟩))
theorem Abz (h:Q8 ops=true) {j:Nat} {o:Oper} (ho:ops[j]?=some o):∀i∈dirs o,i<j:=by
 have hj:=(Array.getElem?_eq_some_iff.1 ho).1;unfold Q8 at h;rw [List.all_eq_true] at h;have:=h j (by simpa using hj);rw [ho] at this;simp only [List.all_eq_true,decide_eq_true_eq] at this;exact this
theorem K4 (hl:Q8 ops=true) {listed:Array Bool} (hs:listed.size=ops.size) (h:Region.ready .any ops listed=[]):∀i,i<ops.size→listed.getD i false=true:=by
 intro i
 induction i using Nat.strongRecOn with
 | _ i ih =>
   intro hi;cases hL:listed.getD i false with
   | true=>rfl
   | false =>
     have:i∈Region.ready .any ops listed:=(Is hs).2 ⟨hi,hL,ops[i],Array.getElem?_eq_getElem hi,fun k hk=>by
      have:=Abz hl (Array.getElem?_eq_getElem hi) k hk;exact ih k this (by omega)⟩
     rw [h] at this;cases this
theorem Dp {listed:Array Bool} {i k:Nat} (hi:i<listed.size):(listed.setIfInBounds i true).getD k false=(listed.getD k false||k==i):=by
 by_cases e:k=i
 ·subst e;simp [hi]
 ·have:i≠k:=fun h=>e h.symm;simp [Array.getElem?_setIfInBounds_ne this,e]
theorem Rl {K:St→Prop} {il:List Ins} (hc:Mh E.P E.nt ops=some il) (hl:Q8 ops=true) {m:Nat} (ht:Eg (befs ops) m ops.size=true) {Q:Exit→Act→World→Prop} (y:Pin)
  (hn:∀s' a' w' h',K s'→E.rel s' a' w' h'→h'.y=y→Q .normal a' w') :
  ∀(fuel k:Nat) (listed:Array Bool) (s:St) (a:Act) (w:World) (h:Gh),k+fuel=ops.size→m≤k→listed.size=ops.size→Xf ops (fun i=>listed.getD i false)→(∀i,i<ops.size→listed.getD i false=decide (i<k)) →
   Steps E (il.drop k) K s→E.rel s a w h→h.y=y→wpAnyIn (Dm ro) n E.P .any ops Q fuel listed a w:=by
 obtain ⟨hlen,hg⟩:=E8 hc;have tot:∀k i,m≤k→k<ops.size→i<k→((befs ops).getD k 0).testBit i=true:=by
  intro k i h1 h2 h3;unfold Eg at ht;rw [List.all_eq_true] at ht;have:=ht (k-m) (by simp;omega);rw [List.all_eq_true] at this;have:=this i (by simp;omega)
  rwa [show m+(k-m)=k by omega] at this
 intro fuel
 induction fuel with
 | zero =>
   intro k listed s a w h hk hm hs hcl hL hst R hy;have all:∀i,i<ops.size→listed.getD i false=true:=fun i hi=>by rw [hL i hi];simp;omega
   have hr:Region.ready .any ops listed=[]:=by
    rw [List.eq_nil_iff_forall_not_mem];intro i hi;obtain ⟨h1,h2,_⟩:=(Is hs).1 hi;rw [all i h1] at h2;cases h2
   rw [List.drop_eq_nil_of_le (by omega)] at hst;exact ⟨hr,hn s a w h hst R hy⟩
 | succ fuel ih =>
   intro k listed s a w h hk hm hs hcl hL hst R hy;have hlt:k<ops.size:=by omega
   refine ⟨fun hr=>?_,fun i hi=>?_⟩
   ·have:=K4 hl hs hr k hlt;rw [hL k hlt] at this;simp at this
   ·obtain ⟨h1,h2,o,ho,h3⟩:=(Is hs).1 hi;have hik:i=k:=by
     rw [hL i h1] at h2;simp only [decide_eq_false_iff_not,Nat.not_lt] at h2;rcases Nat.lt_or_ge k i with h4 | h4
     ·have:=Hm hcl ho h3 (tot i k (by omega) h1 h4);rw [hL k hlt] at this;simp at this
     ·omega
    subst hik;obtain ⟨ins,e1,e2⟩:=hg i o ho;rw [List.drop_eq_getElem_cons (by omega)] at hst;have e3:il[i]'(by omega)=ins:=by rw [List.getElem?_eq_getElem (by omega)] at e1;exact Option.some.inj e1
    rw [e3] at hst;refine O6 hst e2 rfl ho R fun s' a' w' h' k' R' hy'=>ih (i+1) _ s' a' w' h' (by omega) (by omega) (by simpa using hs) ?_ ?_ k' R' (hy'.trans hy)
    ·intro j o' ho' hj d hd;simp only [Dp (show i<listed.size by omega),Bool.or_eq_true,beq_iff_eq] at hj ⊢;rcases hj with hj | rfl
     ·exact .inl (hcl j o' ho' hj d hd)
     ·rw [ho] at ho';cases ho';exact .inl (h3 d hd)
    ·intro j hj;rw [Dp (show i<listed.size by omega),hL j hj];by_cases e:j=i
     ·subst e;simp
     ·have:(j==i)=false:=by simpa using e
      rw [this,Bool.or_false];have:(j<i)=(j<i+1):=by apply propext;omega
      simp [this]
end
end
section
open Go.RowKit
section
variable {E:Env} {ro:Option Nat} {n:Nat} {ops:Array Oper}
theorem N9 {listed:Array Bool} {i fuel:Nat} (hi:i<listed.size) (h:listed.getD i false=false) (hc:listed.toList.count false=fuel+1):(listed.setIfInBounds i true).toList.count false=fuel:=by
 have hi':i<listed.toList.length:=by simpa using hi
 have e:listed.toList[i]=false:=by
  simp only [Array.getD_eq_getD_getElem?,Array.getElem?_eq_getElem hi,Option.getD_some] at h;simpa using h
 rw [Array.toList_setIfInBounds,List.count_set hi',e,hc];simp
theorem Aev {K:St→Prop} {il1 il2:List Ins} {s s1:St} {fp:List (List Loc×List Loc)} (hc:Mh E.P E.nt ops=some (il1++il2)) (hl:Q8 ops=true) (t:Trace E s il1 fp s1)
  (hok:Gm (befs ops) fp=true) (ht:Eg (befs ops) il1.length ops.size=true) (hst:Steps E il2 K s1) {Q:Exit→Act→World→Prop} (y:Pin)
  (hn:∀s' a' w' h',K s'→E.rel s' a' w' h'→h'.y=y→Q .normal a' w') :
  ∃us:List FSt,∀(fuel:Nat) (listed:Array Bool) (a:Act) (w:World) (h:Gh),listed.toList.count false=fuel→listed.size=ops.size→Xf ops (fun i=>listed.getD i false)→(∀i,il1.length≤i→listed.getD i false=false) →
   E.relF s.log s.stp (FL us (fun i=>listed.getD i false) s.fs il1.length) a w h→h.y=y→wpAnyIn (Dm ro) n E.P .any ops Q fuel listed a w:=by
 obtain ⟨t1,t2,t3,us,t4,t5,t6⟩:=I9 t;obtain ⟨hlen,hg⟩:=E8 hc;have hle:il1.length≤ops.size:=by simp at hlen;omega
 have tot:∀k i,il1.length≤k→k<ops.size→i<k→((befs ops).getD k 0).testBit i=true:=by
  intro k i h1 h2 h3;unfold Eg at ht;rw [List.all_eq_true] at ht;have:=ht (k-il1.length) (by simp;omega);rw [List.all_eq_true] at this;have:=this i (by simp;omega)
  rwa [show il1.length+(k-il1.length)=k by omega] at this
 have ap:∀i j,i<j→j<il1.length→((befs ops).getD j 0).testBit i=false→E3 (fp.getD i ([],[])) (fp.getD j ([],[]))=true:=by
  intro i j h1 h2 h3;unfold Gm at hok;rw [List.all_eq_true] at hok;have:=hok j (by simp;omega);rw [List.all_eq_true] at this;have:=this i (by simp;omega);rw [h3] at this;simpa using this
 refine ⟨us,?_⟩;intro fuel
 induction fuel with
 | zero =>
   intro listed a w h hcn hs hcl hpre R hy;have all:∀i,i<ops.size→listed.getD i false=true:=by
    intro i hi;cases hL:listed.getD i false with
    | true=>rfl
    | false =>
      have:false∈listed.toList:=by
       simp only [Array.getD_eq_getD_getElem?,Array.getElem?_eq_getElem (show i<listed.size by omega),Option.getD_some] at hL;rw [←hL];simp
      exact absurd this (List.count_eq_zero.1 hcn)
   have hm:il1.length=ops.size:=by
    rcases Nat.lt_or_ge il1.length ops.size with h1 | h1
    ·have:=all il1.length h1;rw [hpre il1.length (Nat.le_refl _)] at this;cases this
    ·omega
   refine Rl hc hl ht y hn 0 ops.size listed s1 a w h (by omega) (by omega) hs hcl (fun i hi=>by rw [all i hi];simp [hi]) ?_ ?_ hy
   ·rw [List.drop_append_of_le_length (by omega),List.drop_eq_nil_of_le (by omega)];simpa using hst
   ·show E.relF _ _ _ a w h;rw [t2,t3,t5];have e:FL us (fun i=>listed.getD i false) s.fs il1.length=FL us (fun _=>true) s.fs il1.length:=by
     funext l;refine Yc (i:=il1.length) (fun k hk hL=>?_) (fun k hk hL=>?_) _ (Nat.le_refl _)
     ·rw [all k (by omega)] at hL;cases hL
     ·rw [hpre k hk] at hL;cases hL
    rw [e] at R;exact R
 | succ fuel ih =>
   intro listed a w h hcn hs hcl hpre R hy;by_cases hall:∀i,i<il1.length→listed.getD i false=true
   ·have e:FL us (fun i=>listed.getD i false) s.fs il1.length=FL us (fun _=>true) s.fs il1.length:=by
     funext l;refine Yc (i:=il1.length) (fun k hk hL=>?_) (fun k hk hL=>?_) _ (Nat.le_refl _)
     ·rw [hall k hk] at hL;cases hL
     ·rw [hpre k hk] at hL;cases hL
    rw [e] at R;have hLk:∀i,i<ops.size→listed.getD i false=decide (i<il1.length):=fun i hi=>by
     rcases Nat.lt_or_ge i il1.length with h1 | h1
     ·rw [hall i h1];simp [h1]
     ·rw [hpre i h1];simp;omega
    have hfuel:il1.length+(fuel+1)=ops.size:=by
     have e1:listed.toList=List.replicate il1.length true++List.replicate (ops.size-il1.length) false:=by
      apply List.ext_getElem?;intro k;have hk:listed.toList[k]?=if k<ops.size then some (listed.getD k false) else none:=by
       by_cases h1:k<ops.size
       ·simp [h1,show k<listed.size by omega]
       ·simp [h1,show listed.size≤k by omega]
      rw [hk,List.getElem?_append];simp only [List.length_replicate];by_cases h1:k<il1.length
      ·rw [if_pos h1,if_pos (by omega),hall k h1,List.getElem?_replicate,if_pos h1]
      ·rw [if_neg h1,List.getElem?_replicate];by_cases h2:k<ops.size
       ·rw [if_pos h2,if_pos (by omega),hpre k (by omega)]
       ·rw [if_neg h2,if_neg (by omega)]
     rw [e1] at hcn;simp [List.count_append,List.count_replicate] at hcn;omega
    refine Rl hc hl ht y hn (fuel+1) il1.length listed s1 a w h hfuel (Nat.le_refl _) hs hcl hLk ?_ ?_ hy
    ·simpa using hst
    ·show E.relF _ _ _ a w h;rw [t2,t3,t5];exact R
   ·obtain ⟨k0,hk0,hk0'⟩:∃k,k<il1.length∧listed.getD k false=false:=by
     apply Classical.byContradiction;intro hno;exact hall fun i hi=>by
      cases hL:listed.getD i false with
      | true=>rfl
      | false=>exact absurd ⟨i,hi,hL⟩ hno
    refine ⟨fun hr=>?_,fun i hi=>?_⟩
    ·have:=K4 hl hs hr k0 (by omega);rw [hk0'] at this;cases this
    ·obtain ⟨h1,h2,o,ho,h3⟩:=(Is hs).1 hi;have him:i<il1.length:=by
      rcases Nat.lt_or_ge i il1.length with h4 | h4
      ·exact h4
      ·have:=Hm hcl ho h3 (tot i k0 h4 h1 (by omega));rw [hk0'] at this;cases this
     obtain ⟨ins,eff,rd,g1,g2,g3,g4⟩:=t6 i him;obtain ⟨ins',e1,e2⟩:=hg i o ho;rw [List.getElem?_append_left him,g1] at e1;cases e1;have below:∀k,k<i→listed.getD k false=false→∀l,(l∈rd∨l∈wrOf ins eff)→us.getD k nof l=none:=by
      intro k hk hL l hlm;obtain ⟨insk,effk,rdk,q1,q2,q3,q4⟩:=t6 k (by omega);have hb:((befs ops).getD i 0).testBit k=false:=by
       cases hb:((befs ops).getD i 0).testBit k with
       | false=>rfl
       | true=>have:=Hm hcl ho h3 hb;rw [hL] at this;cases this
      have:=ap k i hk him hb;simp only [List.getD_eq_getElem?_getD,q2,g2,Option.getD_some,E3,Bool.and_eq_true,Bool.not_eq_true'] at this;rw [List.getD_eq_getElem?_getD,q3,Option.getD_some];refine Fo fun hm=>?_;rcases hlm with h5 | h5
      ·exact Bv this.1.2 l hm h5
      ·exact Bv this.1.1 l hm h5
     have above:∀k,i<k→listed.getD k false=true→k<il1.length∧∃insk effk rdk,fp[k]?=some (wrOf insk effk,rdk)∧us[k]?=some (wrF insk effk nof)∧E3 (wrOf ins eff,rd) (wrOf insk effk,rdk)=true:=by
      intro k hk hL;have hkm:k<il1.length:=by
       rcases Nat.lt_or_ge k il1.length with h4 | h4
       ·exact h4
       ·rw [hpre k h4] at hL;cases hL
      obtain ⟨insk,effk,rdk,q1,q2,q3,q4⟩:=t6 k hkm;have hks:k<ops.size:=by omega
      have hb:((befs ops).getD k 0).testBit i=false:=by
       cases hb:((befs ops).getD k 0).testBit i with
       | false=>rfl
       | true =>
         have:=Hm hcl (Array.getElem?_eq_getElem hks) (hcl k _ (Array.getElem?_eq_getElem hks) hL) hb;rw [h2] at this;cases this
      have:=ap i k hk hkm hb;simp only [List.getD_eq_getElem?_getD,q2,g2,Option.getD_some] at this;exact ⟨hkm,insk,effk,rdk,q2,q3,this⟩
     have at_i:∀l,(l∈rd∨l∈wrOf ins eff)→FL us (fun i=>listed.getD i false) s.fs il1.length l=FL us (fun _=>true) s.fs i l:=by
      intro l hlm;refine Yc (fun k hk hL=>below k hk hL l hlm) (fun k hk hL=>?_) _ (by omega);rcases Nat.lt_or_ge i k with h5 | h5
      ·obtain ⟨_,insk,effk,rdk,q2,q3,q4⟩:=above k h5 hL;rw [List.getD_eq_getElem?_getD,q3,Option.getD_some];simp only [E3,Bool.and_eq_true,Bool.not_eq_true'] at q4;refine Fo fun hm=>?_;rcases hlm with h6 | h6
       ·exact Bv q4.2 l h6 hm
       ·exact Bv q4.1.1 l h6 hm
      ·obtain rfl:k=i:=by omega
       rw [h2] at hL;cases hL
     have hd:=N8 (τ:=FL us (fun i=>listed.getD i false) s.fs il1.length) g4 (fun l hl=>at_i l (.inl hl));refine Wl e2 rfl ho hd R fun a' w' h' R' hy'=>ih _ a' w' h' (N9 (by omega) h2 hcn) (by simpa using hs) ?_ ?_ ?_ (hy'.trans hy)
     ·intro j o' ho' hj d hd;simp only [Dp (show i<listed.size by omega),Bool.or_eq_true,beq_iff_eq] at hj ⊢;rcases hj with hj | rfl
      ·exact .inl (hcl j o' ho' hj d hd)
      ·rw [ho] at ho';cases ho';exact .inl (h3 d hd)
     ·intro j hj;rw [Dp (show i<listed.size by omega),hpre j hj];have:(j==i)=false:=by simpa using (show j≠i by omega)
      rw [this];rfl
     ·have e:(fun k=>(listed.setIfInBounds i true).getD k false)=fun k=>listed.getD k false||k==i:=by
       funext k;exact Dp (by omega)
      rw [e,Aao h2 (fun k hk hL l=>?_) _ him]
      ·rw [List.getD_eq_getElem?_getD,g3,Option.getD_some,←Jl];exact R'
      ·obtain ⟨_,insk,effk,rdk,q2,q3,q4⟩:=above k hk hL;simp only [List.getD_eq_getElem?_getD,q3,g3,Option.getD_some];simp only [E3,Bool.and_eq_true,Bool.not_eq_true'] at q4;by_cases hm:l∈wrOf insk effk
       ·right
        exact Fo fun hm'=>Bv q4.1.1 l hm' hm
       ·left
        exact Fo hm
theorem drawn_ok {K:St→Prop} {il1 il2:List Ins} {s s1:St} {fp:List (List Loc×List Loc)} {id:Nat} {a:Act} {w:World} {h:Gh} (hc:Mh E.P E.nt ops=some (il1++il2)) (hl:Q8 ops=true) (t:Trace E s il1 fp s1)
  (hok:Gm (befs ops) fp=true) (ht:Eg (befs ops) il1.length ops.size=true) (hst:Steps E il2 K s1) (R:E.rel s a w h) {Q:Exit→Act→World→Prop}
  (hn:∀s' a' w' h',K s'→E.rel s' a' w' h'→h'.y=h.y→Q .normal a' w'):(Code.region id ops true).wpIn (Dm ro) n E.P Q a w:=by
 obtain ⟨us,key⟩:=Aev (ro:=ro) (n:=n) hc hl t hok ht hst h.y hn;refine wpIn_region_any E.mixed ?_;have e0:∀i,(Array.replicate ops.size false).getD i false=false:=fun i=>by
  simp only [Array.getD_eq_getD_getElem?,Array.getElem?_replicate];by_cases h:i<ops.size<;>simp [h]
 refine key ops.size _ a _ h (by simp [List.count_replicate]) (by simp) ?_ (fun i _=>e0 i) ⟨?_,R.2⟩ rfl
 ·intro j o ho hj;have hj:(Array.replicate ops.size false).getD j false=true:=hj;rw [e0] at hj;cases hj
 ·have:FL us (fun i=>(Array.replicate ops.size false).getD i false) s.fs il1.length=s.fs:=by
   have:∀m,FL us (fun i=>(Array.replicate ops.size false).getD i false) s.fs m=s.fs:=by
    intro m
    induction m with
    | zero=>rfl
    | succ m ih =>
      have e:FL us (fun i=>(Array.replicate ops.size false).getD i false) s.fs (m+1)=if (Array.replicate ops.size false).getD m false then upF (us.getD m nof) (FL us (fun i=>(Array.replicate ops.size false).getD i false) s.fs m) else FL us (fun i=>(Array.replicate ops.size false).getD i false) s.fs m:=rfl
      rw [e,e0 m,ih];rfl
   exact this _
  rw [this];exact R.1.drew E.ok
end
end
section
open Go.RowKit
inductive IC where
 | skip
 | label (l:Nat)
 | reg (il:List Ins)
 | draw (bef:List Nat) (il:List Ins)
 | seq (a b:IC)
 | cond (x:X) (a b:IC)
 | block (id:Nat) (a:IC)
 | loop (a:IC)
 | range (x:X) (ps:List Nat) (asg body:IC)
 | exit (id:Nat)
 | scope (a:IC)
 | goto (l:Nat)
 | ret
 | bad
def Ee (P:Program) (nt:Nat):Code→Option IC
 | .skip=>some .skip
 | .label l=>some (.label l)
 | .region _ ops draw=>match Mh P nt ops with
   | none=>some .bad
   | some il=>bif draw then (bif Q8 ops then some (.draw (befs ops) il) else some .bad) else some (.reg il)
 | .seq a b=>(Ee P nt a).bind fun x=>(Ee P nt b).map fun y=>.seq x y
 | .cond c a b=>(Qh c).bind fun z=>(Ee P nt a).bind fun x=>(Ee P nt b).map fun y=>.cond z x y
 | .block id a=>(Ee P nt a).map fun x=>.block id x
 | .loop a=>(Ee P nt a).map fun x=>.loop x
 | .rangeFunc f ps a b=>(Qh f).bind fun z=>(Ee P nt a).bind fun x=>(Ee P nt b).map fun y=>.range z ps.toList x y
 | .exit id=>some (.exit id)
 | .scope a=>(Ee P nt a).map fun x=>.scope x
 | .goto l=>some (.goto l)
 | .ret=>some .ret
 | .refuse _=>some .bad
def Tr (E:Env) (ro:Option Nat) (ic:IC) (Q:Exit→St→Prop) (s:St):Prop :=
 ∀c,Ee E.P E.nt c=some ic→∀n a w h,E.rel s a w h→∀Q':Exit→Act→World→Prop,(∀e s' a' w' h',Q e s'→E.rel s' a' w' h'→h'.y=h.y→Q' e a' w')→c.wpIn (Dm ro) n E.P Q' a w
def Wk (E:Env) (s s':St):Prop:=∀a w h,E.rel s a w h→∃h',E.rel s' a w h'∧h'.y=h.y
theorem Wk.refl {E:Env} (s:St):Wk E s s:=fun a w h R=>⟨h,R,rfl⟩
theorem Wk.trans {E:Env} {s t u:St} (h:Wk E s t) (k:Wk E t u):Wk E s u:=fun a w g R=>by
 obtain ⟨g1,R1,e1⟩:=h a w g R;obtain ⟨g2,R2,e2⟩:=k a w g1 R1;exact ⟨g2,R2,e2.trans e1⟩
def A0j (K:St→Prop) (Q:Exit→St→Prop):Exit→St→Prop
 | .normal=>K
 | e=>Q e
def qBlock (id:Nat) (Q:Exit→St→Prop):Exit→St→Prop
 | .exit i=>bif i.beq id then Q .normal else Q (.exit i)
 | e=>Q e
section
variable {E:Env} {ro:Option Nat} {Q:Exit→St→Prop} {s:St}
theorem Aa {ic:IC} {s':St} (hw:Wk E s s') (h:Tr E ro ic Q s'):Tr E ro ic Q s:=fun c hc n a w g R Q' hq=>by
 obtain ⟨g',R',e⟩:=hw a w g R;exact h c hc n a w g' R' Q' fun e' s'' a' w' h' k R'' ey=>hq e' s'' a' w' h' k R'' (ey.trans e)
theorem Tr.mono {ic:IC} {Q1:Exit→St→Prop} (h:Tr E ro ic Q1 s) (hq:∀e s',Q1 e s'→∃s'',Wk E s' s''∧Q e s''):Tr E ro ic Q s:=fun c hc n a w g R Q' hq' =>
 h c hc n a w g R Q' fun e s' a' w' h' k R' ey=>by
   obtain ⟨s'',hw,hk⟩:=hq e s' k;obtain ⟨h'',R'',e''⟩:=hw a' w' h' R';exact hq' e s'' a' w' h'' hk R'' (e''.trans ey)
def CompInv (P:Program) (nt:Nat) (c:Code):IC→Prop
 | .skip=>c=.skip
 | .label l=>c=.label l
 | .reg il=>∃id ops,c=.region id ops false∧Mh P nt ops=some il
 | .draw bef il=>∃id ops,c=.region id ops true∧Mh P nt ops=some il∧Q8 ops=true∧bef=befs ops
 | .seq x y=>∃a b,c=.seq a b∧Ee P nt a=some x∧Ee P nt b=some y
 | .cond z x y=>∃p a b,c=.cond p a b∧Qh p=some z∧Ee P nt a=some x∧Ee P nt b=some y
 | .block id x=>∃a,c=.block id a∧Ee P nt a=some x
 | .loop x=>∃a,c=.loop a∧Ee P nt a=some x
 | .range z ps x y=>∃p a b,c=.rangeFunc p ps.toArray a b∧Qh p=some z∧Ee P nt a=some x∧Ee P nt b=some y
 | .exit id=>c=.exit id
 | .scope x=>∃a,c=.scope a∧Ee P nt a=some x
 | .goto l=>c=.goto l
 | .ret=>c=.ret
 | .bad=>True
theorem Cb {P:Program} {nt:Nat} {c:Code} {ic:IC} (hc:Ee P nt c=some ic):CompInv P nt c ic:=by
 cases c with
 | skip=>cases hc;exact rfl
 | label l=>cases hc;exact rfl
 | exit l=>cases hc;exact rfl
 | goto l=>cases hc;exact rfl
 | ret=>cases hc;exact rfl
 | refuse l=>cases hc;exact trivial
 | region id ops draw =>
   unfold Ee at hc;cases h1:Mh P nt ops with
   | none=>rw [h1] at hc;cases hc;exact trivial
   | some il =>
     rw [h1] at hc;simp only at hc;cases draw with
     | false=>cases hc;exact ⟨id,ops,rfl,h1⟩
     | true =>
       cases hl:Q8 ops with
       | false=>rw [hl] at hc;cases hc;exact trivial
       | true=>rw [hl] at hc;cases hc;exact ⟨id,ops,rfl,h1,hl,rfl⟩
 | seq a b =>
   unfold Ee at hc;rw [Option.bind_eq_some_iff] at hc;obtain ⟨x,h1,h2⟩:=hc;rw [Option.map_eq_some_iff] at h2;obtain ⟨y,h3,rfl⟩:=h2;exact ⟨a,b,rfl,h1,h3⟩
 | cond p a b =>
   unfold Ee at hc;rw [Option.bind_eq_some_iff] at hc;obtain ⟨z,h0,hc⟩:=hc;rw [Option.bind_eq_some_iff] at hc;obtain ⟨x,h1,h2⟩:=hc;rw [Option.map_eq_some_iff] at h2;obtain ⟨y,h3,rfl⟩:=h2;exact ⟨p,a,b,rfl,h0,h1,h3⟩
 | block id a =>
   unfold Ee at hc;rw [Option.map_eq_some_iff] at hc;obtain ⟨y,h3,rfl⟩:=hc;exact ⟨a,rfl,h3⟩
 | loop a =>
   unfold Ee at hc;rw [Option.map_eq_some_iff] at hc;obtain ⟨y,h3,rfl⟩:=hc;exact ⟨a,rfl,h3⟩
 | rangeFunc p ps a b =>
   unfold Ee at hc;rw [Option.bind_eq_some_iff] at hc;obtain ⟨z,h0,hc⟩:=hc;rw [Option.bind_eq_some_iff] at hc;obtain ⟨x,h1,h2⟩:=hc;rw [Option.map_eq_some_iff] at h2;obtain ⟨y,h3,rfl⟩:=h2;exact ⟨p,a,b,rfl,h0,h1,h3⟩
 | scope a =>
   unfold Ee at hc;rw [Option.map_eq_some_iff] at hc;obtain ⟨y,h3,rfl⟩:=hc;exact ⟨a,rfl,h3⟩
theorem A5 (h:Q .normal s):Tr E ro .skip Q s:=fun c hc n a w g R Q' hq=>by
 obtain rfl:=Cb hc;exact wpIn_skip (hq _ s a w g h R rfl)
theorem Aak {l:Nat} (h:Q .normal s):Tr E ro (.label l) Q s:=fun c hc n a w g R Q' hq=>by
 obtain rfl:=Cb hc;exact wpIn_label (hq _ s a w g h R rfl)
theorem Ak {l:Nat} (h:Q (.exit l) s):Tr E ro (.exit l) Q s:=fun c hc n a w g R Q' hq=>by
 obtain rfl:=Cb hc;exact wpIn_exit (hq _ s a w g h R rfl)
theorem Tr.goto {l:Nat} (h:Q (.goto l) s):Tr E ro (.goto l) Q s:=fun c hc n a w g R Q' hq=>by
 obtain rfl:=Cb hc;exact wpIn_goto (hq _ s a w g h R rfl)
theorem Ea (h:Q .ret s):Tr E ro .ret Q s:=fun c hc n a w g R Q' hq=>by
 obtain rfl:=Cb hc;exact wpIn_ret (hq _ s a w g h R rfl)
theorem Ae {il:List Ins} (h:Steps E il (Q .normal) s):Tr E ro (.reg il) Q s:=fun c hc n a w g R Q' hq=>by
 obtain ⟨id,ops,rfl,h1⟩:=Cb hc;exact Aep h1 h R fun s' a' w' h' k R' e=>hq _ s' a' w' h' k R' e
theorem Tr.draw {bef:List Nat} {il il1 il2:List Ins} {fp:List (List Loc×List Loc)} {s1:St} (t:Trace E s il1 fp s1) (e:il=il1++il2) (hok:Gm bef fp=true) (ht:Eg bef il1.length il.length=true) (h:Steps E il2 (Q .normal) s1) :
  Tr E ro (.draw bef il) Q s:=fun c hc n a w g R Q' hq=>by
 obtain ⟨id,ops,rfl,h1,hl,rfl⟩:=Cb hc;subst e;have hlen:=(E8 h1).1;rw [hlen] at ht;exact drawn_ok h1 hl t hok ht h R fun s' a' w' h' k R' e=>hq _ s' a' w' h' k R' e
theorem A2 {x y:IC} (h:Tr E ro x (A0j (Tr E ro y Q) Q) s):Tr E ro (.seq x y) Q s:=fun c hc n a w g R Q' hq=>by
 obtain ⟨ca,cb,rfl,h1,h2⟩:=Cb hc;refine wpIn_seq (h ca h1 n a w g R _ fun e s' a' w' h' k R' ey=>?_);cases e with
 | normal=>exact k cb h2 n a' w' h' R' Q' fun e s'' a'' w'' h'' k' R'' ey'=>hq e s'' a'' w'' h'' k' R'' (ey'.trans ey)
 | _=>exact hq _ s' a' w' h' k R' ey
theorem An {z:X} {x y:IC} {b:Bool} {v:V} (hv:evX s.fs z=some v) (hb:(under v)=(true,.bool b)) (h1:b=true→Tr E ro x Q s) (h2:b=false→Tr E ro y Q s):Tr E ro (.cond z x y) Q s:=fun c hc n a w g R Q' hq=>by
 obtain ⟨p,ca,cb,rfl,e0,e1,e2⟩:=Cb hc;have ok:=(R.1.opd e0 hv).under (by rw [hb]);rw [hb] at ok;refine wpIn_cond (Jr ok) ?_;cases b with
 | true=>exact h1 rfl ca e1 n a w g R Q' hq
 | false=>exact h2 rfl cb e2 n a w g R Q' hq
theorem A4 {id:Nat} {x:IC} (h:Tr E ro x (qBlock id Q) s):Tr E ro (.block id x) Q s:=fun c hc n a w g R Q' hq=>by
 obtain ⟨ca,rfl,h1⟩:=Cb hc;refine wpIn_block (h ca h1 n a w g R _ fun e s' a' w' h' k R' ey=>?_);cases e with
 | exit i =>
   simp only [qBlock] at k;simp only [Exit.inBlock];by_cases e:i=id
   ·subst e;simp only [Nat.beq_refl,cond_true] at k;simp only [if_true];exact hq _ s' a' w' h' k R' ey
   ·rw [Aai e,cond_false] at k;rw [if_neg e];exact hq _ s' a' w' h' k R' ey
 | _=>exact hq _ s' a' w' h' k R' ey
theorem Sg {p:Nat→Prop} (h:∃n,p n):∃n,p n∧∀m,p m→n≤m:=by
 obtain ⟨n,hn⟩:=h
 induction n using Nat.strongRecOn with
 | _ n ih =>
   by_cases hh:∃m,m<n∧p m
   ·obtain ⟨m,hm,hp⟩:=hh;exact ih m hm hp
   ·exact ⟨n,hn,fun m hm=>by
     rcases Nat.lt_or_ge m n with h1 | h1
     ·exact absurd ⟨m,h1,hm⟩ hh
     ·exact h1⟩
open Classical in
noncomputable def lst (p:Nat→Prop):Nat:=if h:∃n,p n then Classical.choose (Sg h) else 0
theorem A9q {p:Nat→Prop} (h:∃n,p n):p (lst p)∧∀m,p m→lst p≤m:=by
 unfold lst;rw [dif_pos h];exact Classical.choose_spec (Sg h)
theorem Bc {α:Type} {x:IC} (Inv:α→St→Prop) (μ:α→Nat) (x0:α) {s0:St} (hw:Wk E s s0) (h0:Inv x0 s0)
  (round:∀k s,Inv k s→Tr E ro x (A0j (fun s'=>∃k' s'',Wk E s' s''∧Inv k' s''∧μ k'<μ k) Q) s):Tr E ro (.loop x) Q s:=fun c hc n a w g R Q' hq=>by
 obtain ⟨ca,rfl,h1⟩:=Cb hc;obtain ⟨g0,R0,e0⟩:=hw a w g R;refine wpIn_loop (fun a w=>∃k s h,Inv k s∧E.rel s a w h∧h.y=g.y) (fun a w=>lst fun m=>∃k s h,Inv k s∧E.rel s a w h∧h.y=g.y∧m=μ k) ⟨x0,s0,g0,h0,R0,e0⟩ ?_;rintro a w ⟨k,s,h,hI,R,ey⟩;obtain ⟨⟨k1,s1,h1',hI1,R1,ey1,em⟩,hmin⟩:=A9q (p:=fun m=>∃k s h,Inv k s∧E.rel s a w h∧h.y=g.y∧m=μ k) ⟨_,k,s,h,hI,R,ey,rfl⟩;refine round k1 s1 hI1 ca h1 n a w h1' R1 _ fun e s' a' w' h' kk R' ey'=>?_;cases e with
 | normal =>
   obtain ⟨k',s'',hw',hI',hlt⟩:=kk;obtain ⟨h'',R'',ey''⟩:=hw' a' w' h' R';have hy:h''.y=g.y:=ey''.trans (ey'.trans ey1);refine ⟨⟨k',s'',h'',hI',R'',hy⟩,?_⟩;have:=(A9q (p:=fun m=>∃k s h,Inv k s∧E.rel s a' w' h∧h.y=g.y∧m=μ k) ⟨_,k',s'',h'',hI',R'',hy,rfl⟩).2 _ ⟨k',s'',h'',hI',R'',hy,rfl⟩;omega
 | _=>exact hq _ s' a' w' h' kk R' (ey'.trans ey1)
end
end
section
open Go.RowKit
inductive VLe:V→V→Prop
 | refl (v:V):VLe v v
 | dem (r sz:Nat) (xs:List V):VLe (.slice r sz xs) (.slice 0 sz xs)
 | nil (r sz:Nat):VLe .nils (.slice r sz [])
 | agg {cs ds:List V} (hl:cs.length=ds.length) (h:∀(i:Nat) v u,cs[i]?=some v→ds[i]?=some u→VLe v u):VLe (.agg cs) (.agg ds)
theorem VLe.of_eq {v u:V} (h:v=u):VLe v u:=h▸.refl v
inductive LLe:List V→List V→Prop
 | nil:LLe [] []
 | cons {v u:V} {vs us:List V} (h:VLe v u) (t:LLe vs us):LLe (v::vs) (u::us)
theorem LLe.refl:∀l,LLe l l
 | []=>.nil
 | v::l=>.cons (.refl v) (LLe.refl l)
theorem LLe.spec {vs us:List V} (h:LLe vs us):vs.length=us.length∧∀(i:Nat) v u,vs[i]?=some v→us[i]?=some u→VLe v u:=by
 induction h with
 | nil=>exact ⟨rfl,fun i v u h=>by simp at h⟩
 | cons h t ih =>
   refine ⟨by simp [ih.1],fun i v u h1 h2=>?_⟩;cases i with
   | zero=>simp at h1 h2;subst h1 h2;exact h
   | succ i=>simp at h1 h2;exact ih.2 i v u h1 h2
theorem VLe.aggL {cs ds:List V} (h:LLe cs ds):VLe (.agg cs) (.agg ds):=.agg h.spec.1 h.spec.2
def Bw (B:Nat→Bool) (R:Nat→Option (Nat×Nat×Nat)):Nat→V→Bool
 | 0,_=>false
 | n+1,v=>match v with
   | .ptr b _=>B b
   | .slice r sz _=>match r with
     | 0=>true
     | r+1=>match R r with | some (_,s,_)=>s.beq sz | none=>false
   | .func _ f c=>f.all (Bw B R n)&&c.all (Bw B R n)
   | .agg cs=>cs.all (Bw B R n)
   | .cond _ v=>Bw B R n v
   | .bsl b _ _ _=>B b
   | .link b _=>B b
   | _=>true
theorem A0g {w:World} {φ:Nat→Nat} {β β':Nat→Option Nat} {y:Option Nat} {B:Nat→Bool} {R:Nat→Option (Nat×Nat×Nat)} (hb:∀i blk,β i=some blk→B i=true→β' i=some blk) {v:V} {x:Value}
  (hr:Rep w φ β y v x):∀n,Bw B R n v=true→Rep w φ β' y v x:=by
 induction hr with
 | data h=>exact fun _ _=>.data h
 | named r sz xs x h=>exact fun _ _=>.named r sz xs x h
 | ptr b off blk h =>
   intro n hn;cases n with
   | zero=>simp [Bw] at hn
   | succ n=>exact .ptr b off blk (hb _ _ h hn)
 | func fn first cap f' c' hf hc h1 h2 ih1 ih2 =>
   intro n hn;cases n with
   | zero=>simp [Bw] at hn
   | succ n =>
     simp only [Bw,Bool.and_eq_true,List.all_eq_true] at hn;exact .func fn first cap f' c' hf hc (fun i v x a b=>ih1 i v x a b n (hn.1 v (List.mem_of_getElem? a))) (fun i v x a b=>ih2 i v x a b n (hn.2 v (List.mem_of_getElem? a)))
 | agg cs vs hl h ih =>
   intro n hn;cases n with
   | zero=>simp [Bw] at hn
   | succ n =>
     simp only [Bw,List.all_eq_true] at hn;exact .agg cs vs hl (fun i v x a b=>ih i v x a b n (hn v (List.mem_of_getElem? a)))
 | tuple cs vs hl h=>exact fun _ _=>.tuple cs vs hl h
 | cond b v x h h0 ih =>
   intro n hn;cases n with
   | zero=>simp [Bw] at hn
   | succ n=>exact .cond b v x (fun e=>ih e n hn) h0
 | yld l h=>exact fun _ _=>.yld l h
 | tok k l x h hx=>exact fun _ _=>.tok k l x h hx
 | bsl b off sz n cap blk h hc =>
   intro m hm;cases m with
   | zero=>simp [Bw] at hm
   | succ m=>exact .bsl b off sz n cap blk (hb _ _ h hm) hc
 | link b blk k q h =>
   intro m hm;cases m with
   | zero=>simp [Bw] at hm
   | succ m=>exact .link b blk k q (hb _ _ h hm)
theorem Aen {w:World} {φ:Nat→Nat} {β:Nat→Option Nat} {y:Option Nat} {v u:V} (hl:VLe v u):∀{x:Value},Rep w φ β y v x→Rep w φ β y u x:=by
 induction hl with
 | refl v=>exact fun h=>h
 | dem r sz xs=>exact fun h=>A0i (v:=.slice r sz xs) h
 | nil r sz =>
   intro x h;cases h with
   | data h=>cases h;cases r with
     | zero=>exact .data (.slice0 sz _ _)
     | succ r=>exact .named r sz [] _ (.slice0 sz _ _)
 | @agg cs ds hl h ih =>
   intro x hr;have hh:∃vs,x=.agg vs∧cs.length=vs.size∧∀(i:Nat) v y',cs[i]?=some v→vs[i]?=some y'→Rep w φ β y v y':=by
    cases hr with
    | data r=>cases r with
      | agg _ vs hl hh=>exact ⟨vs,rfl,hl,fun i v y hv hy=>.data (hh i v y hv hy)⟩
    | agg _ vs hl hh=>exact ⟨vs,rfl,hl,hh⟩
   obtain ⟨vs,rfl,hl',hh⟩:=hh;refine .agg ds vs (by omega) fun i u z hu hz=>?_;have hi:i<cs.length:=by have:=(List.getElem?_eq_some_iff.1 hu).1;omega
   exact ih i cs[i] u (List.getElem?_eq_getElem hi) hu (hh i _ z (List.getElem?_eq_getElem hi) hz)
theorem A2y {B:Nat→Bool} {R:Nat→Option (Nat×Nat×Nat)} {cs:List V} {n:Nat} (h:Bw B R (n+1) (.agg cs)=true):∀u∈cs,Bw B R n u=true:=by
 simpa only [Bw,List.all_eq_true] using h
theorem A73 {σ σ':FSt} {h h':Gh} {w:World} (hr:∀r q,σ'.r r=some q→(σ.r r=some q∧h'.γ r=h.γ r)∨σ.r r=none) {v u:V} {x:Value} (hl:VLe v u) {n:Nat} (ho:Bw (fun i=>(σ'.b i).isSome) σ'.r n u=true)
  (hx:∀r sz,u=.slice (r+1) sz []→v=.nils→x=.slice none 0 0) (g:Grow σ h w v x):Grow σ' h' w u x:=by
 intro r sz xs e;subst e;cases n with
 | zero=>simp [Bw] at ho
 | succ n =>
   simp only [Bw] at ho;cases hq:σ'.r r with
   | none=>rw [hq] at ho;simp at ho
   | some q =>
     obtain ⟨m,s',e⟩:=q;rw [hq] at ho;have hs:s'=sz:=Nat.eq_of_beq_eq_true ho;subst hs;cases hl with
     | refl =>
       obtain ⟨m',e',h1,h2,h3⟩:=g r s' xs rfl;rcases hr r _ hq with ⟨h4,h5⟩ | h4
       ·rw [h1] at h4;cases h4;refine ⟨_,_,rfl,h2,fun hm=>?_⟩;rw [h5];exact h3 hm
       ·rw [h1] at h4;cases h4
     | nil=>exact ⟨m,e,rfl,by simp,fun _=>.inl ⟨rfl,hx r s' rfl rfl⟩⟩
theorem A14 {w:World} {φ:Nat→Nat} {β:Nat→Option Nat} {y:Option Nat} {x:Value} (h:Rep w φ β y .nils x):x=.slice none 0 0:=by
 cases h with
 | data h=>cases h;rfl
theorem growV_le {σ σ':FSt} {h h':Gh} {w:World} (hr:∀r q,σ'.r r=some q→(σ.r r=some q∧h'.γ r=h.γ r)∨σ.r r=none) {v u:V} {x:Value} (hl:VLe v u) {n:Nat} (ho:Bw (fun i=>(σ'.b i).isSome) σ'.r n u=true)
  (hrep:Rep w h.φ h.β h.y.l v x) (g:GrowV σ h w v x):GrowV σ' h' w u x:=by
 intro j u' z hu hz;by_cases ha:∃ds,u=.agg ds
 ·obtain ⟨ds,rfl⟩:=ha;have hv:∃cs,v=.agg cs∧cs.length=ds.length∧∀(i:Nat) v u,cs[i]?=some v→ds[i]?=some u→VLe v u:=by
   cases hl with
   | refl=>exact ⟨ds,rfl,rfl,fun i v u h1 h2=>by rw [h1] at h2;cases h2;exact .refl _⟩
   | agg hl h=>exact ⟨_,rfl,hl,h⟩
  obtain ⟨cs,rfl,hlen,hh⟩:=hv;have hi:j<cs.length:=by have:=(List.getElem?_eq_some_iff.1 hu).1;simp only [cells] at this;omega
  have hcj:(cells (.agg cs))[j]?=some cs[j]:=List.getElem?_eq_getElem hi;cases n with
  | zero=>simp [Bw] at ho
  | succ n =>
    refine A73 hr (hh j _ u' hcj hu) (A2y ho u' (List.mem_of_getElem? hu)) (fun r sz e1 e2=>?_) (g j _ z hcj hz);have hz':∃vs,x=.agg vs∧∀(i:Nat) v y',cs[i]?=some v→vs[i]?=some y'→Rep w h.φ h.β h.y.l v y':=by
     cases hrep with
     | data r=>cases r with
       | agg _ vs hl hh=>exact ⟨vs,rfl,fun i v y hv hy=>.data (hh i v y hv hy)⟩
     | agg _ vs hl hh=>exact ⟨vs,rfl,hh⟩
    obtain ⟨vs,rfl,hvs⟩:=hz';have:=hvs j _ z hcj hz;rw [e2] at this;exact A14 this
 ·have hc:cells u=[u]:=by cases u<;>first | rfl | exact absurd ⟨_,rfl⟩ ha
  rw [hc] at hu;cases j with
  | succ j=>simp at hu
  | zero =>
    simp at hu;subst hu;intro r sz xs e;subst e;have hx:x.cells=#[x]:=by
     have:=Aen hl hrep;cases this with
     | data q=>cases q
     | named r sz xs x q=>cases q<;>rfl
    have hxz:z=x:=by rw [hx] at hz;simpa using hz.symm
    subst hxz;have hv:cells v=[v]:=by
     cases hl with
     | refl=>rfl
     | nil=>rfl
    exact A73 hr hl ho (fun r sz e1 e2=>by subst e2;exact A14 hrep) (g 0 v z (by rw [hv];rfl) (by rw [hx];rfl)) r sz xs rfl
theorem Rel.weakX {nt:Nat} {S:Sur} {log:List (List V)} {stp:Bool} {σ σ':FSt} {a:Act} {w:World} {h:Gh} (R:Rel nt S log stp σ a w h)
  (henv:∀t u,σ'.g t=some u→∃v,σ.g t=some v∧VLe v u∧Bw (fun i=>(σ'.b i).isSome) σ'.r 6 u=true)
  (hbx:∀i bo',σ'.b i=some bo'→∃bo,σ.b i=some bo∧bo'.fz=bo.fz∧LLe bo.cs bo'.cs∧bo'.cs.all (Bw (fun i=>(σ'.b i).isSome) σ'.r 6)=true)
  (hrw:∀r q,σ'.r r=some q→σ.r r=some q∨(σ.r r=none∧q.1=0)) (hp:∀i,(h.y.p i).isSome=true→(σ'.b i).isSome=true) :
  ∃h',Rel nt S log stp σ' a w h'∧h'.y=h.y∧h'.φ=h.φ∧h'.M=h.M∧(∀i blk,h'.β i=some blk→h.β i=some blk∧(σ'.b i).isSome=true)∧∀r blk,h'.γ r=some blk→h.γ r=some blk:=by
 have hγ:∀r blk,h.γ r=some blk→(σ.r r).isSome=true:=R.rdom;refine ⟨{h with β:=fun i=>if (σ'.b i).isSome then h.β i else none,γ:=fun r=>if (σ'.r r).isSome then h.γ r else none},?_,rfl,rfl,rfl,fun i blk hb=>?_,fun r blk hb=>?_⟩;rotate_left
 ·cases hs:(σ'.b i).isSome with
  | true=>simp only [hs,if_true] at hb;exact ⟨hb,rfl⟩
  | false=>simp only [hs] at hb;cases hb
 ·cases hs:(σ'.r r).isSome with
  | true=>simp only [hs,if_true] at hb;exact hb
  | false=>simp only [hs] at hb;cases hb
 have hβ:∀i blk,h.β i=some blk→(σ'.b i).isSome=true→(if (σ'.b i).isSome then h.β i else none)=some blk:=fun i blk e1 e2=>by rw [if_pos e2];exact e1
 have hg:∀r q,σ'.r r=some q→(σ.r r=some q∧(if (σ'.r r).isSome then h.γ r else none)=h.γ r)∨σ.r r=none:=fun r q hq=>by
  rcases hrw r q hq with h1 | h1
  ·exact .inl ⟨h1,by rw [hq];rfl⟩
  ·exact .inr h1.1
 exact {
  size:=R.size
  env:=fun t u hu=>by
   obtain ⟨v,h1,h2,h3⟩:=henv t u hu;obtain ⟨g1,g2,g3⟩:=R.env t v h1;exact ⟨g1,A0g hβ (Aen h2 g2) 6 h3,growV_le (h:=h) hg h2 h3 g2 g3⟩
  bx:=fun i bo' hb=>by
   obtain ⟨bo,h1,h2,h3,h4⟩:=hbx i bo' hb;obtain ⟨blk,cs,e,q1,q2,q3,q4,q5,q6⟩:=R.bx i bo h1;obtain ⟨l1,l2⟩:=h3.spec;refine ⟨blk,cs,e,hβ i blk q1 (by rw [hb];rfl),q2,q3,by rw [←l1];exact q4,fun j u x hu hx=>?_,by rw [h2,←l1];exact q6⟩;have hj:j<bo.cs.length:=by have:=(List.getElem?_eq_some_iff.1 hu).1;omega
   have hv:=List.getElem?_eq_getElem hj;obtain ⟨p1,p2,p3⟩:=q5 j _ x hv hx;have hle:=l2 j _ u hv hu;have ho:Bw (fun i=>(σ'.b i).isSome) σ'.r 6 u=true:=by
    rw [List.all_eq_true] at h4;exact h4 u (List.mem_of_getElem? hu)
   refine ⟨A0g hβ (Aen hle p1) 6 ho,A73 hg hle ho (fun r sz e1 e2=>by rw [e2] at p1;exact A14 p1) p2,?_⟩;generalize bo.cs[j]=v at hle p3;cases hle with
   | refl=>exact p3
   | dem=>rfl
   | nil=>rfl
   | agg=>simp [Af] at p3
  dom:=fun i blk hb=>by
   cases hs:(σ'.b i).isSome with
   | true=>rfl
   | false=>simp only [hs] at hb;cases hb
  inj:=fun i j blk h1 h2=>by
   cases hs:(σ'.b i).isSome with
   | false=>simp only [hs] at h1;cases h1
   | true =>
     cases ht:(σ'.b j).isSome with
     | false=>simp only [ht] at h2;cases h2
     | true=>simp only [hs,ht,if_true] at h1 h2;exact R.inj i j blk h1 h2
  rows:=fun r n sz e hr=>by
   rcases hrw r _ hr with h1 | ⟨h1,h2⟩
   ·rcases R.rows r n sz e h1 with ⟨q1,q2⟩ | ⟨b,cs,q1,q2⟩
    ·exact .inl ⟨by simp only [hr,Option.isSome_some,if_true];exact q1,q2⟩
    ·exact .inr ⟨b,cs,by simp only [hr,Option.isSome_some,if_true];exact q1,q2⟩
   ·refine .inl ⟨?_,h2⟩;simp only [hr,Option.isSome_some,if_true];cases hx:h.γ r with
    | none=>rfl
    | some blk=>have:=hγ r blk hx;rw [h1] at this;cases this
  rdom:=fun r blk hb=>by
   cases hs:(σ'.r r).isSome with
   | true=>rfl
   | false=>simp only [hs] at hb;cases hb
  rinj:=fun i j blk h1 h2=>by
   cases hs:(σ'.r i).isSome with
   | false=>simp only [hs] at h1;cases h1
   | true =>
     cases ht:(σ'.r j).isSome with
     | false=>simp only [ht] at h2;cases h2
     | true=>simp only [hs,ht,if_true] at h1 h2;exact R.rinj i j blk h1 h2
  apart:=fun i r blk h1 h2=>by
   cases hs:(σ'.b i).isSome with
   | false=>simp only [hs] at h1;cases h1
   | true =>
     cases ht:(σ'.r r).isSome with
     | false=>simp only [ht] at h2;cases h2
     | true=>simp only [hs,ht,if_true] at h1 h2;exact R.apart i r blk h1 h2
  pins:=fun i blk hb=>hβ i blk (R.pins i blk hb) (hp i (by rw [hb];rfl))
  mine:=R.mine
  top:=R.top
  marks:=R.marks
  sur:=R.sur}
theorem Rel.weak {nt:Nat} {S:Sur} {log:List (List V)} {stp:Bool} {σ σ':FSt} {a:Act} {w:World} {h:Gh} (R:Rel nt S log stp σ a w h)
  (henv:∀t u,σ'.g t=some u→∃v,σ.g t=some v∧VLe v u∧Bw (fun i=>(σ'.b i).isSome) σ'.r 6 u=true)
  (hbx:∀i bo',σ'.b i=some bo'→∃bo,σ.b i=some bo∧bo'.fz=bo.fz∧LLe bo.cs bo'.cs∧bo'.cs.all (Bw (fun i=>(σ'.b i).isSome) σ'.r 6)=true)
  (hrw:∀r q,σ'.r r=some q→σ.r r=some q∨(σ.r r=none∧q.1=0)) (hp:∀i,(h.y.p i).isSome=true→(σ'.b i).isSome=true) :
  ∃h',Rel nt S log stp σ' a w h'∧h'.y=h.y:=by
 obtain ⟨h',a,b,_⟩:=R.weakX henv hbx hrw hp;exact ⟨h',a,b⟩
theorem Md {α:Type}:∀(l:List (Nat×α)) (i:Nat) (x:α),get l i=some x→(i,x)∈l
 | [],i,x,h=>by simp [get] at h
 | (k,v)::r,i,x,h=>by
   simp only [get] at h;cases e:k.beq i with
   | true=>rw [e] at h;cases h;have:=Nat.eq_of_beq_eq_true e;subst this;simp
   | false=>rw [e] at h;exact List.mem_cons_of_mem _ (Md r i x h)
inductive EnvLe (s:St):List (Nat×V)→Prop
 | nil:EnvLe s []
 | cons {t:Nat} {v u:V} {r:List (Nat×V)} (h:get s.env t=some v) (l:VLe v u) (k:EnvLe s r):EnvLe s ((t,u)::r)
inductive BxLe (s:St):List (Nat×Box)→Prop
 | nil:BxLe s []
 | cons {t:Nat} {cs ds:List V} {fz:Bool} {r:List (Nat×Box)} (h:get s.bx t=some ⟨cs,fz⟩) (l:LLe cs ds) (k:BxLe s r):BxLe s ((t,⟨ds,fz⟩)::r)
theorem EnvLe.k {s:St} {t:Nat} {u:V} {r:List (Nat×V)} (h:get s.env t=some u) (k:EnvLe s r):EnvLe s ((t,u)::r):=.cons h (.refl _) k
theorem BxLe.k {s:St} {t:Nat} {ds:List V} {fz:Bool} {r:List (Nat×Box)} (h:get s.bx t=some ⟨ds,fz⟩) (k:BxLe s r):BxLe s ((t,⟨ds,fz⟩)::r):=.cons h (LLe.refl _) k
inductive RwLe (s:St):List (Nat×Nat×Nat×Nat)→Prop
 | nil:RwLe s []
 | cons {t:Nat} {q:Nat×Nat×Nat} {r:List (Nat×Nat×Nat×Nat)} (h:get s.rw t=some q) (k:RwLe s r):RwLe s ((t,q)::r)
 | new {t sz e:Nat} {r:List (Nat×Nat×Nat×Nat)} (h:get s.rw t=none) (k:RwLe s r):RwLe s ((t,(0,sz,e))::r)
theorem EnvLe.spec {s:St} {l:List (Nat×V)} (h:EnvLe s l):∀t u,(t,u)∈l→∃v,get s.env t=some v∧VLe v u:=by
 induction h with
 | nil=>intro t u h;cases h
 | cons h l k ih =>
   intro t u hm;rcases List.mem_cons.1 hm with e | hm
   ·cases e;exact ⟨_,h,l⟩
   ·exact ih t u hm
theorem BxLe.spec {s:St} {l:List (Nat×Box)} (h:BxLe s l):∀t u,(t,u)∈l→∃v,get s.bx t=some v∧u.fz=v.fz∧LLe v.cs u.cs:=by
 induction h with
 | nil=>intro t u h;cases h
 | cons h l k ih =>
   intro t u hm;rcases List.mem_cons.1 hm with e | hm
   ·cases e;exact ⟨_,h,rfl,l⟩
   ·exact ih t u hm
theorem RwLe.spec {s:St} {l:List (Nat×Nat×Nat×Nat)} (h:RwLe s l):∀t q,(t,q)∈l→get s.rw t=some q∨(get s.rw t=none∧q.1=0):=by
 induction h with
 | nil=>intro t u h;cases h
 | cons h k ih =>
   intro t u hm;rcases List.mem_cons.1 hm with e | hm
   ·cases e;exact .inl h
   ·exact ih t u hm
 | new h k ih =>
   intro t u hm;rcases List.mem_cons.1 hm with e | hm
   ·cases e;exact .inr ⟨h,rfl⟩
   ·exact ih t u hm
def C6 {α:Type}:List (Nat×α)→Nat→Bool
 | [],_=>false
 | (k,_)::r,i=>k.beq i||C6 r i
def E4 (env:List (Nat×V)) (bx:List (Nat×Box)) (rw:List (Nat×Nat×Nat×Nat)):Bool :=
 env.all (fun p=>Bw (C6 bx) (get rw) 6 p.2)&&bx.all (fun p=>p.2.cs.all (Bw (C6 bx) (get rw) 6))
theorem fs_g {s:St} {t:Nat}:s.fs.g t=get s.env t:=by simp only [FSt.g,St.fs];cases get s.env t<;>rfl
theorem fs_b {s:St} {t:Nat}:s.fs.b t=get s.bx t:=by simp only [FSt.b,St.fs];cases get s.bx t<;>rfl
theorem fs_r {s:St} {t:Nat}:s.fs.r t=get s.rw t:=by simp only [FSt.r,St.fs];cases get s.rw t<;>rfl
theorem Sj {α:Type}:∀(l:List (Nat×α)) (i:Nat),C6 l i=(get l i).isSome
 | [],i=>rfl
 | (k,v)::r,i=>by
   simp only [C6,get];cases k.beq i with
   | true=>rfl
   | false=>simp [Sj r i]
theorem Ad {E:Env} {s:St} {env:List (Nat×V)} {bx:List (Nat×Box)} {rw:List (Nat×Nat×Nat×Nat)} (he:EnvLe s env) (hb:BxLe s bx) (hr:RwLe s rw) (ho:E4 env bx rw=true) (hpin:E.pin.all (C6 bx)=true):Wk E s {s with env:=env,bx:=bx,rw:=rw}:=by
 intro a w h R;unfold E4 at ho;rw [Bool.and_eq_true,List.all_eq_true,List.all_eq_true] at ho;have hk:(fun i=>(({s with env:=env,bx:=bx,rw:=rw}:St).fs.b i).isSome)=C6 bx:=by funext i;rw [fs_b,Sj]
 have hk2:({s with env:=env,bx:=bx,rw:=rw}:St).fs.r=get rw:=by funext i;rw [fs_r]
 obtain ⟨h',R',hy⟩:=R.1.weak (σ':=({s with env:=env,bx:=bx,rw:=rw}:St).fs) (fun t u hu=>by
   rw [fs_g] at hu;obtain ⟨v,h1,h2⟩:=he.spec t u (Md _ _ _ hu);exact ⟨v,by rw [fs_g];exact h1,h2,by rw [hk,hk2];exact ho.1 _ (Md _ _ _ hu)⟩)
  (fun i bo hbo=>by
    rw [fs_b] at hbo;obtain ⟨v,h1,h2,h3⟩:=hb.spec i bo (Md _ _ _ hbo);exact ⟨v,by rw [fs_b];exact h1,h2,h3,by rw [hk,hk2];exact ho.2 _ (Md _ _ _ hbo)⟩)
  (fun r q hq=>by
    rw [fs_r] at hq ⊢;exact hr.spec r q (Md _ _ _ hq))
  (fun i hi=>by
    rw [fs_b,←Sj];rw [List.all_eq_true] at hpin;exact hpin i (R.2.2 i hi))
 exact ⟨h',⟨R',by rw [hy];exact R.2⟩,hy⟩
end
section
open Go.RowKit
section
variable {P:Program} {nt:Nat} {S:Sur} {log:List (List V)} {stp:Bool} {σ:FSt} {a:Act} {w:World} {h:Gh}
theorem Afo {t n:Nat} {d:TypeDesc} {b off:Nat} {bo:Box} {x:Value} (R:Rel nt S log stp σ a w h) (hn:szOf P t=some n) (hd:P.underlying t=some d)
  (h1:aggB P t=false→n=1) (hp:Rep w h.φ h.β h.y.l (.ptr b off) x) (hb:σ.b b=some bo) (hle:off+n≤bo.cs.length) :
  ∃z,(asAddr x >>= loadVar t).run P w=.ok z w∧Ok σ h w (mkv (aggB P t) n (bo.cs.drop off)) z:=by
 obtain ⟨blk,hβ,rfl⟩:∃blk,h.β b=some blk∧x=.pointer (some ⟨blk,off,none⟩):=by
  cases hp with
  | data r=>cases r
  | ptr _ _ blk hb=>exact ⟨blk,hb,rfl⟩
 obtain ⟨blk',cs,e,hβ',hM,hh,hsz,hz,hφ⟩:=R.bx b bo hb;rw [hβ] at hβ';cases hβ';obtain ⟨x,hx1,hx2⟩:=Vy (σ:=σ) (h:=h) (w:=w) (agg:=aggB P t) (n:=n) (l:=bo.cs.drop off) (f:=fun j=>cs.getD (off+j) undef) (by simp;omega) h1 (fun j v hv=>by
  rw [List.getElem?_drop] at hv;have hlt:off+j<cs.size:=by
   have:=(List.getElem?_eq_some_iff.1 hv).1;omega
  exact hz (off+j) v _ hv (by simp [hlt]))
 refine ⟨x,?_,hx2⟩;have:=Gb (P:=P) (w:=w) (cs:=(List.range n).map fun j=>cs.getD (off+j) undef) (b:=blk) (off:=off) hn hd (by simp) (fun j v hv=>by
  obtain ⟨hj,rfl⟩:=Eh hv;rw [cell_of_row w blk (off+j) cs e (0,0) hh];have:off+j<cs.size:=by omega
  simp [this]) hx1
 rw [←this];simp only [Instr.loadAt,Instr.sureAddr,asAddr,Sem.run_bind,Sem.run_pure,Result.andThen_ok]
theorem L3 {φ:Nat→Nat} {r:Nat} {o0 o:Obj} (hh:w.heap[r]?=some o0) (hc0:∀cs e m,o0≠.cells cs e m) (hc:∀cs e m,o≠.cells cs e m) (hm0:∀es c,o0≠.map es c) (hm:∀es c,o≠.map es c):Ext w φ (w.putObj r o) φ:=fun b off ho=>by
 have hlt:r<w.heap.size:=(Array.getElem?_eq_some_iff.1 hh).1;have oth:∀b,b≠r→(w.putObj r o).heap[b]?=w.heap[b]?:=fun b hb=>World.putObj_heap_other hb;have hsame:(w.putObj r o).heap[r]?=some o:=World.putObj_heap_same hlt;refine ⟨ho,?_,?_⟩
 ·by_cases e:b=r
  ·subst e;unfold World.cell?;simp only [hh,hsame];cases o0<;>first | exact absurd rfl (hc0 _ _ _) | (cases o<;>first | exact absurd rfl (hc _ _ _) | rfl)
  ·unfold World.cell?;simp only [oth b e]
 ·by_cases e:b=r
  ·subst e;unfold W3;simp only [hh,hsame];cases o0<;>first | exact absurd rfl (hm0 _ _) | (cases o<;>first | exact absurd rfl (hm _ _) | rfl)
  ·exact Bn (oth b e)
theorem Rel.pokeS (R:Rel nt S log stp σ a w h) {r:Nat} {o0 o:Obj} (hh:w.heap[r]?=some o0) (hc0:∀cs e m,o0≠.cells cs e m) (hc:∀cs e m,o≠.cells cs e m) (hm0:∀es c,o0≠.map es c) (hm1:∀es c,o≠.map es c) {a':Act} (ha:a'.tmps=a.tmps)
  (hm:Marks h.M (w.putObj r o) a'.defers) {S':Sur} {log':List (List V)} {stp':Bool} (hsur:S' log' stp' h.M (w.putObj r o) h.φ):Rel nt S' log' stp' σ a' (w.putObj r o) h:=by
 have hlt:r<w.heap.size:=(Array.getElem?_eq_some_iff.1 hh).1;have oth:∀b,b≠r→(w.putObj r o).heap[b]?=w.heap[b]?:=fun b hb=>World.putObj_heap_other hb;have hsame:(w.putObj r o).heap[r]?=some o:=World.putObj_heap_same hlt;have notc:∀{blk:Nat} {cs:Array Value} {e:TypeId},w.heap[blk]?=some (.cells cs e (0,0))→blk≠r:=fun h1 e=>by
  subst e;rw [hh] at h1;cases h1;exact hc0 _ _ _ rfl
 have ext:Ext w h.φ (w.putObj r o) h.φ:=L3 hh hc0 hc hm0 hm1;have ron:RowsOn σ h w σ h (w.putObj r o):=fun r' n sz t hr=>⟨n,hr,Nat.le_refl _,fun _ blk hb=>⟨hb,by
  rcases R.rows r' n sz t hr with ⟨e,_⟩ | ⟨b,cs,hb',_,hh',_⟩
  ·rw [hb] at e;cases e
  ·rw [hb] at hb';cases hb';exact oth _ (notc hh')⟩⟩
 exact {
  size:=by rw [ha];exact R.size
  env:=fun t v hv=>by
   obtain ⟨h1,h2,h3⟩:=R.env t v hv;rw [ha];exact ⟨h1,h2.mono ext (fun _ _ e=>e),h3.congr ron⟩
  bx:=fun i bo hb=>by
   obtain ⟨blk,cs,e,h1,h2,h3,h4,h5,h6⟩:=R.bx i bo hb;refine ⟨blk,cs,e,h1,h2,(oth _ (notc h3)).trans h3,h4,fun j v x hv hx=>?_,h6⟩;obtain ⟨p,q,r⟩:=h5 j v x hv hx;exact ⟨p.mono ext (fun _ _ e=>e),q.congr ron,r⟩
  dom:=R.dom
  inj:=R.inj
  rows:=fun r' n sz et hr=>by
   rcases R.rows r' n sz et hr with ⟨e,e'⟩ | ⟨b,cs,hb',hMb,hh',hp⟩
   ·exact .inl ⟨e,e'⟩
   ·exact .inr ⟨b,cs,hb',hMb,(oth _ (notc hh')).trans hh',hp⟩
  rdom:=R.rdom
  rinj:=R.rinj
  apart:=R.apart
  pins:=R.pins
  mine:=fun b hb=>by rw [World.putObj_size];exact R.mine b hb
  top:=fun b hb=>R.top b (by rwa [World.putObj_size] at hb)
  marks:=hm
  sur:=hsur}
theorem Rel.poke (R:Rel nt S log stp σ a w h) (hS:S.ok) {r:Nat} {o0 o:Obj} (hM:h.M r) (hh:w.heap[r]?=some o0) (hc0:∀cs e m,o0≠.cells cs e m) (hc:∀cs e m,o≠.cells cs e m) (hm0:∀es c,o0≠.map es c) (hm1:∀es c,o≠.map es c) {a':Act} (ha:a'.tmps=a.tmps)
  (hm:Marks h.M (w.putObj r o) a'.defers):Rel nt S log stp σ a' (w.putObj r o) h :=
 R.pokeS hh hc0 hc hm0 hm1 ha hm (hS _ _ _ _ _ _ _ _ R.sur ⟨L3 hh hc0 hc hm0 hm1,fun b _ hb=>⟨World.putObj_heap_other fun e=>hb (e▸hM),rfl⟩,by rw [World.putObj_size];exact Nat.le_refl _,rfl,rfl,rfl,fun b hb=>.inl hb,fun b hb=>R.top b (by rwa [World.putObj_size] at hb)⟩)
end
def resV (P:Program) (s:St):ResultVar→Option V
 | .tmp t=>get s.env t
 | .cell a t=>match get s.env a with
   | some (.ptr b off)=>match get s.bx b with
     | some bo=>match szOf P t,P.underlying t with
       | some n,some _=>bif decide (off+n≤bo.cs.length)&&(aggB P t||n.beq 1) then some (mkv (aggB P t) n (bo.cs.drop off)) else none
       | _,_=>none
     | none=>none
   | _=>none
def D2:List V→V
 | [v]=>v
 | vs=>.tuple vs
def qRet (P:Program) (rs:List ResultVar) (r:V) (K:St→Prop):Exit→St→Prop
 | .ret,s | .normal,s=>K s∧∃vs us ids,rs.mapM (resV P s)=some vs∧toDs s.fs.b vs=some (us,ids)∧r=D2 us
 | _,_=>False
theorem A6a {E:Env} {s:St} {a:Act} {w:World} {h:Gh} (R:E.rel s a w h) {rv:ResultVar} {v:V} (hv:resV E.P s rv=some v) :
  ∃x,(match rv with | .tmp t=>(pure (a.tmps.getD t undef):Sem Value) | .cell b t=>do loadVar t (←asAddr (a.tmps.getD b undef))).run E.P w=.ok x w∧Rep w h.φ h.β h.y.l v x:=by
 cases rv with
 | tmp t =>
   simp only [resV] at hv;obtain ⟨_,h2,_⟩:=R.1.env t v (by rw [fs_g];exact hv);exact ⟨_,rfl,h2⟩
 | cell b t =>
   simp only [resV] at hv;split at hv<;>(try (cases hv;done));rename_i bi off hp;split at hv<;>(try (cases hv;done));rename_i bo hb;split at hv<;>(try (cases hv;done));rename_i n d hn hd;cases hc:(decide (off+n≤bo.cs.length)&&(aggB E.P t||n.beq 1)) with
   | false=>rw [hc] at hv;cases hv
   | true =>
     rw [hc] at hv;cases hv;simp only [Bool.and_eq_true,decide_eq_true_eq,Bool.or_eq_true] at hc;obtain ⟨_,h2,_⟩:=R.1.env b _ (by rw [fs_g];exact hp);obtain ⟨z,h3,h4⟩:=Afo (P:=E.P) R.1 hn hd (fun e=>by
      rcases hc.2 with h5 | h5
      ·rw [e] at h5;cases h5
      ·exact Nat.eq_of_beq_eq_true h5) h2 (by rw [fs_b];exact hb) hc.1
     exact ⟨z,h3,h4.1⟩
theorem Pi {α:Type} {P:Program} {w:World} {f:α→Sem Value}:∀(l:List α) (xs:List Value),l.length=xs.length→(∀(i:Nat) r x,l[i]?=some r→xs[i]?=some x→(f r).run P w=.ok x w)→(l.mapM f).run P w=.ok xs w
 | [],[],_,_=>by simp
 | [],_::_,h,_=>by simp at h
 | _::_,[],h,_=>by simp at h
 | r::l,x::xs,hl,h=>by
   rw [List.mapM_cons];simp only [Sem.run_bind,h 0 r x rfl rfl,Result.andThen_ok,Pi l xs (by simpa using hl) (fun i r' x' h1 h2=>h (i+1) r' x' (by simpa using h1) (by simpa using h2)),Sem.run_pure]
theorem Ie {P:Program} {w:World} {fn:Func} {tmps:Array Value} {xs:List Value} (hl:fn.results.toList.length=xs.length)
  (h:∀(i:Nat) r x,fn.results.toList[i]?=some r→xs[i]?=some x→(match r with | .tmp t=>(pure (tmps.getD t undef):Sem Value) | .cell b t=>do loadVar t (←asAddr (tmps.getD b undef))).run P w=.ok x w) :
  (results fn tmps).run P w=.ok (match xs with | [x]=>x | xs=>.tuple xs.toArray) w:=by
 unfold results;rw [Array.mapM_eq_mapM_toList];simp only [Sem.run_bind,map_eq_pure_bind];have:=Pi (P:=P) (w:=w) (f:=fun | .tmp t=>(pure (tmps.getD t undef):Sem Value) | .cell b t=>do loadVar t (←asAddr (tmps.getD b undef))) fn.results.toList xs hl (fun i r x h1 h2=>by
  have:=h i r x h1 h2;cases r<;>exact this)
 refine Eq.trans (congrArg (fun r:Result (List Value)=>(r.andThen fun a w'=>Sem.run P (pure a.toArray) w').andThen fun a w'=>Sem.run P (pure (if h:a.size=1 then a[0] else Value.tuple a)) w') this) ?_;cases xs with
 | nil=>simp
 | cons x r=>cases r with
   | nil=>simp
   | cons y r=>simp
end
section
open Go.RowKit
theorem Marks.putObj {M:Nat→Prop} {w:World} {r:Nat} {o:Obj}:∀{ds:List Deferred},Marks M w ds→(∀d∈ds,d≠{target:=.collected r,args:=#[]})→Marks M (w.putObj r o) ds
 | [],_,_=>trivial
 | d::ds,⟨⟨r',e,hM,hh,hn⟩,hs⟩,k=>by
   have hne:r'≠r:=fun h=>by subst h;exact k d (by simp) e
   exact ⟨⟨r',e,hM,(World.putObj_heap_other hne).trans hh,hn⟩,Marks.putObj hs fun d hd=>k d (by simp [hd])⟩
theorem Ac1 {E:Env} {s:St} {fn:Func} {h:Gh} {n:Nat} {R:Ending→World→Prop}:∀(ds:List Deferred) (a:Act) (w:World),a.defers=ds→E.rel s a w h →
  (∀a' w',a'.tmps=a.tmps→E.rel s a' w' h→∃v,(results fn a.tmps).run E.P w'=.ok v w'∧R (.returned v) w')→LeavesInM Fence.wide n E.P fn a.tmps R ds .returning w
 | [],a,w,hd,hr,k=>k a w rfl hr
 | d::ds,a,w,hd,hr,k=>by
   have hm:=hr.1.marks;rw [hd] at hm;obtain ⟨⟨r,e,hM,hh,hn⟩,hs⟩:=hm;refine ⟨by simp,.inl ⟨r,_,by rw [e],run_takeDeferred hh,?_⟩⟩;have hm':Marks h.M (w.putObj r (.deferred none)) ds:=hs.putObj hn;have R':=hr.1.poke E.ok (a':={a with defers:=ds}) hM hh (by intro _ _ _ e;cases e) (o:=.deferred none) (by intro _ _ _ e;cases e) (by intro _ _ e;cases e) (by intro _ _ e;cases e) rfl hm';exact Ac1 ds {a with defers:=ds} _ rfl ⟨R',hr.2⟩ fun a' w' h1 h2=>k a' w' h1 h2
def A43:Nat→List V→List (Nat×V)
 | _,[]=>[]
 | k,v::r=>(k,v)::A43 (k+1) r
def entry (args:List V):St:=⟨A43 0 args,[],[],[],false⟩
theorem Ia:∀(k:Nat) (args:List V) (t:Nat) (v:V),get (A43 k args) t=some v→k≤t∧args[t-k]?=some v
 | k,[],t,v,h=>by simp [A43,get] at h
 | k,u::r,t,v,h=>by
   simp only [A43,get] at h;cases e:k.beq t with
   | true =>
     rw [e] at h;cases h;have:=Nat.eq_of_beq_eq_true e;subst this;simp
   | false =>
     rw [e] at h;have hne:k≠t:=fun h=>by subst h;simp [Nat.beq_refl] at e
     obtain ⟨h1,h2⟩:=Ia (k+1) r t v h;refine ⟨by omega,?_⟩;rw [show t-k=(t-(k+1))+1 by omega];simpa using h2
theorem Sm {E:Env} {f:FuncId} {fn:Func} {c:Code} {ic:IC} (hf:E.P.funcs[f]?=some fn) (hb:fn.body=some c) (hc:Ee E.P E.nt c=some ic) (hnt:fn.ntmps=E.nt) {args:List V} {xs:Array Value} {w:World} {φ:Nat→Nat} {y:Option Nat}
  (hlen:args.length≤E.nt) (hl:args.length=xs.size) (hrep:∀(i:Nat) v x,args[i]?=some v→xs[i]?=some x→Rep w φ (fun _=>none) y v x∧∀σ h,GrowV σ h w v x)
  (hS:E.S [] false (fun _=>False) w φ) (htop:∀b,w.heap.size≤b→φ b=0) (hy:∀l,y=some l→Fw E.P E.S E.ys l∧E.lk l) {r:V} {K:St→Prop} (hT:Tr E none ic (qRet E.P fn.results.toList r K) (entry args)) :
  Calls E.P f xs w fun e w'=>∃(s':St) (h':Gh) (x:Value),e=.returned x∧RepR w' h'.φ r x∧E.S s'.log s'.stp h'.M w' h'.φ∧(∀b,w'.heap.size≤b→h'.φ b=0)∧K s':=by
 rw [←callsIn_wide (n:=0)];refine callsIn_of_wp_marks hf hb trivial ?_;have R0:E.rel (entry args) {tmps:=xs++Array.replicate (fn.ntmps-xs.size) undef,defers:=[]} w {φ:=φ,β:=fun _=>none,γ:=fun _=>none,M:=fun _=>False,y:=⟨y,fun _=>none⟩}:=by
  refine ⟨{size:=by simp;omega,env:=fun t v hv=>?_,bx:=fun i bo hb=>?_,dom:=fun _ _ h=>((by cases h)),inj:=fun _ _ _ h=>((by cases h)),rows:=fun r n sz e hr=>?_,rdom:=fun _ _ h=>((by cases h)),rinj:=fun _ _ _ h=>((by cases h)),apart:=fun _ _ _ h=>((by cases h)),pins:=fun _ _ h=>((by cases h)),mine:=fun _ h=>((by cases h)),top:=htop,marks:=trivial,sur:=hS},hy,fun _ h=>((by cases h))⟩
  ·rw [fs_g] at hv;obtain ⟨_,h1⟩:=Ia 0 args t v hv;simp only [Nat.sub_zero] at h1;have ht:t<args.length:=(List.getElem?_eq_some_iff.1 h1).1;have ht':t<xs.size:=by omega
   have e:(xs++Array.replicate (fn.ntmps-xs.size) undef).getD t undef=xs[t]:=by
    simp [Array.getElem?_append_left ht',ht']
   rw [e];obtain ⟨h2,h3⟩:=hrep t v _ h1 (Array.getElem?_eq_getElem ht');exact ⟨by omega,h2,h3 _ _⟩
  ·rw [fs_b] at hb;simp [entry,get] at hb
  ·rw [fs_r] at hr;simp [entry,get] at hr
 refine hT c hc 0 _ w _ R0 _ fun e s' a' w' h' k R' ey=>?_;have fin:(K s'∧∃vs us ids,fn.results.toList.mapM (resV E.P s')=some vs∧toDs s'.fs.b vs=some (us,ids)∧r=D2 us)→LeavesInM Fence.wide 0 E.P fn a'.tmps (fun e w'=>∃(s':St) (h':Gh) (x:Value),e=.returned x∧RepR w' h'.φ r x∧E.S s'.log s'.stp h'.M w' h'.φ∧(∀b,w'.heap.size≤b→h'.φ b=0)∧K s') a'.defers .returning w':=by
  rintro ⟨hk,vs,us,ids,e1,e2,rfl⟩;refine Ac1 a'.defers a' w' rfl R' fun a2 w2 ht R2=>?_;have hx:∃xs:List Value,vs.length=xs.length∧fn.results.toList.length=xs.length∧(∀(i:Nat) r x,fn.results.toList[i]?=some r→xs[i]?=some x→(match r with | .tmp t=>(pure (a2.tmps.getD t undef):Sem Value) | .cell b t=>do loadVar t (←asAddr (a2.tmps.getD b undef))).run E.P w2=.ok x w2) ∧ (∀(i:Nat) v x,vs[i]?=some v→xs[i]?=some x→Rep w2 h'.φ h'.β h'.y.l v x):=by
   clear e2;generalize fn.results.toList=rl at e1
   induction rl generalizing vs with
   | nil=>simp at e1;subst e1;exact ⟨[],rfl,rfl,fun i r x h=>by simp at h,fun i r x h=>by simp at h⟩
   | cons rv rl ih =>
     simp only [List.mapM_cons,Option.bind_eq_bind,Option.bind_eq_some_iff,Option.pure_def,Option.some.injEq] at e1;obtain ⟨v,hv,vs',hvs,rfl⟩:=e1;obtain ⟨x,hx1,hx2⟩:=A6a R2 hv;obtain ⟨xs,l1,l2,l3,l4⟩:=ih vs' hvs;refine ⟨x::xs,by simp [l1],by simp [l2],fun i r z h1 h2=>?_,fun i v z h1 h2=>?_⟩
     ·cases i with
      | zero=>simp at h1 h2;subst h1 h2;exact hx1
      | succ i=>simp at h1 h2;exact l3 i r z h1 h2
     ·cases i with
      | zero=>simp at h1 h2;subst h1 h2;exact hx2
      | succ i=>simp at h1 h2;exact l4 i v z h1 h2
  obtain ⟨xs,l1,l2,l3,l4⟩:=hx;obtain ⟨h3,R3,ext,q1,q2,q3,hrepL⟩:=De R2.1 e2;have hL:=hrepL xs.toArray (by simpa using l1) (fun i v x h1 h2=>l4 i v x h1 (by simpa using h2));have hrun:=Ie (P:=E.P) (w:=w2) (fn:=fn) (tmps:=a2.tmps) l2 l3;rw [ht] at hrun;refine ⟨_,hrun,s',h3,_,rfl,?_,R3.sur,R3.top,hk⟩;obtain ⟨m1,m2⟩:=hL;cases us with
  | nil =>
    cases xs with
    | nil=>exact .tuple [] #[] rfl (fun i v x h=>by simp at h)
    | cons x xs=>simp at m1
  | cons u us =>
    cases xs with
    | nil=>simp at m1
    | cons x xs =>
      cases us with
      | nil =>
        cases xs with
        | nil=>exact .data (m2 0 u x rfl rfl)
        | cons y xs=>simp at m1
      | cons u2 us =>
        cases xs with
        | nil=>simp at m1
        | cons y xs=>exact .tuple _ _ (by simpa using m1) (fun i v z h1 h2=>m2 i v z h1 h2)
 cases e with
 | normal=>exact fin k
 | ret=>exact fin k
 | _=>exact k.elim
def S0 (w0:World) (φ0:Nat→Nat):Sur:=fun _ _ M w φ=>Moved (fun _=>False) w0 φ0 M w φ
theorem Moved.trans {M0 M M':Nat→Prop} {w0 w w':World} {φ0 φ φ':Nat→Nat} (h:Moved M0 w0 φ0 M w φ) (k:Moved M w φ M' w' φ'):Moved M0 w0 φ0 M' w' φ' where
 ext:=h.ext.trans k.ext
 old b hb hn:=by
  have hnM:¬M b:=fun hM=>(h.mine b hM).elim hn fun h1=>by omega
  obtain ⟨h1,h2⟩:=h.old b hb hn;obtain ⟨k1,k2⟩:=k.old b (Nat.lt_of_lt_of_le hb h.size) hnM;exact ⟨k1.trans h1,k2.trans h2⟩
 size:=Nat.le_trans h.size k.size
 os:=k.os.trans h.os
 tape:=k.tape.trans h.tape
 output:=k.output.trans h.output
 mine b hM:=by
  rcases k.mine b hM with h1 | h1
  ·exact h.mine b h1
  ·exact .inr (Nat.le_trans h.size h1)
 top:=k.top
theorem A8a (w0:World) (φ0:Nat→Nat) (hg:Gl w0 φ0):(S0 w0 φ0).ok:=⟨fun _ _ _ _ _ _ _ _ h k=>Moved.trans h k,fun _ _ _ _ _ h=>hg.mono h.ext⟩
theorem Moved.refl (M:Nat→Prop) {w:World} {φ:Nat→Nat} (ht:∀b,w.heap.size≤b→φ b=0):Moved M w φ M w φ:=⟨Ext.refl _ _,fun _ _ _=>⟨rfl,rfl⟩,Nat.le_refl _,rfl,rfl,rfl,fun _ h=>.inl h,ht⟩
theorem C_intro {P:Program} {f:FuncId} {fn:Func} {c:Code} {ic:IC} {nt:Nat} (hf:P.funcs[f]?=some fn) (hb:fn.body=some c) (hcall:C9 P f=true) (hmix:P.follows .mixedOrders=true) (hnt:fn.ntmps=nt) (hc:Ee P nt c=some ic) {args:List V} {r:V}
  (hlen:args.length≤nt) (hT:∀(S:Sur) (ok:S.ok),Tr {P:=P,nt:=nt,S:=S,ys:=noYs,pin:=[],ok:=ok,mixed:=hmix} none ic (qRet P fn.results.toList r fun _=>True) (entry args)):C P f args r:=by
 refine ⟨hcall,fun w φ xs htop hgl hrep=>?_⟩;refine (Sm (E:={P:=P,nt:=nt,S:=S0 w φ,ys:=noYs,pin:=[],ok:=A8a w φ hgl,mixed:=hmix}) (φ:=φ) (y:=none) hf hb hc hnt hlen hrep.1 (fun i v x h1 h2=>⟨.data (hrep.2 i v x h1 h2),fun σ h=>Ap (hrep.2 i v x h1 h2)⟩)
  (Moved.refl _ htop) htop (fun _ h=>((by cases h))) (hT _ _)).mono ?_
 rintro e w' ⟨s',h',x,rfl,hr,hS,ht,_⟩;exact ⟨h'.φ,x,rfl,hr,⟨hS.os,hS.tape,hS.output,hS.size,fun k hk=>(hS.old k hk (fun h=>h)).1⟩,fun b hb=>(hS.old b hb (fun h=>h)).2,ht⟩
def Aia (P:Program) (f:FuncId) (cap:List V) (ys dn:YL):Prop :=
 C9 P f=true∧∀(S:Sur),S.ok→∀(l:Nat) (w:World) (φ:Nat→Nat) (xs:Array Value),(∀b,w.heap.size≤b→φ b=0)→RepL w φ cap xs→Fw P S ys l→S [] false (fun _=>False) w φ →
  Calls P f (#[.func (.yield l) #[] #[]]++xs) w fun e w'=>∃log stp φ' x,e=.returned x∧S log stp (fun _=>False) w' φ'∧(∀b,w'.heap.size≤b→φ' b=0)∧(stp=true∨dn log)
def Iter (P:Program) (f:FuncId) (cap:List V) (ys:List (List V)):Prop:=Aia P f cap (Q3 ys) fun l=>l=ys
theorem A8b {P:Program} {f:FuncId} {fn:Func} {c:Code} {ic:IC} {nt:Nat} (hf:P.funcs[f]?=some fn) (hb:fn.body=some c) (hcall:C9 P f=true) (hmix:P.follows .mixedOrders=true) (hnt:fn.ntmps=nt) (hc:Ee P nt c=some ic) {cap:List V} {ys dn:YL}
  (hlen:cap.length+1≤nt) (hT:∀(S:Sur) (ok:S.ok),Tr {P:=P,nt:=nt,S:=S,ys:=ys,pin:=[],ok:=ok,mixed:=hmix} none ic (qRet P fn.results.toList (.tuple []) fun s=>s.stp=true∨dn s.log) (entry (.yld::cap))):Aia P f cap ys dn:=by
 refine ⟨hcall,fun S hS l w φ xs htop hrep hy h0=>?_⟩;refine (Sm (E:={P:=P,nt:=nt,S:=S,ys:=ys,pin:=[],ok:=hS,mixed:=hmix}) (φ:=φ) (y:=some l) (args:=.yld::cap) hf hb hc hnt (by simpa using hlen) (by simp [hrep.1];omega) (fun i v x h1 h2=>?_)
  h0 htop (fun l' e=>by cases e;exact ⟨hy,trivial⟩) (hT _ _)).mono ?_
 ·cases i with
  | zero =>
    have h2':x=.func (.yield l) #[] #[]:=by
     rw [Array.getElem?_append_left (by simp)] at h2;simpa using h2.symm
    simp at h1;subst h1 h2';exact ⟨.yld l rfl,fun σ h=>fun j u z hu hz=>by
     cases j with
     | zero=>simp [cells] at hu;subst hu;intro r sz xs e;cases e
     | succ j=>simp [cells] at hu⟩
  | succ i =>
    simp only [List.getElem?_cons_succ] at h1;rw [Array.getElem?_append_right (by simp)] at h2;have:=hrep.2 i v x h1 (by simpa using h2);exact ⟨.data this,fun σ h=>Ap this⟩
 ·rintro e w' ⟨s',h',x,rfl,hr,hS',ht,hk⟩;exact ⟨s'.log,s'.stp,h'.φ,x,rfl,hS _ _ _ _ _ _ _ _ hS' ⟨Ext.refl _ _,fun _ _ _=>⟨rfl,rfl⟩,Nat.le_refl _,rfl,rfl,rfl,fun _ h=>h.elim,ht⟩,ht,hk⟩
theorem Adi {P:Program} {f:FuncId} {fn:Func} {c:Code} {ic:IC} {nt:Nat} (hf:P.funcs[f]?=some fn) (hb:fn.body=some c) (hcall:C9 P f=true) (hmix:P.follows .mixedOrders=true) (hnt:fn.ntmps=nt) (hc:Ee P nt c=some ic) {cap:List V} {ys:List (List V)}
  (hlen:cap.length+1≤nt) (hT:∀(S:Sur) (ok:S.ok),Tr {P:=P,nt:=nt,S:=S,ys:=Q3 ys,pin:=[],ok:=ok,mixed:=hmix} none ic (qRet P fn.results.toList (.tuple []) fun s=>s.stp=true∨s.log=ys) (entry (.yld::cap))):Iter P f cap ys :=
 A8b hf hb hcall hmix hnt hc hlen hT
end
section
open Go.RowKit
def penv:List Nat→List V→List (Nat×V)→List (Nat×V)
 | p::ps,v::vs,env=>penv ps vs ((p,v)::env)
 | _,_,env=>env
def anyS:Sur:=fun _ _ _ _ _=>True
theorem Rel.toTop {nt:Nat} {S:Sur} {log log':List (List V)} {stp stp':Bool} {σ:FSt} {a:Act} {w:World} {h:Gh} (R:Rel nt S log stp σ a w h):Rel nt anyS log' stp' σ a w h:={R with sur:=trivial}
theorem A3y {σ:FSt} {h:Gh} {w:World} {v:V} {x:Value} {B:Nat→Bool} {n:Nat} (ho:Bw B (fun _=>none) n v=true):Grow σ h w v x:=by
 intro r sz xs e;subst e;cases n<;>simp [Bw] at ho
theorem Ze {σ:FSt} {h:Gh} {w:World} {v:V} {x:Value} {B:Nat→Bool} {n:Nat} (ho:Bw B (fun _=>none) n v=true):GrowV σ h w v x:=by
 intro j u z hu hz;by_cases ha:∃ds,v=.agg ds
 ·obtain ⟨ds,rfl⟩:=ha;cases n with
  | zero=>simp [Bw] at ho
  | succ n=>exact A3y (A2y ho u (List.mem_of_getElem? hu))
 ·have hc:cells v=[v]:=by cases v<;>first | rfl | exact absurd ⟨_,rfl⟩ ha
  rw [hc] at hu;cases j with
  | succ j=>simp at hu
  | zero=>simp at hu;subst hu;exact A3y ho
def EnvOk (nt:Nat) (w:World) (φ:Nat→Nat) (β:Nat→Option Nat) (y:Option Nat) (env:List (Nat×V)) (tmps:Array Value):Prop :=
 ∀t v,get env t=some v→t<nt∧Rep w φ β y v (tmps.getD t undef)∧∀σ h,GrowV σ h w v (tmps.getD t undef)
theorem EnvOk.penv {nt:Nat} {w:World} {φ:Nat→Nat} {β:Nat→Option Nat} {y:Option Nat}:∀(ps:List Nat) (vs:List V) (xs:List Value) (env:List (Nat×V)) (tmps:Array Value),tmps.size=nt→(∀p∈ps,p<nt)→vs.length=xs.length →
  (∀(i:Nat) v x,vs[i]?=some v→xs[i]?=some x→RepD w φ v x)→EnvOk nt w φ β y env tmps→EnvOk nt w φ β y (penv ps vs env) ((ps.zip xs).foldl (fun t p=>t.setIfInBounds p.1 p.2) tmps)∧((ps.zip xs).foldl (fun t p=>t.setIfInBounds p.1 p.2) tmps).size=nt
 | [],vs,xs,env,tmps,hs,_,_,_,he=>⟨by simpa [Am.penv] using he,by simpa using hs⟩
 | p::ps,[],xs,env,tmps,hs,_,hl,_,he=>by
   have:xs=[]:=by cases xs with | nil=>rfl | cons _ _=>simp at hl
   subst this;exact ⟨by simpa [Am.penv] using he,by simpa using hs⟩
 | p::ps,v::vs,[],env,tmps,hs,_,hl,_,he=>by simp at hl
 | p::ps,v::vs,x::xs,env,tmps,hs,hp,hl,hr,he=>by
   simp only [Am.penv,List.zip_cons_cons,List.foldl_cons];refine EnvOk.penv ps vs xs ((p,v)::env) (tmps.setIfInBounds p x) (by simpa using hs) (fun q hq=>hp q (by simp [hq])) (by simpa using hl) (fun i v x h1 h2=>hr (i+1) v x (by simpa using h1) (by simpa using h2)) ?_;intro t u hu;have hpn:p<tmps.size:=by rw [hs];exact hp p (by simp)
   rw [A1h] at hu;by_cases e:t=p
   ·subst e;simp only [if_true,Option.some.injEq] at hu;subst hu;have hx:=hr 0 _ x rfl rfl;have e1:(tmps.setIfInBounds t x).getD t undef=x:=by simp [hpn]
    rw [e1];exact ⟨hp t (by simp),.data hx,fun σ h=>Ap hx⟩
   ·simp only [e,if_false] at hu;have e1:(tmps.setIfInBounds p x).getD t undef=tmps.getD t undef:=by
     have:p≠t:=fun h=>e h.symm;simp [Array.getElem?_setIfInBounds_ne this]
    rw [e1];exact he t u hu
structure SB (E:Env) (K:Nat→Prop) (L:Nat) (lr:Loop) (M0:Nat→Prop) (w0:World) (φ0:Nat→Nat) (log:List (List V)) (stp:Bool) (M:Nat→Prop) (w:World) (φ:Nat→Nat):Prop where
 sur:E.S log stp (fun b=>M b∨K b) w φ
 ext:Ext w0 φ0 w φ
 dis:∀k,K k→¬M k
 kept:∀k,K k→k≠L→w.heap[k]?=w0.heap[k]?
 phi:∀k,K k→φ k=φ0 k
 rc:w.heap[L]?=some (.loop lr)
 size:w0.heap.size≤w.heap.size
 os:w.os=w0.os
 tape:w.tape=w0.tape
 output:w.output=w0.output
 mine:∀b,M b→M0 b∨w0.heap.size≤b
 klt:∀k,K k→k<w0.heap.size
 hL:K L
 top:∀b,w.heap.size≤b→φ b=0
theorem A27 {E:Env} {K:Nat→Prop} {L:Nat} {lr:Loop} {M0:Nat→Prop} {w0:World} {φ0:Nat→Nat}:Sur.ok (SB E K L lr M0 w0 φ0):=by
 refine ⟨?_,fun log stp M w φ h=>E.ok.gl _ _ _ _ _ h.sur⟩;intro log stp M w φ M' w' φ' h mv;have hk:∀k,K k→w'.heap[k]?=w.heap[k]?∧φ' k=φ k:=fun k hk=>mv.old k (Nat.lt_of_lt_of_le (h.klt k hk) h.size) (h.dis k hk);exact {
  sur:=E.ok _ _ _ _ _ _ _ _ h.sur ⟨mv.ext,fun b hb hn=>mv.old b hb fun hM=>hn (.inl hM),mv.size,mv.os,mv.tape,mv.output,fun b hb=>by
   rcases hb with hb | hb
   ·exact (mv.mine b hb).imp .inl id
   ·exact .inl (.inr hb),mv.top⟩
  ext:=h.ext.trans mv.ext
  dis:=fun k hk hM=>by
   rcases mv.mine k hM with h1 | h1
   ·exact h.dis k hk h1
   ·have:=h.klt k hk;have:=h.size;omega
  kept:=fun k hK hne=>(hk k hK).1.trans (h.kept k hK hne)
  phi:=fun k hK=>(hk k hK).2.trans (h.phi k hK)
  rc:=(hk L h.hL).1.trans h.rc
  size:=Nat.le_trans h.size mv.size
  os:=mv.os.trans h.os
  tape:=mv.tape.trans h.tape
  output:=mv.output.trans h.output
  mine:=fun b hb=>by
   rcases mv.mine b hb with h1 | h1
   ·exact h.mine b h1
   ·exact .inr (Nat.le_trans h.size h1)
  klt:=h.klt
  hL:=h.hL
  top:=mv.top}
theorem X3 {E:Env} {K:Nat→Prop} {L:Nat} {lr:Loop} {M0:Nat→Prop} {w0:World} {φ0:Nat→Nat} {ys:YL} {l:Nat} (hy:Fw E.P E.S ys l):Fw E.P (SB E K L lr M0 w0 φ0) ys l:=by
 intro log x M w φ xs hp h htop hM hrep;have hKw:∀k,K k→k<w.heap.size:=fun k hk=>Nat.lt_of_lt_of_le (h.klt k hk) h.size;obtain ⟨fn,tmps,asg,body,hrun,hround⟩:=hy log x (fun b=>M b∨K b) w φ xs hp h.sur htop (fun b hb=>hb.elim (hM b) (hKw b)) hrep;refine ⟨fn,tmps,asg,body,hrun,fun n=>(hround n).mono ?_⟩;rintro e w' ⟨b,φ',rfl,sur,ext,own,hs,ht,hos,htp,hou⟩;refine ⟨b,φ',rfl,?_,ext,fun k hk=>own k (.inl hk),hs,ht,hos,htp,hou⟩;exact {
  sur:=sur
  ext:=h.ext.trans ext
  dis:=h.dis
  kept:=fun k hK hne=>(own k (.inr hK)).1.trans (h.kept k hK hne)
  phi:=fun k hK=>(own k (.inr hK)).2.trans (h.phi k hK)
  rc:=(own L (.inr h.hL)).1.trans h.rc
  size:=Nat.le_trans h.size hs
  os:=hos.trans h.os
  tape:=htp.trans h.tape
  output:=hou.trans h.output
  mine:=h.mine
  klt:=h.klt
  hL:=h.hL
  top:=ht}
def Sub (S2 S:Sur):Prop:=∀log stp M w φ,S2 log stp M w φ→(∀b,M b→b<w.heap.size)→∃M1:Nat→Prop,(∀b,M b→M1 b)∧(∀b,M1 b→b<w.heap.size)∧S log stp M1 w φ ∧
 ∀log' stp' w' φ',S log' stp' M1 w' φ'→Ext w φ w' φ'→(∀b,M1 b→w'.heap[b]?=w.heap[b]?∧φ' b=φ b)→w.heap.size≤w'.heap.size→(∀b,w'.heap.size≤b→φ' b=0)→w'.os=w.os→w'.tape=w.tape→w'.output=w.output→S2 log' stp' M w' φ'
theorem Sub.refl (S:Sur):Sub S S:=fun log stp M w φ h hM=>⟨M,fun _ h=>h,hM,h,fun _ _ _ _ h _ _ _ _ _ _ _=>h⟩
theorem Sub.trans {S3 S2 S:Sur} (h:Sub S3 S2) (k:Sub S2 S):Sub S3 S:=fun log stp M w φ hs hM=>by
 obtain ⟨M1,h1,h2,h3,h4⟩:=h log stp M w φ hs hM;obtain ⟨M2,k1,k2,k3,k4⟩:=k log stp M1 w φ h3 h2;exact ⟨M2,fun b hb=>k1 b (h1 b hb),k2,k3,fun log' stp' w' φ' q1 q2 q3 q4 q5 q6 q7 q8=>h4 log' stp' w' φ' (k4 log' stp' w' φ' q1 q2 q3 q4 q5 q6 q7 q8) q2 (fun b hb=>q3 b (k1 b hb)) q4 q5 q6 q7 q8⟩
structure SurIn (S0 S:Sur):Prop where
 ok:S.ok
 sub:Sub S S0
theorem Aan {E:Env} {K:Nat→Prop} {L:Nat} {lr:Loop} {M0:Nat→Prop} {w0:World} {φ0:Nat→Nat}:Sub (SB E K L lr M0 w0 φ0) E.S:=by
 intro log stp M w φ h hM;have hKw:∀k,K k→k<w.heap.size:=fun k hk=>Nat.lt_of_lt_of_le (h.klt k hk) h.size;refine ⟨fun b=>M b∨K b,fun b hb=>.inl hb,fun b hb=>hb.elim (hM b) (hKw b),h.sur,fun log' stp' w' φ' sur ext own hs ht hos htp hou=>?_⟩;exact {
  sur:=sur
  ext:=h.ext.trans ext
  dis:=h.dis
  kept:=fun k hK hne=>(own k (.inr hK)).1.trans (h.kept k hK hne)
  phi:=fun k hK=>(own k (.inr hK)).2.trans (h.phi k hK)
  rc:=(own L (.inr h.hL)).1.trans h.rc
  size:=Nat.le_trans h.size hs
  os:=hos.trans h.os
  tape:=htp.trans h.tape
  output:=hou.trans h.output
  mine:=h.mine
  klt:=h.klt
  hL:=h.hL
  top:=ht}
def Tg:Exit→Option Code
 | .ret=>some .ret
 | .exit i=>some (.exit i)
 | .goto l=>some (.goto l)
 | _=>none
structure LC where
 s:St
 a:Act
 L:Nat
 rc:LoopState→Option Code→Loop
 h0:Gh
 Inv:List (List V)→St→Prop
 Ix:Exit→St→Prop
structure SIx (E:Env) (c:LC) (log:List (List V)) (stp:Bool) (M:Nat→Prop) (w:World) (φ:Nat→Nat) (t:St) (hh:Gh) (pend:Option Code):Prop where
 env:t.env=c.s.env
 phi:hh.φ=φ
 y:hh.y=c.h0.y
 rel:Rel E.nt anyS t.log t.stp t.fs c.a w hh
 sur:E.S t.log t.stp (fun b=>hh.M b∨M b) w φ
 dis:∀b,hh.M b→¬M b
 hL:hh.M c.L
 rc:w.heap[c.L]?=some (.loop (c.rc (bif stp then .done else .ready) pend))
 keys:∀i blk,C6 c.s.bx i=true→c.h0.β i=some blk→hh.β i=some blk
 go:stp=false→c.Inv log t∧t.stp=c.s.stp∧pend=none
 stop:stp=true→∃e j,c.Ix e t∧pend=some j∧Tg e=some j
def SI (E:Env) (c:LC):Sur:=fun log stp M w φ=>∃t hh pend,SIx E c log stp M w φ t hh pend
theorem SI_ok {E:Env} {c:LC}:(SI E c).ok:=by
 refine ⟨?_,fun log stp M w φ ⟨_,_,_,h⟩=>E.ok.gl _ _ _ _ _ h.sur⟩;rintro log stp M w φ M' w' φ' ⟨t,hh,pend,h⟩ mv;obtain ⟨rfl⟩:=h.phi;have own:∀b,hh.M b→w'.heap[b]?=w.heap[b]?∧φ' b=hh.φ b:=fun b hb=>mv.old b (h.rel.mine b hb) (h.dis b hb);refine ⟨t,{hh with φ:=φ'},pend,{
  env:=h.env
  phi:=rfl
  y:=h.y
  rel:=If h.rel mv.ext own mv.size mv.top trivial
  sur:=E.ok _ _ _ _ _ _ _ _ h.sur ⟨mv.ext,fun b hb hn=>mv.old b hb fun hM=>hn (.inr hM),mv.size,mv.os,mv.tape,mv.output,fun b hb=>by
   rcases hb with hb | hb
   ·exact .inl (.inl hb)
   ·exact (mv.mine b hb).imp .inr id,mv.top⟩
  dis:=fun b hb hM=>by
   rcases mv.mine b hM with h1 | h1
   ·exact h.dis b hb h1
   ·have:=h.rel.mine b hb;omega
  hL:=h.hL
  rc:=(own _ h.hL).1.trans h.rc
  keys:=h.keys
  go:=h.go
  stop:=h.stop}⟩
end
section
open Go.RowKit
theorem A89 {E:Env} {K:Nat→Prop} {L:Nat} {lr lr':Loop} {M0:Nat→Prop} {w0:World} {φ0:Nat→Nat} {log:List (List V)} {stp:Bool} {M:Nat→Prop} {w:World} {φ:Nat→Nat} (h:SB E K L lr M0 w0 φ0 log stp M w φ):SB E K L lr' M0 w0 φ0 log stp M (w.putObj L (.loop lr')) φ:=by
 have hlt:L<w.heap.size:=(Array.getElem?_eq_some_iff.1 h.rc).1;have ext:Ext w φ (w.putObj L (.loop lr')) φ:=L3 h.rc (by intro _ _ _ e;cases e) (by intro _ _ _ e;cases e) (by intro _ _ e;cases e) (by intro _ _ e;cases e);exact {
  sur:=E.ok _ _ _ _ _ _ _ _ h.sur ⟨ext,fun b hb hn=>⟨World.putObj_heap_other fun e=>hn (.inr (e▸h.hL)),rfl⟩,by rw [World.putObj_size];exact Nat.le_refl _,rfl,rfl,rfl,fun b hb=>.inl hb,fun b hb=>h.top b (by rwa [World.putObj_size] at hb)⟩
  ext:=h.ext.trans ext
  dis:=h.dis
  kept:=fun k hK hne=>(World.putObj_heap_other hne).trans (h.kept k hK hne)
  phi:=h.phi
  rc:=World.putObj_heap_same hlt
  size:=by rw [World.putObj_size];exact h.size
  os:=h.os
  tape:=h.tape
  output:=h.output
  mine:=h.mine
  klt:=h.klt
  hL:=h.hL
  top:=fun b hb=>h.top b (by rwa [World.putObj_size] at hb)}
def qOnly (K:St→Prop):Exit→St→Prop
 | .normal,s=>K s
 | _,_=>False
def qRound (E2:Env) (c:LC) (pre:List (List V)):Exit→St→Prop
 | .normal,t=>∃t',Wk E2 t t'∧c.Inv pre {t' with env:=c.s.env}∧t'.stp=c.s.stp
 | .ret,t=>∃t',Wk E2 t t'∧c.Ix .ret {t' with env:=c.s.env}
 | .exit i,t=>∃t',Wk E2 t t'∧c.Ix (.exit i) {t' with env:=c.s.env}
 | .goto l,t=>∃t',Wk E2 t t'∧c.Ix (.goto l) {t' with env:=c.s.env}
 | _,_=>False
abbrev Env.inner (E:Env) (c:LC) (S:Sur) (ok:S.ok):Env:={E with S:=S,pin:=c.s.bx.map (·.1),ok:=ok}
theorem Zd {α:Type}:∀(l:List (Nat×α)) (i:Nat),C6 l i=true↔i∈l.map (·.1)
 | [],i=>by simp [C6]
 | (k,v)::r,i=>by
   simp only [C6,Bool.or_eq_true,List.map_cons,List.mem_cons,Zd r i];constructor
   ·rintro (h | h)
    ·exact .inl (Nat.eq_of_beq_eq_true h).symm
    ·exact .inr h
   ·rintro (h | h)
    ·exact .inl (by rw [h];exact Nat.beq_refl _)
    ·exact .inr h
def KK (hh:Gh) (M:Nat→Prop) (k:Nat):Prop:=(hh.M k∨M k)∧(¬∃i,hh.β i=some k)∧¬∃r,hh.γ r=some k
def MM (hh:Gh) (k:Nat):Prop:=(∃i,hh.β i=some k)∨∃r,hh.γ r=some k
def O8 (c:LC) (hh:Gh):Gh:={φ:=hh.φ,β:=hh.β,γ:=hh.γ,M:=MM hh,y:=⟨c.h0.y.l,fun i=>if C6 c.s.bx i then hh.β i else none⟩}
theorem Rel.boxCells {nt:Nat} {S:Sur} {log:List (List V)} {stp:Bool} {σ:FSt} {a:Act} {w:World} {h:Gh} (R:Rel nt S log stp σ a w h) {i blk:Nat} (hb:h.β i=some blk):∃cs e,w.heap[blk]?=some (.cells cs e (0,0)):=by
 have h1:=R.dom i blk hb;cases hr:σ.b i with
 | none=>rw [hr] at h1;cases h1
 | some bo =>
   obtain ⟨b,cs,e,hb',_,hh,_⟩:=R.bx i bo hr;rw [hb] at hb';cases hb';exact ⟨cs,e,hh⟩
theorem Rel.rowCells {nt:Nat} {S:Sur} {log:List (List V)} {stp:Bool} {σ:FSt} {a:Act} {w:World} {h:Gh} (R:Rel nt S log stp σ a w h) {r blk:Nat} (hb:h.γ r=some blk):∃cs e,w.heap[blk]?=some (.cells cs e (0,0)):=by
 have h1:=R.rdom r blk hb;cases hr:σ.r r with
 | none=>rw [hr] at h1;cases h1
 | some q =>
   obtain ⟨n,sz,e⟩:=q;rcases R.rows r n sz e hr with ⟨e',_⟩ | ⟨b,cs,hb',hM,hh,_⟩
   ·rw [hb] at e';cases e'
   ·rw [hb] at hb';cases hb';exact ⟨cs,e,hh⟩
theorem MM_M {nt:Nat} {S:Sur} {log:List (List V)} {stp:Bool} {σ:FSt} {a:Act} {w:World} {h:Gh} (R:Rel nt S log stp σ a w h) {k:Nat} (hk:MM h k):h.M k:=by
 rcases hk with ⟨i,hi⟩ | ⟨r,hr⟩
 ·exact R.boxM hi
 ·exact R.rowM hr
theorem not_MM {nt:Nat} {S:Sur} {log:List (List V)} {stp:Bool} {σ:FSt} {a:Act} {w:World} {h:Gh} (R:Rel nt S log stp σ a w h) {k:Nat} {o:Obj} (hh:w.heap[k]?=some o) (hc:∀cs e m,o≠.cells cs e m):¬MM h k:=by
 rintro (⟨i,hi⟩ | ⟨r,hr⟩)
 ·obtain ⟨cs,e,h1⟩:=R.boxCells hi;rw [hh] at h1;cases h1;exact hc _ _ _ rfl
 ·obtain ⟨cs,e,h1⟩:=R.rowCells hr;rw [hh] at h1;cases h1;exact hc _ _ _ rfl
section
variable {E:Env} {c:LC} {log:List (List V)} {M:Nat→Prop} {w:World} {t:St} {hh:Gh} {pend:Option Code}
theorem KK_L (h:SIx E c log false M w hh.φ t hh pend):KK hh M c.L:=by
 have h1:=not_MM h.rel h.rc (by intro _ _ _ e;cases e);exact ⟨.inl h.hL,fun hx=>h1 (.inl hx),fun hx=>h1 (.inr hx)⟩
theorem SB_begin (h:SIx E c log false M w hh.φ t hh pend) (htop:∀b,w.heap.size≤b→hh.φ b=0) (hM:∀b,M b→b<w.heap.size):SB E (KK hh M) c.L (c.rc .ready pend) (MM hh) w hh.φ t.log t.stp (MM hh) w hh.φ where
 sur:=E.ok _ _ _ _ _ _ _ _ h.sur ⟨Ext.refl _ _,fun _ _ _=>⟨rfl,rfl⟩,Nat.le_refl _,rfl,rfl,rfl,fun b hb=>.inl (by
  rcases hb with hb | hb
  ·exact .inl (MM_M h.rel hb)
  ·exact hb.1),htop⟩
 ext:=Ext.refl _ _
 dis k hk hm:=hm.elim hk.2.1 hk.2.2
 kept _ _ _:=rfl
 phi _ _:=rfl
 rc:=h.rc
 size:=Nat.le_refl _
 os:=rfl
 tape:=rfl
 output:=rfl
 mine _ h:=.inl h
 klt k hk:=hk.1.elim (h.rel.mine k) (hM k)
 hL:=KK_L h
 top:=htop
theorem A2x (h:SIx E c log false M w hh.φ t hh pend) (htop:∀b,w.heap.size≤b→hh.φ b=0) (hM:∀b,M b→b<w.heap.size) (hyok:E.yok c.h0.y) (henv:c.s.env.all (fun p=>Bw (C6 c.s.bx) (fun _=>none) 6 p.2)=true)
  {ps:List Nat} (hps:∀p∈ps,p<E.nt) {x:List V} {xs:Array Value} (hrep:RepL w hh.φ x xs) :
  (E.inner c (SB E (KK hh M) c.L (c.rc .ready pend) (MM hh) w hh.φ) A27).rel {t with env:=penv ps x c.s.env} {tmps:=(ps.zip xs.toList).foldl (fun t p=>t.setIfInBounds p.1 p.2) c.a.tmps,defers:=[]} w (O8 c hh):=by
 have hE0:EnvOk E.nt w hh.φ hh.β c.h0.y.l c.s.env c.a.tmps:=by
  intro s v hv;obtain ⟨h1,h2,h3⟩:=h.rel.env s v (by rw [fs_g,h.env];exact hv);rw [h.y] at h2;rw [List.all_eq_true] at henv;exact ⟨h1,h2,fun σ h=>Ze (henv _ (Md _ _ _ hv))⟩
 obtain ⟨e1,e2⟩:=EnvOk.penv ps x xs.toList c.s.env c.a.tmps h.rel.size hps (by simpa using hrep.1) (fun i v x h1 h2=>hrep.2 i v x h1 (by simpa using h2)) hE0;have hy:hh.y.l=c.h0.y.l:=by rw [h.y]
 refine ⟨{
  size:=e2
  env:=fun s v hv=>by
   rw [fs_g] at hv;obtain ⟨h1,h2,h3⟩:=e1 s v hv;exact ⟨h1,h2,h3 _ _⟩
  bx:=fun i bo hb=>by
   rw [fs_b] at hb;obtain ⟨blk,cs,e,h1,h2,h3,h4,h5,h6⟩:=h.rel.bx i bo (by rw [fs_b];exact hb);refine ⟨blk,cs,e,h1,.inl ⟨i,h1⟩,h3,h4,fun j v x hv hx=>?_,h6⟩;obtain ⟨p,q,r⟩:=h5 j v x hv hx;rw [hy] at p;exact ⟨p,q,r⟩
  dom:=fun i blk hb=>h.rel.dom i blk hb
  inj:=h.rel.inj
  rows:=fun r n sz et hr=>by
   rcases h.rel.rows r n sz et hr with ⟨e,e'⟩ | ⟨b,cs,hb',hMb,hh',hp⟩
   ·exact .inl ⟨e,e'⟩
   ·exact .inr ⟨b,cs,hb',.inr ⟨r,hb'⟩,hh',hp⟩
  rdom:=fun r blk hb=>h.rel.rdom r blk hb
  rinj:=h.rel.rinj
  apart:=h.rel.apart
  pins:=fun i blk hb=>by
   simp only [O8] at hb ⊢;cases hk:C6 c.s.bx i with
   | true=>rw [hk] at hb;exact hb
   | false=>rw [hk] at hb;cases hb
  mine:=fun b hb=>h.rel.mine b (MM_M h.rel hb)
  top:=htop
  marks:=trivial
  sur:=by exact SB_begin (t:=t) h htop hM},fun l hl=>⟨X3 (hyok.1 l hl).1,(hyok.1 l hl).2⟩,fun i hi=>?_⟩
 simp only [O8] at hi;rw [←Zd];cases hk:C6 c.s.bx i with
 | true=>rfl
 | false=>rw [hk] at hi;cases hi
theorem A2v (h:SIx E c log false M w hh.φ t hh pend) (hM:∀b,M b→b<w.heap.size) (hyok:E.yok c.h0.y) (hpin:∀i∈E.pin,C6 c.s.bx i=true)
  (henv:c.s.env.all (fun p=>Bw (C6 c.s.bx) (fun _=>none) 6 p.2)=true)
  {lr:Loop} {t3:St} {a3:Act} {w3:World} {h3:Gh} (R3:Rel E.nt (SB E (KK hh M) c.L lr (MM hh) w hh.φ) t3.log t3.stp t3.fs a3 w3 h3) (hy:h3.y=(O8 c hh).y)
  {stp':Bool} {pend':Option Code} {log':List (List V)} (hgo:stp'=false→c.Inv log' {t3 with env:=c.s.env}∧t3.stp=c.s.stp∧pend'=none) (hstop:stp'=true→∃e j,c.Ix e {t3 with env:=c.s.env}∧pend'=some j∧Tg e=some j) :
  ∃hh4,SIx E c log' stp' M (w3.putObj c.L (.loop (c.rc (bif stp' then .done else .ready) pend'))) h3.φ {t3 with env:=c.s.env} hh4 pend' ∧
   Ext w hh.φ (w3.putObj c.L (.loop (c.rc (bif stp' then .done else .ready) pend'))) h3.φ ∧
   (∀k,M k→(w3.putObj c.L (.loop (c.rc (bif stp' then .done else .ready) pend'))).heap[k]?=w.heap[k]?∧h3.φ k=hh.φ k) ∧
   w.heap.size≤(w3.putObj c.L (.loop (c.rc (bif stp' then .done else .ready) pend'))).heap.size∧(∀b,(w3.putObj c.L (.loop (c.rc (bif stp' then .done else .ready) pend'))).heap.size≤b→h3.φ b=0) ∧
   (w3.putObj c.L (.loop (c.rc (bif stp' then .done else .ready) pend'))).os=w.os∧(w3.putObj c.L (.loop (c.rc (bif stp' then .done else .ready) pend'))).tape=w.tape∧(w3.putObj c.L (.loop (c.rc (bif stp' then .done else .ready) pend'))).output=w.output:=by
 have B:=R3.sur;generalize hlr:c.rc (bif stp' then .done else .ready) pend'=lr';have B4:SB E (KK hh M) c.L lr' (MM hh) w hh.φ t3.log t3.stp h3.M (w3.putObj c.L (.loop lr')) h3.φ:=A89 B;have MK:∀k,M k→KK hh M k∧k≠c.L:=fun k hk=>by
  have h1:¬hh.M k:=fun h1=>h.dis k h1 hk;exact ⟨⟨.inr hk,fun hx=>h1 (MM_M h.rel (.inl hx)),fun hx=>h1 (MM_M h.rel (.inr hx))⟩,fun e=>by subst e;exact h1 h.hL⟩
 have hyl:h3.y.l=hh.y.l:=by rw [hy,h.y];rfl
 have hβ:∀i blk,hh.β i=some blk→C6 c.s.bx i=true→h3.β i=some blk:=fun i blk e1 e2=>R3.pins i blk (by
  rw [hy];simp only [O8,e2,if_true];exact e1)
 refine ⟨{φ:=h3.φ,β:=h3.β,γ:=h3.γ,M:=fun b=>h3.M b∨(KK hh M b∧¬M b),y:=hh.y},?_,B4.ext,fun k hk=>⟨B4.kept k (MK k hk).1 (MK k hk).2,B4.phi k (MK k hk).1⟩,B4.size,B4.top,B4.os,B4.tape,B4.output⟩;have RT:Rel E.nt anyS t3.log t3.stp ({t3 with env:=c.s.env}:St).fs c.a w3 {φ:=h3.φ,β:=h3.β,γ:=h3.γ,M:=fun b=>h3.M b∨(KK hh M b∧¬M b),y:=hh.y}:={
  size:=h.rel.size
  env:=fun s v hv=>by
   rw [fs_g] at hv;obtain ⟨h1,h2,h3⟩:=h.rel.env s v (by rw [fs_g,h.env];exact hv);rw [List.all_eq_true] at henv;have ho:=henv _ (Md _ _ _ hv);exact ⟨h1,(A0g hβ h2 6 ho).mono B.ext (fun _ _ e=>e),Ze ho⟩
  bx:=fun i bo hb=>by
   rw [fs_b] at hb;obtain ⟨blk,cs,e,h1,h2,h3,h4,h5,h6⟩:=R3.bx i bo (by rw [fs_b];exact hb);refine ⟨blk,cs,e,h1,.inl h2,h3,h4,fun j v x hv hx=>?_,h6⟩;obtain ⟨p,q,r⟩:=h5 j v x hv hx;rw [hyl] at p;exact ⟨p,q,r⟩
  dom:=fun i blk hb=>R3.dom i blk hb
  inj:=R3.inj
  rows:=fun r n sz et hr=>by
   rcases R3.rows r n sz et hr with ⟨e,e'⟩ | ⟨b,cs,hb',hMb,hh',hp⟩
   ·exact .inl ⟨e,e'⟩
   ·exact .inr ⟨b,cs,hb',.inl hMb,hh',hp⟩
  rdom:=fun r blk hb=>R3.rdom r blk hb
  rinj:=R3.rinj
  apart:=R3.apart
  pins:=fun i blk hb=>hβ i blk (h.rel.pins i blk hb) (hpin i (hyok.2 i (by
   have hb':hh.y.p i=some blk:=hb;rw [h.y] at hb';rw [hb'];rfl)))
  mine:=fun b hb=>by
   rcases hb with hb | hb
   ·exact R3.mine b hb
   ·exact Nat.lt_of_lt_of_le (B.klt b hb.1) B.size
  top:=R3.top
  marks:=h.rel.marks.congr fun r hr hd=>by
   have hn:=not_MM h.rel hd (by intro _ _ _ e;cases e);have hK:KK hh M r:=⟨.inl hr,fun hx=>hn (.inl hx),fun hx=>hn (.inr hx)⟩;refine ⟨.inr ⟨hK,h.dis r hr⟩,(B.kept r hK fun e=>?_).trans hd⟩;subst e;rw [h.rc] at hd;cases hd
  sur:=trivial}
 have hLK:=KK_L h;have hLM:¬M c.L:=h.dis _ h.hL;refine {
  env:=rfl
  phi:=rfl
  y:=h.y
  rel:=RT.pokeS (S':=anyS) B.rc (by intro _ _ _ e;cases e) (by intro _ _ _ e;cases e) (by intro _ _ e;cases e) (by intro _ _ e;cases e) rfl ?_ trivial
  sur:=E.ok _ _ _ _ _ _ _ _ B4.sur ⟨Ext.refl _ _,fun _ _ _=>⟨rfl,rfl⟩,Nat.le_refl _,rfl,rfl,rfl,fun b hb=>.inl (by
   rcases hb with (hb | hb) | hb
   ·exact .inl hb
   ·exact .inr hb.1
   ·exact .inr (MK b hb).1),B4.top⟩
  dis:=fun b hb hMb=>by
   rcases hb with hb | hb
   ·rcases B.mine b hb with h1 | h1
    ·exact h.dis b (MM_M h.rel h1) hMb
    ·have:=hM b hMb;omega
   ·exact hb.2 hMb
  hL:=.inr ⟨hLK,hLM⟩
  rc:=by rw [hlr];exact B4.rc
  keys:=fun i blk e1 e2=>hβ i blk (h.keys i blk e1 e2) e1
  go:=hgo
  stop:=hstop}
 refine RT.marks.congr fun r hr hd=>⟨hr,(World.putObj_heap_other fun e=>?_).trans hd⟩;subst e;rw [B.rc] at hd;cases hd
end
end
section
open Go.RowKit
def Round (E:Env) (c:LC) (ys:YL) (ps:List Nat) (asg body:IC):Prop :=
 ∀(S1 S2:Sur) (ok1:SurIn E.S S1) (ok2:SurIn E.S S2) (pre:List (List V)) (x:List V) (t:St) (l:Nat),ys (pre++[x])→c.Inv pre t→t.env=c.s.env→t.stp=c.s.stp →
  Tr (E.inner c S1 ok1.ok) (some l) asg (qOnly fun t1=>Tr (E.inner c S2 ok2.ok) (some l) body (qRound (E.inner c S2 ok2.ok) c (pre++[x])) t1) {t with env:=penv ps x c.s.env}
theorem V1 {E:Env} {c:LC} {ys:YL} {ps:List Nat} {asg body:IC} {ca cb:Code} {fn:FuncId} {D:Nat} (hrc:∀st p,c.rc st p={state:=st,pending:=p,fn:=fn,tmps:=c.a.tmps,params:=ps.toArray,assign:=ca,body:=cb,defers:=D})
  (ha:Ee E.P E.nt ca=some asg) (hb:Ee E.P E.nt cb=some body) (hyok:E.yok c.h0.y) (hpin:∀i∈E.pin,C6 c.s.bx i=true) (henv:c.s.env.all (fun p=>Bw (C6 c.s.bx) (fun _=>none) 6 p.2)=true)
  (hps:∀p∈ps,p<E.nt) (hlen:∀pre x,ys (pre++[x])→x.length=ps.length) (hround:Round E c ys ps asg body):Fw E.P (SI E c) ys c.L:=by
 rintro log x M w φ xs hp ⟨t,hh,pend,h⟩ htop hM hrep;obtain ⟨hI,hst,rfl⟩:=h.go rfl;have e:=h.phi;subst e;have hxl:x.length=ps.length:=hlen log x hp;have hy:=run_yield (P:=E.P) (args:=xs) h.rc (by rw [hrc];have:=hrep.1;simp;omega);simp only [cond_false,hrc] at hy;refine ⟨_,_,_,_,hy,fun n=>roundIn_of_wpIn trivial ?_⟩;have htm:(ps.toArray.zip xs).foldl (fun tmps (t,a)=>tmps.setIfInBounds t a) c.a.tmps=(ps.zip xs.toList).foldl (fun t p=>t.setIfInBounds p.1 p.2) c.a.tmps:=by
  rw [←Array.foldl_toList];simp
 rw [htm];have R1:=A2x h htop hM hyok henv hps hrep;have hT:=hround (SB E (KK hh M) c.L (c.rc .ready none) (MM hh) w hh.φ) (SB E (KK hh M) c.L (c.rc .busy none) (MM hh) w hh.φ) ⟨A27,Aan⟩ ⟨A27,Aan⟩ log x t c.L hp hI h.env hst;refine hT ca ha n _ w _ R1 _ fun e t1 a1 w1 h1 k R1' ey1=>?_;cases e with
 | normal =>
   have hT2:Tr (E.inner c (SB E (KK hh M) c.L (c.rc .busy none) (MM hh) w hh.φ) A27) (some c.L) body _ t1:=k;have B1:=R1'.1.sur;have hbr:=run_beginRound (P:=E.P) B1.rc (by rw [hrc]);have eb:({c.rc .ready none with state:=.busy}:Loop)=c.rc .busy none:=by rw [hrc,hrc]
   rw [eb] at hbr;refine ⟨_,hbr,?_⟩;have R2:(E.inner c (SB E (KK hh M) c.L (c.rc .busy none) (MM hh) w hh.φ) A27).rel t1 a1 (w1.putObj c.L (.loop (c.rc .busy none))) h1:=by
    refine ⟨R1'.1.pokeS B1.rc (by intro _ _ _ e;cases e) (by intro _ _ _ e;cases e) (by intro _ _ e;cases e) (by intro _ _ e;cases e) rfl (R1'.1.marks.congr fun r hr hd=>⟨hr,(World.putObj_heap_other fun e=>?_).trans hd⟩) (A89 B1),fun l hl=>have hl':=hyok.1 l (by rw [ey1] at hl;exact hl);⟨X3 hl'.1,hl'.2⟩,R1'.2.2⟩;subst e;rw [B1.rc] at hd;cases hd
   refine hT2 cb hb n _ _ _ R2 _ fun e t2 a2 w2 h2 k2 R2' ey2=>?_;have jump:∀(j:Option Code) (t3:St) (h3:Gh) (w3:World) (a3:Act),Rel E.nt (SB E (KK hh M) c.L (c.rc .busy none) (MM hh) w hh.φ) t3.log t3.stp t3.fs a3 w3 h3→h3.y=(O8 c hh).y → (j=none→c.Inv (log++[x]) {t3 with env:=c.s.env}∧t3.stp=c.s.stp)→(∀jc,j=some jc→∃e,c.Ix e {t3 with env:=c.s.env}∧Tg e=some jc) →
     ∃v w',(Instr.endRound c.L j).run E.P w3=.ok v w'∧∃b φ',(Ending.returned v)=.returned (.bool b)∧SI E c (log++[x]) (!b) M w' φ'∧Ext w hh.φ w' φ'∧(∀k,M k→w'.heap[k]?=w.heap[k]?∧φ' k=hh.φ k)∧w.heap.size≤w'.heap.size∧(∀b,w'.heap.size≤b→φ' b=0)∧w'.os=w.os∧w'.tape=w.tape∧w'.output=w.output:=by
    intro j t3 h3 w3 a3 R3 ey3 hn hs;have her:=run_endRound (P:=E.P) j R3.sur.rc;have ee:({c.rc .busy none with state:=if j.isNone then .ready else .done,pending:=j}:Loop)=c.rc (bif (!j.isNone) then .done else .ready) j:=by
     rw [hrc,hrc];cases j<;>rfl
    rw [ee] at her;obtain ⟨hh4,hs4,q⟩:=A2v (stp':=!j.isNone) (pend':=j) (log':=log++[x]) h hM hyok hpin henv R3 ey3 (fun e=>by
      cases j with
      | none=>exact ⟨(hn rfl).1,(hn rfl).2,rfl⟩
      | some jc=>simp at e) (fun e=>by
      cases j with
      | none=>simp at e
      | some jc=>obtain ⟨e',g1,g2⟩:=hs jc rfl;exact ⟨e',jc,g1,rfl,g2⟩)
    exact ⟨_,_,her,j.isNone,h3.φ,rfl,⟨_,hh4,j,hs4⟩,q⟩
   cases e with
   | normal =>
     obtain ⟨t',hw,hI',hst'⟩:=k2;obtain ⟨h3,R3,e3⟩:=hw a2 w2 h2 R2';exact jump none t' h3 w2 a2 R3.1 (e3.trans (ey2.trans ey1)) (fun _=>⟨hI',hst'⟩) (fun _ e=>(by cases e))
   | ret =>
     obtain ⟨t',hw,hI'⟩:=k2;obtain ⟨h3,R3,e3⟩:=hw a2 w2 h2 R2';exact jump (some .ret) t' h3 w2 a2 R3.1 (e3.trans (ey2.trans ey1)) (fun e=>(by cases e)) (fun jc e=>by cases e;exact ⟨_,hI',rfl⟩)
   | exit i =>
     obtain ⟨t',hw,hI'⟩:=k2;obtain ⟨h3,R3,e3⟩:=hw a2 w2 h2 R2';exact jump (some (.exit i)) t' h3 w2 a2 R3.1 (e3.trans (ey2.trans ey1)) (fun e=>(by cases e)) (fun jc e=>by cases e;exact ⟨_,hI',rfl⟩)
   | goto i =>
     obtain ⟨t',hw,hI'⟩:=k2;obtain ⟨h3,R3,e3⟩:=hw a2 w2 h2 R2';exact jump (some (.goto i)) t' h3 w2 a2 R3.1 (e3.trans (ey2.trans ey1)) (fun e=>(by cases e)) (fun jc e=>by cases e;exact ⟨_,hI',rfl⟩)
   | panic _=>exact k2.elim
   | outgrown=>exact k2.elim
 | _=>exact k.elim
theorem Ai5 {E:Env} {s:St} {Q:Exit→St→Prop} {z:X} {ps:List Nat} {asg body:IC} {f:FuncId} {cap us:List V} {ys dn:YL} (hz:evX s.fs z=some (.func (.func f) [] cap)) (hd:toDs s.fs.b cap=some (us,[])) (hit:Aia E.P f us ys dn)
  (hpin:E.pin.all (C6 s.bx)=true) (henv:s.env.all (fun p=>Bw (C6 s.bx) (fun _=>none) 6 p.2)=true) (hps:ps.all (fun p=>decide (p<E.nt))=true) (hlen:∀pre x,ys (pre++[x])→x.length=ps.length)
  (Inv:List (List V)→St→Prop) (Ix:Exit→St→Prop) (h0:Inv [] s) (hround:∀(a:Act) (L:Nat) (rc:LoopState→Option Code→Loop) (h0:Gh),Round E {s:=s,a:=a,L:=L,rc:=rc,h0:=h0,Inv:=Inv,Ix:=Ix} ys ps asg body)
  (hdone:∀t log,dn log→t.env=s.env→t.stp=s.stp→Inv log t→Q .normal t) (hstop:∀e t,t.env=s.env→Ix e t→Q e t):Tr E none (.range z ps asg body) Q s:=fun c hc n a w h R Q' hq=>by
 obtain ⟨p,ca,cb,rfl,e0,e1,e2⟩:=Cb hc;have okz:=R.1.opd e0 hz;obtain ⟨f',c',ef,hf',hc',_,hcr⟩:=Kv okz;have hf0:f'=#[]:=by
  have:f'.size=0:=by simpa using hf'.symm
  exact Array.eq_empty_of_size_eq_zero this
 subst hf0;have hcallable:=hit.1;refine wpIn_rangeFunc fun fn hfn=>?_;have hw1:∃w1,(w.alloc (.deferred (some []))).alloc (.loop {state:=.ready,pending:=none,fn:=fn,tmps:=a.tmps,params:=ps.toArray,assign:=ca,body:=cb,defers:=w.heap.size})=w1:=⟨_,rfl⟩;obtain ⟨w1,hw1⟩:=hw1;have hl1:w1.heap[w.heap.size+1]?=some (.loop {state:=.ready,pending:=none,fn:=fn,tmps:=a.tmps,params:=ps.toArray,assign:=ca,body:=cb,defers:=w.heap.size}):=by
  rw [←hw1];have:=World.alloc_heap_new (w.alloc (.deferred (some []))) (.loop {state:=.ready,pending:=none,fn:=fn,tmps:=a.tmps,params:=ps.toArray,assign:=ca,body:=cb,defers:=w.heap.size});rwa [World.size_alloc] at this
 have hk1:w1.heap[w.heap.size]?=some (.deferred (some [])):=by
  rw [←hw1];exact (Below.heap_alloc _ _ _ (by simp)).trans (World.alloc_heap_new w _)
 have R1:=(R.1.alloc E.ok (.deferred (some []))).alloc E.ok (.loop {state:=.ready,pending:=none,fn:=fn,tmps:=a.tmps,params:=ps.toArray,assign:=ca,body:=cb,defers:=w.heap.size});rw [hw1] at R1;obtain ⟨h1,hh1⟩:∃h1:Gh,{h with M:=fun b=>(h.M b∨b=w.heap.size)∨b=(w.alloc (.deferred (some []))).heap.size}=h1:=⟨_,rfl⟩;have R1:Rel E.nt E.S s.log s.stp s.fs a w1 h1:=by rw [←hh1];exact R1
 have q1:h1.φ=h.φ:=by rw [←hh1]
 have q2:h1.y=h.y:=by rw [←hh1]
 have qD:h1.M w.heap.size:=by rw [←hh1];exact .inl (.inr rfl)
 have qL:h1.M (w.heap.size+1):=by rw [←hh1];exact .inr (by simp)
 obtain ⟨a',ha'⟩:∃a':Act,{a with defers:=[{target:=.collected w.heap.size,args:=#[]}]++a.defers}=a':=⟨_,rfl⟩;have ht':a'.tmps=a.tmps:=by rw [←ha']
 have R2:Rel E.nt E.S s.log s.stp s.fs a' w1 h1:=by
  refine {R1 with size:=by rw [ht'];exact R1.size,env:=fun t v hv=>by rw [ht'];exact R1.env t v hv,marks:=?_};rw [←ha'];refine ⟨⟨w.heap.size,rfl,qD,hk1,fun d hd e=>?_⟩,R1.marks⟩;have:∀ds:List Deferred,Marks h.M w ds→∀d∈ds,d≠{target:=.collected w.heap.size,args:=#[]}:=by
   intro ds
   induction ds with
   | nil=>intro _ d hd;cases hd
   | cons d0 ds ih =>
     rintro ⟨⟨r,er,hMr,_,_⟩,hs⟩ d hd e;rcases List.mem_cons.1 hd with rfl | hd
     ·rw [er] at e;simp only [Deferred.mk.injEq,Target.collected.injEq,and_true] at e;have:=R.1.mine r hMr;omega
     ·exact ih hs d hd e
  exact this a.defers R.1.marks d hd e
 let lc:LC:={s:=s,a:=a',L:=w.heap.size+1,rc:=fun st p=>{state:=st,pending:=p,fn:=fn,tmps:=a.tmps,params:=ps.toArray,assign:=ca,body:=cb,defers:=w.heap.size},h0:=h1,Inv:=Inv,Ix:=Ix}
 have hpin':∀i∈E.pin,C6 s.bx i=true:=by rw [List.all_eq_true] at hpin;exact hpin
 have hps':∀p∈ps,p<E.nt:=fun p hp=>by rw [List.all_eq_true] at hps;simpa using hps p hp
 have hY:Fw E.P (SI E lc) ys (w.heap.size+1):=V1 (c:=lc) (D:=w.heap.size) (fn:=fn) (fun st p=>by rw [show lc.a.tmps=a.tmps from ht']) e1 e2 (by show E.yok h1.y;rw [q2];exact R.2) hpin' henv hps' hlen (hround _ _ _ _);have hSI:SI E lc [] false (fun _=>False) w1 h1.φ:=⟨s,h1,none,{
  env:=rfl
  phi:=rfl
  y:=rfl
  rel:=R2.toTop
  sur:=E.ok _ _ _ _ _ _ _ _ R2.sur ⟨Ext.refl _ _,fun _ _ _=>⟨rfl,rfl⟩,Nat.le_refl _,rfl,rfl,rfl,fun b hb=>.inl (hb.elim id fun h=>h.elim),R2.top⟩
  dis:=fun _ _ h=>h
  hL:=qL
  rc:=hl1
  keys:=fun _ _ _ e=>e
  go:=fun _=>⟨h0,rfl,rfl⟩
  stop:=fun e=>(by cases e)}⟩
 have hrepc:RepL w1 h1.φ us c':=by
  have hcr1:∀(i:Nat) v x,cap[i]?=some v→c'[i]?=some x→Rep w1 h1.φ h1.β h1.y.l v x:=fun i v x g1 g2=>by
   have ext:Ext w h.φ w1 h1.φ:=by
    have e1:Ext w h.φ w1 h.φ:=fun b o ho=>by
     have hlt:b<w.heap.size:=by
      rcases Nat.lt_or_ge b w.heap.size with h1 | h1
      ·exact h1
      ·rw [R.1.top b h1] at ho;omega
     have hbk:w1.heap[b]?=w.heap[b]?:=by
      rw [←hw1,Below.heap_alloc _ _ _ (by simp;omega),Below.heap_alloc _ _ _ hlt]
     exact ⟨ho,World.cell?_of_block hbk,Bn hbk⟩
    rw [q1];exact e1
   have:=(hcr i v x g1 g2).mono ext (β':=h1.β) (fun _ _ e=>by rw [←hh1];exact e);rw [q2];exact this
  have hd':toDl s.fs.b 6 cap=some (us,[]):=hd;obtain ⟨g1,g2⟩:=Hc hd';refine ⟨by omega,fun i u x hu hx=>?_⟩;have hlt:i<cap.length:=by have:=(List.getElem?_eq_some_iff.1 hu).1;omega
  obtain ⟨js,h5,h6⟩:=g2 i _ u (List.getElem?_eq_getElem hlt) hu;exact (Jn R1 6 _ u x js h5 (fun i hi=>(by cases h6 i hi)) (hcr1 i _ x (List.getElem?_eq_getElem hlt) hx)).1
 obtain ⟨hcall,hcon⟩:=hit;have hC:=hcon (SI E lc) SI_ok (w.heap.size+1) w1 h1.φ c' R1.top hrepc hY hSI;refine ⟨w.heap.size+1,[{target:=.collected w.heap.size,args:=#[]}],w1,{target:=.fn (.func f) c',args:=#[.func (.yield (w.heap.size+1)) #[] #[]]},w1,f,
  #[.func (.yield (w.heap.size+1)) #[] #[]]++c',w1,?_,?_,fun _ _=>trivial,?_,fun e=>by simp [Dm,Fence.wide] at e,?_⟩
 ·rw [←hw1];exact run_enterLoop_outer _ _ _ _ _
 ·simp only [resolve,ef];simp [go_sem]
 ·unfold C9 at hcall;cases hf:E.P.funcs[f]? with
  | none=>simp [hf] at hcall
  | some fn =>
    simp only [hf,Bool.and_eq_true,bne_iff_ne,ne_eq] at hcall;have hb:fn.body.isNone=false:=by cases h:fn.body<;>simp [h] at hcall ⊢
    have hnm:(fn.name== "runtime.NumGoroutine")=false:=by simpa using hcall.1
    simp only [invoke,callFunc,Sem.run_bind,run_program,Result.andThen_ok,hf,hnm,hb];simp
 ·refine (Cd hC).mono ?_;rintro e w5 ⟨log,stp,φ5,x,rfl,⟨t,hh,pend,h5⟩,ht5,hend⟩;have e5:=h5.phi;subst e5;have hrun:=run_endLoop (P:=E.P) h5.rc (by cases stp<;>simp [lc]);refine ⟨_,_,hrun,?_⟩;have hQ:E.rel t a' (w5.putObj (w.heap.size+1) (.loop {lc.rc (bif stp then .done else .ready) pend with state:=.exhausted})) hh:=by
   have ext:=L3 (φ:=hh.φ) (o:=.loop {lc.rc (bif stp then .done else .ready) pend with state:=.exhausted}) h5.rc (by intro _ _ _ e;cases e) (by intro _ _ _ e;cases e) (by intro _ _ e;cases e) (by intro _ _ e;cases e);refine ⟨h5.rel.pokeS h5.rc (by intro _ _ _ e;cases e) (by intro _ _ _ e;cases e) (by intro _ _ e;cases e) (by intro _ _ e;cases e) rfl (h5.rel.marks.congr fun r hr hd=>⟨hr,(World.putObj_heap_other fun e=>?_).trans hd⟩)
    (E.ok _ _ _ _ _ _ _ _ h5.sur ⟨ext,fun b hb hn=>⟨World.putObj_heap_other fun e=>hn (.inl (e▸h5.hL)),rfl⟩,by rw [World.putObj_size];exact Nat.le_refl _,rfl,rfl,rfl,fun b hb=>.inl (.inl hb),fun b hb=>ht5 b (by rwa [World.putObj_size] at hb)⟩),?_⟩
   ·subst e;rw [h5.rc] at hd;cases hd
   ·have hyy:hh.y=h.y:=h5.y.trans q2;rw [hyy];exact R.2
  have hyy:hh.y=h.y:=h5.y.trans q2;cases stp with
  | false =>
    obtain ⟨g1,g2,g3⟩:=h5.go rfl;have hlog:dn log:=hend.resolve_left (by simp);subst g3;exact hq .normal t _ _ hh (hdone t log hlog h5.env g2 g1) (by rw [←ha'] at hQ;exact hQ) hyy
  | true =>
    obtain ⟨e,j,g1,g2,g3⟩:=h5.stop rfl;subst g2;have hQe:=hq e t _ _ hh (hstop e t h5.env g1) (by rw [←ha'] at hQ;exact hQ) hyy;show Code.wpIn _ _ _ j _ _ _;cases e<;>simp only [Tg,Option.some.injEq] at g3<;>(try (cases g3;done))<;>subst g3
    ·exact wpIn_exit hQe
    ·exact wpIn_goto hQe
    ·exact wpIn_ret hQe
theorem Fz {E:Env} {s:St} {Q:Exit→St→Prop} {z:X} {ps:List Nat} {asg body:IC} {f:FuncId} {cap us:List V} {ys:List (List V)} (hz:evX s.fs z=some (.func (.func f) [] cap)) (hd:toDs s.fs.b cap=some (us,[])) (hit:Iter E.P f us ys)
  (hpin:E.pin.all (C6 s.bx)=true) (henv:s.env.all (fun p=>Bw (C6 s.bx) (fun _=>none) 6 p.2)=true) (hps:ps.all (fun p=>decide (p<E.nt))=true) (hlen:∀x∈ys,x.length=ps.length)
  (Inv:List (List V)→St→Prop) (Ix:Exit→St→Prop) (h0:Inv [] s) (hround:∀(a:Act) (L:Nat) (rc:LoopState→Option Code→Loop) (h0:Gh),Round E {s:=s,a:=a,L:=L,rc:=rc,h0:=h0,Inv:=Inv,Ix:=Ix} (Q3 ys) ps asg body)
  (hdone:∀t,t.env=s.env→t.stp=s.stp→Inv ys t→Q .normal t) (hstop:∀e t,t.env=s.env→Ix e t→Q e t):Tr E none (.range z ps asg body) Q s :=
 Ai5 hz hd hit hpin henv hps (fun pre x hp=>hlen x (List.IsPrefix.subset hp (by simp))) Inv Ix h0 hround (fun t log hl e1 e2 hI=>hdone t e1 e2 (hl▸hI)) hstop
end
section
open Go.RowKit
def evXs (env:List (Nat×V)):List X→Option (List V)
 | []=>some []
 | .t n::r=>match get env n with
   | some v=>match evXs env r with
     | some vs=>some (v::vs)
     | none=>none
   | none=>none
 | .c v::r=>match evXs env r with
   | some vs=>some (v::vs)
   | none=>none
theorem Ay {s:St}:∀{xs:List X} {vs:List V},evXs s.env xs=some vs→xs.mapM (evX s.fs)=some vs
 | [],vs,h=>by cases h;rfl
 | .t n::r,vs,h=>by
   simp only [evXs] at h;split at h<;>(try (cases h;done));rename_i v hv;split at h<;>(try (cases h;done));rename_i us hus;cases h;simp only [List.mapM_cons,evX,fs_g,hv,Ay hus,Option.bind_eq_bind,Option.bind_some,Option.pure_def]
 | .c v::r,vs,h=>by
   simp only [evXs] at h;split at h<;>(try (cases h;done));rename_i us hus;cases h;simp only [List.mapM_cons,evX,Ay hus,Option.bind_eq_bind,Option.bind_some,Option.pure_def]
def nilOk:K→List V→Bool
 | .nilck,[.func (.func _) _ _]=>true
 | .nilck,[.func _ _ _]=>false
 | _,_=>true
def isNilck:K→Bool
 | .nilck=>true
 | _=>false
def allU:List V→Prop
 | []=>True
 | .cond p _::r=>p=true∧allU r
 | _::r=>allU r
theorem Mk:∀{vs:List V},allU vs→∀v∈vs,(under v).1=true
 | [],_,v,hv=>by cases hv
 | u::r,h,v,hv=>by
   by_cases hc:∃p x,u=.cond p x
   ·obtain ⟨p,x,rfl⟩:=hc;obtain ⟨h1,h2⟩:=h;rcases List.mem_cons.1 hv with rfl | hv
    ·exact h1
    ·exact Mk h2 v hv
   ·have h2:allU r:=by cases u<;>first | exact h | exact absurd ⟨_,_,rfl⟩ hc
    rcases List.mem_cons.1 hv with rfl | hv
    ·cases v<;>first | rfl | exact absurd ⟨_,_,rfl⟩ hc
    ·exact Mk h2 v hv
def B6:List V→List V
 | []=>[]
 | v::r=>(under v).2::B6 r
theorem Id:∀vs,B6 vs=vs.map fun v=>(under v).2
 | []=>rfl
 | v::r=>by simp [B6,Id r]
def A2n (ins:Ins) (s:St):Option (Prop×Eff×List Loc) :=
 match evXs s.env ins.xs with
 | none=>none
 | some vs =>
   match ins.g with
   | none=>match Bl ins.k (ins.d.getD 0) vs s.fs with
     | some eff=>match nilOk ins.k vs with
       | true=>some (eff.pre,eff,Bp ins.xs++eff.rb.map .bx++eff.rr.map .row)
       | false=>none
     | none=>none
   | some (t,want)=>match get s.env t with
     | none=>none
     | some gv=>match Cg want gv with
       | none=>none
       | some gb=>match Bl ins.k (ins.d.getD 0) (B6 vs) s.fs with
         | none=>none
         | some eff=>match eff.wb,eff.wr,isNilck ins.k with
           | [],[],false=>some (gb=true→eff.pre∧allU vs,{v:=.cond gb eff.v},.slot t::Bp ins.xs++eff.rb.map .bx++eff.rr.map .row)
           | _,_,_=>none
theorem Mv {E:Env} {ins:Ins} {s:St} {p:Prop} {eff:Eff} {rd:List Loc} (h:A2n ins s=some (p,eff,rd)) (hp:p):Does E s.fs ins eff rd:=by
 unfold A2n at h;cases h1:evXs s.env ins.xs with
 | none=>rw [h1] at h;cases h
 | some vs =>
   rw [h1] at h;simp only at h;cases hg:ins.g with
   | none =>
     rw [hg] at h;simp only at h;cases h2:Bl ins.k (ins.d.getD 0) vs s.fs with
     | none=>rw [h2] at h;cases h
     | some e =>
       rw [h2] at h;simp only at h;cases h3:nilOk ins.k vs with
       | false=>rw [h3] at h;cases h
       | true =>
         rw [h3] at h;cases h;refine .op hg (Ay h1) h2 hp fun e fn first cap ev=>?_
         rw [e,ev] at h3;cases fn<;>first | exact ⟨_,rfl⟩ | (simp [nilOk] at h3)
   | some tw =>
     obtain ⟨t,want⟩:=tw;rw [hg] at h;simp only at h;cases h2:get s.env t with
     | none=>rw [h2] at h;cases h
     | some gv =>
       rw [h2] at h;simp only at h;cases h3:Cg want gv with
       | none=>rw [h3] at h;cases h
       | some gb =>
         rw [h3] at h;simp only at h;cases h4:Bl ins.k (ins.d.getD 0) (B6 vs) s.fs with
         | none=>rw [h4] at h;cases h
         | some e =>
           rw [h4] at h;simp only at h;split at h<;>(try (cases h;done));rename_i h5 h6 h7;cases h;rw [Id] at h4;refine .gop hg (by rw [fs_g];exact h2) h3 (Ay h1) h4 (fun hgb=>⟨(hp hgb).1,Mk (hp hgb).2⟩) h5 h6 fun hk=>?_;rw [hk] at h7;cases h7
def runP:List Ins→St→Prop→Prop×St×List Ins
 | [],s,p=>(p,s,[])
 | i::r,s,p=>match A2n i s with
   | some (q,eff,_)=>runP r ((s.eff eff).put i.d eff.v) (p∧q)
   | none=>(p,s,i::r)
theorem A95:∀(il:List Ins) (s:St) (p:Prop),(runP il s p).1→p
 | [],s,p,h=>h
 | i::r,s,p,h=>by
   simp only [runP] at h;split at h
   ·exact (A95 r _ _ h).1
   ·exact h
theorem Aeh {E:Env} {K:St→Prop}:∀(il:List Ins) (s:St) (p:Prop),(runP il s p).1→Steps E (runP il s p).2.2 K (runP il s p).2.1→Steps E il K s
 | [],s,p,_,h=>h
 | i::r,s,p,h1,h2=>by
   simp only [runP] at h1 h2;split at h1
   ·rename_i q eff rd hq;simp only [hq] at h2;exact .does (Mv hq (A95 r _ _ h1).2) (Aeh r _ _ h1 h2)
   ·rename_i hq;simp only [hq] at h2;exact h2
theorem Ci {E:Env} {K:St→Prop} {il rest:List Ins} {s s':St} {p:Prop} (h:runP il s True=(p,s',rest)) (hp:p) (hs:Steps E rest K s'):Steps E il K s:=by
 refine Aeh il s True ?_ ?_
 ·rw [h];exact hp
 ·rw [h];exact hs
theorem Srn {E:Env} {K:St→Prop} {il rest:List Ins} {s s':St} {p:Prop} (h:runP il s True=(p,s',rest)) (hs:Steps E rest K s') (hp:p:=by simp):Steps E il K s:=Ci h hp hs
def Lj:List Ins→St→Prop→List (List Loc×List Loc)→Prop×St×List (List Loc×List Loc)×List Ins
 | [],s,p,fp=>(p,s,fp.reverse,[])
 | i::r,s,p,fp=>match A2n i s with
   | some (q,eff,rd)=>Lj r ((s.eff eff).put i.d eff.v) (p∧q) ((wrOf i eff,rd)::fp)
   | none=>(p,s,fp.reverse,i::r)
inductive TraceK (E:Env):St→List Ins→(List (List Loc×List Loc)→St→List Ins→Prop)→Prop
 | done {s:St} {il:List Ins} {K:List (List Loc×List Loc)→St→List Ins→Prop} (h:K [] s il):TraceK E s il K
 | step {s:St} {ins:Ins} {il:List Ins} {eff:Eff} {rd:List Loc} {K:List (List Loc×List Loc)→St→List Ins→Prop} (hd:Does E s.fs ins eff rd) (t:TraceK E ((s.eff eff).put ins.d eff.v) il fun fp s' r=>K ((wrOf ins eff,rd)::fp) s' r):TraceK E s (ins::il) K
theorem TraceK.spec {E:Env} {s:St} {il:List Ins} {K:List (List Loc×List Loc)→St→List Ins→Prop} (t:TraceK E s il K):∃il1 fp s' r,il=il1++r∧Trace E s il1 fp s'∧K fp s' r:=by
 induction t with
 | done h=>exact ⟨[],[],_,_,rfl,.nil,h⟩
 | step hd t ih =>
   obtain ⟨il1,fp,s',r,e,t',k⟩:=ih;exact ⟨_::il1,_,s',r,by rw [e];rfl,.cons hd t',k⟩
theorem Yn:∀(il:List Ins) (s:St) (p:Prop) (fp:List (List Loc×List Loc)),(Lj il s p fp).1→p
 | [],s,p,fp,h=>h
 | i::r,s,p,fp,h=>by
   simp only [Lj] at h;split at h
   ·exact (Yn r _ _ _ h).1
   ·exact h
theorem A2j {E:Env}:∀(il:List Ins) (s:St) (p:Prop) (fp:List (List Loc×List Loc)) (K:List (List Loc×List Loc)→St→List Ins→Prop),(Lj il s p fp).1 →
  (∃fp2,(Lj il s p fp).2.2.1=fp.reverse++fp2∧(TraceK E (Lj il s p fp).2.1 (Lj il s p fp).2.2.2 (fun f s' r=>K (fp2++f) s' r)→TraceK E s il K))
 | [],s,p,fp,K,h=>⟨[],by simp [Lj],fun h=>h⟩
 | i::r,s,p,fp,K,h=>by
   simp only [Lj] at h ⊢;split at h
   ·rename_i q eff rd hq;obtain ⟨fp2,h2,h3⟩:=A2j r _ _ _ (fun f s' r=>K ((wrOf i eff,rd)::f) s' r) h;refine ⟨(wrOf i eff,rd)::fp2,by rw [h2];simp,fun hk=>.step (Mv hq (Yn r _ _ _ h).2) (h3 hk)⟩
   ·exact ⟨[],by simp,fun h=>h⟩
theorem Bm {E:Env} {K:List (List Loc×List Loc)→St→List Ins→Prop} {il rest:List Ins} {s s':St} {fp:List (List Loc×List Loc)} {p:Prop} (h:Lj il s True []=(p,s',fp,rest)) (hp:p) (hs:TraceK E s' rest fun f s'' r=>K (fp++f) s'' r):TraceK E s il K:=by
 obtain ⟨fp2,h2,h3⟩:=A2j (E:=E) il s True [] K (by rw [h];exact hp);rw [h] at h2 h3;simp only [List.reverse_nil,List.nil_append] at h2;subst h2;exact h3 hs
theorem KrT {a b c:Prop} (h:c) (x:a:=by kernel_rfl) (y:b:=by kernel_rfl):a∧b∧c:=⟨x,y,h⟩
theorem Krn {E:Env} {K:List (List Loc×List Loc)→St→List Ins→Prop} {il rest:List Ins} {s s':St} {fp:List (List Loc×List Loc)} {p:Prop} (h:Lj il s True []=(p,s',fp,rest)) (hs:TraceK E s' rest fun f s'' r=>K (fp++f) s'' r) (hp:p:=by simp):TraceK E s il K:=Bm h hp hs
theorem Ab {E:Env} {ro:Option Nat} {Q:Exit→St→Prop} {s:St} {bef:List Nat} {il:List Ins} (t:TraceK E s il fun fp s' r=>Gm bef fp=true∧Eg bef (il.length-r.length) il.length=true∧Steps E r (Q .normal) s'):Tr E ro (.draw bef il) Q s:=by
 obtain ⟨il1,fp,s',r,e,t',h1,h2,h3⟩:=t.spec;subst e;exact Tr.draw t' rfl h1 (by simpa using h2) h3
end
section
open Go.RowKit
def chkF (P:Program) (f:FuncId):Option (Nat×IC×List ResultVar) :=
 match P.funcs[f]? with
 | some fn=>match fn.body with
   | some c=>match Ee P fn.ntmps c with
     | some ic=>bif C9 P f then some (fn.ntmps,ic,fn.results.toList) else none
     | none=>none
   | none=>none
 | none=>none
theorem L6 {P:Program} {f nt:Nat} {ic:IC} {rs:List ResultVar} (h:chkF P f=some (nt,ic,rs)):∃fn c,P.funcs[f]?=some fn∧fn.body=some c∧fn.ntmps=nt∧Ee P nt c=some ic∧fn.results.toList=rs∧C9 P f=true:=by
 unfold chkF at h;cases h1:P.funcs[f]? with
 | none=>rw [h1] at h;cases h
 | some fn =>
   rw [h1] at h;simp only at h;cases h2:fn.body with
   | none=>rw [h2] at h;cases h
   | some c =>
     rw [h2] at h;simp only at h;cases h3:Ee P fn.ntmps c with
     | none=>rw [h3] at h;cases h
     | some ic' =>
       rw [h3] at h;simp only at h;cases h4:C9 P f with
       | false=>rw [h4] at h;cases h
       | true=>rw [h4] at h;cases h;exact ⟨fn,c,rfl,h2,rfl,h3,rfl,rfl⟩
abbrev env0 (P:Program) (hmix:P.follows .mixedOrders=true) (nt:Nat) (S:Sur) (ok:S.ok):Env:={P:=P,nt:=nt,S:=S,ys:=noYs,pin:=[],ok:=ok,mixed:=hmix}
abbrev envY (P:Program) (hmix:P.follows .mixedOrders=true) (nt:Nat) (ys:List (List V)) (S:Sur) (ok:S.ok):Env:={P:=P,nt:=nt,S:=S,ys:=Q3 ys,pin:=[],ok:=ok,mixed:=hmix}
theorem C_of {P:Program} {f nt:Nat} {ic:IC} {rs:List ResultVar} (hmix:P.follows .mixedOrders=true) (h:chkF P f=some (nt,ic,rs)) {args:List V} {r:V} (hlen:args.length≤nt)
  (hT:∀(S:Sur) (ok:S.ok),Tr (env0 P hmix nt S ok) none ic (qRet P rs r fun _=>True) (entry args)):C P f args r:=by
 obtain ⟨fn,c,h1,h2,h3,h4,rfl,h6⟩:=L6 h;exact C_intro h1 h2 h6 hmix h3 h4 hlen hT
theorem Lb {P:Program} {f nt:Nat} {ic:IC} {rs:List ResultVar} (hmix:P.follows .mixedOrders=true) (h:chkF P f=some (nt,ic,rs)) {cap:List V} {ys:List (List V)} (hlen:cap.length+1≤nt)
  (hT:∀(S:Sur) (ok:S.ok),Tr (envY P hmix nt ys S ok) none ic (qRet P rs (.tuple []) fun s=>s.stp=true∨s.log=ys) (entry (.yld::cap))):Iter P f cap ys:=by
 obtain ⟨fn,c,h1,h2,h3,h4,rfl,h6⟩:=L6 h;exact Adi h1 h2 h6 hmix h3 h4 hlen hT
theorem A84 {E:Env} {ro:Option Nat} {Q:Exit→St→Prop} {il rest:List Ins} {s s':St} {p:Prop} (h:runP il s True=(p,s',rest)) (hp:p) (hs:Steps E rest (Q .normal) s'):Tr E ro (.reg il) Q s:=Ae (Ci h hp hs)
theorem A3 {E:Env} {K:St→Prop} {s:St} {d:Option Nat} {f:FuncId} {xs:List X} {rest:List Ins} {vs us:List V} {ids:List Nat} {r:V} (hx:evXs s.env xs=some vs) (hd:toDs s.fs.b vs=some (us,ids)) (hc:C E.P f us r)
  (hk:Steps E rest K ((s.eff {v:=r,wb:=freeze s.fs.b ids}).put d r)):Steps E (⟨d,.call f,xs,none⟩::rest) K s :=
 Step1.does (ins:=⟨d,.call f,xs,none⟩) (.call rfl rfl (Ay hx) hd hc) hk
theorem Dr {E:Env} {K:St→Prop} {s:St} {d:Option Nat} {f:FuncId} {xs:List X} {rest:List Ins} {vs first cap us:List V} {ids:List Nat} {r:V} (hx:evXs s.env xs=some (.func (.func f) first cap::vs)) (hd:toDs s.fs.b (first++vs++cap)=some (us,ids)) (hc:C E.P f us r)
  (hk:Steps E rest K ((s.eff {v:=r,wb:=freeze s.fs.b ids}).put d r)):Steps E (⟨d,.callv,xs,none⟩::rest) K s :=
 Step1.does (ins:=⟨d,.callv,xs,none⟩) (.callv rfl rfl (Ay hx) hd hc) hk
end
section
open Go.RowKit
section
variable {r:List V}
@[simp] theorem allU_nil:allU []=True:=rfl
@[simp] theorem allU_int {k:IntKind} {n:Int}:allU (.int k n::r)=allU r:=rfl
@[simp] theorem allU_bool {b:Bool}:allU (.bool b::r)=allU r:=rfl
@[simp] theorem allU_str {b:ByteArray}:allU (.str b::r)=allU r:=rfl
@[simp] theorem allU_nils:allU (.nils::r)=allU r:=rfl
@[simp] theorem allU_nilp:allU (.nilp::r)=allU r:=rfl
@[simp] theorem allU_nilf:allU (.nilf::r)=allU r:=rfl
@[simp] theorem allU_slice {q sz:Nat} {xs:List V}:allU (.slice q sz xs::r)=allU r:=rfl
@[simp] theorem allU_ptr {b o:Nat}:allU (.ptr b o::r)=allU r:=rfl
@[simp] theorem allU_vptr {cs:List V} {o:Nat}:allU (.vptr cs o::r)=allU r:=rfl
@[simp] theorem allU_func {f:Fn} {a b:List V}:allU (.func f a b::r)=allU r:=rfl
@[simp] theorem allU_agg {cs:List V}:allU (.agg cs::r)=allU r:=rfl
@[simp] theorem allU_tuple {cs:List V}:allU (.tuple cs::r)=allU r:=rfl
@[simp] theorem allU_yld:allU (.yld::r)=allU r:=rfl
@[simp] theorem allU_cond {p:Bool} {v:V}:allU (.cond p v::r)=(p=true∧allU r):=rfl
end
section
variable {E:Env} {ro:Option Nat} {Q:Exit→St→Prop} {s s':St}
theorem Aw {il:List Ins} {y:IC} {p:Prop} (h:runP il s True=(p,s',[])) (hp:p) (hs:Tr E ro y Q s'):Tr E ro (.seq (.reg il) y) Q s :=
 A2 (A84 h hp hs)
theorem TsR {E:Env} {ro:Option Nat} {Q:Exit→St→Prop} {s s':St} {il:List Ins} {y:IC} {p:Prop} (h:runP il s True=(p,s',[])) (hs:Tr E ro y Q s') (hp:p:=by simp):Tr E ro (.seq (.reg il) y) Q s:=Aw h hp hs
theorem Ss {il:List Ins} {p:Prop} (h:runP il s True=(p,s',[])) (hp:p) (hs:Q .normal s'):Tr E ro (.reg il) Q s:=A84 h hp hs
theorem TrR {E:Env} {ro:Option Nat} {Q:Exit→St→Prop} {s s':St} {il:List Ins} {p:Prop} (h:runP il s True=(p,s',[])) (hs:Q .normal s') (hp:p:=by simp):Tr E ro (.reg il) Q s:=Ss h hp hs
theorem Bj {il rest:List Ins} {y:IC} {p:Prop} (h:runP il s True=(p,s',rest)) (hp:p) (hs:Steps E rest (Tr E ro y Q) s'):Tr E ro (.seq (.reg il) y) Q s :=
 A2 (A84 h hp hs)
theorem TsC {E:Env} {ro:Option Nat} {Q:Exit→St→Prop} {s s':St} {il rest:List Ins} {y:IC} {p:Prop} (h:runP il s True=(p,s',rest)) (hs:Steps E rest (Tr E ro y Q) s') (hp:p:=by simp):Tr E ro (.seq (.reg il) y) Q s:=Bj h hp hs
theorem Al {K:St→Prop} {il:List Ins} {p:Prop} (h:runP il s True=(p,s',[])) (hp:p) (hs:K s'):Steps E il K s:=Ci h hp hs
theorem Sfn {E:Env} {s s':St} {K:St→Prop} {il:List Ins} {p:Prop} (h:runP il s True=(p,s',[])) (hs:K s') (hp:p:=by simp):Steps E il K s:=Al h hp hs
theorem Jv {bef:List Nat} {il:List Ins} {y:IC} {p:Prop} {fp:List (List Loc×List Loc)} (h:Lj il s True []=(p,s',fp,[])) (hp:p) (hok:Gm bef fp=true) (hs:Tr E ro y Q s'):Tr E ro (.seq (.draw bef il) y) Q s :=
 A2 (Ab (Bm h hp (.done ⟨by simpa using hok,by simp [Eg],hs⟩)))
def A69 (P:Program) (s:St):List ResultVar→Option (List V)
 | []=>some []
 | r::rs=>match resV P s r with
   | some v=>match A69 P s rs with
     | some vs=>some (v::vs)
     | none=>none
   | none=>none
theorem Ck {P:Program} {s:St}:∀{rs:List ResultVar} {vs:List V},A69 P s rs=some vs→rs.mapM (resV P s)=some vs
 | [],vs,h=>by cases h;rfl
 | r::rs,vs,h=>by
   simp only [A69] at h;split at h<;>(try (cases h;done));rename_i v hv;split at h<;>(try (cases h;done));rename_i us hus;cases h;simp only [List.mapM_cons,hv,Ck hus,Option.bind_eq_bind,Option.bind_some,Option.pure_def]
theorem Bs {P:Program} {rs:List ResultVar} {r:V} {K:St→Prop} {vs us:List V} {ids:List Nat} (h:A69 P s rs=some vs) (hd:toDs s.fs.b vs=some (us,ids)) (hr:r=D2 us) (hk:K s):Tr E ro .ret (qRet P rs r K) s :=
 Ea ⟨hk,vs,us,ids,Ck h,hd,hr⟩
theorem Tr.retT {P:Program} {rs:List ResultVar} {r:V} {K K':St→Prop} {vs us:List V} {ids:List Nat} (h:A69 P s rs=some vs) (hd:toDs s.fs.b vs=some (us,ids)) (hr:r=D2 us) (hk:K s):Tr E ro .ret (A0j K' (qRet P rs r K)) s :=
 Ea ⟨hk,vs,us,ids,Ck h,hd,hr⟩
theorem By {z:X} {a b y:IC} {c:Bool} (hz:evX s.fs z=some (.bool c)) (h1:c=true→Tr E ro a (A0j (Tr E ro y Q) Q) s) (h2:c=false→Tr E ro b (A0j (Tr E ro y Q) Q) s):Tr E ro (.seq (.cond z a b) y) Q s :=
 A2 (An hz rfl h1 h2)
theorem Bg {K:St→Prop} (h:K s):Tr E ro .skip (A0j K Q) s:=A5 h
theorem Ao {K:St→Prop} {d:Option Nat} {f:FuncId} {xs:List X} {t:Nat} {want gb:Bool} {rest:List Ins} {gv:V} {vs us:List V} {ids:List Nat} {r:V} (hx:evXs s.env xs=some vs) (hgv:get s.env t=some gv) (hgb:Cg want gv=some gb) (hd:toDs s.fs.b (B6 vs)=some (us,ids))
  (hu:gb=true→allU vs) (hc:gb=true→C E.P f us r) (hk:Steps E rest K ((s.eff {v:=.cond gb r,wb:=freeze s.fs.b ids}).put d (.cond gb r))):Steps E (⟨d,.call f,xs,some (t,want)⟩::rest) K s :=
 Step1.does (ins:=⟨d,.call f,xs,some (t,want)⟩) (.gcall rfl rfl (by rw [fs_g];exact hgv) hgb (Ay hx) (by rw [Id] at hd;exact hd) fun e=>⟨hc e,Mk (hu e)⟩) hk
theorem A54 {K:St→Prop} {d:Option Nat} {f:FuncId} {xs:List X} {t:Nat} {want gb:Bool} {rest:List Ins} {gv fv:V} {vs first cap us:List V} {ids:List Nat} {r:V} (hx:evXs s.env xs=some (fv::vs)) (hgv:get s.env t=some gv) (hgb:Cg want gv=some gb) (hf:(under fv).2=.func (.func f) first cap) (hd:toDs s.fs.b (first++B6 vs++cap)=some (us,ids))
  (hu:gb=true→allU (fv::vs)) (hc:gb=true→C E.P f us r) (hk:Steps E rest K ((s.eff {v:=.cond gb r,wb:=freeze s.fs.b ids}).put d (.cond gb r))):Steps E (⟨d,.callv,xs,some (t,want)⟩::rest) K s :=
 Step1.does (ins:=⟨d,.callv,xs,some (t,want)⟩) (.gcallv rfl rfl (by rw [fs_g];exact hgv) hgb (Ay hx) hf (by rw [Id] at hd;exact hd) fun e=>⟨hc e,Mk (hu e)⟩) hk
theorem H8 {K:St→Prop} {d:Option Nat} {xs:List X} {rest:List Ins} {vs us:List V} {ids:List Nat} (hx:evXs s.env xs=some (.yld::vs)) (hu:allU vs) (hd:toDs s.fs.b (B6 vs)=some (us,ids)) (hp:E.ys (s.log++[us])) (hstp:s.stp=false)
  (hk:∀b,Steps E rest K ((({s with log:=s.log++[us],stp:=!b}:St).eff {v:=.bool b,wb:=freeze s.fs.b ids}).put d (.bool b))):Steps E (⟨d,.callv,xs,none⟩::rest) K s :=
 Step1.yield (ins:=⟨d,.callv,xs,none⟩) (vr:=fun b=>.bool b) rfl (.inl rfl) (Ay hx) rfl (fun v hv=>Mk (vs:=.yld::vs) hu v hv) (by rw [Id] at hd;exact hd) hp hstp (fun b=>.inl rfl) hk
theorem Je {K:St→Prop} {d:Option Nat} {xs:List X} {t:Nat} {want:Bool} {rest:List Ins} {gv fv:V} {vs us:List V} {ids:List Nat} (hx:evXs s.env xs=some (fv::vs)) (hgv:get s.env t=some gv) (hgb:Cg want gv=some true) (hf:(under fv).2=.yld) (hu:allU (fv::vs)) (hd:toDs s.fs.b (B6 vs)=some (us,ids)) (hp:E.ys (s.log++[us])) (hstp:s.stp=false)
  (hk:∀b,Steps E rest K ((({s with log:=s.log++[us],stp:=!b}:St).eff {v:=.cond true (.bool b),wb:=freeze s.fs.b ids}).put d (.cond true (.bool b)))):Steps E (⟨d,.callv,xs,some (t,want)⟩::rest) K s :=
 Step1.yield (ins:=⟨d,.callv,xs,some (t,want)⟩) (vr:=fun b=>.cond true (.bool b)) rfl (.inr ⟨t,want,gv,rfl,by rw [fs_g];exact hgv,hgb⟩) (Ay hx) hf (fun v hv=>Mk hu v hv) (by rw [Id] at hd;exact hd) hp hstp (fun b=>.inr rfl) hk
theorem Cx {K:St→Prop} {ins:Ins} {t:Nat} {want:Bool} {rest:List Ins} {gv:V} (v:V) (hg:ins.g=some (t,want)) (hgv:get s.env t=some gv) (hgb:Cg want gv=some false) (hk:Steps E rest K (s.put ins.d (.cond false v))):Steps E (ins::rest) K s :=
 Step1.off v hg (by rw [fs_g];exact hgv) hgb hk
theorem C.le {P:Program} {f:FuncId} {args:List V} {r r':V} (h:C P f args r) (hr:∀w φ x,RepR w φ r x→RepR w φ r' x):C P f args r':=by
 refine ⟨h.1,fun w φ xs htop hgl hrep=>(h.2 w φ xs htop hgl hrep).mono ?_⟩;rintro e w' ⟨φ',x,he,hx,rest⟩;exact ⟨φ',x,he,hr _ _ _ hx,rest⟩
def runN:Nat→List Ins→St→Prop→Prop×St×List Ins
 | 0,il,s,p=>(p,s,il)
 | _+1,[],s,p=>(p,s,[])
 | n+1,i::r,s,p=>match A2n i s with
   | some (q,eff,_)=>runN n r ((s.eff eff).put i.d eff.v) (p∧q)
   | none=>(p,s,i::r)
theorem A96:∀(n:Nat) (il:List Ins) (s:St) (p:Prop),(runN n il s p).1→p
 | 0,il,s,p,h=>h
 | n+1,[],s,p,h=>h
 | n+1,i::r,s,p,h=>by
   simp only [runN] at h;split at h
   ·exact (A96 n r _ _ h).1
   ·exact h
theorem Aei {K:St→Prop}:∀(n:Nat) (il:List Ins) (s:St) (p:Prop),(runN n il s p).1→Steps E (runN n il s p).2.2 K (runN n il s p).2.1→Steps E il K s
 | 0,il,s,p,_,h=>h
 | n+1,[],s,p,_,h=>h
 | n+1,i::r,s,p,h1,h2=>by
   simp only [runN] at h1 h2;split at h1
   ·rename_i q eff rd hq;simp only [hq] at h2;exact .does (Mv hq (A96 n r _ _ h1).2) (Aei n r _ _ h1 h2)
   ·rename_i hq;simp only [hq] at h2;exact h2
theorem Az {K:St→Prop} (n:Nat) {il rest:List Ins} {s':St} {p:Prop} (h:Am.runN n il s True=(p,s',rest)) (hp:p) (hs:Steps E rest K s'):Steps E il K s:=by
 refine Aei n il s True ?_ ?_
 ·rw [h];exact hp
 ·rw [h];exact hs
theorem SrN {E:Env} {s s':St} {K:St→Prop} (n:Nat) {il rest:List Ins} {p:Prop} (h:Am.runN n il s True=(p,s',rest)) (hs:Steps E rest K s') (hp:p:=by simp):Steps E il K s:=Az n h hp hs
theorem Sr (n:Nat) {il rest:List Ins} {y:IC} {p:Prop} (h:Am.runN n il s True=(p,s',rest)) (hp:p) (hs:Steps E rest (Tr E ro y Q) s'):Tr E ro (.seq (.reg il) y) Q s :=
 A2 (Ae (Az n h hp hs))
theorem TsN {E:Env} {ro:Option Nat} {Q:Exit→St→Prop} {s s':St} (n:Nat) {il rest:List Ins} {y:IC} {p:Prop} (h:Am.runN n il s True=(p,s',rest)) (hs:Steps E rest (Tr E ro y Q) s') (hp:p:=by simp):Tr E ro (.seq (.reg il) y) Q s:=Sr n h hp hs
def Lk:Nat→List Ins→St→Prop→List (List Loc×List Loc)→Prop×St×List (List Loc×List Loc)×List Ins
 | 0,il,s,p,fp=>(p,s,fp.reverse,il)
 | _+1,[],s,p,fp=>(p,s,fp.reverse,[])
 | n+1,i::r,s,p,fp=>match A2n i s with
   | some (q,eff,rd)=>Lk n r ((s.eff eff).put i.d eff.v) (p∧q) ((wrOf i eff,rd)::fp)
   | none=>(p,s,fp.reverse,i::r)
theorem Yo:∀(n:Nat) (il:List Ins) (s:St) (p:Prop) (fp:List (List Loc×List Loc)),(Lk n il s p fp).1→p
 | 0,il,s,p,fp,h=>h
 | n+1,[],s,p,fp,h=>h
 | n+1,i::r,s,p,fp,h=>by
   simp only [Lk] at h;split at h
   ·exact (Yo n r _ _ _ h).1
   ·exact h
theorem A2k:∀(n:Nat) (il:List Ins) (s:St) (p:Prop) (fp:List (List Loc×List Loc)) (K:List (List Loc×List Loc)→St→List Ins→Prop),(Lk n il s p fp).1 →
  (∃fp2,(Lk n il s p fp).2.2.1=fp.reverse++fp2∧(TraceK E (Lk n il s p fp).2.1 (Lk n il s p fp).2.2.2 (fun f s' r=>K (fp2++f) s' r)→TraceK E s il K))
 | 0,il,s,p,fp,K,h=>⟨[],by simp [Lk],fun h=>h⟩
 | n+1,[],s,p,fp,K,h=>⟨[],by simp [Lk],fun h=>h⟩
 | n+1,i::r,s,p,fp,K,h=>by
   simp only [Lk] at h ⊢;split at h
   ·rename_i q eff rd hq;obtain ⟨fp2,h2,h3⟩:=A2k n r _ _ _ (fun f s' r=>K ((wrOf i eff,rd)::f) s' r) h;refine ⟨(wrOf i eff,rd)::fp2,by rw [h2];simp,fun hk=>.step (Mv hq (Yo n r _ _ _ h).2) (h3 hk)⟩
   ·exact ⟨[],by simp,fun h=>h⟩
theorem Ah (n:Nat) {K:List (List Loc×List Loc)→St→List Ins→Prop} {il rest:List Ins} {s':St} {fp:List (List Loc×List Loc)} {p:Prop} (h:Lk n il s True []=(p,s',fp,rest)) (hp:p) (hs:TraceK E s' rest fun f s'' r=>K (fp++f) s'' r):TraceK E s il K:=by
 obtain ⟨fp2,h2,h3⟩:=A2k (E:=E) n il s True [] K (by rw [h];exact hp);rw [h] at h2 h3;simp only [List.reverse_nil,List.nil_append] at h2;subst h2;exact h3 hs
theorem KrN {E:Env} {s s':St} (n:Nat) {K:List (List Loc×List Loc)→St→List Ins→Prop} {il rest:List Ins} {fp:List (List Loc×List Loc)} {p:Prop} (h:Lk n il s True []=(p,s',fp,rest)) (hs:TraceK E s' rest fun f s'' r=>K (fp++f) s'' r) (hp:p:=by simp):TraceK E s il K:=Ah n h hp hs
theorem A6 {d:Option Nat} {f:FuncId} {xs:List X} {rest:List Ins} {vs us:List V} {ids:List Nat} {r:V} {K:List (List Loc×List Loc)→St→List Ins→Prop} (hx:evXs s.env xs=some vs) (hd:toDs s.fs.b vs=some (us,ids)) (hc:C E.P f us r)
  (t:TraceK E ((s.eff {v:=r,wb:=freeze s.fs.b ids}).put d r) rest fun fp s' r'=>K ((wrOf ⟨d,.call f,xs,none⟩ {v:=r,wb:=freeze s.fs.b ids},Bp xs++ids.map .bx)::fp) s' r'):TraceK E s (⟨d,.call f,xs,none⟩::rest) K :=
 .step (ins:=⟨d,.call f,xs,none⟩) (.call rfl rfl (Ay hx) hd hc) t
theorem Ch {d:Option Nat} {f:FuncId} {xs:List X} {rest:List Ins} {vs first cap us:List V} {ids:List Nat} {r:V} {K:List (List Loc×List Loc)→St→List Ins→Prop} (hx:evXs s.env xs=some (.func (.func f) first cap::vs)) (hd:toDs s.fs.b (first++vs++cap)=some (us,ids)) (hc:C E.P f us r)
  (t:TraceK E ((s.eff {v:=r,wb:=freeze s.fs.b ids}).put d r) rest fun fp s' r'=>K ((wrOf ⟨d,.callv,xs,none⟩ {v:=r,wb:=freeze s.fs.b ids},Bp xs++ids.map .bx)::fp) s' r'):TraceK E s (⟨d,.callv,xs,none⟩::rest) K :=
 .step (ins:=⟨d,.callv,xs,none⟩) (.callv rfl rfl (Ay hx) hd hc) t
theorem Cu {d:Option Nat} {f:FuncId} {xs:List X} {t:Nat} {want gb:Bool} {rest:List Ins} {gv:V} {vs us:List V} {ids:List Nat} {r:V} {K:List (List Loc×List Loc)→St→List Ins→Prop} (hx:evXs s.env xs=some vs) (hgv:get s.env t=some gv) (hgb:Cg want gv=some gb) (hd:toDs s.fs.b (B6 vs)=some (us,ids))
  (hu:gb=true→allU vs) (hc:gb=true→C E.P f us r)
  (tr:TraceK E ((s.eff {v:=.cond gb r,wb:=freeze s.fs.b ids}).put d (.cond gb r)) rest fun fp s' r'=>K ((wrOf ⟨d,.call f,xs,some (t,want)⟩ {v:=.cond gb r,wb:=freeze s.fs.b ids},.slot t::Bp xs++ids.map .bx)::fp) s' r'):TraceK E s (⟨d,.call f,xs,some (t,want)⟩::rest) K :=
 .step (ins:=⟨d,.call f,xs,some (t,want)⟩) (.gcall rfl rfl (by rw [fs_g];exact hgv) hgb (Ay hx) (by rw [Id] at hd;exact hd) fun e=>⟨hc e,Mk (hu e)⟩) tr
end
end
section
open Go.RowKit
def TrN (E:Env) (ro:Option Nat) (x:IC) (Q:Exit→St→Prop):Nat→St→Prop
 | 0,_=>False
 | m+1,s=>Tr E ro x (A0j (TrN E ro x Q m) Q) s
theorem Bd {E:Env} {ro:Option Nat} {x:IC} {Q:Exit→St→Prop} {s:St} (m:Nat) (ht:TrN E ro x Q m s):Tr E ro (.loop x) Q s:=fun c hc n a w g R Q' hq=>by
 obtain ⟨ca,rfl,h1⟩:=Cb hc;refine wpIn_loop_rounds m ?_;have key:∀m s a w h,TrN E ro x Q m s→E.rel s a w h→h.y=g.y→Code.roundsIn (Dm ro) n E.P ca Q' m a w:=by
  intro m
  induction m with
  | zero=>intro s a w h hT _ _;exact hT.elim
  | succ m ih =>
    intro s a w h hT R hy;rw [roundsIn_succ];refine hT ca h1 n a w h R _ fun e s' a' w' h' kk R' ey'=>?_;cases e with
    | normal=>exact ih s' a' w' h' kk R' (ey'.trans hy)
    | _=>exact hq _ s' a' w' h' kk R' (ey'.trans hy)
 exact key m s a w g ht R rfl
theorem Bi {E:Env} {s:St} {env:List (Nat×V)} {bx:List (Nat×Box)} {rw:List (Nat×Nat×Nat×Nat)} {log:List (List V)} (he:EnvLe s env) (hb:BxLe s bx) (hr:RwLe s rw) (ho:E4 env bx rw=true) (hpin:E.pin.all (C6 bx)=true) (hl:s.log=log) :
  Wk E s ⟨env,bx,rw,log,s.stp⟩:=by
 subst hl;exact Ad he hb hr ho hpin
theorem Mm {E:Env} {ro:Option Nat} {Q:Exit→St→Prop} {s:St} {x y:IC} (st:St) (h:Tr E ro x (A0j (fun s'=>Wk E s' st) Q) s) (k:Tr E ro y Q st):Tr E ro (.seq x y) Q s :=
 A2 (h.mono fun e s' hq=>by
  cases e with
  | normal=>exact ⟨st,hq,k⟩
  | _=>exact ⟨s',Wk.refl _,hq⟩)
theorem A9 {E:Env} {ro:Option Nat} {Q:Exit→St→Prop} {s:St} {z:X} {a b:IC} (hz:evX s.fs z=some (.bool true)) (h:Tr E ro a Q s):Tr E ro (.cond z a b) Q s :=
 An hz rfl (fun _=>h) (fun e=>(by cases e))
theorem A7 {E:Env} {ro:Option Nat} {Q:Exit→St→Prop} {s:St} {z:X} {a b:IC} (hz:evX s.fs z=some (.bool false)) (h:Tr E ro b Q s):Tr E ro (.cond z a b) Q s :=
 An hz rfl (fun e=>(by cases e)) (fun _=>h)
theorem A8 {E:Env} {ro:Option Nat} {Q:Exit→St→Prop} {s:St} {P:Program} {rs:List ResultVar} {r:V} {K:St→Prop} {vs us:List V} {ids:List Nat} (hQ:Q .ret=qRet P rs r K .ret) (h:A69 P s rs=some vs) (hd:toDs s.fs.b vs=some (us,ids)) (hr:r=D2 us) (hk:K s):Tr E ro .ret Q s :=
 Ea (by rw [hQ];exact ⟨hk,vs,us,ids,Ck h,hd,hr⟩)
theorem Ag {E:Env} {ro:Option Nat} {x:IC} {Q:Exit→St→Prop} {m:Nat} {s:St} (h:Tr E ro x (A0j (TrN E ro x Q m) Q) s):TrN E ro x Q (m+1) s:=h
end
section
open Go.RowKit
def inI (n:Int):Prop:=-9223372036854775808≤n∧n<9223372036854775808
def MapW (w:World) (mb:Nat) (g:List (Int×Int)) (f:Int→Int→Option Int):Prop :=
 ∃es clock,w.heap[mb]?=some (.map es clock)∧MapKept.Stamped es clock∧es.size≤g.countP (fun p=>(f p.1 p.2).isSome)∧g.length≤100000∧MapIs es f∧∀a b n,f a b=some n→inI n
theorem MapW.block {w w':World} {mb:Nat} {g:List (Int×Int)} {f:Int→Int→Option Int} (h:MapW w mb g f) (e:w'.heap[mb]?=w.heap[mb]?):MapW w' mb g f:=by
 obtain ⟨es,c,h1,h2⟩:=h;exact ⟨es,c,e.trans h1,h2⟩
theorem MapW.made {w:World} {mb:Nat} {g:List (Int×Int)} (hg:g.length≤100000) (h:w.heap[mb]?=some (.map #[] 0)):MapW w mb g (fun _ _=>none) :=
 ⟨#[],0,h,MapKept.stamped_empty 0,by simp,hg,⟨fun e he=>by simp at he,fun _ _ _ h=>by cases h⟩,fun _ _ _ h=>by cases h⟩
section
variable {P:Program} {kt e t:TypeId}
end
end
section
open Go.RowKit
def isD:V→Bool
 | .int _ _=>true
 | .bool _=>true
 | .str _=>true
 | .nils=>true
 | .nilp=>true
 | .nilf=>true
 | .nilm=>true
 | .mp _=>true
 | .mpd _ _=>true
 | .sref _ _ _ _=>true
 | .rptr _ _=>true
 | .rmap _=>true
 | .nili=>true
 | .iface _ _=>true
 | .vptr _ _=>true
 | .slice 0 _ _=>true
 | _=>false
theorem Lz {w:World} {φ:Nat→Nat} {β:Nat→Option Nat} {y:Option Nat} {v:V} {x:Value} (hd:isD v=true) (r:Rep w φ β y v x):RepD w φ v x:=by
 cases r with
 | data r=>exact r
 | named=>simp [isD] at hd
 | ptr=>simp [isD] at hd
 | func=>simp [isD] at hd
 | agg=>simp [isD] at hd
 | tuple=>simp [isD] at hd
 | cond=>simp [isD] at hd
 | yld=>simp [isD] at hd
 | tok=>simp [isD] at hd
 | bsl=>simp [isD] at hd
 | link=>simp [isD] at hd
theorem N0 {a:Act} {t:Nat} (ht:t<a.tmps.size):a.put (some t) (a.tmps.getD t undef)=a:=by
 obtain ⟨tm,df⟩:=a;simp only [Act.put];have:tm.setIfInBounds t (tm.getD t undef)=tm:=by
  apply Array.ext
  ·simp
  ·intro i h1 h2;by_cases e:t=i
   ·subst e;simp at h1;simp [h1]
   ·rw [Array.getElem_setIfInBounds]
    ·simp [e]
    ·exact h2
 rw [this]
section
variable {E:Env} {s:St} {a:Act} {w:World} {h:Gh}
structure Holds (cs:List V) (off sz n:Nat) (xs:List V):Prop where
 h0:0<sz
 hl:xs.length=n
 hs:∀x∈xs,(cells x).length=sz
 hx:(cs.drop off).take (n*sz)=xs.flatMap cells
 hd:∀x∈xs,(cells x).all isD=true
theorem Holds.flat {cs:List V} {off sz n:Nat} {xs:List V} (H:Holds cs off sz n xs) {j:Nat} {v:V} (hj:(xs.flatMap cells)[j]?=some v):cs[off+j]?=some v∧isD v=true:=by
 refine ⟨?_,?_⟩
 ·rw [←H.hx,List.getElem?_take] at hj;split at hj
  ·rw [List.getElem?_drop] at hj;exact hj
  ·cases hj
 ·obtain ⟨x,hx,hv⟩:=List.mem_flatMap.1 (List.mem_of_getElem? hj);have:=H.hd x hx;rw [List.all_eq_true] at this;exact this v hv
theorem repD_bsl {nt:Nat} {S:Sur} {log:List (List V)} {stp:Bool} {σ:FSt} (R:Rel nt S log stp σ a w h) {i off sz n:Nat} {cs xs:List V} {x:Value} (hb:σ.b i=some ⟨cs,true⟩) (H:Holds cs off sz n xs) (r:Rep w h.φ h.β h.y.l (.bsl i off sz n) x):RepD w h.φ (.slice 0 sz xs) x:=by
 cases r with
 | data r=>cases r
 | bsl _ _ _ _ cap blk hβ hc =>
   obtain ⟨blk',wcs,e,b1,b2,b3,b4,b5,b6⟩:=R.bx i _ hb;rw [hβ] at b1;cases b1;simp only at b4 b5 b6;have key:∀(j:Nat) v,(xs.flatMap cells)[j]?=some v→∃hj:off+j<wcs.size,RepD w h.φ v wcs[off+j]∧Af v=true:=fun j v hj=>by
    obtain ⟨h1,h2⟩:=H.flat hj;have h3:off+j<wcs.size:=by have:=(List.getElem?_eq_some_iff.1 h1).1;omega
    obtain ⟨r1,_,r3⟩:=b5 (off+j) v _ h1 (Array.getElem?_eq_getElem h3);exact ⟨h3,Lz h2 r1,r3⟩
   refine .slice sz xs blk off n cap (fun j=>wcs.getD (off+j) undef) H.h0 H.hl.symm hc H.hs (fun j v hj=>?_) (fun j v hj=>?_)
   ·obtain ⟨h3,_,h4⟩:=key j v hj;have h5:=(List.getElem?_eq_some_iff.1 (H.flat hj).1).1;refine ⟨by rw [b6];simpa using h5,?_,h4⟩;rw [cell_of_row w blk (off+j) wcs e (0,0) b3];simp [h3]
   ·obtain ⟨h3,h4,_⟩:=key j v hj;simpa [h3] using h4
theorem Wk.bsl {t i off sz n:Nat} {cs xs:List V} {fz:Bool} (ht:get s.env t=some (.bsl i off sz n)) (hb:get s.bx i=some ⟨cs,fz⟩) (H:Holds cs off sz n xs):Wk E s ((s.setB i ⟨cs,true⟩).put (some t) (.slice 0 sz xs)):=by
 intro a w h R;have hb':s.fs.b i=some ⟨cs,fz⟩:=by rw [fs_b];exact hb
 obtain ⟨blk,_,_,hβ,_⟩:=R.1.bx i _ hb';obtain ⟨R1,ext⟩:=R.1.freeze1 E.ok hb' hβ;have e:(s.setB i ⟨cs,true⟩).fs=s.fs.set (.bx i) (.b ⟨cs,true⟩):=W9 _ _ _;rw [←e] at R1;have htt:(s.setB i ⟨cs,true⟩).fs.g t=some (.bsl i off sz n):=by rw [fs_g];exact ht
 obtain ⟨q1,q2,_⟩:=R1.env t _ htt;have rd:=repD_bsl R1 (by rw [e];simp) H q2;have R2:=R1.put (d:=t) q1 (.data rd) (Ap rd);rw [N0 (by rw [R1.size];exact q1),←Dj] at R2;exact ⟨_,⟨R2,R.2⟩,rfl⟩
end
end
section
open Go.RowKit
section
variable {E:Env} {s:St}
theorem Zm {σ:FSt} {d:Option Nat} {xs:List X} {t:Nat} {want gb:Bool} {gv u v z:V} {eff:Eff} (hgv:σ.g t=some gv) (hgb:Cg want gv=some gb) (hx:xs.mapM (evX σ)=some [u,v,z])
  (he:∀τ,Bl .pick (d.getD 0) [(under u).2,v,z] τ=some eff) (hb:eff.wb=[]) (hr:eff.wr=[]) (hp:gb=true→eff.pre∧(under u).1=true) :
  Does E σ ⟨d,.pick,xs,some (t,want)⟩ {v:=.cond gb eff.v} (.slot t::Bp xs):=by
 refine .sem fun τ hτ slots ops i o ro n log stp a w h hc hs hi R Q next hn=>?_
 have hgv':τ.g t=some gv:=by rw [g_eq (hτ _ (by simp))];exact hgv
 have hx':xs.mapM (evX τ)=some [u,v,z]:=C5 hx fun l hl=>hτ l (by simp [hl]);obtain ⟨os,cc⟩:=Ba hc;have hdf:=At cc.op;obtain ⟨j,want',t',g1,g2,g3⟩:∃j want' t',o.guard=some (j,want')∧slots[j]?=some (some t')∧(some (t,want))=some (t',want'):=by
  rcases cc.guard with ⟨e,_⟩ | e
  ·cases e
  ·exact e
 cases g3;obtain ⟨wt,wf⟩:=Cs R hs g1 g2 hgv' hgb;cases gb with
 | true =>
   obtain ⟨hp1,hp2⟩:=hp rfl;have hO:=B9 R.1 cc.xs hx';have hO':Opds τ h w a os [(under u).2,v,z]:=by
    cases hO with
    | cons o1 o2=>exact .cons (o1.under hp2) o2
   obtain ⟨x,w',h',hr',R',ok,hy⟩:=N7 (d:=d.getD 0) R.1 E.ok cc.op hO' (fun e=>by cases e) (he τ) hp1;have eσ:τ.eff eff=τ:=by obtain ⟨p,v,wb,wr,rb,rr⟩:=eff;simp only at hb hr;subst hb hr;rfl
   rw [eσ] at R' ok;refine B5 hi (wt rfl) hdf hr' (hn _ _ h' (Bk (eff:={v:=.cond true eff.v}) cc R R' ⟨.cond true _ _ (fun _=>ok.1) (fun e=>(by cases e)),fun j u z hu hz=>?_⟩ hy) hy);cases j with
   | zero=>simp [cells] at hu;subst hu;intro r' sz xs' e;cases e
   | succ j=>simp [cells] at hu
 | false=>exact F2 cc R hi (wf rfl) R.1 rfl eff.v hn
theorem L9 {K:St→Prop} {d:Option Nat} {xs:List X} {t:Nat} {want gb:Bool} {rest:List Ins} {gv u v z:V} {eff:Eff} (hx:evXs s.env xs=some [u,v,z]) (hgv:get s.env t=some gv) (hgb:Cg want gv=some gb)
  (he:∀τ,Bl .pick (d.getD 0) [(under u).2,v,z] τ=some eff) (hb:eff.wb=[]) (hr:eff.wr=[]) (hp:gb=true→eff.pre∧(under u).1=true) (hk:Steps E rest K ((s.eff {v:=.cond gb eff.v}).put d (.cond gb eff.v))):Steps E (⟨d,.pick,xs,some (t,want)⟩::rest) K s :=
 Step1.does (ins:=⟨d,.pick,xs,some (t,want)⟩) (Zm (by rw [fs_g];exact hgv) hgb (Ay hx) he hb hr hp) hk
theorem A4x {d:Option Nat} {xs:List X} {t:Nat} {want gb:Bool} {rest:List Ins} {gv u v z:V} {eff:Eff} {K:List (List Loc×List Loc)→St→List Ins→Prop} (hx:evXs s.env xs=some [u,v,z]) (hgv:get s.env t=some gv) (hgb:Cg want gv=some gb)
  (he:∀τ,Bl .pick (d.getD 0) [(under u).2,v,z] τ=some eff) (hb:eff.wb=[]) (hr:eff.wr=[]) (hp:gb=true→eff.pre∧(under u).1=true)
  (tr:TraceK E ((s.eff {v:=.cond gb eff.v}).put d (.cond gb eff.v)) rest fun fp s' r'=>K ((wrOf ⟨d,.pick,xs,some (t,want)⟩ {v:=.cond gb eff.v},.slot t::Bp xs)::fp) s' r'):TraceK E s (⟨d,.pick,xs,some (t,want)⟩::rest) K :=
 .step (ins:=⟨d,.pick,xs,some (t,want)⟩) (Zm (by rw [fs_g];exact hgv) hgb (Ay hx) he hb hr hp) tr
end
end
section
open Go.RowKit
section
variable {P:Program} {nt:Nat} {S:Sur} {log:List (List V)} {stp:Bool} {σ:FSt} {a:Act} {w:World} {h:Gh} {o:Oper}
theorem Sb {os:List Operand} {sz bytes e:Nat} (hk:opK P o.op=some (.append sz bytes e,os)):∃c p q t ie z,o.op=.call c∧c.callee=.builtin .append∧c.args.toList=[p,q]∧c.argTypes.toList=[t,t]∧P.underlying t=some (.slice e)∧P.info? e=some ie∧ie.zero=some z∧z.cells.size=ie.size∧ie.size=sz∧ie.bytes=bytes∧os=[p,q]:=by
 replace hk:=Dw hk (by simp [Dv]);cases ho:o.op<;>rw [ho] at hk<;>simp only [opK0] at hk<;>(try (cases hk;done))<;>(try (repeat' (split at hk<;>(try (cases hk;done)))))
 all_goals first
  | (simp only [Option.map_eq_some_iff,Prod.mk.injEq] at hk;obtain ⟨_,_,h1,_⟩:=hk;cases h1;done)
  | (rename_i c x6 hc x5 x4 p q t u h1 h2 htu x2 e' ht x1 ie hi x0 z hz hzs
     cases hk;simp only [beq_iff_eq] at htu hzs;subst htu;exact ⟨c,p,q,t,ie,z,rfl,hc,h1,h2,ht,hi,hz,hzs,rfl,rfl,rfl⟩)
  | (exfalso;simp only [E7] at hk;repeat' (split at hk<;>(try (cases hk;done))))
end
section
variable {E:Env} {σ:FSt}
def CO (P:Program) (f:FuncId) (args:List V) (sz:Nat) (xs:List V):Prop :=
 C9 P f=true∧∀(w:World) (φ:Nat→Nat) (vs:Array Value),(∀b,w.heap.size≤b→φ b=0)→Gl w φ→RepL w φ args vs →
  Calls P f vs w fun e w'=>∃φ' blk cap cs et,e=.returned (.slice (some ⟨blk,0,none⟩) xs.length cap)∧xs.length≤cap∧w.heap.size≤blk∧blk<w'.heap.size∧w'.heap[blk]?=some (.cells cs et (0,0))∧(xs.flatMap cells).length≤cs.size ∧
   (∀(j:Nat) v x,(xs.flatMap cells)[j]?=some v→cs[j]?=some x→RepD w' φ' v x∧Af v=true)∧φ' blk=0 ∧
   Below w.heap.size w w'∧(∀b,b<w.heap.size→φ' b=φ b)∧(∀b,w'.heap.size≤b→φ' b=0)
def qOwn (t sz:Nat) (xs:List V):Exit→St→Prop
 | .ret,s | .normal,s=>∃i,get s.env t=some (.bsl i 0 sz xs.length)∧get s.bx i=some ⟨xs.flatMap cells,false⟩∧(xs.flatMap cells).all isD=true
 | _,_=>False
theorem CO_of {P:Program} {f nt t sz:Nat} {ic:IC} (hmix:P.follows .mixedOrders=true) (hch:chkF P f=some (nt,ic,[.tmp t])) {args xs:List V} (hlen:args.length≤nt)
  (hT:∀(S:Sur) (ok:S.ok),Tr (env0 P hmix nt S ok) none ic (qOwn t sz xs) (entry args)):CO P f args sz xs:=by
 obtain ⟨fn,c,hf,hb,hnt,hc,hres,hcall⟩:=L6 hch;refine ⟨hcall,fun w φ vs htop hgl hrep=>?_⟩;have hT:=hT (S0 w φ) (A8a w φ hgl);rw [←callsIn_wide (n:=0)];refine callsIn_of_wp_marks hf hb trivial ?_;have R0:(env0 P hmix nt (S0 w φ) (A8a w φ hgl)).rel (entry args) {tmps:=vs++Array.replicate (fn.ntmps-vs.size) undef,defers:=[]} w {φ:=φ,β:=fun _=>none,γ:=fun _=>none,M:=fun _=>False,y:=⟨none,fun _=>none⟩}:=by
  have hl:=hrep.1;refine ⟨{size:=by simp;omega,env:=fun t v hv=>?_,bx:=fun i bo hb=>?_,dom:=fun _ _ h=>((by cases h)),inj:=fun _ _ _ h=>((by cases h)),rows:=fun r n sz e hr=>?_,rdom:=fun _ _ h=>((by cases h)),rinj:=fun _ _ _ h=>((by cases h)),apart:=fun _ _ _ h=>((by cases h)),pins:=fun _ _ h=>((by cases h)),mine:=fun _ h=>((by cases h)),top:=htop,marks:=trivial,sur:=Moved.refl _ htop},fun _ h=>((by cases h)),fun _ h=>((by cases h))⟩
  ·rw [fs_g] at hv;obtain ⟨_,h1⟩:=Ia 0 args t v hv;simp only [Nat.sub_zero] at h1;have ht:t<args.length:=(List.getElem?_eq_some_iff.1 h1).1;have ht':t<vs.size:=by omega
   have e:(vs++Array.replicate (fn.ntmps-vs.size) undef).getD t undef=vs[t]:=by
    simp [Array.getElem?_append_left ht',ht']
   rw [e];have h2:=hrep.2 t v _ h1 (Array.getElem?_eq_getElem ht');exact ⟨by show t<nt;omega,.data h2,Ap h2⟩
  ·rw [fs_b] at hb;simp [entry,get] at hb
  ·rw [fs_r] at hr;simp [entry,get] at hr
 refine hT c hc 0 _ w _ R0 _ fun e s' a' w' h' k R' ey=>?_;have fin:(∃i,get s'.env t=some (.bsl i 0 sz xs.length)∧get s'.bx i=some ⟨xs.flatMap cells,false⟩∧(xs.flatMap cells).all isD=true)→LeavesInM Fence.wide 0 P fn a'.tmps (fun e w'=>∃φ' blk cap cs et,e=.returned (.slice (some ⟨blk,0,none⟩) xs.length cap)∧xs.length≤cap∧w.heap.size≤blk∧blk<w'.heap.size∧w'.heap[blk]?=some (.cells cs et (0,0))∧(xs.flatMap cells).length≤cs.size ∧
     (∀(j:Nat) v x,(xs.flatMap cells)[j]?=some v→cs[j]?=some x→RepD w' φ' v x∧Af v=true)∧φ' blk=0 ∧
     Below w.heap.size w w'∧(∀b,b<w.heap.size→φ' b=φ b)∧(∀b,w'.heap.size≤b→φ' b=0)) a'.defers .returning w':=by
  rintro ⟨i,hti,hbi,hiD⟩;refine Ac1 (E:=env0 P hmix nt (S0 w φ) (A8a w φ hgl)) a'.defers a' w' rfl R' fun a2 w2 ht R2=>?_;obtain ⟨g1,g2,_⟩:=R2.1.env t _ (by rw [fs_g];exact hti);obtain ⟨blk',cs,et,b1,b2,b3,b4,b5,b6⟩:=R2.1.bx i _ (by rw [fs_b];exact hbi);simp only at b4 b5 b6;obtain ⟨x,hx⟩:∃x,a2.tmps.getD t undef=x:=⟨_,rfl⟩;rw [hx] at g2;cases g2 with
  | data r=>cases r
  | bsl _ _ _ _ cap blk hβ hcap =>
    rw [hβ] at b1;cases b1;have hrun:=Ie (P:=P) (w:=w2) (fn:=fn) (tmps:=a2.tmps) (xs:=[.slice (some ⟨blk',0,none⟩) xs.length cap]) (by rw [hres];rfl) (fun j r z h1 h2=>by
     rw [hres] at h1;cases j with
     | zero=>simp at h1 h2;subst h1 h2;simp only [hx];rfl
     | succ j=>simp at h1)
    have hS:Moved (fun _=>False) w φ h'.M w2 h'.φ:=R2.1.sur;rw [List.all_eq_true] at hiD;rw [ht] at hrun;refine ⟨_,hrun,h'.φ,blk',cap,cs,et,rfl,hcap,(hS.mine _ b2).elim (fun h=>h.elim) id,R2.1.mine _ b2,b3,b4,fun j v z hv hz=>?_,by simpa using b6,⟨hS.os,hS.tape,hS.output,hS.size,fun k hk=>(hS.old k hk (fun h=>h)).1⟩,fun b hb=>(hS.old b hb (fun h=>h)).2,R2.1.top⟩;obtain ⟨r1,_,r3⟩:=b5 j v z hv hz;exact ⟨Lz (hiD v (List.mem_of_getElem? hv)) r1,r3⟩
 cases e with
 | normal=>exact fin k
 | ret=>exact fin k
 | _=>exact k.elim
theorem Zp {d:Nat} {f:FuncId} {xs:List X} {vs us:List V} {sz:Nat} {ys:List V} (hx:xs.mapM (evX σ)=some vs) (hd:∀b,toDs b vs=some (us,[])) (hC:CO E.P f us sz ys) (hbd:σ.b d=none) :
  Does E σ ⟨some d,.call f,xs,none⟩ {v:=.bsl d 0 sz ys.length,wb:=[(d,⟨ys.flatMap cells,false⟩)],rb:=[d]} (Bp xs++[.bx d]):=by
 refine .sem fun τ hτ slots ops i o ro n log stp a w h hc hs hi R Q next hn=>?_
 have hbd':τ.b d=none:=by rw [b_eq (hτ (.bx d) (by simp))];exact hbd
 have hx':xs.mapM (evX τ)=some vs:=C5 hx fun l hl=>hτ l (by simp [hl]);obtain ⟨os,cc⟩:=Ba hc;have hdf:=At cc.op;have hgo:o.guard=none:=by
  rcases cc.guard with ⟨_,e⟩ | ⟨_,_,_,_,_,e⟩
  ·exact e
  ·cases e
 obtain ⟨c,e1,e2,e3⟩:=I1 cc.op;have hO:=B9 R.1 cc.xs hx';obtain ⟨q1,q2⟩:=hO.get;subst e3;have hw:=Ai (ops:=ops) (a:=a) hgo;have hrun:=I0 (E:=E) (a:=a) (w:=w) hC.1 e2 e1;unfold wpOpIn;simp only [hi,hw,if_true,Oper.wpIn];refine ⟨fun _ _=>trivial,?_⟩;rw [Oper.semAt_eq _ _ _ hdf,hrun];simp only [Oper.uponIn];refine ⟨fun e=>by simp [Dm,Fence.wide] at e,?_⟩;obtain ⟨h1,R1,ext1,p1,p2,p3,hrep⟩:=De R.1 (hd τ.b);have hRL:RepL w h1.φ us (c.args.map a.eval):=hrep _ (by simpa using q1) (fun i v x hv hx=>by
  simp only [Array.getElem?_map,Option.map_eq_some_iff] at hx;obtain ⟨p,hp,rfl⟩:=hx;exact (q2 i v p hv (by simpa using hp)).1)
 refine (Cd (hC.2 w h1.φ _ R1.top (E.ok.gl _ _ _ _ _ R1.sur) hRL)).mono ?_;rintro e w' ⟨φ',blk,cap,cs,et,rfl,hcap,hge,hlt,hheap,hlen,hcells,hφ0,hbel,hφ,htop⟩;have R1:Rel E.nt E.S log stp τ a w h1:=R1;have ex:Ext w h1.φ w' φ':=fun b o ho=>by
  have hlt:b<w.heap.size:=by
   rcases Nat.lt_or_ge b w.heap.size with h1 | h1
   ·exact h1
   ·rw [R1.top b h1] at ho;omega
  exact ⟨by rw [hφ b hlt];exact ho,hbel.cell (p:=⟨b,o,none⟩) hlt,Bn (hbel.block b hlt)⟩
 have R2:=R1.move E.ok (w':=w') (h':={h1 with φ:=φ',M:=fun b=>h1.M b∨b=blk}) rfl rfl rfl (fun _ h=>.inl h) ⟨ex,fun b hlt _=>⟨hbel.block b hlt,hφ b hlt⟩,hbel.size,hbel.os,hbel.tape,hbel.output,fun b hb=>hb.elim .inl (fun e=>.inr (e▸hge)),htop⟩ (fun b hM=>⟨hbel.block b (R1.mine b hM),hφ b (R1.mine b hM)⟩) (fun b hb=>hb.elim (fun hM=>Nat.lt_of_lt_of_le (R1.mine b hM) hbel.size) (fun e=>e▸hlt)) htop;have R3:=R2.addBox (d:=d) (blk:=blk) (zs:=ys.flatMap cells) (cs:=cs) (e:=et) hbd' (.inr rfl) hheap hlen (fun j v x hv hx=>by
  obtain ⟨r,s⟩:=hcells j v x hv hx;exact ⟨.data r,D5 r,s⟩) hφ0 (fun i hb=>by have:=R1.mine _ (R1.boxM hb);omega) (fun r hb=>by have:=R1.mine _ (R1.rowM hb);omega)
 refine hn _ _ _ (Bk (eff:={v:=.bsl d 0 sz ys.length,wb:=[(d,⟨ys.flatMap cells,false⟩)],rb:=[d]}) cc R R3 ⟨.bsl d 0 sz _ cap blk (by simp) hcap,fun j u z hu hz=>?_⟩ (by simpa using p3)) (by simpa using p3);cases j with
 | zero=>simp [cells] at hu;subst hu;intro r' sz xs' e;cases e
 | succ j=>simp [cells] at hu
theorem A87 {s:St} {K:St→Prop} {d:Nat} {f:FuncId} {xs:List X} {vs us:List V} {sz:Nat} {ys:List V} {rest:List Ins} (hx:evXs s.env xs=some vs) (hd:∀b,toDs b vs=some (us,[])) (hC:CO E.P f us sz ys) (hbd:get s.bx d=none)
  (hk:Steps E rest K ((s.setB d ⟨ys.flatMap cells,false⟩).put (some d) (.bsl d 0 sz ys.length))):Steps E (⟨some d,.call f,xs,none⟩::rest) K s :=
 Step1.does (ins:=⟨some d,.call f,xs,none⟩) (Zp (Ay hx) hd hC (by rw [fs_b];exact hbd)) hk
theorem TraceK.callO {s:St} {K:List (List Loc×List Loc)→St→List Ins→Prop} {d:Nat} {f:FuncId} {xs:List X} {vs us:List V} {sz:Nat} {ys:List V} {rest:List Ins} (hx:evXs s.env xs=some vs) (hd:∀b,toDs b vs=some (us,[])) (hC:CO E.P f us sz ys) (hbd:get s.bx d=none)
  (tr:TraceK E ((s.setB d ⟨ys.flatMap cells,false⟩).put (some d) (.bsl d 0 sz ys.length)) rest fun fp s' r'=>K ((wrOf ⟨some d,.call f,xs,none⟩ {v:=.bsl d 0 sz ys.length,wb:=[(d,⟨ys.flatMap cells,false⟩)],rb:=[d]},Bp xs++[.bx d])::fp) s' r'):TraceK E s (⟨some d,.call f,xs,none⟩::rest) K :=
 .step (ins:=⟨some d,.call f,xs,none⟩) (Zp (Ay hx) hd hC (by rw [fs_b];exact hbd)) tr
end
end
section
open Go.RowKit
theorem Ur:∀{xs:List V},(∀x∈xs,cells x=[x])→xs.flatMap cells=xs
 | [],_=>rfl
 | x::xs,h=>by
   rw [List.flatMap_cons,h x (by simp),Ur fun y hy=>h y (by simp [hy])];rfl
end
section
open Go.RowKit
theorem Yw {σ:FSt} {h:Gh} {w:World} {blk off:Nat} {x:Value} (o:Ok σ h w (.rptr blk off) x):x=.pointer (some ⟨blk,off,none⟩):=by
 obtain ⟨r,_⟩:=o;cases r with
 | data r=>cases r;rfl
theorem Zo {E:Env} {σ:FSt} {d n g:Nat} {agg:Bool} {cs:List V} {x:X} (hg:(g,cs)∈Fy) (hx:[x].mapM (evX σ)=some [.rptr g 0]) (hn:n≤cs.length):Does E σ ⟨some d,.load n agg,[x],none⟩ {v:=mkv agg n cs} (Bp [x]):=by
 refine .sem fun τ hτ slots ops j o ro nn log stp a w h hc hs hi R Q next hnx=>?_
 have hx':[x].mapM (evX τ)=some [.rptr g 0]:=C5 hx fun l hl=>hτ l hl;obtain ⟨os,cc⟩:=Ba hc;have hdf:=At cc.op;have hgo:o.guard=none:=by
  rcases cc.guard with ⟨_,e⟩ | ⟨_,_,_,_,_,e⟩
  ·exact e
  ·cases e
 have hO:=B9 R.1 cc.xs hx';cases hO with
 | cons o1 r1 =>
   cases r1;have e1:=Yw o1;have rd:RepD w h.φ (.vptr cs 0) _:=E.ok.gl _ _ _ _ _ R.1.sur (g,cs) hg;rename_i p;have hO2:Opds τ h w a [p] [.vptr cs 0]:=.cons (by rw [e1];exact .data rd) .nil;obtain ⟨x',w',h',hr,R',ok,hy⟩:=N7 (d:=d) (eff:={pre:=0+n≤cs.length,v:=mkv agg n (cs.drop 0)}) R.1 E.ok cc.op hO2 (fun e=>by cases e) rfl (by simpa using hn);exact B5 hi (Ai hgo) hdf hr (hnx _ _ h' (Bk (eff:={v:=mkv agg n cs}) cc R R' ok hy) hy)
theorem A7h {E:Env} {σ:FSt} {d n g t:Nat} {agg want gb:Bool} {gv:V} {cs:List V} {x:X} (hg:(g,cs)∈Fy) (hgv:σ.g t=some gv) (hgb:Cg want gv=some gb) (hx:[x].mapM (evX σ)=some [.rptr g 0]) (hn:n≤cs.length):Does E σ ⟨some d,.load n agg,[x],some (t,want)⟩ {v:=.cond gb (mkv agg n cs)} (.slot t::Bp [x]):=by
 refine .sem fun τ hτ slots ops j o ro nn log stp a w h hc hs hi R Q next hnx=>?_
 have hx':[x].mapM (evX τ)=some [.rptr g 0]:=C5 hx fun l hl=>hτ l (by simp [hl]);have hgv':τ.g t=some gv:=by rw [g_eq (hτ (.slot t) (by simp))];exact hgv
 obtain ⟨os,cc⟩:=Ba hc;have hdf:=At cc.op;obtain ⟨j',want',t',g1,g2,g3⟩:∃j want t,o.guard=some (j,want)∧slots[j]?=some (some t)∧(some (t,want):Option (Nat×Bool))=some (t,want)∧True:=by
  rcases cc.guard with ⟨e,_⟩ | ⟨j,want,t,e1,e2,e3⟩
  ·cases e
  ·exact ⟨j,want,t,e1,e2,rfl,trivial⟩
 have g3':(some (t,want):Option (Nat×Bool))=some (t',want'):=by
  rcases cc.guard with ⟨e,_⟩ | ⟨j,want1,t1,e1,e2,e3⟩
  ·cases e
  ·rw [g1] at e1;cases e1;rw [g2] at e2;cases e2;exact e3
 cases g3';obtain ⟨wt,wf⟩:=Cs R hs g1 g2 hgv' hgb;have hO:=B9 R.1 cc.xs hx';cases hO with
 | cons o1 r1 =>
   cases r1;have e1:=Yw o1;have rd:RepD w h.φ (.vptr cs 0) _:=E.ok.gl _ _ _ _ _ R.1.sur (g,cs) hg;rename_i p;have hO2:Opds τ h w a [p] [.vptr cs 0]:=.cons (by rw [e1];exact .data rd) .nil;cases gb with
   | true =>
     obtain ⟨x',w',h',hr,R',ok,hy⟩:=N7 (d:=d) (eff:={pre:=0+n≤cs.length,v:=mkv agg n (cs.drop 0)}) R.1 E.ok cc.op hO2 (fun e=>by cases e) rfl (by simpa using hn);refine B5 hi (wt rfl) hdf hr (hnx _ _ h' (Bk (eff:={v:=.cond true (mkv agg n cs)}) cc R R' ⟨.cond true _ _ (fun _=>ok.1) (fun e=>(by cases e)),fun j u z hu hz=>?_⟩ hy) hy);cases j with
     | zero=>simp [cells] at hu;subst hu;intro r' sz xs' e;cases e
     | succ j=>simp [cells] at hu
   | false=>exact F2 cc R hi (wf rfl) R.1 rfl (mkv agg n cs) hnx
theorem X2 {E:Env} {s:St} {K:St→Prop} {d n g:Nat} {agg:Bool} {cs:List V} {x:X} {rest:List Ins} (hg:(g,cs)∈Fy) (hx:evXs s.env [x]=some [.rptr g 0]) (hn:n≤cs.length) (hk:Steps E rest K (s.put (some d) (mkv agg n cs))):Steps E (⟨some d,.load n agg,[x],none⟩::rest) K s :=
 Step1.does (ins:=⟨some d,.load n agg,[x],none⟩) (Zo hg (Ay hx) hn) hk
theorem TraceK.gload {E:Env} {s:St} {K:List (List Loc×List Loc)→St→List Ins→Prop} {d n g:Nat} {agg:Bool} {cs:List V} {x:X} {rest:List Ins} (hg:(g,cs)∈Fy) (hx:evXs s.env [x]=some [.rptr g 0]) (hn:n≤cs.length)
  (tr:TraceK E (s.put (some d) (mkv agg n cs)) rest fun fp s' r'=>K (([.slot d],Bp [x])::fp) s' r'):TraceK E s (⟨some d,.load n agg,[x],none⟩::rest) K :=
 .step (ins:=⟨some d,.load n agg,[x],none⟩) (eff:={v:=mkv agg n cs}) (Zo hg (Ay hx) hn) tr
theorem L8 {E:Env} {s:St} {K:List (List Loc×List Loc)→St→List Ins→Prop} {d n g t:Nat} {agg want gb:Bool} {gv:V} {cs:List V} {x:X} {rest:List Ins} (hg:(g,cs)∈Fy) (hgv:get s.env t=some gv) (hgb:Cg want gv=some gb) (hx:evXs s.env [x]=some [.rptr g 0]) (hn:n≤cs.length)
  (tr:TraceK E (s.put (some d) (.cond gb (mkv agg n cs))) rest fun fp s' r'=>K (([.slot d],.slot t::Bp [x])::fp) s' r'):TraceK E s (⟨some d,.load n agg,[x],some (t,want)⟩::rest) K :=
 .step (ins:=⟨some d,.load n agg,[x],some (t,want)⟩) (eff:={v:=.cond gb (mkv agg n cs)}) (A7h hg (by rw [fs_g];exact hgv) hgb (Ay hx) hn) tr
end
end Go.Am
