/-
  Parts of the proof: the abstract machine, the compiled code, contracts of the functions, S6 laws (spelled short by a program).
-/
import Derived.Test.YtabedohjkillfaaGreatX5
import Derived.Laws.Concat
set_option maxRecDepth 100000
set_option maxHeartbeats 4000000
set_option linter.unusedVariables false
set_option linter.unusedSimpArgs false
namespace Go.Am
section
open Go.RowKit
def CY (P : Program) (f : FuncId) (l : Nat) (yl : YL) (ys0 : List (List V)) (A : Arena) (args : List V) (Φ : V → List (List V) → Bool → Arena → Prop) : Prop :=
 Bn P f = true ∧ ∀ (S : Sur), S.ok → Em P S yl l → ∀ (w : World) (φ : Nat → Nat) (xs : Array Value), (∀ b, w.heap.size ≤ b → φ b = 0) → Ar w φ (fun _ => False) A → S ys0 false (fun b => b ∈ A.map (·.1)) w φ → RepL w φ args xs →
  Calls P f xs w fun e w' => ∃ φ' x r ys stp B, Φ r ys stp B ∧ e = .returned x ∧ RepR w' φ' r x ∧ Ar w' φ' (fun _ => False) B ∧ S ys stp (fun b => b ∈ B.map (·.1)) w' φ' ∧ ∀ b, w'.heap.size ≤ b → φ' b = 0
def SY1 (S : Sur) (A : Arena) (ys0 : List (List V)) : Sur := fun log stp M w φ => (log = [] ∧ SY S (encA A ++ ys0) stp M w φ) ∨ (log ≠ [] ∧ SY S log stp M w φ)
theorem SY1_ok {S : Sur} (h : S.ok) (A : Arena) (ys0 : List (List V)) : (SY1 S A ys0).ok := by
 refine ⟨?_, fun l s M w φ hs => ?_⟩
 ·rintro log s M w φ M' w' φ' (⟨h1, h2⟩ | ⟨h1, h2⟩) mv
  ·exact .inl ⟨h1, (Ade h).move _ _ _ _ _ _ _ _ h2 mv⟩
  ·exact .inr ⟨h1, (Ade h).move _ _ _ _ _ _ _ _ h2 mv⟩
 ·rcases hs with ⟨_, h2⟩ | ⟨_, h2⟩ <;> exact (Ade h).gl _ _ _ _ _ h2
theorem Abt (A : Arena) (ys : List (List V)) : encA A ++ ys ≠ [] := by simp [encA]
theorem A9f {P : Program} {f nt : Nat} {ic : IC} {rs : List ResultVar} (hmix : P.follows .mixedOrders = true) (hch : chkF P f = some (nt, ic, rs)) {l : Nat} {yl : YL} {ys0 : List (List V)} {A : Arena} {args : List V} {Φ : V → List (List V) → Bool → Arena → Prop} (hlen : args.length ≤ nt)
  (hT : ∀ (S : Sur) (ok : S.ok) (S1 : Sur), InY (env0 P hmix nt S ok) S1 l yl → Tr (env0 P hmix nt S ok) none ic (A16 P rs fun r s => ∃ B ys, s.log = encA B ++ ys ∧ Φ r ys s.stp B) { entry args with log := encA A ++ ys0 }) : CY P f l yl ys0 A args Φ := by
 obtain ⟨fn, c, hf, hb, hnt, hc, rfl, hcall⟩ := L5 hch
 refine ⟨hcall, fun S ok hy w φ xs htop hA hS hrep => ?_⟩
 have hT1 := hT (SY S) (Ade ok) S ⟨Sub.refl _, ok, hy⟩
 have e0 : (fun b => False ∨ b ∈ A.map (·.1)) = fun b => b ∈ A.map (·.1) := by funext b; simp
 have hT2 : Tr (env0 P hmix nt (SY1 S A ys0) (SY1_ok ok A ys0)) none ic (A16 P fn.results.toList fun r s => ∃ B ys, s.log = encA B ++ ys ∧ Φ r ys s.stp B) (entry args) := by
  intro c hc n a w1 g R Q' hq
  have hs0 : SY S (encA A ++ ys0) false g.M w1 g.φ := by
   rcases R.1.sur with ⟨_, h2⟩ | ⟨h1, _⟩
   ·exact h2
   ·exact absurd rfl h1
  have R1 : (env0 P hmix nt (SY S) (Ade ok)).rel { entry args with log := encA A ++ ys0 } a w1 g := by
   refine ⟨{ R.1 with sur := hs0 }, fun l hl => ⟨?_, trivial⟩, R.2.2⟩
   intro log x M w φ xs hp
   exact False.elim hp
  refine hT1 c hc n a w1 g R1 Q' fun e t a' w' h' hQ R' hy => ?_
  refine hq e t a' w' h' hQ ?_ hy
  obtain ⟨B, ys, k1, k2⟩ := R'.1.sur
  have k1 : t.log = encA B ++ ys := k1
  refine ⟨{ R'.1 with sur := .inr ⟨by rw [k1]; exact Abt _ _, R'.1.sur⟩ }, fun l hl => ⟨?_, trivial⟩, R'.2.2⟩
  intro log x M w φ xs hp
  exact False.elim hp
 refine (Oe (E := env0 P hmix nt (SY1 S A ys0) (SY1_ok ok A ys0)) (φ := φ) (y := none) hf hb hc hnt hlen hrep.1 (fun i v x h1 h2 => ⟨.data (hrep.2 i v x h1 h2), fun σ h => Ac (hrep.2 i v x h1 h2)⟩)
  (.inl ⟨rfl, A, ys0, rfl, hA, by rw [e0]; exact hS⟩) htop (fun _ h => ((by cases h))) hT2).mono ?_
 rintro e w' ⟨r, s', h', x, rfl, hr, hsur, ht, B, ys, hk, hΦ⟩
 have hs' : SY S s'.log s'.stp h'.M w' h'.φ := by
  rcases hsur with ⟨h1, _⟩ | ⟨_, h2⟩
  ·rw [hk] at h1; exact absurd h1 (Abt _ _)
  ·exact h2
 obtain ⟨B', ys', k1, k3, k4⟩ := hs'
 rw [hk] at k1
 obtain ⟨rfl, rfl⟩ := Tb k1
 exact ⟨h'.φ, x, r, ys, s'.stp, B, hΦ, rfl, hr, ⟨k3.nd, k3.ok, fun _ _ h => h, k3.lt, k3.z⟩, ok.move _ _ _ _ _ _ _ _ k4 ⟨Ext.refl _ _, fun _ _ _ => ⟨rfl, rfl⟩, Nat.le_refl _, rfl, rfl, rfl, fun b hb => .inl (.inr hb), ht⟩, ht⟩
structure SC (S0 : Sur) (F : Arena) (M1 : Nat → Prop) (w0 : World) (φ0 : Nat → Nat) (ys : List (List V)) (stp : Bool) (M : Nat → Prop) (w : World) (φ : Nat → Nat) : Prop where
 ar : Ar w φ (fun b => M1 b ∨ M b) F
 sur : S0 ys stp (fun b => (M1 b ∨ M b) ∨ b ∈ F.map (·.1)) w φ
 ext : Ext w0 φ0 w φ
 own : ∀ b, M1 b → ¬ M b ∧ w.heap[b]? = w0.heap[b]? ∧ φ b = φ0 b
 lt : ∀ b, M1 b → b < w0.heap.size
 size : w0.heap.size ≤ w.heap.size
 os : w.os = w0.os
 tape : w.tape = w0.tape
 output : w.output = w0.output
 top : ∀ b, w.heap.size ≤ b → φ b = 0
theorem SC_ok {S0 : Sur} (h0 : S0.ok) {F : Arena} {M1 : Nat → Prop} {w0 : World} {φ0 : Nat → Nat} : Sur.ok (SC S0 F M1 w0 φ0) := by
 refine ⟨?_, fun _ _ _ _ _ h => h0.gl _ _ _ _ _ h.sur⟩
 intro ys stp M w φ M' w' φ' h mv
 have old : ∀ p ∈ F, w'.heap[p.1]? = w.heap[p.1]? ∧ φ' p.1 = φ p.1 := fun p hp => mv.old _ (h.ar.lt p hp) fun hM => h.ar.fr p hp (.inr hM)
 have own : ∀ b, M1 b → w'.heap[b]? = w.heap[b]? ∧ φ' b = φ b := fun b hb => mv.old b (Nat.lt_of_lt_of_le (h.lt b hb) h.size) (h.own b hb).1
 exact {
  ar := ⟨h.ar.nd, fun p hp => (h.ar.ok p hp).mono (old p hp).1 mv.ext, fun p hp hM => by
   rcases hM with hM | hM
   ·exact h.ar.fr p hp (.inl hM)
   ·rcases mv.mine _ hM with h1 | h1
    ·exact h.ar.fr p hp (.inr h1)
    ·have := h.ar.lt p hp; omega, fun p hp => Nat.lt_of_lt_of_le (h.ar.lt p hp) mv.size, fun p hp => (old p hp).2.trans (h.ar.z p hp)⟩
  sur := h0.move _ _ _ _ _ _ _ _ h.sur ⟨mv.ext, fun b hb hn => mv.old b hb fun hM => hn (.inl (.inr hM)), mv.size, mv.os, mv.tape, mv.output, fun b hb => by
   rcases hb with (hb | hb) | hb
   ·exact .inl (.inl (.inl hb))
   ·exact (mv.mine b hb).imp (fun h => .inl (.inr h)) id
   ·exact .inl (.inr hb), mv.top⟩
  ext := h.ext.trans mv.ext
  own := fun b hb => ⟨fun hM => by
   rcases mv.mine b hM with h1 | h1
   ·exact (h.own b hb).1 h1
   ·have := h.lt b hb; have := h.size; omega, (own b hb).1.trans (h.own b hb).2.1, (own b hb).2.trans (h.own b hb).2.2⟩
  lt := h.lt
  size := Nat.le_trans h.size mv.size
  os := mv.os.trans h.os
  tape := mv.tape.trans h.tape
  output := mv.output.trans h.output
  top := mv.top }
theorem Adf {P : Program} {S0 : Sur} {l : Nat} {yl : YL} (hy : Em P S0 yl l) {F : Arena} {M1 : Nat → Prop} {w0 : World} {φ0 : Nat → Nat} : Em P (SC S0 F M1 w0 φ0) yl l := by
 intro ys x M w φ xs hp h htop hM hrep
 obtain ⟨fn, tmps, asg, body, hrun, hround⟩ := hy ys x (fun b => (M1 b ∨ M b) ∨ b ∈ F.map (·.1)) w φ xs hp h.sur htop (fun b hb => by
  rcases hb with (hb | hb) | hb
  ·exact Nat.lt_of_lt_of_le (h.lt b hb) h.size
  ·exact hM b hb
  ·obtain ⟨p, hp, rfl⟩ := List.mem_map.1 hb
   exact h.ar.lt p hp) hrep
 refine ⟨fn, tmps, asg, body, hrun, fun n => (hround n).mono ?_⟩
 rintro e w' ⟨b, φ', rfl, sur, ext, own, hs, ht, hos, htp, hou⟩
 refine ⟨b, φ', rfl, ?_, ext, fun k hk => own k (.inl (.inr hk)), hs, ht, hos, htp, hou⟩
 have oF : ∀ p ∈ F, w'.heap[p.1]? = w.heap[p.1]? ∧ φ' p.1 = φ p.1 := fun p hp => own p.1 (.inr (List.mem_map.2 ⟨p, hp, rfl⟩))
 exact {
  ar := ⟨h.ar.nd, fun p hp => (h.ar.ok p hp).mono (oF p hp).1 ext, h.ar.fr, fun p hp => Nat.lt_of_lt_of_le (h.ar.lt p hp) hs, fun p hp => (oF p hp).2.trans (h.ar.z p hp)⟩
  sur := sur
  ext := h.ext.trans ext
  own := fun k hk => ⟨(h.own k hk).1, (own k (.inl (.inl hk))).1.trans (h.own k hk).2.1, (own k (.inl (.inl hk))).2.trans (h.own k hk).2.2⟩
  lt := h.lt
  size := Nat.le_trans h.size hs
  os := hos.trans h.os
  tape := htp.trans h.tape
  output := hou.trans h.output
  top := ht }
section
variable {E : Env} {S0 : Sur} {l : Nat} {yl : YL} {σ : FSt} {a : Act} {w : World} {h : Gh}
theorem wp_callY (hE : InY E S0 l yl) {F A1 : Arena} {ys : List (List V)} {ro : Option Nat} {n i : Nat} {ops : Array Oper} {slots : List (Option Nat)} {o : Oper} {ins : Ins} (R : E.relF (encA (F ++ A1) ++ ys) false σ a w h) {f : FuncId} {vs us : List V} {ids : List Nat} {Φ : V → List (List V) → Bool → Arena → Prop} {os : List Operand} (cc : Comp E.P E.nt slots o ins os) (hd : toDs σ.b vs = some (us, ids)) (hC : CY E.P f l yl ys A1 us Φ)
  (xs : Array Value) (hl : vs.length = xs.size) (hr : ∀ (i : Nat) v x, vs[i]? = some v → xs[i]? = some x → Rep w h.φ h.β h.y.l v x) (hi : ops[i]? = some o) (hw : Region.wanted o (yielded ops a.tmps) = true) (hrun : (execOp a.eval o).run E.P w = .ok (.enter f xs) w)
  {Q : Exit → Act → World → Prop} {next : Act → World → Prop} (hn : ∀ r ys' stp' B, Φ r ys' stp' B → ∀ a' w' h', E.relF (encA (F ++ B) ++ ys') stp' ((σ.eff { v := r, wb := freeze σ.b ids }).put ins.d r) a' w' h' → h'.y = h.y → next a' w') : wpOpIn (Co ro) n E.P ops Q i next a w := by
 unfold wpOpIn
 simp only [hi, hw, if_true, Oper.wpIn]
 refine ⟨fun _ _ => trivial, ?_⟩
 rw [Oper.semAt_eq _ _ _ (Ah cc.op), hrun]
 simp only [Oper.uponIn]
 refine ⟨fun e => by simp [Co, Fence.wide] at e, ?_⟩
 obtain ⟨h1, R1, ext1, q1, q2, q3, hrep⟩ := Ck R.1 hd
 obtain ⟨M1, hM1, hlt1, ⟨A0, ys0, e, hA, hS⟩, back⟩ := hE.sub _ _ _ _ _ R1.sur R1.mine
 obtain ⟨rfl, rfl⟩ := Tb e
 have hnd := hA.nd
 rw [List.map_append, List.nodup_append] at hnd
 have arA : Ar w h1.φ (fun _ => False) A1 := ⟨hnd.2.1, fun p hp => hA.ok p (List.mem_append.2 (.inr hp)), fun _ _ h => h, fun p hp => hA.lt p (List.mem_append.2 (.inr hp)), fun p hp => hA.z p (List.mem_append.2 (.inr hp))⟩
 have sc0 : SC S0 F M1 w h1.φ ys false (fun b => b ∈ A1.map (·.1)) w h1.φ := {
  ar := ⟨hnd.1, fun p hp => hA.ok p (List.mem_append.2 (.inl hp)), fun p hp hM => by
   rcases hM with hM | hM
   ·exact hA.fr p (List.mem_append.2 (.inl hp)) hM
   ·exact hnd.2.2 _ (List.mem_map.2 ⟨p, hp, rfl⟩) _ hM rfl, fun p hp => hA.lt p (List.mem_append.2 (.inl hp)), fun p hp => hA.z p (List.mem_append.2 (.inl hp))⟩
  sur := hE.ok.move _ _ _ _ _ _ _ _ hS ⟨Ext.refl _ _, fun _ _ _ => ⟨rfl, rfl⟩, Nat.le_refl _, rfl, rfl, rfl, fun b hb => .inl (by
   rw [List.map_append, List.mem_append]
   rcases hb with (hb | hb) | hb
   ·exact .inl hb
   ·exact .inr (.inr hb)
   ·exact .inr (.inl hb)), R1.top⟩
  ext := Ext.refl _ _
  own := fun b hb => ⟨fun hm => by
   obtain ⟨p, hp, rfl⟩ := List.mem_map.1 hm
   exact hA.fr p (List.mem_append.2 (.inr hp)) hb, rfl, rfl⟩
  lt := hlt1
  size := Nat.le_refl _
  os := rfl
  tape := rfl
  output := rfl
  top := R1.top }
 refine (Bv (hC.2 (SC S0 F M1 w h1.φ) (SC_ok hE.ok) (Adf hE.yl) w h1.φ xs R1.top arA sc0 (hrep xs hl hr))).mono ?_
 rintro e w' ⟨φ', x, r, ys', stp', B, hΦ, rfl, hres, hB, sc, ht⟩
 have ar2 : Ar w' φ' M1 (F ++ B) := by
  refine ⟨?_, fun p hp => ?_, fun p hp hM => ?_, fun p hp => ?_, fun p hp => ?_⟩
  ·rw [List.map_append, List.nodup_append]
   refine ⟨sc.ar.nd, hB.nd, fun x hx y hy e => ?_⟩
   subst e
   obtain ⟨p, hp, rfl⟩ := List.mem_map.1 hx
   exact sc.ar.fr p hp (.inr hy)
  ·rcases List.mem_append.1 hp with hp | hp
   ·exact sc.ar.ok p hp
   ·exact hB.ok p hp
  ·rcases List.mem_append.1 hp with hp | hp
   ·exact sc.ar.fr p hp (.inl hM)
   ·exact (sc.own _ hM).1 (List.mem_map.2 ⟨p, hp, rfl⟩)
  ·rcases List.mem_append.1 hp with hp | hp
   ·exact sc.ar.lt p hp
   ·exact hB.lt p hp
  ·rcases List.mem_append.1 hp with hp | hp
   ·exact sc.ar.z p hp
   ·exact hB.z p hp
 have sy : SY S0 (encA (F ++ B) ++ ys') stp' M1 w' φ' := ⟨F ++ B, ys', rfl, ar2, hE.ok.move _ _ _ _ _ _ _ _ sc.sur ⟨Ext.refl _ _, fun _ _ _ => ⟨rfl, rfl⟩, Nat.le_refl _, rfl, rfl, rfl, fun b hb => .inl (by
   rw [List.map_append, List.mem_append] at hb
   rcases hb with hb | hb | hb
   ·exact .inl (.inl hb)
   ·exact .inr hb
   ·exact .inl (.inr hb)), ht⟩⟩
 have own : ∀ b, M1 b → w'.heap[b]? = w.heap[b]? ∧ φ' b = h1.φ b := fun b hb => (sc.own b hb).2
 have sur' := back _ _ w' φ' sy sc.ext own sc.size ht sc.os sc.tape sc.output
 have R2 := H1 R1 sc.ext (fun b hb => own b (hM1 b hb)) sc.size ht sur'
 have hx : Rep w' φ' h1.β h1.y.l r x ∧ ∀ σ h w0, GrowV σ h w0 r x := by
  cases hres with
  | data hh => exact ⟨.data hh, fun σ h w0 => Ac hh⟩
  | tuple vs xs hl hh =>
    refine ⟨.tuple vs xs hl hh, fun σ h w0 j u z hu hz => ?_⟩
    cases j with
    | zero => simp [cells] at hu; subst hu; intro r' sz xs' e; cases e
    | succ j => simp [cells] at hu
 refine hn r ys' stp' B hΦ _ _ { h1 with φ := φ' } ⟨?_, by rw [show ({ h1 with φ := φ' } : Gh).y = h.y from q3]; exact R.2⟩ q3
 rw [cc.d]
 cases hd : o.dst with
 | none => exact R2
 | some d => exact Rel.put R2 (cc.dst d hd) hx.1 (hx.2 _ _ _)
theorem fs_callY {s : St} {r : V} {wb : List (Nat × Box)} {d : Option Nat} {log : List (List V)} {stp : Bool} : ({ (s.eff { v := r, wb := wb }).put d r with log := log, stp := stp } : St).fs = ((s.fs.eff { v := r, wb := wb }).put d r) := by
 cases d with
 | none => exact G2 s _
 | some d => show ((s.eff _).put (some d) r).fs = _; rw [Dy, G2]; rfl
theorem Ln (hE : InY E S0 l yl) {K : St → Prop} {s : St} {d : Option Nat} {f : FuncId} {xs : List X} {rest : List Ins} {vs first cap us : List V} {ids : List Nat} {Φ : V → List (List V) → Bool → Arena → Prop} {F A1 : Arena} {ys : List (List V)} (hx : evXs s.env xs = some (.func (.func f) first cap :: vs)) (hd : toDs s.fs.b (first ++ vs ++ cap) = some (us, ids)) (hl : s.log = encA (F ++ A1) ++ ys) (hstp : s.stp = false)
  (hC : CY E.P f l yl ys A1 us Φ) (hk : ∀ r ys' stp' B, Φ r ys' stp' B → Steps E rest K { (s.eff { v := r, wb := freeze s.fs.b ids }).put d r with log := encA (F ++ B) ++ ys', stp := stp' }) : Steps E (⟨d, .callv, xs, none⟩ :: rest) K s := by
 refine Step1.raw fun slots ops o i ro n a w h hc hs hi R Q next hn => ?_
 obtain ⟨os, cc⟩ := Aw hc
 have hgo := Al cc rfl
 obtain ⟨c, t, e1, e2, rfl⟩ := H3 cc.op
 have R' : E.relF (encA (F ++ A1) ++ ys) false s.fs a w h := by rw [← hl, ← hstp]; exact R
 have hO := Au R.1 cc.xs (Ai hx)
 cases hO with
 | cons o1 o2 =>
   obtain ⟨f', c', ef, hf, hc', h1, h2⟩ := Ja o1
   obtain ⟨l1, l2⟩ := D0 o2
   obtain ⟨m1, m2⟩ := arr3 hf hc' l1 h1 h2 l2
   refine wp_callY hE R' cc hd hC _ m1 m2 hi (Ad hgo) (Ki hC.1 e2 e1 ef) fun r ys' stp' B hΦ a' w' h' R2 hy => hn _ a' w' h' (hk r ys' stp' B hΦ) ?_ hy
   show E.relF _ _ _ _ _ _
   rw [fs_callY]; exact R2
end
end
section
open Go.RowKit
theorem A2x {E : Env} {S1 : Sur} {l0 : List (List V)} {s0 : Bool} (hES : E.S = SA S1 l0 s0) (ok1 : S1.ok) {s : St} {Q : Exit → St → Prop} {z : X} {ps : List Nat} {asg body : IC} {f : FuncId} {cap us : List V} {yl : YL} {F A1 : Arena} {Φ : List (List V) → Bool → Arena → Prop} (hz : evX s.fs z = some (.func (.func f) [] cap)) (hd : toDs s.fs.b cap = some (us, [])) (hl : s.log = encA (F ++ A1))
  (hit : ∀ l, CY E.P f l yl [] A1 (.func (.yield l) [] [] :: us) fun _ ys stp B => Φ ys stp B)
  (hpin : E.pin.all (Bi s.bx) = true) (henv : s.env.all (fun p => B6 (Bi s.bx) (fun _ => none) 6 p.2) = true) (hps : ps.all (fun p => decide (p < E.nt)) = true) (hlen : ∀ pre x, yl (pre ++ [x]) → x.length = ps.length)
  (Inv : List (List V) → St → Prop) (Ix : Exit → St → Prop) (h0 : Inv [] { s with log := encA F }) (hround : ∀ (a : Act) (L : Nat) (rc : LoopState → Option Code → Loop) (h0 : Gh), Round E { s := { s with log := encA F }, a := a, L := L, rc := rc, h0 := h0, Inv := Inv, Ix := Ix } yl ps asg body)
  (hdone : ∀ t log B F', t.log = encA F' → Φ log false B → t.env = s.env → t.stp = s.stp → Inv log t → Q .normal { t with log := encA (F' ++ B) }) (hstop : ∀ e t log B F', t.log = encA F' → Φ log true B → t.env = s.env → Ix e t → Q e { t with log := encA (F' ++ B) }) : Tr E none (.range z ps asg body) Q s := fun c hc n a w h R Q' hq => by
 obtain ⟨p, ca, cb, rfl, e0, e1, e2⟩ := Bk hc
 have hES' := hES
 have okz := R.1.opd e0 hz
 obtain ⟨f', c', ef, hf', hc', _, hcr⟩ := Ja okz
 have hf0 : f' = #[] := by
  have : f'.size = 0 := by simpa using hf'.symm
  exact Array.eq_empty_of_size_eq_zero this
 subst hf0
 have hcallable := (hit 0).1
 refine wpIn_rangeFunc fun fn hfn => ?_
 have hw1 : ∃ w1, (w.alloc (.deferred (some []))).alloc (.loop { state := .ready, pending := none, fn := fn, tmps := a.tmps, params := ps.toArray, assign := ca, body := cb, defers := w.heap.size }) = w1 := ⟨_, rfl⟩
 obtain ⟨w1, hw1⟩ := hw1
 have hl1 : w1.heap[w.heap.size + 1]? = some (.loop { state := .ready, pending := none, fn := fn, tmps := a.tmps, params := ps.toArray, assign := ca, body := cb, defers := w.heap.size }) := by
  rw [← hw1]; have := World.alloc_heap_new (w.alloc (.deferred (some []))) (.loop { state := .ready, pending := none, fn := fn, tmps := a.tmps, params := ps.toArray, assign := ca, body := cb, defers := w.heap.size }); rwa [World.size_alloc] at this
 have hk1 : w1.heap[w.heap.size]? = some (.deferred (some [])) := by
  rw [← hw1]; exact (Below.heap_alloc _ _ _ (by simp)).trans (World.alloc_heap_new w _)
 have R1 := (R.1.alloc E.ok (.deferred (some []))).alloc E.ok (.loop { state := .ready, pending := none, fn := fn, tmps := a.tmps, params := ps.toArray, assign := ca, body := cb, defers := w.heap.size })
 rw [hw1] at R1
 obtain ⟨h1, hh1⟩ : ∃ h1 : Gh, { h with M := fun b => (h.M b ∨ b = w.heap.size) ∨ b = (w.alloc (.deferred (some []))).heap.size } = h1 := ⟨_, rfl⟩
 have R1 : Rel E.nt E.S s.log s.stp s.fs a w1 h1 := by rw [← hh1]; exact R1
 have q1 : h1.φ = h.φ := by rw [← hh1]
 have q2 : h1.y = h.y := by rw [← hh1]
 have qD : h1.M w.heap.size := by rw [← hh1]; exact .inl (.inr rfl)
 have qL : h1.M (w.heap.size + 1) := by rw [← hh1]; exact .inr (by simp)
 obtain ⟨a', ha'⟩ : ∃ a' : Act, { a with defers := [{ target := .collected w.heap.size, args := #[] }] ++ a.defers } = a' := ⟨_, rfl⟩
 have ht' : a'.tmps = a.tmps := by rw [← ha']
 have R2 : Rel E.nt E.S s.log s.stp s.fs a' w1 h1 := by
  refine { R1 with size := by rw [ht']; exact R1.size, env := fun t v hv => by rw [ht']; exact R1.env t v hv, marks := ?_ }
  rw [← ha']
  refine ⟨⟨w.heap.size, rfl, qD, hk1, fun d hd e => ?_⟩, R1.marks⟩
  have : ∀ ds : List Deferred, Marks h.M w ds → ∀ d ∈ ds, d ≠ { target := .collected w.heap.size, args := #[] } := by
   intro ds
   induction ds with
   | nil => intro _ d hd; cases hd
   | cons d0 ds ih =>
     rintro ⟨⟨r, er, hMr, _, _⟩, hs⟩ d hd e
     rcases List.mem_cons.1 hd with rfl | hd
     ·rw [er] at e
      simp only [Deferred.mk.injEq, Target.collected.injEq, and_true] at e
      have := R.1.mine r hMr
      omega
     ·exact ih hs d hd e
  exact this a.defers R.1.marks d hd e
 let lc : LC := { s := { s with log := encA F }, a := a', L := w.heap.size + 1, rc := fun st p => { state := st, pending := p, fn := fn, tmps := a.tmps, params := ps.toArray, assign := ca, body := cb, defers := w.heap.size }, h0 := h1, Inv := Inv, Ix := Ix }
 have hpin' : ∀ i ∈ E.pin, Bi s.bx i = true := by rw [List.all_eq_true] at hpin; exact hpin
 have hps' : ∀ p ∈ ps, p < E.nt := fun p hp => by rw [List.all_eq_true] at hps; simpa using hps p hp
 have hY : Em E.P (SI E lc) yl (w.heap.size + 1) := Tk (c := lc) (D := w.heap.size) (fn := fn) (fun st p => by rw [show lc.a.tmps = a.tmps from ht']) e1 e2 (by show E.yok h1.y; rw [q2]; exact R.2) hpin' henv hps' hlen (hround _ _ _ _)
 have hsur1 : SA S1 l0 s0 (encA (F ++ A1)) s.stp h1.M w1 h1.φ := by have := R2.sur; rw [hES, hl] at this; exact this
 obtain ⟨A0, eA, es0, hA, hS⟩ := hsur1
 obtain rfl := C3 eA
 have hnd := hA.nd
 rw [List.map_append, List.nodup_append] at hnd
 have arA : Ar w1 h1.φ (fun _ => False) A1 := ⟨hnd.2.1, fun p hp => hA.ok p (List.mem_append.2 (.inr hp)), fun _ _ h => h, fun p hp => hA.lt p (List.mem_append.2 (.inr hp)), fun p hp => hA.z p (List.mem_append.2 (.inr hp))⟩
 have hSI : SI E lc [] false (fun b => b ∈ A1.map (·.1)) w1 h1.φ := ⟨{ s with log := encA F }, h1, none, {
  env := rfl
  phi := rfl
  y := rfl
  rel := R2.toTop
  sur := by
   rw [hES]
   refine ⟨F, rfl, es0, ⟨hnd.1, fun p hp => hA.ok p (List.mem_append.2 (.inl hp)), fun p hp hM => ?_, fun p hp => hA.lt p (List.mem_append.2 (.inl hp)), fun p hp => hA.z p (List.mem_append.2 (.inl hp))⟩, ok1.move _ _ _ _ _ _ _ _ hS ⟨Ext.refl _ _, fun _ _ _ => ⟨rfl, rfl⟩, Nat.le_refl _, rfl, rfl, rfl, fun b hb => .inl ?_, R2.top⟩⟩
   ·rcases hM with hM | hM
    ·exact hA.fr p (List.mem_append.2 (.inl hp)) hM
    ·exact hnd.2.2 _ (List.mem_map.2 ⟨p, hp, rfl⟩) _ hM rfl
   ·rw [List.map_append, List.mem_append]
    rcases hb with (hb | hb) | hb
    ·exact .inl hb
    ·exact .inr (.inr hb)
    ·exact .inr (.inl hb)
  dis := fun b hb hm => by
   obtain ⟨p, hp, rfl⟩ := List.mem_map.1 hm
   exact hA.fr p (List.mem_append.2 (.inr hp)) hb
  hL := qL
  rc := hl1
  keys := fun _ _ _ e => e
  go := fun _ => ⟨h0, rfl, rfl⟩
  stop := fun e => (by cases e) }⟩
 have hrepc : RepL w1 h1.φ us c' := by
  have hcr1 : ∀ (i : Nat) v x, cap[i]? = some v → c'[i]? = some x → Rep w1 h1.φ h1.β h1.y.l v x := fun i v x g1 g2 => by
   have ext : Ext w h.φ w1 h1.φ := by
    have e1 : Ext w h.φ w1 h.φ := fun b o ho => by
     have hlt : b < w.heap.size := by
      rcases Nat.lt_or_ge b w.heap.size with h1 | h1
      ·exact h1
      ·rw [R.1.top b h1] at ho; omega
     have hbk : w1.heap[b]? = w.heap[b]? := by
      rw [← hw1, Below.heap_alloc _ _ _ (by simp; omega), Below.heap_alloc _ _ _ hlt]
     exact ⟨ho, World.cell?_of_block hbk, B5 hbk⟩
    rw [q1]; exact e1
   have := (hcr i v x g1 g2).mono ext (β' := h1.β) (fun _ _ e => by rw [← hh1]; exact e)
   rw [q2]; exact this
  have hd' : toDl s.fs.b 6 cap = some (us, []) := hd
  obtain ⟨g1, g2⟩ := Fw hd'
  refine ⟨by omega, fun i u x hu hx => ?_⟩
  have hlt : i < cap.length := by have := (List.getElem?_eq_some_iff.1 hu).1; omega
  obtain ⟨js, h5, h6⟩ := g2 i _ u (List.getElem?_eq_getElem hlt) hu
  exact (I5 R1 6 _ u x js h5 (fun i hi => (by cases h6 i hi)) (hcr1 i _ x (List.getElem?_eq_getElem hlt) hx)).1
 obtain ⟨hcall, hcon⟩ := hit (w.heap.size + 1)
 have hrepA : RepL w1 h1.φ (.func (.yield (w.heap.size + 1)) [] [] :: us) (#[.func (.yield (w.heap.size + 1)) #[] #[]] ++ c') := by
  refine ⟨by have := hrepc.1; simp; omega, fun i v x hv hx => ?_⟩
  cases i with
  | zero =>
    simp at hv
    rw [Array.getElem?_append_left (by simp)] at hx
    simp at hx
    subst hv hx
    exact .func _ [] [] #[] #[] rfl rfl (fun i v x h => by simp at h) (fun i v x h => by simp at h)
  | succ i =>
    simp at hv
    rw [Array.getElem?_append_right (by simp)] at hx
    exact hrepc.2 i v x hv (by simpa using hx)
 have hC := hcon (SI E lc) SI_ok hY w1 h1.φ _ R1.top arA hSI hrepA
 refine ⟨w.heap.size + 1, [{ target := .collected w.heap.size, args := #[] }], w1, { target := .fn (.func f) c', args := #[.func (.yield (w.heap.size + 1)) #[] #[]] }, w1, f,
  #[.func (.yield (w.heap.size + 1)) #[] #[]] ++ c', w1, ?_, ?_, fun _ _ => trivial, ?_, fun e => by simp [Co, Fence.wide] at e, ?_⟩
 ·rw [← hw1]; exact run_enterLoop_outer _ _ _ _ _
 ·simp only [resolve, ef]
  simp [go_sem]
 ·unfold Bn at hcall
  cases hf : E.P.funcs[f]? with
  | none => simp [hf] at hcall
  | some fn =>
    simp only [hf, Bool.and_eq_true, bne_iff_ne, ne_eq] at hcall
    have hb : fn.body.isNone = false := by cases h : fn.body <;> simp [h] at hcall ⊢
    have hnm : (fn.name == "runtime.NumGoroutine") = false := by simpa using hcall.1
    simp only [invoke, callFunc, Sem.run_bind, run_program, Result.andThen_ok, hf, hnm, hb]
    simp
 ·refine (Bv hC).mono ?_
  rintro e w5 ⟨φ5, x, r, log, stp, B, hΦ, rfl, hres, hB, ⟨t, hh, pend, h5⟩, ht5⟩
  have e5 := h5.phi
  subst e5
  have hrun := run_endLoop (P := E.P) h5.rc (by cases stp <;> simp [lc])
  refine ⟨_, _, hrun, ?_⟩
  have hs5 := h5.sur
  rw [hES] at hs5
  obtain ⟨F', eF, es5, hF, hS5⟩ := hs5
  have ar5 : Ar w5 hh.φ hh.M (F' ++ B) := by
   refine ⟨?_, fun p hp => ?_, fun p hp hM => ?_, fun p hp => ?_, fun p hp => ?_⟩
   ·rw [List.map_append, List.nodup_append]
    refine ⟨hF.nd, hB.nd, fun x hx y hy e => ?_⟩
    subst e
    obtain ⟨p, hp, rfl⟩ := List.mem_map.1 hx
    exact hF.fr p hp (.inr hy)
   ·rcases List.mem_append.1 hp with hp | hp
    ·exact hF.ok p hp
    ·exact hB.ok p hp
   ·rcases List.mem_append.1 hp with hp | hp
    ·exact hF.fr p hp (.inl hM)
    ·exact h5.dis _ hM (List.mem_map.2 ⟨p, hp, rfl⟩)
   ·rcases List.mem_append.1 hp with hp | hp
    ·exact hF.lt p hp
    ·exact hB.lt p hp
   ·rcases List.mem_append.1 hp with hp | hp
    ·exact hF.z p hp
    ·exact hB.z p hp
  have hsE : E.S (encA (F' ++ B)) t.stp hh.M w5 hh.φ := by
   rw [hES]
   refine ⟨F' ++ B, rfl, es5, ar5, ok1.move _ _ _ _ _ _ _ _ hS5 ⟨Ext.refl _ _, fun _ _ _ => ⟨rfl, rfl⟩, Nat.le_refl _, rfl, rfl, rfl, fun b hb => .inl ?_, ht5⟩⟩
   rw [List.map_append, List.mem_append] at hb
   rcases hb with hb | hb | hb
   ·exact .inl (.inl hb)
   ·exact .inr hb
   ·exact .inl (.inr hb)
  have hQ : E.rel { t with log := encA (F' ++ B) } a' (w5.putObj (w.heap.size + 1) (.loop { lc.rc (bif stp then .done else .ready) pend with state := .exhausted })) hh := by
   have ext := Jk (φ := hh.φ) (o := .loop { lc.rc (bif stp then .done else .ready) pend with state := .exhausted }) h5.rc (by intro _ _ _ e; cases e) (by intro _ _ _ e; cases e) (by intro _ _ e; cases e) (by intro _ _ e; cases e)
   refine ⟨h5.rel.pokeS h5.rc (by intro _ _ _ e; cases e) (by intro _ _ _ e; cases e) (by intro _ _ e; cases e) (by intro _ _ e; cases e) rfl (h5.rel.marks.congr fun r hr hd => ⟨hr, (World.putObj_heap_other fun e => ?_).trans hd⟩)
    (E.ok.move _ _ _ _ _ _ _ _ hsE ⟨ext, fun b hb hn => ⟨World.putObj_heap_other fun e => hn (e ▸ h5.hL), rfl⟩, by rw [World.putObj_size]; exact Nat.le_refl _, rfl, rfl, rfl, fun b hb => .inl hb, fun b hb => ht5 b (by rwa [World.putObj_size] at hb)⟩), ?_⟩
   ·subst e
    rw [h5.rc] at hd; cases hd
   ·have hyy : hh.y = h.y := h5.y.trans q2
    rw [hyy]; exact R.2
  have hyy : hh.y = h.y := h5.y.trans q2
  cases stp with
  | false =>
    obtain ⟨g1, g2, g3⟩ := h5.go rfl
    subst g3
    exact hq .normal _ _ _ hh (hdone t log B F' eF hΦ h5.env g2 g1) (by rw [← ha'] at hQ; exact hQ) hyy
  | true =>
    obtain ⟨e, j, g1, g2, g3⟩ := h5.stop rfl
    subst g2
    have hQe := hq e _ _ _ hh (hstop e t log B F' eF hΦ h5.env g1) (by rw [← ha'] at hQ; exact hQ) hyy
    show Code.wpIn _ _ _ j _ _ _
    cases e <;> simp only [Rs, Option.some.injEq] at g3 <;> (try (cases g3; done)) <;> subst g3
    ·exact wpIn_exit hQe
    ·exact wpIn_goto hQe
    ·exact wpIn_ret hQe
theorem A74 {P : Program} {f nt : Nat} {ic : IC} {rs : List ResultVar} (hmix : P.follows .mixedOrders = true) (hch : chkF P f = some (nt, ic, rs)) {A : Arena} {K : List (Nat × List V)} {args : List V} {Φ : V → Arena → Prop} (hlen : args.length ≤ nt)
  (hT : ∀ (S1 : Sur) (ok1 : S1.ok), Tr (env0 P hmix nt (SA S1 [] false) (Jo ok1 [] false)) none ic (A16 P rs fun r s => ∃ B, s.log = encA B ∧ Φ r B) { entry args with log := encA A }) : CX P f A K args Φ := by
 obtain ⟨fn, c, hf, hb, hnt, hc, rfl, hcall⟩ := L5 hch
 refine ⟨hcall, fun w φ xs htop hgl hA hK hKA hrep => ?_⟩
 have okI := A95 w φ A hgl
 have hT1 := hT (SQ w φ A) okI
 have e0 : (fun b => False ∨ b ∈ A.map (·.1)) = fun b => b ∈ A.map (·.1) := by funext b; simp
 have hT2 : Tr (env0 P hmix nt (SQ1 w φ A) (Rz w φ A hgl)) none ic (A16 P fn.results.toList fun r s => ∃ B, s.log = encA B ∧ Φ r B) (entry args) := by
  intro c hc n a w1 g R Q' hq
  obtain ⟨B0, h1, h2, h3, h4⟩ := R.1.sur
  have hB0 : B0 = A := by
   rcases h1 with ⟨_, h⟩ | h
   ·exact h
   ·exact absurd h.symm (L3 _)
  subst hB0
  have R1 : (env0 P hmix nt (SA (SQ w φ B0) [] false) (Jo okI [] false)).rel { entry args with log := encA B0 } a w1 g := by
   refine ⟨{ R.1 with sur := ⟨B0, rfl, rfl, h3, h4⟩ }, fun l hl => ⟨?_, trivial⟩, R.2.2⟩
   intro log x M w φ xs hp
   exact False.elim hp
  refine hT1 c hc n a w1 g R1 Q' fun e t a' w' h' hQ R' hy => ?_
  refine hq e t a' w' h' hQ ?_ hy
  obtain ⟨B', k1, k2, k3, k4⟩ := R'.1.sur
  refine ⟨{ R'.1 with sur := ⟨B', .inr k1, k2, k3, k4⟩ }, fun l hl => ⟨?_, trivial⟩, R'.2.2⟩
  intro log x M w φ xs hp
  exact False.elim hp
 refine (Oe (E := env0 P hmix nt (SQ1 w φ A) (Rz w φ A hgl)) (φ := φ) (y := none) hf hb hc hnt hlen hrep.1 (fun i v x h1 h2 => ⟨.data (hrep.2 i v x h1 h2), fun σ h => Ac (hrep.2 i v x h1 h2)⟩)
  ⟨A, .inl ⟨rfl, rfl⟩, rfl, hA, by rw [e0]; exact Moved.refl _ htop⟩ htop (fun _ h => ((by cases h))) hT2).mono ?_
 rintro e w' ⟨r, s', h', x, rfl, hr, ⟨B', k1, k2, k3, k4⟩, ht, hk⟩
 obtain ⟨B, hk, hΦ⟩ := hk
 have hB : B' = B := by
  rw [hk] at k1
  rcases k1 with ⟨h, _⟩ | h
  ·exact absurd h (L3 _)
  ·exact (C3 h).symm
 subst hB
 exact ⟨h'.φ, x, r, B', hΦ, rfl, hr, ⟨k3.nd, k3.ok, fun _ _ h => h, k3.lt, k3.z⟩, ⟨k4.ext, k4.old, k4.size, k4.os, k4.tape, k4.output, fun b hb => k4.mine b (.inr hb), k4.top⟩⟩
end
section
open Go.RowKit
section
variable {P : Program} {t : TypeId}
end
section
variable {P : Program}
theorem Aao {o : Op} {t u : Nat} {os : List Operand} (h : opK P o = some (.raw 12 t u, os)) : ∃ x k v, o = .mapUpdate t x k v ∧ os = [x, k, v] := by
 have h := Nn h (by simp [D7])
 unfold opKr at h
 split at h <;> (try (repeat' (split at h))) <;> first
  | (simp at h; done)
  | (simp only [Option.some.injEq, Prod.mk.injEq, K.raw.injEq, true_and] at h; obtain ⟨⟨rfl, rfl⟩, rfl⟩ := h; exact ⟨_, _, _, rfl, rfl⟩)
theorem Aan {o : Op} {t u : Nat} {os : List Operand} (h : opK P o = some (.raw 13 t u, os)) : o = .makeMap t none ∧ os = [] := by
 have h := Nn h (by simp [D7])
 unfold opKr at h
 split at h <;> (try (repeat' (split at h))) <;> first
  | (simp at h; done)
  | (simp only [Option.some.injEq, Prod.mk.injEq, K.raw.injEq, true_and] at h; obtain ⟨⟨rfl, rfl⟩, rfl⟩ := h; exact ⟨rfl, rfl⟩)
end
section
variable {E : Env} {S0 : Sur} {l0 : List (List V)} {s0 : Bool} {A : Arena}
end
section
variable {E : Env} {σ : FSt}
end
end
section
open Go.RowKit
def keyL (k : List Int) : Value := .agg (k.map (Value.int .i64)).toArray
def A7w (k : List Int) : V := .agg (k.map (V.int .i64))
structure GK (P : Program) (t : TypeId) (n : Nat) (z : Value) where
 kt : TypeId
 e : TypeId
 un : P.underlying t = some (.map kt e)
 keyed : Maps.Keyed P kt
 zero : ∀ w, (zeroValue e).run P w = .ok z w
 key : ∀ k : List Int, k.length = n → (∀ a ∈ k, inI a) → ∃ l, keyOf P kt (keyL k) = some l
theorem U6 : ∀ {a b : List Int}, a.map (Value.int .i64) = b.map (Value.int .i64) → a = b
 | [], [], _ => rfl
 | [], _ :: _, h => by simp at h
 | _ :: _, [], h => by simp at h
 | x :: a, y :: b, h => by
   simp only [List.map_cons, List.cons.injEq, Value.int.injEq, true_and] at h
   rw [h.1, U6 h.2]
theorem Z8 {a b : List Int} (h : keyL a = keyL b) : a = b := by
 unfold keyL at h
 simp only [Value.agg.injEq] at h
 exact U6 (by simpa using congrArg Array.toList h)
def mesL : Nat → List (List Int × Value) → List MapEntry
 | _, [] => []
 | i, (k, x) :: r => { key := keyL k, val := x, born := i } :: mesL (i + 1) r
theorem A65 : ∀ (i : Nat) (l : List (List Int × Value)) (k : List Int) (x : Value), mesL i (l ++ [(k, x)]) = mesL i l ++ [{ key := keyL k, val := x, born := i + l.length }]
 | i, [], k, x => rfl
 | i, (a, y) :: l, k, x => by
   have e : i + 1 + l.length = i + (l.length + 1) := by omega
   simp only [List.cons_append, mesL, A65 (i + 1) l k x, List.length_cons, e]
theorem Jb : ∀ {i : Nat} {l : List (List Int × Value)} {e : MapEntry}, e ∈ mesL i l → ∃ p ∈ l, e.key = keyL p.1 ∧ e.val = p.2
 | i, [], e, h => by cases h
 | i, (k, x) :: l, e, h => by
   rcases List.mem_cons.1 h with rfl | h
   ·exact ⟨(k, x), by simp, rfl, rfl⟩
   ·obtain ⟨p, hp, h1⟩ := Jb h
    exact ⟨p, by simp [hp], h1⟩
theorem A64 : ∀ {i : Nat} {l : List (List Int × Value)} {p : List Int × Value}, p ∈ l → ∃ e ∈ mesL i l, e.key = keyL p.1
 | i, [], p, h => by cases h
 | i, (k, x) :: l, p, h => by
   rcases List.mem_cons.1 h with rfl | h
   ·exact ⟨_, List.mem_cons_self, rfl⟩
   ·obtain ⟨e, he, h1⟩ := A64 (i := i + 1) h
    exact ⟨e, List.mem_cons_of_mem _ he, h1⟩
def gmO (l : List (List Int × Value)) : Ob := .raw (.map (mesL 0 l).toArray l.length)
def gmOk (n : Nat) (l : List (List Int × Value)) : Prop := ∀ p ∈ l, p.1.length = n ∧ ∀ a ∈ p.1, inI a
section
variable {P : Program} {t n : Nat} {z : Value}
theorem run_gput (G : GK P t n z) {w : World} {mb : Nat} {l : List (List Int × Value)} (hb : w.heap[mb]? = some (.map (mesL 0 l).toArray l.length)) (hin : gmOk n l) {k : List Int} (hk : k.length = n ∧ ∀ a ∈ k, inI a) (hnew : ∀ p ∈ l, p.1 ≠ k) (x : Value) :
  (Instr.mapUpdate t (.map (some mb)) (keyL k) x).run P w = .ok () (ChangeMaps.setBlock w mb (.map (mesL 0 (l ++ [(k, x)])).toArray (l ++ [(k, x)]).length)) := by
 obtain ⟨kl, hkl⟩ := G.key k hk.1 hk.2
 have hfind := G.keyed.find w hkl (mesL 0 l) (fun x hx' => by
  obtain ⟨p, hp, e1, _⟩ := Jb hx'
  rw [e1]; exact G.key _ (hin p hp).1 (hin p hp).2)
 rcases hfind with ⟨h1, _⟩ | ⟨j, y, h1, h2, h3⟩
 ·simp only [Instr.mapUpdate, Sem.run_bind, run_underlying G.un, Result.andThen_ok, MapKept.run_getObj_map hb, G.keyed.check w false hkl, h1]
  rw [MapKept.run_setObj_map _ hb, A65 0 l k x]
  simp [ChangeMaps.setBlock]
 ·exfalso
  obtain ⟨p, hp, e1, _⟩ := Jb (List.mem_of_getElem? h2)
  exact hnew p hp (Z8 (e1.symm.trans h3))
theorem A0z (G : GK P t n z) {w : World} {mb : Nat} {l : List (List Int × Value)} (hb : w.heap[mb]? = some (.map (mesL 0 l).toArray l.length)) (hin : gmOk n l) {k : List Int} (hk : k.length = n ∧ ∀ a ∈ k, inI a) (hnew : ∀ p ∈ l, p.1 ≠ k) :
  (Instr.lookup t (.map (some mb)) (keyL k) true).run P w = .ok (.tuple #[z, .bool false]) w := by
 obtain ⟨kl, hkl⟩ := G.key k hk.1 hk.2
 have hfind := G.keyed.find w hkl (mesL 0 l) (fun x hx' => by
  obtain ⟨p, hp, e1, _⟩ := Jb hx'
  rw [e1]; exact G.key _ (hin p hp).1 (hin p hp).2)
 rcases hfind with ⟨h1, _⟩ | ⟨j, y, h1, h2, h3⟩
 ·simp only [Instr.lookup, Sem.run_bind, run_underlying G.un, Result.andThen_ok, MapKept.run_getObj_map hb, Sem.run_pure, G.keyed.check w _ hkl, h1, G.zero]
  rfl
 ·exfalso
  obtain ⟨p, hp, e1, _⟩ := Jb (List.mem_of_getElem? h2)
  exact hnew p hp (Z8 (e1.symm.trans h3))
theorem A5q (G : GK P t n z) {w : World} {mb : Nat} {l : List (List Int × Value)} (hb : w.heap[mb]? = some (.map (mesL 0 l).toArray l.length)) (hin : gmOk n l) {p : List Int × Value} (hp : p ∈ l) (hone : ∀ q ∈ l, q.1 = p.1 → q.2 = p.2) :
  (Instr.lookup t (.map (some mb)) (keyL p.1) true).run P w = .ok (.tuple #[p.2, .bool true]) w := by
 obtain ⟨kl, hkl⟩ := G.key p.1 (hin p hp).1 (hin p hp).2
 have hfind := G.keyed.find w hkl (mesL 0 l) (fun x hx' => by
  obtain ⟨p, hp, e1, _⟩ := Jb hx'
  rw [e1]; exact G.key _ (hin p hp).1 (hin p hp).2)
 rcases hfind with ⟨h1, h2⟩ | ⟨i, y, h1, h2, h3⟩
 ·obtain ⟨e, he, e1⟩ := A64 (i := 0) hp
  exact absurd e1 (h2 e he)
 ·obtain ⟨q, hq, e1, e2⟩ := Jb (List.mem_of_getElem? h2)
  have := hone q hq (Z8 (e1.symm.trans h3))
  simp only [Instr.lookup, Sem.run_bind, run_underlying G.un, Result.andThen_ok, MapKept.run_getObj_map hb, Sem.run_pure, G.keyed.check w _ hkl, h1]
  rw [e2, this]
  rfl
end
theorem A19 {P : Program} {o : Op} {t u : Nat} {os : List Operand} (h : opK P o = some (.raw 25 t u, os)) : ∃ x k, o = .lookup t x k true ∧ os = [x, k] := by
 have h := Nn h (by simp [D7])
 unfold opKr at h
 split at h <;> (try (repeat' (split at h))) <;> first
  | (simp at h; done)
  | (simp only [Option.some.injEq, Prod.mk.injEq, K.raw.injEq, true_and] at h; obtain ⟨⟨rfl, rfl⟩, rfl⟩ := h; exact ⟨_, _, rfl, rfl⟩)
theorem Z0 {σ : FSt} {h : Gh} {w : World} {k : List Int} {x : Value} (o : Ok σ h w (A7w k) x) : x = keyL k := by
 obtain ⟨r, _⟩ := o
 have fin : ∀ vs : Array Value, (k.map (V.int .i64)).length = vs.size → (∀ (i : Nat) v y, (k.map (V.int .i64))[i]? = some v → vs[i]? = some y → Rep w h.φ h.β h.y.l v y) → Value.agg vs = keyL k := by
  intro vs hl hh
  unfold keyL
  congr 1
  apply Array.ext
  ·simpa using hl.symm
  ·intro i h1 h2
   have hk : i < k.length := by simpa using h2
   have := hh i (.int .i64 k[i]) vs[i] (by simp [hk]) (by simp [h1])
   have e : vs[i] = .int .i64 k[i] := by
    generalize vs[i] = y at this
    cases this with
    | data r => cases r; rfl
   rw [e]; simp
 cases r with
 | data r => cases r with
   | agg _ vs hl hh => exact fin vs hl fun i v y a b => .data (hh i v y a b)
 | agg _ vs hl hh => exact fin vs hl hh
section
variable {E : Env} {S0 : Sur} {l0 : List (List V)} {s0 : Bool} {A : Arena}
theorem A2z (hE : InA E S0 l0 s0) {K : St → Prop} {s : St} {d t u : Nat} {rest : List Ins} (hl : s.log = encA A)
  (hk : ∀ mb, mb ∉ A.map (·.1) → Steps E rest K { s.put (some d) (.rmap mb) with log := encA ((mb, gmO []) :: A) }) : Steps E (⟨some d, .raw 13 t u, [], none⟩ :: rest) K s := by
 refine Step1.raw fun slots ops o i ro n a w h hc hs hi R Q next hn => ?_
 obtain ⟨os, cc⟩ := Aw hc
 obtain ⟨e1, rfl⟩ := Aan cc.op
 have R' : E.relF (encA A) s.stp s.fs a w h := by rw [← hl]; exact R
 obtain ⟨R2, hnm⟩ := hE.fresh R' (.map #[] 0) (gmO []) (fun _ => heap_alloc_new w _)
 refine Aq hi (Ad (Al cc rfl)) (Ah cc.op) (.inl ?_) (hn _ _ _ h (hk _ hnm) (Hs cc R2 (.data (.rmap _)) rfl) rfl)
 simp only [execOp, e1, Sem.run_bind]
 rfl
theorem Re (hE : InA E S0 l0 s0) {K : St → Prop} {s : St} {t u n : Nat} {z : Value} (G : GK E.P t n z) {x y q : X} {rest : List Ins} {mb : Nat} {l : List (List Int × Value)} (k : List Int) {v : V} (xv : Value) (hx : evXs s.env [x, y, q] = some [.rmap mb, A7w k, v]) (hl : s.log = encA A)
  (hA : (mb, gmO l) ∈ A) (hin : gmOk n l) (hkk : k.length = n ∧ ∀ a ∈ k, inI a) (hnew : ∀ p ∈ l, p.1 ≠ k) (hv : ∀ w φ x, RepD w φ v x → x = xv) (hd : isD v = true)
  (hk : Steps E rest K { s with log := encA (setA A mb (gmO (l ++ [(k, xv)]))) }) : Steps E (⟨none, .raw 12 t u, [x, y, q], none⟩ :: rest) K s := by
 refine Step1.raw fun slots ops o i ro n a w h hc hs hi R Q next hn => ?_
 obtain ⟨os, cc⟩ := Aw hc
 obtain ⟨p, q, r, e1, rfl⟩ := Aao cc.op
 obtain ⟨v1, v2, v3, hu, o1, o2, o3⟩ := (Au R.1 cc.xs (Ai hx)).three
 simp only [List.cons.injEq, and_true] at hu
 obtain ⟨hu1, hu2, hu3⟩ := hu
 subst hu1 hu2 hu3
 have R' : E.relF (encA A) s.stp s.fs a w h := by rw [← hl]; exact R
 have hb : w.heap[mb]? = some (.map (mesL 0 l).toArray l.length) := (hE.ar R').ok _ hA
 have ev := hv _ _ _ (Nm hd o3.1)
 have hrun := run_gput G hb hin hkk hnew xv
 have R2 := hE.turn R' hA (gmO (l ++ [(k, xv)])) (w' := ChangeMaps.setBlock w mb (.map (mesL 0 (l ++ [(k, xv)])).toArray (l ++ [(k, xv)]).length)) (fun k hk => A79 _ hk) (by simp [ChangeMaps.setBlock]) rfl rfl rfl (fun ext => A9w hb _)
 have hdn : o.dst = none := cc.d.symm
 have R3 : E.rel { s with log := encA (setA A mb (gmO (l ++ [(k, xv)]))) } (a.put o.dst undef) (ChangeMaps.setBlock w mb (.map (mesL 0 (l ++ [(k, xv)])).toArray (l ++ [(k, xv)]).length)) h := by rw [hdn]; exact R2
 refine Aq (x := undef) hi (Ad (Al cc rfl)) (Ah cc.op) (.inr ⟨?_, rfl⟩) (hn _ _ _ h hk R3 rfl)
 simp only [execOp, e1, A3y o1, Z0 o2, ev, Sem.run_bind]
 rw [hrun]; rfl
theorem Y7 (hE : InA E S0 l0 s0) (hys : E.ys = noYs) (hlk : E.lk = fun _ => True) {σ : FSt} {d t u mb : Nat} {x y : X} {l : List (List Int × Value)} {k : List Int} {v : V} {xv : Value} {b : Bool} (hx : [x, y].mapM (evX σ) = some [.rmap mb, A7w k]) (hA : (mb, gmO l) ∈ A)
  (hrun : ∀ w : World, w.heap[mb]? = some (.map (mesL 0 l).toArray l.length) → (Instr.lookup t (.map (some mb)) (keyL k) true).run E.P w = .ok (.tuple #[xv, .bool b]) w) (hv : ∀ w φ, RepD w φ v xv) : Does (E.pinA A) σ ⟨some d, .raw 25 t u, [x, y], none⟩ { v := .tuple [v, .bool b] } (B7 [x, y]) := by
 refine .ext rfl hx fun o os log stp σ' a w h ho R hO => ?_
 obtain ⟨p, q, e1, rfl⟩ := A19 ho
 obtain ⟨v1, v2, hu, o1, o2⟩ := hO.two
 simp only [List.cons.injEq, and_true] at hu
 obtain ⟨hu1, hu2⟩ := hu
 subst hu1 hu2
 have hll : log = encA A := R.1.sur.1
 have R' : E.relF (encA A) stp σ' a w h := by rw [← hll]; exact Xr hys hlk R
 have hb : w.heap[mb]? = some (.map (mesL 0 l).toArray l.length) := (hE.ar R').ok _ hA
 refine ⟨.tuple #[xv, .bool b], ?_, .tuple [v, .bool b] #[xv, .bool b] rfl fun i v' x' h1 h2 => ?_, fun j u z hu hz => ?_⟩
 ·simp only [execOp, e1, A3y o1, Z0 o2, Sem.run_bind]
  have hrun' : (Instr.lookup t (.map (some mb)) (keyL k) true).run (E.pinA A).P w = .ok (.tuple #[xv, .bool b]) w := hrun w hb
  rw [hrun']; rfl
 ·match i with
  | 0 => simp at h1 h2; subst h1 h2; exact hv _ _
  | 1 => simp at h1 h2; subst h1 h2; exact .bool _
  | i + 2 => simp at h1
 ·cases j with
  | zero => simp [cells] at hu; subst hu; intro r' sz xs' e; cases e
  | succ j => simp [cells] at hu
theorem A2w (hE : InA E S0 l0 s0) (hys : E.ys = noYs) (hlk : E.lk = fun _ => True) {s : St} {K : List (List Loc × List Loc) → St → List Ins → Prop} {d t u n mb : Nat} {z : Value} (G : GK E.P t n z) {x y : X} {l : List (List Int × Value)} (k : List Int) {v : V} {rest : List Ins} (hx : evXs s.env [x, y] = some [.rmap mb, A7w k]) (hA : (mb, gmO l) ∈ A)
  (hin : gmOk n l) (hkk : k.length = n ∧ ∀ a ∈ k, inI a) (hnew : ∀ p ∈ l, p.1 ≠ k) (hv : ∀ w φ, RepD w φ v z)
  (tr : TraceK (E.pinA A) (s.put (some d) (.tuple [v, .bool false])) rest fun fp s' r' => K (([.slot d], B7 [x, y]) :: fp) s' r') : TraceK (E.pinA A) s (⟨some d, .raw 25 t u, [x, y], none⟩ :: rest) K :=
 .step (ins := ⟨some d, .raw 25 t u, [x, y], none⟩) (eff := { v := .tuple [v, .bool false] }) (Y7 hE hys hlk (Ai hx) hA (fun w hb => A0z G hb hin hkk hnew) hv) tr
theorem A54 (hE : InA E S0 l0 s0) (hys : E.ys = noYs) (hlk : E.lk = fun _ => True) {s : St} {K : List (List Loc × List Loc) → St → List Ins → Prop} {d t u n mb : Nat} {z : Value} (G : GK E.P t n z) {x y : X} {l : List (List Int × Value)} (k : List Int) {v : V} {xv : Value} {rest : List Ins} (hx : evXs s.env [x, y] = some [.rmap mb, A7w k]) (hA : (mb, gmO l) ∈ A)
  (hin : gmOk n l) (hp : (k, xv) ∈ l) (hone : ∀ q ∈ l, q.1 = k → q.2 = xv) (hv : ∀ w φ, RepD w φ v xv)
  (tr : TraceK (E.pinA A) (s.put (some d) (.tuple [v, .bool true])) rest fun fp s' r' => K (([.slot d], B7 [x, y]) :: fp) s' r') : TraceK (E.pinA A) s (⟨some d, .raw 25 t u, [x, y], none⟩ :: rest) K :=
 .step (ins := ⟨some d, .raw 25 t u, [x, y], none⟩) (eff := { v := .tuple [v, .bool true] }) (Y7 hE hys hlk (Ai hx) hA (fun w hb => A5q G hb hin hp hone) hv) tr
theorem Vl (hE : InA E S0 l0 s0) {K : St → Prop} {s : St} {d t u mb : Nat} {x y : X} {l : List (List Int × Value)} {k : List Int} {v : V} {xv : Value} {b : Bool} {rest : List Ins} (hx : evXs s.env [x, y] = some [.rmap mb, A7w k]) (hl : s.log = encA A) (hA : (mb, gmO l) ∈ A)
  (hrun : ∀ w : World, w.heap[mb]? = some (.map (mesL 0 l).toArray l.length) → (Instr.lookup t (.map (some mb)) (keyL k) true).run E.P w = .ok (.tuple #[xv, .bool b]) w) (hv : ∀ w φ, RepD w φ v xv) (hk : Steps E rest K (s.put (some d) (.tuple [v, .bool b]))) : Steps E (⟨some d, .raw 25 t u, [x, y], none⟩ :: rest) K s := by
 refine Step1.raw fun slots ops o i ro n a w h hc hs hi R Q next hn => ?_
 obtain ⟨os, cc⟩ := Aw hc
 have hgo := Al cc rfl
 have hdf := Ah cc.op
 obtain ⟨p, q, e1, rfl⟩ := A19 cc.op
 obtain ⟨v1, v2, hu, o1, o2⟩ := (Au R.1 cc.xs (Ai hx)).two
 simp only [List.cons.injEq, and_true] at hu
 obtain ⟨hu1, hu2⟩ := hu
 subst hu1 hu2
 have R' : E.relF (encA A) s.stp s.fs a w h := by rw [← hl]; exact R
 have hb : w.heap[mb]? = some (.map (mesL 0 l).toArray l.length) := (hE.ar R').ok _ hA
 have hex : (execOp a.eval o).run E.P w = .ok (.value (.tuple #[xv, .bool b])) w := by
  simp only [execOp, e1, A3y o1, Z0 o2, Sem.run_bind]
  rw [hrun w hb]; rfl
 refine Aq hi (Ad hgo) hdf (.inl hex) (hn _ _ _ h hk ?_ rfl)
 have ok : Ok s.fs h w (.tuple [v, .bool b]) (.tuple #[xv, .bool b]) := by
  refine ⟨.tuple [v, .bool b] #[xv, .bool b] rfl fun i v' x' h1 h2 => ?_, fun j u z hu hz => ?_⟩
  ·match i with
   | 0 => simp at h1 h2; subst h1 h2; exact hv _ _
   | 1 => simp at h1 h2; subst h1 h2; exact .bool _
   | i + 2 => simp at h1
  ·cases j with
   | zero => simp [cells] at hu; subst hu; intro r' sz xs' e; cases e
   | succ j => simp [cells] at hu
 show E.relF _ _ _ _ _ _
 rw [(Bt _ _ _).1, (Bt _ _ _).2, Dy]
 exact Bh (eff := { v := _ }) cc R R.1 ok rfl
end
end
section
open Go.RowKit
def Xu (P : Program) : Nat → TypeId → Bool
 | 0, _ => false
 | d + 1, t => match P.underlying t with
   | some (.int .i64) => P.cellsOf t == 1
   | some (.array n e) => P.cellsOf t == n * P.cellsOf e && Xu P d e
   | some (.struct fs) => fs.all (fun f => f.name != "_") && fs.toList.all (fun f => Xu P d f.type && decide (f.offset + P.cellsOf f.type ≤ P.cellsOf t))
   | _ => false
theorem U7 {α β : Type} {f : α → Option β} : ∀ {l : List α}, (∀ x ∈ l, ∃ y, f x = some y) → ∃ r, l.mapM f = some r
 | [], _ => ⟨[], rfl⟩
 | a :: l, h => by
   obtain ⟨y, hy⟩ := h a (by simp)
   obtain ⟨r, hr⟩ := U7 (l := l) fun x hx => h x (by simp [hx])
   exact ⟨y :: r, by rw [List.mapM_cons, hy, hr]; rfl⟩
theorem O4 {P : Program} : ∀ (d : Nat) (t : TypeId) (l : List Int), Xu P d t = true → l.length = P.cellsOf t → (∀ a ∈ l, inI a) → ∀ d', d ≤ d' → ∃ ls, P.keyLits d' t (l.map (Value.int .i64)) = some ls
 | 0, t, l, h, _, _, _, _ => by simp [Xu] at h
 | d + 1, t, l, h, hl, hin, d', hd => by
   obtain ⟨d', rfl⟩ : ∃ k, d' = k + 1 := ⟨d' - 1, by omega⟩
   have part : ∀ (o n : Nat), o + n ≤ l.length → ((l.map (Value.int .i64)).drop o).take n = ((l.drop o).take n).map (Value.int .i64) ∧ ((l.drop o).take n).length = n ∧ ∀ a ∈ (l.drop o).take n, inI a := by
    intro o n ho
    refine ⟨by rw [List.map_take, List.map_drop], by rw [List.length_take, List.length_drop]; omega, fun a ha => hin a (List.mem_of_mem_drop (List.mem_of_mem_take ha))⟩
   unfold Xu at h
   split at h
   ·rename_i hu
    have hc : P.cellsOf t = 1 := by simpa using h
    rw [hc] at hl
    match l, hl with
    | [a], _ =>
      have ha := hin a (by simp)
      have wf : (Lit.int .i64 a).wf = true := WalkArith.wf_i64 ⟨ha.1, by unfold inI at ha; omega⟩
      refine ⟨[.int .i64 a], ?_⟩
      simp only [Program.keyLits, hu, List.map_cons, List.map_nil]
      rw [if_pos ⟨trivial, wf⟩]
   ·rename_i n e hu
    simp only [Bool.and_eq_true, beq_iff_eq] at h
    obtain ⟨hc, hk⟩ := h
    have hm : ∀ i ∈ List.range n, ∃ y, P.keyLits d' e (((l.map (Value.int .i64)).drop (i * P.cellsOf e)).take (P.cellsOf e)) = some y := by
     intro i hi
     have hi := List.mem_range.1 hi
     have hle : i * P.cellsOf e + P.cellsOf e ≤ l.length := by
      rw [hl, hc, ← Nat.succ_mul]; exact Nat.mul_le_mul_right _ hi
     obtain ⟨p1, p2, p3⟩ := part _ _ hle
     rw [p1]
     exact O4 d e _ hk p2 p3 d' (by omega)
    obtain ⟨r, hr⟩ := U7 hm
    refine ⟨r.flatten, ?_⟩
    simp only [Program.keyLits, hu]
    rw [if_pos (by rw [List.length_map, hl]), hr]; rfl
   ·rename_i fs hu
    simp only [Bool.and_eq_true] at h
    obtain ⟨hn, hk⟩ := h
    have hm : ∀ f ∈ fs.toList, ∃ y, P.keyLits d' f.type (((l.map (Value.int .i64)).drop f.offset).take (P.cellsOf f.type)) = some y := by
     intro f hf
     have := List.all_eq_true.1 hk f hf
     simp only [Bool.and_eq_true, decide_eq_true_eq] at this
     obtain ⟨p1, p2, p3⟩ := part _ _ (show f.offset + P.cellsOf f.type ≤ l.length by omega)
     rw [p1]
     exact O4 d f.type _ this.1 p2 p3 d' (by omega)
    obtain ⟨r, hr⟩ := U7 hm
    refine ⟨r.flatten, ?_⟩
    simp only [Program.keyLits, hu]
    rw [if_pos ⟨by rw [List.length_map, hl], hn⟩, hr]; rfl
   ·cases h
def gkB (P : Program) (kt : TypeId) (n : Nat) : Bool := laidOutB P && decide (kt < P.types.size) && P.keyTypeAt 5 kt && P.keyType kt && (P.cellsOf kt == n) && Xu P 5 kt && decide (5 ≤ P.types.size) &&
 (match P.underlying kt with | some (.array _ _) => true | some (.struct _) => true | _ => false)
def GK_of {P : Program} {t kt e : TypeId} {n : Nat} {z : Value} (hu : P.underlying t = some (.map kt e)) (h : gkB P kt n = true) (hz : (P.info? e).bind (·.zero) = some z) : GK P t n z := by
 unfold gkB at h
 simp only [Bool.and_eq_true, decide_eq_true_eq, beq_iff_eq] at h
 obtain ⟨⟨⟨⟨⟨⟨⟨h1, h2⟩, h3⟩, h4⟩, h5⟩, h6⟩, h7⟩, h8⟩ := h
 refine ⟨kt, e, hu, Maps.Keyed.of_law (deep_law_laid h1 (m := 5) (by omega) h2 h3 ?_), fun w => ?_, fun k hk hin => ?_⟩
 ·split at h8
  ·rename_i a b hk; rw [hk]
  ·rename_i a hk; rw [hk]
  ·cases h8
 ·cases hi : P.info? e with
  | none => rw [hi] at hz; cases hz
  | some i =>
    rw [hi] at hz
    have hz : i.zero = some z := hz
    simp [zeroValue, typeInfo, hi, hz, Sem.run_bind, Sem.run_pure]
 ·obtain ⟨ls, hls⟩ := O4 5 kt k h6 (by rw [hk, h5]) hin (P.types.size + 1) (by omega)
  have hcl : (keyL k).cells.toList = k.map (Value.int .i64) := by simp [keyL, Value.cells]
  unfold keyOf
  split at h8
  ·rename_i a b hu2
   rw [hu2]
   refine ⟨.string (keyBytes ls), ?_⟩
   simp only
   rw [if_pos (by rw [h4]; simp [keyL, Value.formed, hu2, hk, h5]), hcl, hls]; rfl
  ·rename_i a hu2
   rw [hu2]
   refine ⟨.string (keyBytes ls), ?_⟩
   simp only
   rw [if_pos (by rw [h4]; simp [keyL, Value.formed, hu2, hk, h5]), hcl, hls]; rfl
  ·cases h8
end
end Go.Am
namespace Go.Proofs.YtabedohjkillfaaGreat
section
open Go.Am Go
attribute [local simp] cells Aa mkv Ag Ap under dem dem1 eB A7 B8 sB eF
def gk1 : GK Tryz.prog 134 4 (.bool false) := GK_of (kt := 97) (e := 4) (by kernel_rfl) (by kernel_rfl) (by kernel_rfl)
def chC (c : Cru) (mb : Nat) : List V := cruC c ++ [.rmap mb]
def chV (c : Cru) (mb : Nat) : V := .vptr (chC c mb) 0
theorem Y8 {c : Cru} (hs : c.Sane) (h : Hb c = true) : CX Tryz.prog Jy [] [] [eCru c] (fun r B => ∃ mb, B = [(mb, gmO [])] ∧ r = .tuple [chV c mb, I 0]) := by
 have kc := Pu hs
 rw [if_pos h] at kc
 refine J0 mixed Hx (by simp) fun S ok S1 hA hK hKD => ?_
 refine A2 rfl (by simp [eCru, cruC, D4, As]) (Tr.seq (A3 rfl (by simp [eCru, cruC, D4, As]) (Steps.call rfl rfl kc (Steps.fin rfl (by simp) (A2 rfl (by simp) (A4 rfl (Tr.skip ?_)))))))
 refine Tr.seq (Tr.reg (Steps.runN 1 rfl (by simp [eCru, cruC, D4, As]) (A2z hA rfl fun mb hmb => Steps.fin rfl (by simp [eCru, cruC, D4, As]) ?_)))
 exact Bg rfl rfl rfl ⟨_, rfl, mb, rfl, rfl⟩
theorem A8y {c : Cru} (hs : c.Sane) (h : Hb c = false) : C Tryz.prog Jy [eCru c] (.tuple [.nilp, I 40]) := by
 have kc := Pu hs
 rw [h, if_neg (by simp)] at kc
 refine C_of mixed Hx (by simp) fun S ok => ?_
 refine A2 rfl (by simp [eCru, cruC, D4, As]) (Tr.seq (A3 rfl (by simp [eCru, cruC, D4, As]) (Steps.call rfl rfl kc (Steps.fin rfl (by simp) (A2 rfl (by simp) (A6 rfl ?_))))))
 exact A2 rfl (by simp) (A5 rfl rfl rfl rfl trivial)
theorem c_askedN {c : Cru} (hs : c.Sane) (h : Hb c = false) (a b : Int × Int) : C Tryz.prog Ng [eCru c, eB a, eB b] (.tuple [.nilp, eLeg legZ, I 40]) := by
 have kc := A8y hs h
 refine C_of mixed Jx (by simp) fun S ok => ?_
 refine A2 rfl (by simp [eCru, cruC, D4, As]) (A3 rfl (by simp [eCru, cruC, D4, As]) (Steps.call rfl rfl kc (Steps.fin rfl (by simp) ?_)))
 refine Tr.seq (A2 rfl (by simp) (A6 rfl ?_))
 exact A2 rfl (by simp) (A5 rfl rfl rfl rfl trivial)
theorem A6q {c : Cru} (hs : c.Sane) (h : Hb c = true) (a b : Int × Int) : CX Tryz.prog Ng [] [] [eCru c, eB a, eB b] (fun r B => ∃ mb, B = [(mb, gmO [])] ∧ r = if An a && An b then .tuple [chV c mb, eLeg (a, b), I 0] else .tuple [.nilp, eLeg legZ, I 10]) := by
 have kc := Y8 hs h
 have k1 := Ce a
 have k2 := Ce b
 obtain ⟨g1, hg1⟩ : ∃ g, An a = g := ⟨_, rfl⟩
 obtain ⟨g2, hg2⟩ : ∃ g, An b = g := ⟨_, rfl⟩
 rw [hg1] at k1
 rw [hg2] at k2
 rw [hg1, hg2]
 have e1 : ((if g1 = true then (0 : Int) else 10) != 0) = !g1 := by cases g1 <;> rfl
 have e2 : ((if g2 = true then (0 : Int) else 10) != 0) = !g2 := by cases g2 <;> rfl
 refine J0 mixed Jx (by simp) fun S ok S1 hA hK hKD => ?_
 refine A2 rfl (by simp [eCru, cruC, D4, As]) (Tr.seq (Tr.reg (Steps.runN 1 rfl (by simp [eCru, cruC, D4, As]) (Ak (F := []) hA rfl rfl rfl kc (.inl (by simp)) fun r B hB => ?_))))
 obtain ⟨mb, rfl, rfl⟩ := hB
 refine Steps.fin rfl (by simp) ?_
 refine Tr.seq (A2 rfl (by simp) (A4 rfl (Tr.skip ?_)))
 refine Tr.seq (A3 rfl (by simp) (Steps.call rfl rfl k1 (Steps.runN 1 rfl (by simp) ?_)))
 rw [e1]
 refine Steps.run rfl (by cases g1 <;> simp) (Steps.gcall (r := I (if g2 = true then 0 else 10)) rfl rfl rfl rfl (by cases g1 <;> simp) (fun _ => k2) (Steps.runN 1 rfl (by cases g1 <;> simp) ?_))
 rw [e2]
 refine Steps.fin rfl (by cases g1 <;> cases g2 <;> simp) ?_
 refine Tr.cond rfl rfl (fun h4 => ?_) (fun h4 => ?_)
 ·have h4 : (g1 && g2) = false := by revert h4; cases g1 <;> cases g2 <;> simp
  rw [h4]
  refine A2 rfl (by simp) (Bg rfl rfl rfl ⟨_, rfl, mb, rfl, rfl⟩)
 ·have h4 : (g1 && g2) = true := by revert h4; cases g1 <;> cases g2 <;> simp
  rw [h4]
  refine Tr.skip (Tr.seq (A8 (TraceK.run rfl (by simp) (.done ⟨by kernel_rfl, by kernel_rfl, ?_⟩))))
  exact Bg rfl rfl rfl ⟨_, rfl, mb, rfl, rfl⟩
end
end Go.Proofs.YtabedohjkillfaaGreat
namespace Go.Am
section
open Go.RowKit
section
variable {E : Env} {s : St}
theorem V2 {σ : FSt} {d : Option Nat} {xs : List X} {t : Nat} {want gb : Bool} {gv u : V} {eff : Eff} (hgv : σ.g t = some gv) (hgb : C0 want gv = some gb) (hx : xs.mapM (evX σ) = some [u])
  (he : ∀ τ, At .nilck (d.getD 0) [(under u).2] τ = some eff) (hb : eff.wb = []) (hr : eff.wr = []) (hf : ∀ fn first cap, (under u).2 ≠ .func fn first cap) (hp : gb = true → eff.pre ∧ (under u).1 = true) :
  Does E σ ⟨d, .nilck, xs, some (t, want)⟩ { v := .cond gb eff.v } (.slot t :: B7 xs) := by
 refine .sem fun τ hτ slots ops i o ro n log stp a w h hc hs hi R Q next hn => ?_
 have hgv' : τ.g t = some gv := by rw [g_eq (hτ _ (by simp))]; exact hgv
 have hx' : xs.mapM (evX τ) = some [u] := Br hx fun l hl => hτ l (by simp [hl])
 obtain ⟨os, cc⟩ := Aw hc
 have hdf := Ah cc.op
 obtain ⟨j, want', t', g1, g2, g3⟩ : ∃ j want' t', o.guard = some (j, want') ∧ slots[j]? = some (some t') ∧ (some (t, want)) = some (t', want') := by
  rcases cc.guard with ⟨e, _⟩ | e
  ·cases e
  ·exact e
 cases g3
 obtain ⟨wt, wf⟩ := C4 R hs g1 g2 hgv' hgb
 cases gb with
 | true =>
   obtain ⟨hp1, hp2⟩ := hp rfl
   have hO := Au R.1 cc.xs hx'
   have hO' : Opds τ h w a os [(under u).2] := by
    cases hO with
    | cons o1 o2 => exact .cons (o1.under hp2) o2
   obtain ⟨x, w', h', hr', R', ok, hy⟩ := Ta (d := d.getD 0) R.1 E.ok cc.op hO' (fun _ fn first cap e => absurd (List.cons.inj e).1 (hf fn first cap)) (he τ) hp1
   have eσ : τ.eff eff = τ := by obtain ⟨p, v, wb, wr, rb, rr⟩ := eff; simp only at hb hr; subst hb hr; rfl
   rw [eσ] at R' ok
   refine Aq hi (wt rfl) hdf hr' (hn _ _ h' (Bh (eff := { v := .cond true eff.v }) cc R R' ⟨.cond true _ _ (fun _ => ok.1) (fun e => (by cases e)), fun j u z hu hz => ?_⟩ hy) hy)
   cases j with
   | zero => simp [cells] at hu; subst hu; intro r' sz xs' e; cases e
   | succ j => simp [cells] at hu
 | false => exact Ep cc R hi (wf rfl) R.1 rfl eff.v hn
theorem Rx {K : St → Prop} {d : Option Nat} {xs : List X} {t : Nat} {want gb : Bool} {rest : List Ins} {gv u : V} {eff : Eff} (hx : evXs s.env xs = some [u]) (hgv : get s.env t = some gv) (hgb : C0 want gv = some gb)
  (he : ∀ τ, At .nilck (d.getD 0) [(under u).2] τ = some eff) (hb : eff.wb = []) (hr : eff.wr = []) (hf : ∀ fn first cap, (under u).2 ≠ .func fn first cap) (hp : gb = true → eff.pre ∧ (under u).1 = true) (hk : Steps E rest K ((s.eff { v := .cond gb eff.v }).put d (.cond gb eff.v))) : Steps E (⟨d, .nilck, xs, some (t, want)⟩ :: rest) K s :=
 Step1.does (ins := ⟨d, .nilck, xs, some (t, want)⟩) (V2 (by rw [fs_g]; exact hgv) hgb (Ai hx) he hb hr hf hp) hk
theorem TraceK.gnilck {d : Option Nat} {xs : List X} {t : Nat} {want gb : Bool} {rest : List Ins} {gv u : V} {eff : Eff} {K : List (List Loc × List Loc) → St → List Ins → Prop} (hx : evXs s.env xs = some [u]) (hgv : get s.env t = some gv) (hgb : C0 want gv = some gb)
  (he : ∀ τ, At .nilck (d.getD 0) [(under u).2] τ = some eff) (hb : eff.wb = []) (hr : eff.wr = []) (hf : ∀ fn first cap, (under u).2 ≠ .func fn first cap) (hp : gb = true → eff.pre ∧ (under u).1 = true)
  (tr : TraceK E ((s.eff { v := .cond gb eff.v }).put d (.cond gb eff.v)) rest fun fp s' r' => K ((wrOf ⟨d, .nilck, xs, some (t, want)⟩ { v := .cond gb eff.v }, .slot t :: B7 xs) :: fp) s' r') : TraceK E s (⟨d, .nilck, xs, some (t, want)⟩ :: rest) K :=
 .step (ins := ⟨d, .nilck, xs, some (t, want)⟩) (V2 (by rw [fs_g]; exact hgv) hgb (Ai hx) he hb hr hf hp) tr
end
end
end Go.Am
namespace Go.Proofs.YtabedohjkillfaaGreat
section
open Go.Am Go
attribute [local simp] cells Aa mkv Ag Ap under dem dem1 eB A7 B8 sB eF chV chC cruC D4 As eLeg legC eCru
theorem c_clear1 {f : List (Int × Int)} {T : Fr} (hf : E0 f = true) (hT : Av T = true) : C Tryz.prog Fj [sB f, .vptr (A7 T) 0] (.bool (O5 f T).isSome) := by
 have kh := c_Hits hf hT
 refine C_of mixed Iu (by simp) fun S ok => ?_
 refine A2 rfl (by simp) (A3 rfl (by simp) (Steps.call rfl rfl kh (Steps.fin rfl (by simp) (A2 rfl (by simp) (A5 rfl rfl rfl ?_ trivial)))))
 cases (O5 f T).isSome <;> rfl
def Jw (c : Cru) (w : Leg) : Bool := match sweO c.spread w.1 w.2 with
 | some T => !(c.fields.any fun f => (O5 f T).isSome)
 | none => false
def kw (w : Leg) : List Int := [w.1.1, w.1.2, w.2.1, w.2.2]
theorem Rr {c : Cru} (h : Hb c = true) : ∀ f ∈ c.fields, E0 f = true := by
 unfold Hb at h
 simp only [Bool.and_eq_true] at h
 exact List.all_eq_true.1 h.1.1.2.1
theorem Aae (T : Fr) : Plain [.vptr (A7 T) 0] := ⟨fun b => rfl, fun B R => rfl⟩
theorem inI_pl {p : Int × Int} (h : An p = true) : inI p.1 ∧ inI p.2 := by
 have := Bd h
 unfold inI; omega
theorem kw_ok {w : Leg} (h1 : An w.1 = true) (h2 : An w.2 = true) : (kw w).length = 4 ∧ ∀ a ∈ kw w, inI a := by
 refine ⟨rfl, fun a ha => ?_⟩
 have i1 := inI_pl h1
 have i2 := inI_pl h2
 simp only [kw, List.mem_cons, List.not_mem_nil, or_false] at ha
 rcases ha with rfl | rfl | rfl | rfl
 ·exact i1.1
 ·exact i1.2
 ·exact i2.1
 ·exact i2.2
theorem Zv {c : Cru} (hs : c.Sane) (h : Hb c = true) {w : Leg} (h1 : An w.1 = true) (h2 : An w.2 = true) {mb : Nat} {l : List (List Int × Value)} (hin : gmOk 4 l) (hnew : ∀ p ∈ l, p.1 ≠ kw w) :
  CX Tryz.prog Ej [(mb, gmO l)] [] [chV c mb, eLeg w] (fun r B => B = [(mb, gmO (l ++ [(kw w, .bool (Jw c w))]))] ∧ r = .bool (Jw c w)) := by
 have hkk := kw_ok h1 h2
 have hone : ∀ o : Ob, (mb, o) ∈ ([(mb, o)] : Arena) := fun o => List.mem_singleton.2 rfl
 have hset : ∀ o, setA [(mb, gmO l)] mb o = [(mb, o)] := fun o => by simp [setA]
 obtain ⟨ks, kn⟩ := c_Swept (r := c.spread) (p := w.1) (q := w.2)
 refine J0 mixed Fi (by simp) fun S ok S1 hA hK hKD => ?_
 refine A2 rfl (by simp) ?_
 refine Tr.seq (Ct rfl rfl rfl (TraceK.runN 5 rfl (by simp) (A2w hA rfl rfl gk1 (kw w) (v := .bool false) rfl (hone _) hin hkk hnew (fun w φ => .bool _) (TraceK.run rfl (by simp) (.done ⟨by kernel_rfl, by kernel_rfl, ?_⟩)))))
 refine Tr.seq (A2 rfl (by simp) (A6 rfl ?_))
 refine Tr.seq (A8 (TraceK.run rfl (by simp) ?_))
 cases hsw : sweO c.spread w.1 w.2 with
 | none =>
   obtain ⟨e, he, kn⟩ := kn hsw
   have he' : (e == 0) = false := by simp [he]
   have hB : Jw c w = false := by unfold Jw; rw [hsw]
   rw [hB]
   refine TraceK.call rfl rfl kn (TraceK.run rfl (by simp) (.done ⟨by kernel_rfl, by kernel_rfl, ?_⟩))
   refine Eh 2 rfl (by simp) ?_
   rw [he']
   refine Steps.runN 2 rfl (by simp) (Rx rfl rfl rfl (fun _ => rfl) rfl rfl (fun fn first cap e => by cases e) (fun e => absurd e (by decide)) ?_)
   refine Steps.run rfl (by simp) (Steps.gcall (r := .bool false) rfl rfl rfl rfl (by simp) (fun e => by cases e) (Steps.fin rfl (by simp) ?_))
   refine Ct rfl rfl rfl (TraceK.run rfl (by simp) (.done ⟨by kernel_rfl, by kernel_rfl, ?_⟩))
   refine Re hA gk1 (kw w) (.bool false) rfl rfl (hone _) hin hkk hnew (fun w φ x hx => by cases hx; rfl) rfl ?_
   rw [hset]
   refine Steps.fin rfl trivial ?_
   exact A2 rfl (by simp) (Bg rfl rfl rfl ⟨_, rfl, rfl, rfl⟩)
 | some T =>
   have ks := ks T hsw
   have hT := (A5l hsw).1
   have kc := Vi (l := c.fields) (p := fun f => (O5 f T).isSome) (f := Fj) (us := [.vptr (A7 T) 0]) (Aae T) (fun _ => rfl) hs.f.1 (fun f hf => c_clear1 (Rr h f hf) hT)
   obtain ⟨g, hg⟩ : ∃ g, c.fields.any (fun f => (O5 f T).isSome) = g := ⟨_, rfl⟩
   have hB : Jw c w = !g := by unfold Jw; rw [hsw, ← hg]
   rw [hg] at kc
   rw [hB]
   refine TraceK.call rfl rfl ks (TraceK.run rfl (by simp) (.done ⟨by kernel_rfl, by kernel_rfl, ?_⟩))
   refine Eh 4 rfl (by simp) ?_
   refine Rx rfl rfl rfl (fun _ => rfl) rfl rfl (fun fn first cap e => by cases e) (fun _ => ⟨trivial, rfl⟩) ?_
   refine Steps.run rfl (by simp) (Steps.gcall (r := .bool g) rfl rfl rfl rfl (by simp) (fun _ => kc) (Steps.fin rfl (by simp) ?_))
   refine Ct rfl rfl rfl (TraceK.run rfl (by simp) (.done ⟨by kernel_rfl, by kernel_rfl, ?_⟩))
   refine Re hA gk1 (kw w) (.bool (!g)) rfl rfl (hone _) hin hkk hnew (fun w φ x hx => by cases hx; rfl) rfl ?_
   rw [hset]
   refine Steps.fin rfl trivial ?_
   exact A2 rfl (by simp) (Bg rfl rfl rfl ⟨_, rfl, rfl, rfl⟩)
theorem A28 {c : Cru} {w : Leg} {mb : Nat} {l : List (List Int × Value)} {b : Bool} (h1 : An w.1 = true) (h2 : An w.2 = true) (hin : gmOk 4 l) (hm : (kw w, .bool b) ∈ l) (hone : ∀ q ∈ l, q.1 = kw w → q.2 = .bool b) :
  CX Tryz.prog Ej [(mb, gmO l)] [] [chV c mb, eLeg w] (fun r B => B = [(mb, gmO l)] ∧ r = .bool b) := by
 refine J0 mixed Fi (by simp) fun S ok S1 hA hK hKD => ?_
 refine A2 rfl (by simp) ?_
 refine Tr.seq (Ct rfl rfl rfl (TraceK.runN 5 rfl (by simp) (A54 hA rfl rfl gk1 (kw w) (v := .bool b) rfl (List.mem_singleton.2 rfl) hin hm hone (fun w φ => .bool _) (TraceK.run rfl (by simp) (.done ⟨by kernel_rfl, by kernel_rfl, ?_⟩)))))
 refine Tr.seq (A2 rfl (by simp) (A4 rfl (Tr.skip ?_)))
 exact A2 rfl (by simp) (Bg rfl rfl rfl ⟨_, rfl, rfl, rfl⟩)
theorem c_ClearS {c : Cru} (hs : c.Sane) (h : Hb c = true) {a b : Int × Int} (h1 : An a = true) (h2 : An b = true) : C Tryz.prog Nh [eCru c, eB a, eB b] (.tuple [.bool (Jw c (a, b)), I 0]) := by
 have ka := A6q hs h a b
 rw [h1, h2] at ka
 refine C_of mixed Gf (by simp) fun S ok => ?_
 refine A0f rfl rfl ?_
 have hA := A0j (E := env0 Tryz.prog mixed 25 S ok) [] false
 refine A2 rfl (by simp) (Tr.seq (Tr.reg (Steps.runN 3 rfl (by simp) (Ak (F := []) hA rfl rfl rfl ka (.inl (by simp)) fun r B hB => ?_))))
 obtain ⟨mb, rfl, rfl⟩ := hB
 have kc := Zv hs h (w := (a, b)) h1 h2 (mb := mb) (l := []) (fun p hp => by cases hp) (fun p hp => by cases hp)
 refine Steps.fin rfl (by simp) ?_
 refine Tr.seq (A2 rfl (by simp) (A4 rfl (Tr.skip ?_)))
 refine Tr.seq (Tr.reg (Steps.runN 2 rfl (by simp) (Ak (F := []) hA rfl rfl rfl kc (.inl (by simp)) fun r B hB => ?_)))
 obtain ⟨rfl, rfl⟩ := hB
 refine Steps.fin rfl (by simp) ?_
 exact A5 rfl rfl rfl rfl trivial
theorem c_ClearN {c : Cru} (hs : c.Sane) {a b : Int × Int} (h : (Hb c && (An a && An b)) = false) : ∃ e : Int, e ≠ 0 ∧ C Tryz.prog Nh [eCru c, eB a, eB b] (.tuple [.bool false, I e]) := by
 cases hc : Hb c with
 | false =>
   have ka := c_askedN hs hc a b
   refine ⟨40, by decide, C_of mixed Gf (by simp) fun S ok => ?_⟩
   refine A2 rfl (by simp) (A3 rfl (by simp) (Steps.call rfl rfl ka (Steps.fin rfl (by simp) ?_)))
   refine Tr.seq (A2 rfl (by simp) (A6 rfl ?_))
   exact A2 rfl (by simp) (A5 rfl rfl rfl rfl trivial)
 | true =>
   rw [hc, Bool.true_and] at h
   have ka := A6q hs hc a b
   rw [h] at ka
   refine ⟨10, by decide, C_of mixed Gf (by simp) fun S ok => ?_⟩
   refine A0f rfl rfl ?_
   have hA := A0j (E := env0 Tryz.prog mixed 25 S ok) [] false
   refine A2 rfl (by simp) (Tr.seq (Tr.reg (Steps.runN 3 rfl (by simp) (Ak (F := []) hA rfl rfl rfl ka (.inl (by simp)) fun r B hB => ?_))))
   obtain ⟨mb, rfl, rfl⟩ := hB
   refine Steps.fin rfl (by simp) ?_
   refine Tr.seq (A2 rfl (by simp) (A6 rfl ?_))
   exact A2 rfl (by simp) (A5 rfl rfl rfl rfl trivial)
end
section
open Go.Am
def Fc (b : List (Int × Int)) (bits : List Int) (i : Nat) : Int := Qf (b.getD i (0, 0)) (Aah bits i)
def Nr (s : Strm) (b : List (Int × Int)) (bits : List Int) : Nat → Int
 | 0 => s.head
 | i + 1 => Fc b bits i
def magI (n : Int) : Int := max n (-n)
def curI (s : Strm) (b : List (Int × Int)) (bits : List Int) (i : Nat) : Int := magI (Fc b bits i - Nr s b bits i)
def Xo (s : Strm) (b : List (Int × Int)) (bits : List Int) (i : Nat) : Int := isq ((E7 s i).len * (E7 s i).len - curI s b bits i * curI s b bits i)
def Fa (s : Strm) (b : List (Int × Int)) (bits : List Int) : Nat → Int
 | 0 => 0
 | i + 1 => Fa s b bits i + Xo s b bits i
theorem isq_mono {m n : Int} (h0 : 0 ≤ m) (h : m ≤ n) (h1 : n ≤ 1099511627776) : isq m ≤ isq n := by
 have a := P2 h0 (by omega)
 have b := P2 (n := n) (by omega) h1
 have := sq_lt a.1 (show 0 ≤ isq n + 1 by omega) (by omega)
 omega
section
variable {s : Strm} {b : List (Int × Int)} {bits : List Int}
theorem Yo (h : TowOk s b) {i : Nat} (hi : i < b.length) : (b.getD i (0, 0)).1 ≤ Fc b bits i ∧ Fc b bits i ≤ (b.getD i (0, 0)).2 :=
 A77 (h.offs i hi).2.1
theorem Ab4 (h : TowOk s b) {i : Nat} (hi : i < b.length) : (Qm (s.head, s.head) b i).1 ≤ Nr s b bits i ∧ Nr s b bits i ≤ (Qm (s.head, s.head) b i).2 := by
 cases i with
 | zero => exact ⟨Int.le_refl _, Int.le_refl _⟩
 | succ i => exact Yo h (by omega)
theorem cur_bd (h : TowOk s b) {i : Nat} (hi : i < b.length) : 0 ≤ curI s b bits i ∧ curI s b bits i ≤ (Li s b i).2 := by
 have a := Yo (bits := bits) h hi
 have c := Ab4 (bits := bits) h hi
 rw [h.bend hi]
 unfold curI magI A2s
 simp only
 omega
theorem A5u (h : TowOk s b) {i : Nat} (hi : i < b.length) (hc : curI s b bits i ≤ (E7 s i).len) : Rn (E7 s i).len (Li s b i).2 ≤ Xo s b bits i ∧ Xo s b bits i ≤ (E7 s i).len := by
 have hs := h.secs i hi
 have hc2 := cur_bd (bits := bits) h hi
 unfold Xo Rn
 generalize curI s b bits i = c at hc hc2 ⊢
 generalize (E7 s i).len = n at hs hc ⊢
 generalize (Li s b i).2 = m at hc2 ⊢
 have q1 : c ≤ min m n ∧ min m n ≤ n := by omega
 have q2 : c * c ≤ min m n * min m n := Int.mul_le_mul q1.1 q1.1 hc2.1 (by omega)
 have q3 : min m n * min m n ≤ n * n := Int.mul_le_mul q1.2 q1.2 (by omega) (by omega)
 have q4 : n * n ≤ 1000 * 1000 := Int.mul_le_mul hs.2 hs.2 (by omega) (by omega)
 have q5 := Int.mul_nonneg hc2.1 hc2.1
 refine ⟨isq_mono (by omega) (by omega) (by omega), ?_⟩
 have hq := P2 (n := n * n - c * c) (by omega) (by omega)
 rcases Int.lt_or_le n (isq (n * n - c * c)) with h1 | h1
 ·have := Int.mul_le_mul (a := n + 1) (b := n + 1) (c := isq (n * n - c * c)) (d := isq (n * n - c * c)) (by omega) (by omega) (by omega) (by omega)
  have e : (n + 1) * (n + 1) = n * n + n + n + 1 := by rw [Int.add_mul, Int.mul_add]; omega
  omega
 ·exact h1
theorem A0d (h : TowOk s b) : ∀ i, i ≤ b.length → (∀ j < i, curI s b bits j ≤ (E7 s j).len) → Np s b i ≤ Fa s b bits i ∧ Fa s b bits i ≤ farI s i
 | 0, _, _ => ⟨Int.le_refl _, Int.le_refl _⟩
 | i + 1, hi, hc => by
   have ih := A0d h i (by omega) fun j hj => hc j (by omega)
   have hr := A5u (bits := bits) h (i := i) (by omega) (hc i (by omega))
   rw [Np, farI, Fa]
   omega
def U4 (s : Strm) (b : List (Int × Int)) (bits : List Int) (ship : Int × Int) (p q : Int) (i : Nat) : Int × Int :=
 (ship.1 - Fa s b bits (i + 1) * p - Fc b bits i * q, ship.2 - Fa s b bits (i + 1) * q + Fc b bits i * p)
theorem turn_has {f : Fr} {p q : Int} {z : Int × Int} (h : inR f z) : inR (To f p q) (p * z.1 - q * z.2, q * z.1 + p * z.2) := by
 have h1 := A6h (p := p) (q := -q) h
 have h2 := A6h (p := q) (q := p) h
 have h3 := A6h (p := p + q) (q := p - q) h
 have h4 := A6h (p := p - q) (q := -q - p) h
 rw [Int.neg_mul] at h1
 rw [Int.add_mul, Int.sub_mul] at h3
 rw [Int.sub_mul, Int.sub_mul, Int.neg_mul] at h4
 unfold inR To
 simp only
 omega
theorem A9k (h : TowOk s b) {p q : Int} (hx : Ax p q) {ship : Int × Int} (hw : whOk s b ship p q = true) {i : Nat} (hi : i < b.length) (hc : ∀ j < i + 1, curI s b bits j ≤ (E7 s j).len) :
  ∃ T ∈ whL s b ship p q, inR T (U4 s b bits ship p q i) := by
 have hb := A0d (bits := bits) h (i + 1) (by omega) hc
 have hs := Yo (bits := bits) h hi
 have h1 := (h.has hi (p := (-Fa s b bits (i + 1), Fc b bits i)) (by simp only; omega) hs).2
 have h2 := turn_has (p := p) (q := q) h1
 unfold whOk at hw
 have h3 := List.all_eq_true.1 hw i (List.mem_range.2 hi)
 cases hT : whAt s b ship p q i with
 | none => rw [hT] at h3; cases h3
 | some T =>
   refine ⟨T, ?_, ?_⟩
   ·have := A9l (s := s) (sh := ship) (p := p) (q := q) hi
    rw [hT] at this
    exact List.mem_of_getElem? this
   ·unfold whAt at hT
    split at hT
    ·have h4 := (Z4 hT).2.2.2 _ h2
     simp only at h4
     have e : U4 s b bits ship p q i = (p * -Fa s b bits (i + 1) - q * Fc b bits i + ship.1, q * -Fa s b bits (i + 1) + p * Fc b bits i + ship.2) := by
      unfold U4
      generalize Fa s b bits (i + 1) = B
      generalize Fc b bits i = S
      rw [Int.mul_neg, Int.mul_neg, Int.mul_comm p B, Int.mul_comm q S, Int.mul_comm q B, Int.mul_comm p S]
      congr 1 <;> omega
     rw [e]
     exact h4
    ·cases hT
theorem A3k (h : TowOk s b) {p q : Int} (hx : Ax p q) (hw : whOk s b (0, 0) p q = true) {R : Fr} (hR : Zr frZ (whL s b (0, 0) p q) = some R) {c : Cru} (hsp : c.spread = R) {a : Int × Int} {far st : Int} (hst : 0 ≤ st ∧ st ≤ far)
  (hcl : Jw c (a, (a.1 + far * p, a.2 + far * q)) = true) {i : Nat} (hi : i < b.length) (hc : ∀ j < i + 1, curI s b bits j ≤ (E7 s j).len) :
  An (U4 s b bits (a.1 + st * p, a.2 + st * q) p q i) = true ∧ ∀ f ∈ c.fields, inF f (U4 s b bits (a.1 + st * p, a.2 + st * q) p q i) = false := by
 have hb := hx.bd
 obtain ⟨T, hT, hin⟩ := A9k (bits := bits) h hx hw hi hc
 have h1 := (A1q hR).2 T hT _ hin
 unfold Jw at hcl
 rw [hsp] at hcl
 cases hs : sweO R a (a.1 + far * p, a.2 + far * q) with
 | none => rw [hs] at hcl; cases hcl
 | some U =>
   rw [hs] at hcl
   have hcl : (!(c.fields.any fun f => (O5 f U).isSome)) = true := hcl
   obtain ⟨hU, hsw⟩ := A5l hs
   obtain ⟨g1, g2⟩ := hsw _ h1
   obtain ⟨P, hP⟩ : ∃ P, U4 s b bits (0, 0) p q i = P := ⟨_, rfl⟩
   rw [hP] at g1 g2
   have e : U4 s b bits (a.1 + st * p, a.2 + st * q) p q i = (P.1 + a.1 + st * p, P.2 + a.2 + st * q) := by
    rw [← hP]
    unfold U4
    simp only
    congr 1 <;> omega
   have g3 : inR U (P.1 + a.1 + st * p, P.2 + a.2 + st * q) := by
    refine A4a (a := (P.1 + a.1, P.2 + a.2)) (far := far) g1 ?_ hb.1 hb.2.1 hst
    have e1 : P.1 + a.1 + far * p = P.1 + (a.1 + far * p) := by omega
    have e2 : P.2 + a.2 + far * q = P.2 + (a.2 + far * q) := by omega
    show inR U (P.1 + a.1 + far * p, P.2 + a.2 + far * q)
    rw [e1, e2]; exact g2
   rw [e]
   refine ⟨Lw (Ha hU) g3, fun f hf => ?_⟩
   cases hi : inF f (P.1 + a.1 + st * p, P.2 + a.2 + st * q) with
   | false => rfl
   | true =>
     exfalso
     have h5 := hits_has hi g3
     have : (c.fields.any fun f => (O5 f U).isSome) = true := List.any_eq_true.2 ⟨f, hf, h5⟩
     rw [this] at hcl; cases hcl
end
end
section
open Go.Am
attribute [local simp] cells Aa mkv Ag Ap under dem dem1 eB A7 B8 sB eF cruC D4 As eLeg legC eCru eStr strC Bp eHd
def eTail (s : Strm) (b : List (Int × Int)) : V := .agg [I s.head, Bp s.secs, I s.lane.1, I s.lane.2, I s.bend, sB b]
structure Rou where
 a : Int × Int
 w1 : Int × Int
 w2 : Int × Int
 n0 : Int
 n1 : Int
 n2 : Int
 bits : List Int
def eRou (y : Rou) : V := .agg [I y.a.1, I y.a.2, I y.w1.1, I y.w1.2, I y.w2.1, I y.w2.2, I y.n0, I y.n1, I y.n2, B8 y.bits]
attribute [local simp] eTail eRou
theorem A8s : C Tryz.prog Yh [.nils] (.tuple [.agg (A7 frZ), .bool true]) := by
 refine C_of mixed Rt (by simp) fun S ok => ?_
 refine A2 rfl (by simp) (A2 rfl (by simp) (Tr.seq (A2 rfl (by simp) (Tr.block ?_))))
 refine Az 1 (TrN.succ ?_)
 refine Tr.seq (A2 rfl (by simp) (A4 rfl (Tr.exit ?_)))
 exact A2 rfl (by simp) (A5 rfl rfl rfl rfl trivial)
theorem A8z (ks : C Tryz.prog Q3 [] (.bool true)) {c : Cru} (hsn : c.Sane) {s : Strm} {b : List (Int × Int)} {y : Rou} (hl1 : s.secs.length ≤ 9223372036854775807) (hl2 : b.length ≤ 9223372036854775807) (hl3 : y.bits.length ≤ 9223372036854775807) :
  C Tryz.prog X6 [eCru c, eTail s b, eRou y] (.bool true) := by
 obtain ⟨a, w1, w2, n0, n1, n2, bits⟩ := y
 simp only at hl3
 have r0 := J4 (n := n0) (m := 4) (by omega)
 have r1 := J4 (n := n1) (m := 300) (by omega)
 obtain ⟨k0, hk0⟩ : ∃ k : Nat, Jz n0 4 = (k : Int) := ⟨(Jz n0 4).toNat, by omega⟩
 have kr0 := A2o n0 4 (by omega)
 rw [hk0] at kr0 r0
 obtain ⟨p, q, hx, hax⟩ := axL_get (k := k0) (by omega)
 have hxb := hx.bd
 have kr1 := A2o n1 300 (by omega)
 generalize Jz n1 300 = far at kr1 r1
 obtain ⟨kw1, kw2⟩ := c_Where (s := s) (b := b) (sh := (0, 0)) hl1 hl2 hx
 refine C_of mixed So (by simp) fun S ok => ?_
 refine A2 rfl (by simp) (Tr.seq (A8 (TraceK.run rfl (by simp) (.done ⟨by kernel_rfl, by kernel_rfl, ?_⟩))))
 refine Tr.seq (A8 (TraceK.call rfl rfl c_axes (TraceK.run rfl (by simp) (TraceK.call rfl rfl kr0 (TraceK.runN 1 rfl (by simp [axL]; omega) ?_)))))
 rw [hax]
 refine TraceK.run rfl (by simp) (.done ⟨by kernel_rfl, by kernel_rfl, ?_⟩)
 refine A3 rfl (by simp) (Steps.call rfl rfl kr1 (Steps.fin rfl (by simp) ?_))
 cases hw : ((Qi s && Jt s b) && An (0, 0) && whOk s b (0, 0) p q) with
 | false =>
   obtain ⟨e, he, kw⟩ := kw2 hw
   have he' : (e != 0) = true := by simp [he]
   refine A3 rfl (by simp) (Steps.call rfl rfl kw (Steps.fin rfl (by simp) ?_))
   refine A3 rfl (by simp) (Steps.call rfl rfl A8s (Steps.fin rfl (by simp) ?_))
   refine Tr.seq (Eh 2 rfl (by simp) ?_)
   rw [he']
   refine Steps.fin rfl (by simp) (A6 rfl ?_)
   exact A3 rfl (by simp) (Steps.call rfl rfl ks (Steps.fin rfl (by simp) (A5 rfl rfl rfl rfl trivial)))
 | true =>
 have kw := kw1 hw
 simp only [Bool.and_eq_true] at hw
 obtain ⟨⟨hso, _⟩, hwo⟩ := hw
 have ht := A5i (s := s) (b := b) (by simp only [Bool.and_eq_true]; exact hso)
 have hm := ht.many
 have hlen := ht.len
 have kh := Acr (l := whL s b (0, 0) p q) (by rw [A3i]; omega)
 refine A3 rfl (by simp) (Steps.call rfl rfl kw (Steps.fin rfl (by simp) ?_))
 cases hR : Zr frZ (whL s b (0, 0) p q) with
 | none =>
   rw [hR] at kh
   refine A3 rfl (by simp) (Steps.call rfl rfl kh (Steps.fin rfl (by simp) ?_))
   refine Tr.seq (A2 rfl (by simp) (A6 rfl ?_))
   exact A3 rfl (by simp) (Steps.call rfl rfl ks (Steps.fin rfl (by simp) (A5 rfl rfl rfl rfl trivial)))
 | some R =>
 rw [hR] at kh
 refine A3 rfl (by simp) (Steps.call rfl rfl kh (Steps.fin rfl (by simp) ?_))
 refine Tr.seq (A2 rfl (by simp) (A4 rfl (Tr.skip ?_)))
 refine A2 rfl (by simp) ?_
 obtain ⟨c', hc'⟩ : ∃ c', ({ c with spread := R } : Cru) = c' := ⟨_, rfl⟩
 have hsn' : c'.Sane := by rw [← hc']; exact ⟨hsn.l, hsn.f, hsn.b, hsn.o⟩
 have hsp : c'.spread = R := by rw [← hc']
 refine Tr.weak (s' := ⟨[(3, .ptr 3 0), (4, .ptr 4 0), (7, .ptr 7 0), (8, .ptr 8 0), (9, B8 bits), (10, .ptr 10 0), (11, I far)], [(3, ⟨cruC c', false⟩), (4, ⟨[I s.head, Bp s.secs, I s.lane.1, I s.lane.2, I s.bend, sB b], false⟩), (7, ⟨[I a.1, I a.2], false⟩), (8, ⟨[I n0, I n1, I n2], false⟩), (10, ⟨[I p, I q, I 1], false⟩)], [], [], false⟩)
  (Ab (.k rfl (.k rfl (.k rfl (.k rfl (.k rfl (.k rfl (.k rfl .nil))))))) (.cons rfl (by rw [← hc']; exact LLe.refl _) (.k rfl (.k rfl (.k rfl (.k rfl .nil))))) .nil rfl rfl) ?_
 have m1 := Dl (x := far) (y := p) (B := 300) (C := 1) (by omega) (by omega) (by omega) hxb.1
 have m2 := Dl (x := far) (y := q) (B := 300) (C := 1) (by omega) (by omega) (by omega) hxb.2.1
 have kcN := c_ClearN hsn' (a := a) (b := (w (a.1 + w (far * p)), w (a.2 + w (far * q))))
 have kcS := fun (h : Hb c' = true) h1 h2 => c_ClearS hsn' h (a := a) (b := (w (a.1 + w (far * p)), w (a.2 + w (far * q)))) h1 h2
 cases hg : (Hb c' && (An a && An (w (a.1 + w (far * p)), w (a.2 + w (far * q))))) with
 | false =>
   obtain ⟨e, he, kc⟩ := kcN hg
   have he' : (e != 0) = true := by simp [he]
   refine A3 rfl (by simp) (Steps.call rfl rfl kc (Steps.fin rfl (by simp) ?_))
   refine Tr.seq (Eh 2 rfl (by simp) ?_)
   rw [he']
   refine Steps.fin rfl (by simp) (A6 rfl ?_)
   exact A3 rfl (by simp) (Steps.call rfl rfl ks (Steps.fin rfl (by simp) (A5 rfl rfl rfl rfl trivial)))
 | true =>
 simp only [Bool.and_eq_true] at hg
 obtain ⟨g1, g2, g3⟩ := hg
 have pa := Bd g2
 have kc := kcS g1 g2 g3
 have e1 : w (a.1 + w (far * p)) = a.1 + far * p := by
  unfold w; rw [w64 (n := far * p) (by omega) (by omega), w64 (by omega) (by omega)]
 have e2 : w (a.2 + w (far * q)) = a.2 + far * q := by
  unfold w; rw [w64 (n := far * q) (by omega) (by omega), w64 (by omega) (by omega)]
 cases hcl : Jw c' (a, (w (a.1 + w (far * p)), w (a.2 + w (far * q)))) with
 | false =>
   rw [hcl] at kc
   refine A3 rfl (by simp) (Steps.call rfl rfl kc (Steps.fin rfl (by simp) ?_))
   refine Tr.seq (A2 rfl (by simp) (A6 rfl ?_))
   exact A3 rfl (by simp) (Steps.call rfl rfl ks (Steps.fin rfl (by simp) (A5 rfl rfl rfl rfl trivial)))
 | true =>
 rw [hcl] at kc
 rw [e1, e2] at hcl
 refine A3 rfl (by simp) (Steps.call rfl rfl kc (Steps.fin rfl (by simp) ?_))
 refine Tr.seq (A2 rfl (by simp) (A4 rfl (Tr.skip ?_)))
 clear kc kcS kcN kw1 kw2 kw kh kr0 kr1
 have r2 := J4 (n := n2) (m := far + 1) (by omega)
 have kr2 := A2o n2 (far + 1) (by omega)
 refine A3 rfl (by simp) ?_
 rw [w64 (n := far + 1) (by omega) (by omega)]
 refine Steps.call rfl rfl kr2 (Steps.fin rfl (by simp) ?_)
 generalize Jz n2 (far + 1) = st at r2
 have m3 := Dl (x := st) (y := p) (B := 300) (C := 1) (by omega) (by omega) (by omega) hxb.1
 have m4 := Dl (x := st) (y := q) (B := 300) (C := 1) (by omega) (by omega) (by omega) hxb.2.1
 refine A2 rfl (by simp) ?_
 obtain ⟨sh, hsh⟩ : ∃ sh : Int × Int, (a.1 + st * p, a.2 + st * q) = sh := ⟨_, rfl⟩
 have hs1 : a.1 + st * p = sh.1 := by rw [← hsh]
 have hs2 : a.2 + st * q = sh.2 := by rw [← hsh]
 refine Tr.weak (s' := ⟨[(3, .ptr 3 0), (4, .ptr 4 0), (9, B8 bits), (10, .ptr 10 0), (18, .ptr 18 0)], [(3, ⟨cruC c', false⟩), (4, ⟨[I s.head, Bp s.secs, I s.lane.1, I s.lane.2, I s.bend, sB b], false⟩), (10, ⟨[I p, I q, I 1], false⟩), (18, ⟨[I sh.1, I sh.2], false⟩)], [], [], false⟩)
  (Ab (.k rfl (.k rfl (.k rfl (.k rfl (.k rfl .nil))))) (.k rfl (.k rfl (.k rfl (.cons rfl ?_ .nil)))) .nil rfl rfl) ?_
 ·show LLe [I (w (a.1 + w (st * p))), I (w (a.2 + w (st * q)))] _
  unfold w
  rw [w64 (n := st * p) (by omega) (by omega), w64 (n := st * q) (by omega) (by omega), w64 (n := a.1 + st * p) (by omega) (by omega), w64 (n := a.2 + st * q) (by omega) (by omega), hs1, hs2]
  exact LLe.refl _
 refine Tr.seq (A8 (TraceK.run rfl (by simp) (.done ⟨by kernel_rfl, by kernel_rfl, ?_⟩)))
 refine Tr.seq (A2 rfl (by simp) (Tr.block ?_))
 have fb : (b.map eB).length = b.length := List.length_map _
 have fs : (s.secs.map eSec).length = s.secs.length := List.length_map _
 have ff : (c'.fields.map sB).length = c'.fields.length := List.length_map _
 have law : ∀ i < b.length, (∀ j < i + 1, curI s b bits j ≤ (E7 s j).len) → An (U4 s b bits sh p q i) = true ∧ ∀ f ∈ c'.fields, inF f (U4 s b bits sh p q i) = false := by
  intro i hi hc
  rw [← hsh]
  exact A3k ht hx hwo hR hsp (far := far) (st := st) (by omega) hcl hi hc
 have hfl := Rr g1
 have hfn := hsn'.f.1
 have hshb : (-33100 ≤ sh.1 ∧ sh.1 ≤ 33100) ∧ -33100 ≤ sh.2 ∧ sh.2 ≤ 33100 := by omega
 clear hcl g2 g3 e1 e2 m1 m2 m3 m4 hs1 hs2 hsh pa kr2 r2 hso
 refine Tr.loop (fun (i : Nat) s' => (i ≤ b.length ∧ ∀ j < i, curI s b bits j ≤ (E7 s j).len) ∧ s' = ⟨[(3, .ptr 3 0), (4, .ptr 4 0), (9, B8 bits), (10, .ptr 10 0), (18, .ptr 18 0), (19, I (Fa s b bits i)), (20, I (Nr s b bits i)), (21, I i)], [(3, ⟨cruC c', false⟩), (4, ⟨[I s.head, Bp s.secs, I s.lane.1, I s.lane.2, I s.bend, sB b], false⟩), (10, ⟨[I p, I q, I 1], false⟩), (18, ⟨[I sh.1, I sh.2], false⟩)], [], [], false⟩) (fun i => b.length - i) 0
  (Ab (.k rfl (.k rfl (.k rfl (.k rfl (.k rfl (.k rfl (.k rfl (.k rfl .nil)))))))) (.k rfl (.k rfl (.k rfl (.k rfl .nil)))) .nil rfl rfl) ⟨⟨by omega, fun j hj => by omega⟩, rfl⟩ ?_
 rintro i s' ⟨⟨hi, hc⟩, rfl⟩
 by_cases hib : i < b.length
 rotate_left
 ·refine Tr.seq (Eh 5 rfl (by simp) ?_)
  rw [fb, decide_eq_false (show ¬ (i : Int) < (b.length : Int) by omega)]
  refine Steps.fin rfl (by simp) (A4 rfl (Tr.exit ?_))
  exact A3 rfl (by simp) (Steps.call rfl rfl ks (Steps.fin rfl (by simp) (A5 rfl rfl rfl rfl trivial)))
 have his : i < s.secs.length := by omega
 refine Tr.seq (Eh 5 rfl (by simp) ?_)
 rw [fb, decide_eq_true (show (i : Int) < (b.length : Int) by omega)]
 refine Steps.runN 7 rfl (by simp) ?_
 rw [fs, decide_eq_true (show (i : Int) < (s.secs.length : Int) by omega)]
 refine Steps.fin rfl (by simp) (A6 rfl (Tr.skip ?_))
 have hofs := ht.offs i hib
 have hsec := ht.secs i hib
 have kp := c_Pick (l := bits) (i : Int) hl3
 have kwi := A4t (b := b.getD i (0, 0)) (n := Aah bits i) (by omega)
 have hsd := Yo (bits := bits) ht hib
 have hlb := Ab4 (bits := bits) ht hib
 have hpo := ht.prev hib
 unfold offB at hpo
 have hcd := cur_bd (bits := bits) ht hib
 have km := A50 (n := Fc b bits i - Nr s b bits i) (by omega)
 have ebi : b[i] = b.getD i (0, 0) := (Jj hib _).symm
 have esi : s.secs[i] = E7 s i := (Jj his _).symm
 refine Tr.seq (Tr.block (Tr.seq (A8 (TraceK.runN 4 rfl (by simp; omega) ?_))))
 rw [Ao hib, ebi]
 refine TraceK.run rfl (by simp) (TraceK.call rfl rfl kp (TraceK.call rfl rfl kwi (TraceK.run rfl (by simp) (.done ⟨by kernel_rfl, by kernel_rfl, ?_⟩))))
 refine Tr.seq (A8 (TraceK.runN 5 rfl (by simp; omega) ?_))
 rw [Ao his, esi]
 refine TraceK.runN 5 rfl (by simp [eSec, secC]) ?_
 rw [show IntKind.i64.wrap (Qf (b.getD i (0, 0)) (Aah bits i) - Nr s b bits i) = Fc b bits i - Nr s b bits i from w64 (n := Fc b bits i - Nr s b bits i) (by omega) (by omega)]
 refine TraceK.call rfl rfl km (TraceK.run rfl (by simp) (.done ⟨by kernel_rfl, by kernel_rfl, ?_⟩))
 refine Tr.seq (A2 rfl (by simp) (Tr.cond rfl rfl (fun h2 => ?_) (fun h2 => Tr.skip ?_)))
 ·exact A3 rfl (by simp) (Steps.call rfl rfl ks (Steps.fin rfl (by simp) (A5 rfl rfl rfl rfl trivial)))
 have hci : curI s b bits i ≤ (E7 s i).len := by
  have h2 : decide (max (Fc b bits i - Nr s b bits i) (-(Fc b bits i - Nr s b bits i)) > (E7 s i).len) = false := h2
  have := of_decide_eq_false h2
  unfold curI magI; omega
 have hcs : ∀ j < i + 1, curI s b bits j ≤ (E7 s j).len := fun j hj => by
  by_cases e : j = i
  ·subst e; exact hci
  ·exact hc j (by omega)
 obtain ⟨lw1, lw2⟩ := law i hib hcs
 have hbk := A0d (bits := bits) ht i (by omega) hc
 have hbk1 := A0d (bits := bits) ht (i + 1) (by omega) hcs
 have hfar := ht.far i (by omega)
 have hfar1 := ht.far (i + 1) (by omega)
 have hrb := A5u ht hib hci
 have hre0 : Fa s b bits (i + 1) = Fa s b bits i + Xo s b bits i := rfl
 have hme : max (Fc b bits i - Nr s b bits i) (-(Fc b bits i - Nr s b bits i)) = curI s b bits i := rfl
 have q4 : (E7 s i).len * (E7 s i).len ≤ 1000 * 1000 := Int.mul_le_mul hsec.2 hsec.2 (by omega) (by omega)
 have q5 := Int.mul_nonneg hcd.1 hcd.1
 have q6 : curI s b bits i * curI s b bits i ≤ (E7 s i).len * (E7 s i).len := Int.mul_le_mul hci hci hcd.1 (by omega)
 have kro := A6y ((E7 s i).len * (E7 s i).len - curI s b bits i * curI s b bits i)
 unfold A3r at kro
 rw [(Ca _ _ _).2 (by omega), if_pos rfl] at kro
 refine A3 rfl (by simp) ?_
 rw [hme, w64 (n := (E7 s i).len * (E7 s i).len) (by omega) (by omega), w64 (n := curI s b bits i * curI s b bits i) (by omega) (by omega), w64 (n := (E7 s i).len * (E7 s i).len - curI s b bits i * curI s b bits i) (by omega) (by omega)]
 refine Steps.call rfl rfl kro (Steps.fin rfl (by simp) ?_)
 refine Tr.seq (A2 rfl (by simp) (A4 rfl (Tr.skip ?_)))
 refine A2 rfl (by simp) ?_
 obtain ⟨P, hP⟩ : ∃ P, U4 s b bits sh p q i = P := ⟨_, rfl⟩
 rw [hP] at lw1 lw2
 have hP1 : sh.1 - Fa s b bits (i + 1) * p - Fc b bits i * q = P.1 := by rw [← hP]; rfl
 have hP2 : sh.2 - Fa s b bits (i + 1) * q + Fc b bits i * p = P.2 := by rw [← hP]; rfl
 refine Tr.weak (s' := ⟨[(3, .ptr 3 0), (4, .ptr 4 0), (9, B8 bits), (10, .ptr 10 0), (18, .ptr 18 0), (19, I (Fa s b bits (i + 1))), (20, I (Nr s b bits (i + 1))), (21, I i), (22, I (Fc b bits i))], [(3, ⟨cruC c', false⟩), (4, ⟨[I s.head, Bp s.secs, I s.lane.1, I s.lane.2, I s.bend, sB b], false⟩), (10, ⟨[I p, I q, I 1], false⟩), (18, ⟨[I sh.1, I sh.2], false⟩)], [], [], false⟩)
  (Ab (.k rfl (.k rfl (.k rfl (.k rfl (.k rfl (.cons rfl (VLe.i ?_) (.k rfl (.k rfl (.k rfl .nil))))))))) (.k rfl (.k rfl (.k rfl (.k rfl .nil)))) .nil rfl rfl) ?_
 ·rw [hre0]; exact w64 (n := Fa s b bits i + Xo s b bits i) (by omega) (by omega)
 have m1 := Dl (x := Fa s b bits (i + 1)) (y := p) (B := 10000) (C := 1) (by omega) (by omega) (by omega) hxb.1
 have m2 := Dl (x := Fa s b bits (i + 1)) (y := q) (B := 10000) (C := 1) (by omega) (by omega) (by omega) hxb.2.1
 have m3 := Dl (x := Fc b bits i) (y := p) (B := 20000) (C := 1) (by omega) (by omega) (by omega) hxb.1
 have m4 := Dl (x := Fc b bits i) (y := q) (B := 20000) (C := 1) (by omega) (by omega) (by omega) hxb.2.1
 refine A2 rfl (by simp) ?_
 refine Tr.weak (s' := ⟨[(3, .ptr 3 0), (4, .ptr 4 0), (9, B8 bits), (10, .ptr 10 0), (18, .ptr 18 0), (19, I (Fa s b bits (i + 1))), (20, I (Nr s b bits (i + 1))), (21, I i), (27, .ptr 27 0)], [(3, ⟨cruC c', false⟩), (4, ⟨[I s.head, Bp s.secs, I s.lane.1, I s.lane.2, I s.bend, sB b], false⟩), (10, ⟨[I p, I q, I 1], false⟩), (18, ⟨[I sh.1, I sh.2], false⟩), (27, ⟨[I P.1, I P.2], false⟩)], [], [], false⟩)
  (Ab (.k rfl (.k rfl (.k rfl (.k rfl (.k rfl (.k rfl (.k rfl (.k rfl (.k rfl .nil))))))))) (.k rfl (.k rfl (.k rfl (.k rfl (.cons rfl ?_ .nil))))) .nil rfl rfl) ?_
 ·show LLe [I (w (w (sh.1 - w (Fa s b bits (i + 1) * p)) - w (Fc b bits i * q))), I (w (w (sh.2 - w (Fa s b bits (i + 1) * q)) + w (Fc b bits i * p)))] _
  unfold w
  rw [w64 (n := Fa s b bits (i + 1) * p) (by omega) (by omega), w64 (n := Fc b bits i * q) (by omega) (by omega), w64 (n := Fa s b bits (i + 1) * q) (by omega) (by omega), w64 (n := Fc b bits i * p) (by omega) (by omega), w64 (n := sh.1 - Fa s b bits (i + 1) * p) (by omega) (by omega), w64 (n := sh.2 - Fa s b bits (i + 1) * q) (by omega) (by omega), w64 (n := sh.1 - Fa s b bits (i + 1) * p - Fc b bits i * q) (by omega) (by omega), w64 (n := sh.2 - Fa s b bits (i + 1) * q + Fc b bits i * p) (by omega) (by omega), hP1, hP2]
  exact LLe.refl _
 refine A2 rfl (by simp) (Tr.block ?_)
 refine Tr.loop (fun (k : Nat) s' => k ≤ c'.fields.length ∧ s' = ⟨[(3, .ptr 3 0), (4, .ptr 4 0), (9, B8 bits), (10, .ptr 10 0), (18, .ptr 18 0), (19, I (Fa s b bits (i + 1))), (20, I (Nr s b bits (i + 1))), (21, I i), (27, .ptr 27 0), (28, I k)], [(3, ⟨cruC c', false⟩), (4, ⟨[I s.head, Bp s.secs, I s.lane.1, I s.lane.2, I s.bend, sB b], false⟩), (10, ⟨[I p, I q, I 1], false⟩), (18, ⟨[I sh.1, I sh.2], false⟩), (27, ⟨[I P.1, I P.2], false⟩)], [], [], false⟩) (fun k => c'.fields.length - k) 0
  (Ab (.k rfl (.k rfl (.k rfl (.k rfl (.k rfl (.k rfl (.k rfl (.k rfl (.k rfl (.k rfl .nil)))))))))) (.k rfl (.k rfl (.k rfl (.k rfl (.k rfl .nil))))) .nil rfl rfl) ⟨by omega, rfl⟩ ?_
 rintro k s' ⟨hk, rfl⟩
 by_cases hkb : k < c'.fields.length
 rotate_left
 ·refine Tr.seq (Eh 5 rfl (by simp) ?_)
  rw [ff, decide_eq_false (show ¬ (k : Int) < (c'.fields.length : Int) by omega)]
  refine Steps.fin rfl (by simp) (A4 rfl (Tr.exit ?_))
  refine A9 rfl (by simp) ?_
  exact ⟨i + 1, _, Ab (.k rfl (.k rfl (.k rfl (.k rfl (.k rfl (.k rfl (.k rfl (.cons rfl (VLe.i (w64 (by omega) (by omega))) .nil)))))))) (.k rfl (.k rfl (.k rfl (.k rfl .nil)))) .nil rfl rfl, ⟨⟨hib, hcs⟩, rfl⟩, by omega⟩
 have kin := c_Inside (hfl _ (List.getElem_mem hkb)) lw1
 rw [lw2 _ (List.getElem_mem hkb)] at kin
 refine Tr.seq (Eh 5 rfl (by simp) ?_)
 rw [ff, decide_eq_true (show (k : Int) < (c'.fields.length : Int) by omega)]
 refine Steps.fin rfl (by simp) (A6 rfl (Tr.skip ?_))
 refine Tr.seq (Tr.block (Tr.seq (A8 (TraceK.runN 4 rfl (by simp; omega) ?_))))
 rw [Ao hkb]
 refine TraceK.run rfl (by simp) (TraceK.call rfl rfl kin (TraceK.run rfl (by simp) (.done ⟨by kernel_rfl, by kernel_rfl, ?_⟩)))
 refine A2 rfl (by simp) (A4 rfl (Tr.skip ?_))
 refine A9 rfl (by simp) ?_
 exact ⟨k + 1, _, Ab (.k rfl (.k rfl (.k rfl (.k rfl (.k rfl (.k rfl (.k rfl (.k rfl (.k rfl (.cons rfl (VLe.i (w64 (by omega) (by omega))) .nil)))))))))) (.k rfl (.k rfl (.k rfl (.k rfl (.k rfl .nil))))) .nil rfl rfl, ⟨hkb, rfl⟩, by omega⟩
end
section
open Go.Am Go.ChangeShapes Go.WideShapes Go.ChangeAt Go.RowKit
section
variable {H : Type} {enc : TypeId × Value → H} {W : World}
theorem Fe : Reads enc W 3 (fun vs => ∃ n : Int, vs = [I n] ∧ -9223372036854775808 ≤ n ∧ n ≤ 9223372036854775807) := Aa6 Tryz.underlying3
theorem J6 : Reads enc W 30 (fun vs => ∃ b : Int × Int, vs = [I b.1, I b.2]) := by
 refine (Cf Tryz.underlying30 (by kernel_rfl) (Ae Fe (Ae Fe Cq))).mono ?_
 rintro vs ⟨a, b, ⟨x, rfl, _⟩, ⟨c, d, ⟨y, rfl, _⟩, rfl, rfl⟩, rfl⟩
 exact ⟨(x, y), rfl⟩
theorem Lv : Reads enc W 26 (fun vs => ∃ b : Int × Int, vs = [I b.1, I b.2]) := by
 refine (Cf Tryz.underlying26 (by kernel_rfl) (Ae Fe (Ae Fe Cq))).mono ?_
 rintro vs ⟨a, b, ⟨x, rfl, _⟩, ⟨c, d, ⟨y, rfl, _⟩, rfl, rfl⟩, rfl⟩
 exact ⟨(x, y), rfl⟩
theorem A15 : Reads enc W 39 (fun vs => ∃ l : List (Int × Int), l.length ≤ 9223372036854775807 ∧ vs = [sB l]) := by
 refine (Er (sz := 2) true Tryz.underlying39 (by kernel_rfl) (by decide) (by decide) Lv).mono ?_
 rintro vs ⟨xs, h1, h2, rfl⟩
 obtain ⟨l, rfl, _⟩ := Eu (R := fun _ => True) (g := fun b : Int × Int => [I b.1, I b.2]) fun x hx => by obtain ⟨b, rfl⟩ := h1 x hx; exact ⟨b, trivial, rfl⟩
 refine ⟨l, by simpa using h2, ?_⟩
 simp [sB, Qe, Function.comp_def, eB]
theorem A14 : Reads enc W 24 (fun vs => ∃ l : List (Int × Int), l.length ≤ 9223372036854775807 ∧ vs = [sB l]) := by
 refine (Er (sz := 2) true Tryz.underlying24 (by kernel_rfl) (by decide) (by decide) J6).mono ?_
 rintro vs ⟨xs, h1, h2, rfl⟩
 obtain ⟨l, rfl, _⟩ := Eu (R := fun _ => True) (g := fun b : Int × Int => [I b.1, I b.2]) fun x hx => by obtain ⟨b, rfl⟩ := h1 x hx; exact ⟨b, trivial, rfl⟩
 refine ⟨l, by simpa using h2, ?_⟩
 simp [sB, Qe, Function.comp_def, eB]
theorem A7i : Reads enc W 33 (fun vs => ∃ l : List (List (Int × Int)), (l.length ≤ 9223372036854775807 ∧ ∀ f ∈ l, f.length ≤ 9223372036854775807) ∧ vs = [As l]) := by
 refine (Er (sz := 1) false Tryz.underlying33 (by kernel_rfl) (by decide) (fun _ => rfl) A15).mono ?_
 rintro vs ⟨xs, h1, h2, rfl⟩
 obtain ⟨l, rfl, hl⟩ := Eu (R := fun c : List (Int × Int) => c.length ≤ 9223372036854775807) (g := fun c : List (Int × Int) => [sB c]) fun x hx => by obtain ⟨b, hb, rfl⟩ := h1 x hx; exact ⟨b, hb, rfl⟩
 refine ⟨l, ⟨by simpa using h2, hl⟩, ?_⟩
 simp [As, Qe, Function.comp_def]
theorem Aa8 : Reads enc W 23 (fun vs => ∃ l : List (List (Int × Int)), (l.length ≤ 9223372036854775807 ∧ ∀ f ∈ l, f.length ≤ 9223372036854775807) ∧ vs = [As l]) := by
 refine (Er (sz := 1) false Tryz.underlying23 (by kernel_rfl) (by decide) (fun _ => rfl) A14).mono ?_
 rintro vs ⟨xs, h1, h2, rfl⟩
 obtain ⟨l, rfl, hl⟩ := Eu (R := fun c : List (Int × Int) => c.length ≤ 9223372036854775807) (g := fun c : List (Int × Int) => [sB c]) fun x hx => by obtain ⟨b, hb, rfl⟩ := h1 x hx; exact ⟨b, hb, rfl⟩
 refine ⟨l, ⟨by simpa using h2, hl⟩, ?_⟩
 simp [As, Qe, Function.comp_def]
theorem rd_ints : Reads enc W 44 (fun vs => ∃ l : List Int, l.length ≤ 9223372036854775807 ∧ vs = [B8 l]) := by
 refine (Er (sz := 1) false Tryz.underlying44 (by kernel_rfl) (by decide) (fun _ => rfl) Fe).mono ?_
 rintro vs ⟨xs, h1, h2, rfl⟩
 obtain ⟨l, rfl, _⟩ := Eu (R := fun _ => True) (g := fun n : Int => [I n]) fun x hx => by obtain ⟨b, rfl, _⟩ := h1 x hx; exact ⟨b, trivial, rfl⟩
 refine ⟨l, by simpa using h2, ?_⟩
 simp [B8, Qe, Function.comp_def]
theorem Aa7 : Reads enc W 28 (fun vs => ∃ f : Fr, vs = A7 f) := by
 refine (Cf Tryz.underlying28 (by kernel_rfl) (Ae Lv (Ae Lv (Ae Lv (Ae Lv Cq))))).mono ?_
 rintro vs ⟨a, b, ⟨x, rfl⟩, ⟨c, d, ⟨y, rfl⟩, ⟨e, f, ⟨z, rfl⟩, ⟨p, q, ⟨l, rfl⟩, rfl, rfl⟩, rfl⟩, rfl⟩, rfl⟩
 exact ⟨⟨x, y, z, l⟩, rfl⟩
theorem rd_leg : Reads enc W 82 (fun vs => ∃ x : Leg, vs = legC x) := by
 refine (Cf Tryz.underlying82 (by kernel_rfl) (Ae J6 (Ae J6 Cq))).mono ?_
 rintro vs ⟨a, b, ⟨x, rfl⟩, ⟨c, d, ⟨y, rfl⟩, rfl, rfl⟩, rfl⟩
 exact ⟨(x, y), rfl⟩
theorem rd_legs : Reads enc W 22 (fun vs => ∃ l : List Leg, l.length ≤ 9223372036854775807 ∧ vs = [D4 l]) := by
 refine (Er (sz := 4) true Tryz.underlying22 (by kernel_rfl) (by decide) (by decide) rd_leg).mono ?_
 rintro vs ⟨xs, h1, h2, rfl⟩
 obtain ⟨l, rfl, _⟩ := Eu (R := fun _ => True) (g := fun x : Leg => legC x) fun x hx => by obtain ⟨b, rfl⟩ := h1 x hx; exact ⟨b, trivial, rfl⟩
 refine ⟨l, by simpa using h2, ?_⟩
 simp [D4, Qe, Function.comp_def, eLeg]
theorem rd_pose : Reads enc W 32 (fun vs => ∃ (b : Int × Int) (n : Int), vs = [I b.1, I b.2, I n]) := by
 refine (Cf Tryz.underlying32 (by kernel_rfl) (Ae J6 (Ae Fe Cq))).mono ?_
 rintro vs ⟨a, b, ⟨x, rfl⟩, ⟨c, d, ⟨y, rfl, _⟩, rfl, rfl⟩, rfl⟩
 exact ⟨x, y, rfl⟩
theorem Aa9 : Reads enc W 35 (fun vs => ∃ c : Cru, c.Sane ∧ vs = cruC c) := by
 refine (Cf Tryz.underlying35 (by kernel_rfl) (Ae rd_legs (Ae Aa8 (Ae A14 (Ae Aa7 (Ae rd_pose (Ae Fe (Ae Fe (Ae A7i Cq))))))))).mono ?_
 rintro vs ⟨a1, b1, ⟨x1, h1, rfl⟩, ⟨a2, b2, ⟨x2, h2, rfl⟩, ⟨a3, b3, ⟨x3, h3, rfl⟩, ⟨a4, b4, ⟨x4, rfl⟩, ⟨a5, b5, ⟨x5, y5, rfl⟩, ⟨a6, b6, ⟨x6, rfl, _⟩, ⟨a7, b7, ⟨x7, rfl, _⟩, ⟨a8, b8, ⟨x8, h8, rfl⟩, rfl, rfl⟩, rfl⟩, rfl⟩, rfl⟩, rfl⟩, rfl⟩, rfl⟩, rfl⟩
 exact ⟨⟨x1, x2, x3, x4, x5, y5, x6, x7, x8⟩, ⟨h1, h2, h3, h8⟩, rfl⟩
theorem A7j : Reads enc W 64 (fun vs => ∃ x : Sec, vs = secC x) := by
 refine (Cf Tryz.underlying64 (by kernel_rfl) (Ae Fe (Ae Fe (Ae Fe (Ae Fe (Ae Fe Cq)))))).mono ?_
 rintro vs ⟨a1, b1, ⟨x1, rfl, _⟩, ⟨a2, b2, ⟨x2, rfl, _⟩, ⟨a3, b3, ⟨x3, rfl, _⟩, ⟨a4, b4, ⟨x4, rfl, _⟩, ⟨a5, b5, ⟨x5, rfl, _⟩, rfl, rfl⟩, rfl⟩, rfl⟩, rfl⟩, rfl⟩
 exact ⟨⟨x1, x2, x3, x4, x5⟩, rfl⟩
theorem A3v : Reads enc W 36 (fun vs => ∃ l : List Sec, l.length ≤ 9223372036854775807 ∧ vs = [Bp l]) := by
 refine (Er (sz := 5) true Tryz.underlying36 (by kernel_rfl) (by decide) (by decide) A7j).mono ?_
 rintro vs ⟨xs, h1, h2, rfl⟩
 obtain ⟨l, rfl, _⟩ := Eu (R := fun _ => True) (g := fun x : Sec => secC x) fun x hx => by obtain ⟨b, rfl⟩ := h1 x hx; exact ⟨b, trivial, rfl⟩
 refine ⟨l, by simpa using h2, ?_⟩
 simp [Bp, Qe, Function.comp_def, eSec]
theorem A3u : Reads enc W 38 (fun vs => ∃ s : Strm, s.secs.length ≤ 9223372036854775807 ∧ vs = strC s) := by
 refine (Cf Tryz.underlying38 (by kernel_rfl) (Ae Fe (Ae A3v (Ae Lv (Ae Fe Cq))))).mono ?_
 rintro vs ⟨a1, b1, ⟨x1, rfl, _⟩, ⟨a2, b2, ⟨x2, h2, rfl⟩, ⟨a3, b3, ⟨x3, rfl⟩, ⟨a4, b4, ⟨x4, rfl, _⟩, rfl, rfl⟩, rfl⟩, rfl⟩, rfl⟩
 exact ⟨⟨x1, x2, x3, x4⟩, h2, rfl⟩
theorem rd_tail : Reads enc W 41 (fun vs => ∃ (s : Strm) (b : List (Int × Int)), s.secs.length ≤ 9223372036854775807 ∧ b.length ≤ 9223372036854775807 ∧ vs = [I s.head, Bp s.secs, I s.lane.1, I s.lane.2, I s.bend, sB b]) := by
 refine (Cf Tryz.underlying41 (by kernel_rfl) (Ae A3u (Ae A15 Cq))).mono ?_
 rintro vs ⟨a1, b1, ⟨x1, h1, rfl⟩, ⟨a2, b2, ⟨x2, h2, rfl⟩, rfl, rfl⟩, rfl⟩
 exact ⟨x1, x2, h1, h2, rfl⟩
theorem rd_way : Reads enc W 42 (fun vs => ∃ a b : Int × Int, vs = [I a.1, I a.2, I b.1, I b.2]) := by
 refine (Tt Tryz.underlying42 (by kernel_rfl) (Ae J6 (Ae J6 Cq))).mono ?_
 rintro vs ⟨a, b, ⟨x, rfl⟩, ⟨c, d, ⟨y, rfl⟩, rfl, rfl⟩, rfl⟩
 exact ⟨x, y, rfl⟩
theorem rd_int3 : Reads enc W 43 (fun vs => ∃ a b c : Int, vs = [I a, I b, I c]) := by
 refine (Tt Tryz.underlying43 (by kernel_rfl) (Ae Fe (Ae Fe (Ae Fe Cq)))).mono ?_
 rintro vs ⟨a, b, ⟨x, rfl, _⟩, ⟨c, d, ⟨y, rfl, _⟩, ⟨e, f, ⟨z, rfl, _⟩, rfl, rfl⟩, rfl⟩, rfl⟩
 exact ⟨x, y, z, rfl⟩
theorem rd_route : Reads enc W 46 (fun vs => ∃ y : Rou, y.bits.length ≤ 9223372036854775807 ∧ vs = [I y.a.1, I y.a.2, I y.w1.1, I y.w1.2, I y.w2.1, I y.w2.2, I y.n0, I y.n1, I y.n2, B8 y.bits]) := by
 refine (Cf Tryz.underlying46 (by kernel_rfl) (Ae J6 (Ae rd_way (Ae rd_int3 (Ae rd_ints Cq))))).mono ?_
 rintro vs ⟨a1, b1, ⟨x1, rfl⟩, ⟨a2, b2, ⟨x2, y2, rfl⟩, ⟨a3, b3, ⟨x3, y3, z3, rfl⟩, ⟨a4, b4, ⟨x4, h4, rfl⟩, rfl, rfl⟩, rfl⟩, rfl⟩, rfl⟩
 exact ⟨⟨x1, x2, y2, x3, y3, z3, x4⟩, h4, rfl⟩
end
theorem Aa4 {w : World} {φ : Nat → Nat} {b : Bool} {x : Value} (h : RepR w φ (.bool b) x) : x = .bool b := by
 cases h with
 | data r => cases r; rfl
theorem repL3 {w : World} {φ : Nat → Nat} {a b c : V} {x y z : Value} (h : RepD w φ a x) (k : RepD w φ b y) (m : RepD w φ c z) : RepL w φ [a, b, c] #[x, y, z] := ⟨rfl, fun i v y h1 h2 => by
 match i with
 | 0 => cases h1; cases h2; exact h
 | 1 => cases h1; cases h2; exact k
 | 2 => cases h1; cases h2; exact m
 | i + 3 => simp at h1⟩
theorem walk_of {f : FuncId} {args : List V} {xs : Array Value} {W : World} (hc : C Tryz.prog f args (.bool true)) (hr : RepL W (phi W) args xs) : Calls Tryz.prog f xs W fun e W' => e = .returned (.bool true) ∧ Below W.heap.size W W' :=
 (hc.2 W (phi W) xs phi_top (fun p hp => by simp [A6c] at hp) hr).mono fun e w' ⟨φ', x, he, hx, hb, _⟩ => ⟨by rw [he, Aa4 hx], hb⟩
theorem own : ownKnob Tryz.prog.godebug = none := by kernel_rfl
theorem Z7 : laidOutB Tryz.prog = true := by kernel_rfl
end
section
open Go.Am Go.ChangeShapes Go.WideShapes Go.ChangeAt Go.RowKit
noncomputable def headL : List Char := ([104, 97, 114, 110, 101, 115, 115, 32, 54, 54, 54, 98, 97, 50, 56, 102, 57, 98, 99, 98, 50, 49, 97, 99, 102, 100, 100, 57, 50, 102, 102, 52, 101, 100, 52, 52, 48, 48, 56, 100, 50, 51, 50, 50, 52, 98, 57, 56, 55, 102, 56, 100, 56, 53, 101, 54, 52, 97, 97, 101, 57, 55, 51, 54, 56, 102, 102, 53, 99, 99, 97, 99, 32, 99, 117, 116, 32, 97, 116, 32, 112, 97, 114, 97, 118, 97, 110, 101, 47, 112, 97, 114, 97, 118, 97, 110, 101, 116, 111, 112, 46, 84, 111, 112, 84, 111, 119, 101, 100] : List Nat).map Char.ofNat
theorem A81 : Tryz.prog.initOrder = String.ofList (([104, 97, 114, 110, 101, 115, 115, 32, 54, 54, 54, 98, 97, 50, 56, 102, 57, 98, 99, 98, 50, 49, 97, 99, 102, 100, 100, 57, 50, 102, 102, 52, 101, 100, 52, 52, 48, 48, 56, 100, 50, 51, 50, 50, 52, 98, 57, 56, 55, 102, 56, 100, 56, 53, 101, 54, 52, 97, 97, 101, 57, 55, 51, 54, 56, 102, 102, 53, 99, 99, 97, 99, 32, 99, 117, 116, 32, 97, 116, 32, 112, 97, 114, 97, 118, 97, 110, 101, 47, 112, 97, 114, 97, 118, 97, 110, 101, 116, 111, 112, 46, 84, 111, 112, 84, 111, 119, 101, 100] : List Nat).map Char.ofNat) := by
 unfold Tryz.prog
 dsimp only
 show (_ : String) = _
 kernel_rfl
theorem Uq : Tryz.prog.initOrder.toList = headL := (congrArg String.toList A81).trans String.toList_ofList
section
variable (P : Program) (h : P.initOrder.toList = headL)
include h
theorem make_of : P.make = some .cut := by
 unfold Program.make
 rw [h]
 kernel_rfl
theorem A1r : P.headLifts = [] := by
 unfold Program.headLifts
 rw [h]
 kernel_rfl
theorem lifts_of : P.liftsFinal = false := by
 unfold Program.liftsFinal
 rw [h, A1r P h]
 kernel_rfl
theorem may_of (h1 : P.laysLater = false) (h2 : P.bearsReflect = false) (h3 : P.doorFits [] = true) : P.mayEnter = true := by
 unfold Program.mayEnter
 rw [h, h1, h2]
 have e : behindMainWord (wordsSigns headL) = "cut".toList :: (behindMainWord (wordsSigns headL)).tail := by kernel_rfl
 have e2 : stripLifts liftWords ("cut".toList :: (behindMainWord (wordsSigns headL)).tail) = ([], "cut".toList :: (behindMainWord (wordsSigns headL)).tail) := by kernel_rfl
 rw [e]
 dsimp only
 rw [e2, h3]
 first | rfl | (show (_ : Bool) = true; kernel_rfl)
end
theorem may : Tryz.prog.mayEnter = true := may_of _ Uq (by kernel_rfl) (by kernel_rfl) (by kernel_rfl)
theorem lifts : Tryz.prog.liftsFinal = false := lifts_of _ Uq
theorem made : Tryz.prog.make = some .cut := make_of _ Uq
theorem heard : Tryz.prog.stopsHeard = true := by kernel_rfl
theorem S6 : Tryz.prog.plainKeys = false := by kernel_rfl
theorem rowed : mapsRowed Tryz.prog = true := by kernel_rfl
end
section
open Go.Am Go
attribute [local simp] cells Aa mkv Ag Ap under dem dem1 eB A7 B8 sB eF chV chC cruC D4 As eLeg legC eCru
def cS : Cru := ⟨[((0, 0), (10, 0))], [], [], frZ, (0, 0), 0, 2, 3, [[(7, 100)]]⟩
attribute [local simp] cS
def w1S : Leg := ((0, 0), (10, 0))
def w2S : Leg := ((10, 0), (0, 0))
def eSh (i w : Int) : V := .agg [I i, I w]
attribute [local simp] eSh Ds
theorem cS_ok : Hb cS = true := by kernel_rfl
theorem A51 : cS.Sane := ⟨by decide, ⟨by decide, fun f hf => by cases hf⟩, by decide, by decide, fun f hf => by
 rw [List.mem_singleton.1 hf]; decide⟩
theorem clear1S : Jw cS w1S = true := by kernel_rfl
theorem clear2S : Jw cS w2S = true := by kernel_rfl
theorem c_way1 (mb : Nat) : C Tryz.prog I4 [chV cS mb, eSh 0 0] (eLeg w1S) := by
 refine C_of mixed Gm (by simp) fun S ok => ?_
 refine A2 rfl (by simp) (Tr.seq (A8 (TraceK.run rfl (by simp) (.done ⟨by kernel_rfl, by kernel_rfl, ?_⟩))))
 refine Tr.seq (A2 rfl (by simp) (A4 rfl (Tr.skip ?_)))
 exact A2 rfl (by simp) (A5 rfl rfl rfl rfl trivial)
theorem c_way2 (mb : Nat) : C Tryz.prog I4 [chV cS mb, eSh 0 1] (eLeg w2S) := by
 refine C_of mixed Gm (by simp) fun S ok => ?_
 refine A2 rfl (by simp) (Tr.seq (A8 (TraceK.run rfl (by simp) (.done ⟨by kernel_rfl, by kernel_rfl, ?_⟩))))
 refine Tr.seq (A2 rfl (by simp) (A6 rfl ?_))
 exact A2 rfl (by simp) (A5 rfl rfl rfl rfl trivial)
theorem c_oct0 : C Tryz.prog Lq [eB (10, 0)] (I 0) := by
 have k1 : C Tryz.prog E5 [I 10, I (-131072), I 131072] (.bool true) := F8 _ _ _
 have k2 : C Tryz.prog E5 [I 0, I (-131072), I 131072] (.bool true) := F8 _ _ _
 refine C_of mixed Iv (by simp) fun S ok => ?_
 refine A2 rfl (by simp) (Tr.seq (A3 rfl (by simp) (Steps.call rfl rfl k1 (Steps.run rfl (by simp) (Steps.gcall (r := .bool true) rfl rfl rfl rfl (by simp) (fun _ => k2) (Steps.fin rfl (by simp) (A4 rfl (Tr.skip ?_))))))))
 refine Tr.seq (A8 (TraceK.run rfl (by simp) (.done ⟨by kernel_rfl, by kernel_rfl, ?_⟩)))
 refine Tr.weak (s' := ⟨[(1, .ptr 1 0), (3, I 10), (4, I 10)], [(1, ⟨[I 10, I 0], false⟩)], [], [], false⟩) (Ab (.k rfl (.cons rfl (VLe.i rfl) (.cons rfl (VLe.i rfl) .nil))) (.k rfl .nil) .nil rfl rfl) ?_
 refine Tr.seq (A2 rfl (by simp) (Tr.block ?_))
 refine Az 1 (TrN.succ ?_)
 refine A2 rfl (by simp) (Tr.seq (A6 rfl (Tr.skip (Tr.seq (Tr.block (A2 rfl (by simp) (A2 rfl (by simp) (A6 rfl ?_))))))))
 exact A2 rfl (by simp) (A5 rfl rfl rfl rfl trivial)
theorem c_oct3 : C Tryz.prog Lq [eB (-10, 0)] (I 3) := by
 have k1 : C Tryz.prog E5 [I (-10), I (-131072), I 131072] (.bool true) := F8 _ _ _
 have k2 : C Tryz.prog E5 [I 0, I (-131072), I 131072] (.bool true) := F8 _ _ _
 refine C_of mixed Iv (by simp) fun S ok => ?_
 refine A2 rfl (by simp) (Tr.seq (A3 rfl (by simp) (Steps.call rfl rfl k1 (Steps.run rfl (by simp) (Steps.gcall (r := .bool true) rfl rfl rfl rfl (by simp) (fun _ => k2) (Steps.fin rfl (by simp) (A4 rfl (Tr.skip ?_))))))))
 refine Tr.seq (A8 (TraceK.run rfl (by simp) (.done ⟨by kernel_rfl, by kernel_rfl, ?_⟩)))
 refine Tr.weak (s' := ⟨[(1, .ptr 1 0), (3, I (-10)), (4, I (-10))], [(1, ⟨[I (-10), I 0], false⟩)], [], [], false⟩) (Ab (.k rfl (.cons rfl (VLe.i rfl) (.cons rfl (VLe.i rfl) .nil))) (.k rfl .nil) .nil rfl rfl) ?_
 refine Tr.seq (A2 rfl (by simp) ?_)
 refine Tr.weak (s' := ⟨[(76, .agg [.bool false, .bool false, .bool false, .bool true, .bool true, .bool false, .bool false]), (77, I 0)], [], [], [], false⟩) (Ab (.cons rfl (.of_eq ?_) (.k rfl .nil)) .nil .nil rfl rfl) (Tr.block ?_)
 ·rfl
 refine Az 4 (TrN.succ ?_)
 refine A2 rfl (by simp) (Tr.seq (A6 rfl (Tr.skip (Tr.seq (Tr.block (A2 rfl (by simp) (A2 rfl (by simp) (A4 rfl (Tr.skip (A9 rfl (by simp) (TrN.succ ?_)))))))))))
 refine Tr.weak (s' := ⟨[(76, .agg [.bool false, .bool false, .bool false, .bool true, .bool true, .bool false, .bool false]), (77, I 1)], [], [], [], false⟩) (Ab (.k rfl (.cons rfl (VLe.i rfl) .nil)) .nil .nil rfl rfl) ?_
 refine A2 rfl (by simp) (Tr.seq (A6 rfl (Tr.skip (Tr.seq (Tr.block (A2 rfl (by simp) (A2 rfl (by simp) (A4 rfl (Tr.skip (A9 rfl (by simp) (TrN.succ ?_)))))))))))
 refine Tr.weak (s' := ⟨[(76, .agg [.bool false, .bool false, .bool false, .bool true, .bool true, .bool false, .bool false]), (77, I 2)], [], [], [], false⟩) (Ab (.k rfl (.cons rfl (VLe.i rfl) .nil)) .nil .nil rfl rfl) ?_
 refine A2 rfl (by simp) (Tr.seq (A6 rfl (Tr.skip (Tr.seq (Tr.block (A2 rfl (by simp) (A2 rfl (by simp) (A4 rfl (Tr.skip (A9 rfl (by simp) (TrN.succ ?_)))))))))))
 refine Tr.weak (s' := ⟨[(76, .agg [.bool false, .bool false, .bool false, .bool true, .bool true, .bool false, .bool false]), (77, I 3)], [], [], [], false⟩) (Ab (.k rfl (.cons rfl (VLe.i rfl) .nil)) .nil .nil rfl rfl) ?_
 refine A2 rfl (by simp) (Tr.seq (A6 rfl (Tr.skip (Tr.seq (Tr.block (A2 rfl (by simp) (A2 rfl (by simp) (A6 rfl ?_))))))))
 exact A2 rfl (by simp) (A5 rfl rfl rfl rfl trivial)
theorem A4u (mb : Nat) : C Tryz.prog Ew [chV cS mb, eSh 0 0] (.tuple [Ds (0, 0) 0, Ds (10, 0) 0]) := by
 refine C_of mixed G8 (by simp) fun S ok => ?_
 refine A2 rfl (by simp) (A3 rfl (by simp) (Steps.call rfl rfl (c_way1 mb) (Steps.fin rfl (by simp [w1S]) ?_)))
 refine A3 rfl (by simp) (Steps.call rfl rfl c_oct0 (Steps.fin rfl (by simp) ?_))
 refine Tr.seq (A8 (TraceK.run rfl (by simp) (.done ⟨by kernel_rfl, by kernel_rfl, ?_⟩)))
 exact A5 rfl rfl rfl rfl trivial
theorem c_ends2 (mb : Nat) : C Tryz.prog Ew [chV cS mb, eSh 0 1] (.tuple [Ds (10, 0) 3, Ds (0, 0) 3]) := by
 refine C_of mixed G8 (by simp) fun S ok => ?_
 refine A2 rfl (by simp) (A3 rfl (by simp) (Steps.call rfl rfl (c_way2 mb) (Steps.fin rfl (by simp [w2S]) ?_)))
 refine A3 rfl (by simp) (Steps.call rfl rfl c_oct3 (Steps.fin rfl (by simp) ?_))
 refine Tr.seq (A8 (TraceK.run rfl (by simp) (.done ⟨by kernel_rfl, by kernel_rfl, ?_⟩)))
 exact A5 rfl rfl rfl rfl trivial
theorem A2l : C Tryz.prog Qb [I 100] (.tuple [I 10, I 0]) := by
 have h := A6y 100
 have e : A3r 100 = .tuple [I 10, I 0] := by kernel_rfl
 rw [e] at h; exact h
theorem A6t (mb : Nat) : C Tryz.prog Gq [chV cS mb, eLeg w1S] (I 5) := by
 refine C_of mixed Fh (by simp) fun S ok => ?_
 refine A2 rfl (by simp [w1S]) (Tr.seq (A8 (TraceK.run rfl (by simp [w1S]) (.done ⟨by kernel_rfl, by kernel_rfl, ?_⟩))))
 refine A3 rfl (by simp) (Steps.call rfl rfl A2l (Steps.fin rfl (by simp) ?_))
 refine Tr.seq (A2 rfl (by simp) (A4 rfl (Tr.skip ?_)))
 refine Tr.seq (A8 (TraceK.run rfl (by simp) (.done ⟨by kernel_rfl, by kernel_rfl, ?_⟩)))
 exact A5 rfl rfl rfl rfl trivial
theorem c_steps2 (mb : Nat) : C Tryz.prog Gq [chV cS mb, eLeg w2S] (I 5) := by
 refine C_of mixed Fh (by simp) fun S ok => ?_
 refine A2 rfl (by simp [w2S]) (Tr.seq (A8 (TraceK.run rfl (by simp [w2S]) (.done ⟨by kernel_rfl, by kernel_rfl, ?_⟩))))
 refine A3 rfl (by simp) (Steps.call rfl rfl A2l (Steps.fin rfl (by simp) ?_))
 refine Tr.seq (A2 rfl (by simp) (A4 rfl (Tr.skip ?_)))
 refine Tr.seq (A8 (TraceK.run rfl (by simp) (.done ⟨by kernel_rfl, by kernel_rfl, ?_⟩)))
 exact A5 rfl rfl rfl rfl trivial
theorem Vh : C Tryz.prog Lp [I 0, I 0] (I 0) := by
 refine C_of mixed Ir (by simp) fun S ok => ?_
 exact A2 rfl (by simp) (A2 rfl (by simp) (A2 rfl (by simp) (A5 rfl rfl rfl rfl trivial)))
theorem A4v : C Tryz.prog Lp [I 0, I 3] (I 3) := by
 refine C_of mixed Ir (by simp) fun S ok => ?_
 exact A2 rfl (by simp) (A2 rfl (by simp) (A2 rfl (by simp) (A5 rfl rfl rfl rfl trivial)))
end
end Go.Proofs.YtabedohjkillfaaGreat
namespace Go.Am
section
open Go.RowKit
section
variable {E : Env}
theorem Steps.on {K : St → Prop} {s : St} {d : Option Nat} {k : Am.K} {xs : List X} {t : Nat} {want : Bool} {gv : V} {rest : List Ins} (hgv : get s.env t = some gv) (hgb : C0 want gv = some true) (h : Steps E (⟨d, k, xs, none⟩ :: rest) K s) : Steps E (⟨d, k, xs, some (t, want)⟩ :: rest) K s := by
 refine Step1.raw fun slots ops o i ro n a w g hc hs hi R Q next hn => ?_
 obtain ⟨os, cc⟩ := Aw hc
 obtain ⟨j, want', t', g1, g2, g3⟩ : ∃ j want' t', o.guard = some (j, want') ∧ slots[j]? = some (some t') ∧ (some (t, want)) = some (t', want') := by
  rcases cc.guard with ⟨e, _⟩ | e
  ·cases e
  ·exact e
 cases g3
 have hw := (C4 R hs g1 g2 (by rw [fs_g]; exact hgv) hgb).1 rfl
 obtain ⟨hlt, ho⟩ := Array.getElem?_eq_some_iff.1 hi
 have hi' : (ops.setIfInBounds i { o with guard := none })[i]? = some { o with guard := none } := by
  rw [Array.getElem?_setIfInBounds_self, if_pos hlt]
 have hs' : slots = (ops.setIfInBounds i { o with guard := none }).toList.map (·.dst) := by
  rw [hs, Array.toList_setIfInBounds, List.map_set]
  apply List.ext_getElem?
  intro m
  rw [List.getElem?_set]
  by_cases e : i = m
  ·subst e
   rw [if_pos rfl, if_pos (by simpa using hlt)]
   simp [hlt, ho]
  ·rw [if_neg e]
 have hc' : Hw E.P E.nt slots { o with guard := none } = some ⟨d, k, xs, none⟩ := by
  have e4 : A1s slots none = some none := rfl
  revert hc
  unfold Hw
  simp only [e4]
  intro hc
  cases e1 : opK E.P o.op with
  | none => rw [e1] at hc; cases hc
  | some p =>
    obtain ⟨k', os'⟩ := p
    rw [e1] at hc
    simp only at hc ⊢
    cases e2 : os'.mapM Pi with
    | none => rw [e2] at hc; cases hc
    | some xs' =>
      rw [e2] at hc
      simp only at hc ⊢
      cases e3 : A1s slots o.guard with
      | none => rw [e3] at hc; cases hc
      | some g' =>
        rw [e3] at hc
        simp only at hc ⊢
        cases hd : Abz E.nt k' o.dst with
        | false => rw [hd] at hc; cases hc
        | true =>
          rw [hd] at hc
          simp only [cond_true, Option.some.injEq, Ins.mk.injEq] at hc ⊢
          exact ⟨hc.1, hc.2.1, hc.2.2.1, trivial⟩
 have h2 := Nj (ops := ops.setIfInBounds i { o with guard := none }) (Q := Q) h hc' hs' hi' R hn (ro := ro) (n := n)
 unfold wpOpIn at h2 ⊢
 rw [hi'] at h2
 rw [hi]
 simp only [hw, if_true] at h2 ⊢
 have hw' : Region.wanted { o with guard := none } (yielded (ops.setIfInBounds i { o with guard := none }) a.tmps) = true := rfl
 rw [hw', if_pos rfl] at h2
 exact h2
theorem Pv {s : St} {t : Nat} {v : V} (ht : get s.env t = some (.cond true v)) (hd : toD s.fs.b 6 v = some (v, [])) : Wk E s (s.put (some t) v) := by
 intro a w h R
 obtain ⟨q1, q2, _⟩ := R.1.env t _ (by rw [fs_g]; exact ht)
 have r : RepD w h.φ v (a.tmps.getD t undef) := by
  cases q2 with
  | data r => cases r
  | cond _ _ _ h1 _ => exact (I5 R.1 6 v v _ [] hd (by simp) (h1 rfl)).1
 have R3 := R.1.put (d := t) (v := v) (x := a.tmps.getD t undef) q1 (.data r) (Ac r)
 rw [Oy (by rw [R.1.size]; exact q1)] at R3
 rw [← Dy] at R3
 exact ⟨_, ⟨R3, R.2⟩, rfl⟩
end
end
end Go.Am
namespace Go.Proofs.YtabedohjkillfaaGreat
section
open Go.Am Go
attribute [local simp] cells Aa mkv Ag Ap under dem dem1 eB A7 B8 sB eF chV chC cruC D4 As eLeg legC eCru cS eSh Ds
@[simp] theorem wr0 : IntKind.i64.wrap 0 = 0 := by decide
abbrev KM := List (List Int × Value)
def ClrP (mb : Nat) (l l' : KM) (w : Leg) : Prop := CX Tryz.prog Ej [(mb, gmO l)] [] [chV cS mb, eLeg w] (fun r B => B = [(mb, gmO l')] ∧ r = .bool true)
theorem A6o {mb : Nat} {l l' : KM} (hc : ClrP mb l l' w1S) : CX Tryz.prog De [(mb, gmO l)] [] [chV cS mb, eSh 0 0, I 0] (fun r B => B = [(mb, gmO l')] ∧ r = .tuple [eB (7, 12), .bool true]) := by
 refine J0 mixed G7 (by simp) fun S ok S1 hA hK hKD => ?_
 refine A2 rfl (by simp) (A3 rfl (by simp) (Steps.call rfl rfl (c_way1 mb) (Steps.fin rfl (by simp [w1S]) ?_)))
 refine Tr.seq (Tr.seq (Tr.reg (Steps.runN 2 rfl (by simp [w1S]) (Ak (F := []) hA rfl rfl rfl hc (.inl (by simp)) fun r B hB => ?_))))
 obtain ⟨rfl, rfl⟩ := hB
 refine Steps.fin rfl (by simp) (A4 rfl (Tr.skip ?_))
 refine A3 rfl (by simp [w1S]) (Steps.call rfl rfl (A6t mb) (Steps.fin rfl (by simp) ?_))
 refine Tr.seq (Tr.seq (A8 (TraceK.run rfl (by simp) (.done ⟨by kernel_rfl, by kernel_rfl, Tr.block ?_⟩))))
 refine Az 1 (TrN.succ ?_)
 refine A2 rfl (by simp) (Tr.seq (A6 rfl (Tr.skip (Tr.seq (Tr.block (A2 rfl (by simp) (A2 rfl (by simp) (A2 rfl (by simp) (A6 rfl ?_)))))))))
 refine A2 rfl (by simp) ?_
 exact Bg rfl rfl rfl ⟨_, rfl, rfl, rfl⟩
theorem cx_shot2 {mb : Nat} {l l' : KM} (hc : ClrP mb l l' w2S) : CX Tryz.prog De [(mb, gmO l)] [] [chV cS mb, eSh 0 1, I 14] (fun r B => B = [(mb, gmO l')] ∧ r = .tuple [eB (14, 19), .bool true]) := by
 refine J0 mixed G7 (by simp) fun S ok S1 hA hK hKD => ?_
 refine A2 rfl (by simp) (A3 rfl (by simp) (Steps.call rfl rfl (c_way2 mb) (Steps.fin rfl (by simp [w2S]) ?_)))
 refine Tr.seq (Tr.seq (Tr.reg (Steps.runN 2 rfl (by simp [w2S]) (Ak (F := []) hA rfl rfl rfl hc (.inl (by simp)) fun r B hB => ?_))))
 obtain ⟨rfl, rfl⟩ := hB
 refine Steps.fin rfl (by simp) (A4 rfl (Tr.skip ?_))
 refine A3 rfl (by simp [w2S]) (Steps.call rfl rfl (c_steps2 mb) (Steps.fin rfl (by simp) ?_))
 refine Tr.seq (Tr.seq (A8 (TraceK.run rfl (by simp) (.done ⟨by kernel_rfl, by kernel_rfl, Tr.block ?_⟩))))
 refine Az 1 (TrN.succ ?_)
 refine A2 rfl (by simp) (Tr.seq (A6 rfl (Tr.skip (Tr.seq (Tr.block (A2 rfl (by simp) (A2 rfl (by simp) (A2 rfl (by simp) (A6 rfl ?_)))))))))
 refine A2 rfl (by simp) ?_
 exact Bg rfl rfl rfl ⟨_, rfl, rfl, rfl⟩
theorem c_costA (mb : Nat) : C Tryz.prog Ex [chV cS mb, sB [(0, 0)], I 0, I 0] (.tuple [I 0, .bool true]) := by
 refine C_of mixed E4 (by simp) fun S ok => ?_
 refine A2 rfl (by simp) (A2 rfl (by simp) (Tr.seq (A2 rfl (by simp) (Tr.block ?_))))
 refine Az 1 (TrN.succ ?_)
 refine Tr.seq (A2 rfl (by simp) (A4 rfl (Tr.exit ?_)))
 refine Tr.seq (A8 (TraceK.run rfl (by simp) (TraceK.call rfl rfl Vh (TraceK.run rfl (by simp) (.done ⟨by kernel_rfl, by kernel_rfl, ?_⟩)))))
 exact A5 rfl rfl rfl rfl trivial
theorem c_costAA (mb : Nat) : C Tryz.prog Ex [chV cS mb, sB [(0, 0), (0, 0)], I 0, I 0] (.tuple [I 0, .bool false]) := by
 refine C_of mixed E4 (by simp) fun S ok => ?_
 refine A2 rfl (by simp) (A2 rfl (by simp) (Tr.seq (A2 rfl (by simp) (Tr.block ?_))))
 refine Az 1 (TrN.succ ?_)
 refine Tr.seq (A2 rfl (by simp) (A6 rfl (Tr.skip ?_)))
 refine Tr.seq (Tr.block (Tr.seq (A8 (TraceK.run rfl (by simp) (.done ⟨by kernel_rfl, by kernel_rfl, ?_⟩)))))
 refine Tr.seq (A3 rfl (by simp) (Steps.gcall (r := .bool true) rfl rfl rfl rfl (by simp) (fun e => absurd e (by decide)) (Steps.fin rfl (by simp) (A6 rfl ?_))))
 exact A2 rfl (by simp) (A5 rfl rfl rfl rfl trivial)
theorem Acd {mb : Nat} {l : KM} (hc : ClrP mb l l w1S) : CX Tryz.prog Ex [(mb, gmO l)] [] [chV cS mb, sB [(0, 0), (10, 0)], I 0, I 3] (fun r B => B = [(mb, gmO l)] ∧ r = .tuple [I 14, .bool true]) := by
 refine J0 mixed E4 (by simp) fun S ok S1 hA hK hKD => ?_
 refine A2 rfl (by simp) (A2 rfl (by simp) (Tr.seq (A2 rfl (by simp) (Tr.block ?_))))
 refine Az 2 (TrN.succ ?_)
 refine Tr.seq (A2 rfl (by simp) (A6 rfl (Tr.skip ?_)))
 refine Tr.seq (Tr.block (Tr.seq (A8 (TraceK.run rfl (by simp) (.done ⟨by kernel_rfl, by kernel_rfl, ?_⟩)))))
 refine Tr.weak (s' := ⟨[(0, chV cS mb), (1, sB [(0, 0), (10, 0)]), (2, I 0), (3, I 3), (10, I 0), (11, I 1), (12, .ptr 12 0)], [(12, ⟨legC w1S, false⟩)], [], encA [(mb, gmO l)], false⟩)
  (Ab (.k rfl (.k rfl (.k rfl (.k rfl (.k rfl (.k rfl (.k rfl .nil))))))) (.k rfl .nil) .nil rfl rfl) ?_
 refine Tr.seq (Eh 6 rfl (by simp [w1S]) ?_)
 refine Steps.on rfl rfl (Steps.runN 1 rfl (by simp) (Steps.on rfl rfl (Steps.runN 1 rfl (by simp [w1S]) (Steps.on rfl rfl (Ak (F := []) hA rfl rfl rfl hc (.inl (by simp)) fun r B hB => ?_)))))
 obtain ⟨rfl, rfl⟩ := hB
 refine Steps.fin rfl (by simp [w1S]) (A4 rfl (Tr.skip ?_))
 refine A3 rfl (by simp [w1S]) (Steps.call rfl rfl c_oct0 (Steps.fin rfl (by simp) ?_))
 refine Tr.seq (A8 (TraceK.run rfl (by simp [w1S]) (TraceK.call rfl rfl (A6t mb) (TraceK.run rfl (by simp) (TraceK.call rfl rfl Vh (TraceK.run rfl (by simp) (.done ⟨by kernel_rfl, by kernel_rfl, ?_⟩)))))))
 refine A9 rfl (by simp) (A9 rfl (by simp) (TrN.succ ?_))
 refine Tr.weak (s' := ⟨[(0, chV cS mb), (1, sB [(0, 0), (10, 0)]), (2, I 0), (3, I 3), (10, I 5), (11, I 2)], [], [], encA [(mb, gmO l)], false⟩)
  (Ab (.k rfl (.k rfl (.k rfl (.k rfl (.cons rfl (VLe.i rfl) (.cons rfl (VLe.i rfl) .nil)))))) .nil .nil rfl rfl) ?_
 refine Tr.seq (A2 rfl (by simp) (A4 rfl (Tr.exit ?_)))
 refine Tr.seq (A8 (TraceK.run rfl (by simp) (TraceK.call rfl rfl A4v (TraceK.run rfl (by simp) (.done ⟨by kernel_rfl, by kernel_rfl, ?_⟩)))))
 exact Bg rfl rfl rfl ⟨_, rfl, rfl, rfl⟩
end
end Go.Proofs.YtabedohjkillfaaGreat
namespace Go.Am
section
open Go.RowKit
theorem Y5 {E : Env} {σ : FSt} {d sz e : Nat} (hd : σ.r d = none) : Does E σ ⟨some d, .mkslice sz e, [], none⟩ { v := .slice (d + 1) sz [], wr := [(d, 0, sz, e)], rr := [d] } [.row d] := by
 refine .sem fun τ hτ slots ops j o ro nn log stp a w h hc hs hi R Q next hnx => ?_
 have hd' : τ.r d = none := by rw [r_eq (hτ (.row d) (by simp))]; exact hd
 obtain ⟨os, cc⟩ := Aw hc
 have hdf := Ah cc.op
 have hgo : o.guard = none := by
  rcases cc.guard with ⟨_, e⟩ | ⟨_, _, _, _, _, e⟩
  ·exact e
  ·cases e
 obtain ⟨t, len, parts, ie, z, ho, ht, hie, hz, hzs, hsz, hidx, rfl⟩ := Ro cc.op
 have hO := Au R.1 cc.xs (vs := []) rfl
 have hlen : len = 0 := by
  have h1 := hO.get.1
  have h2 := congrArg List.length hidx
  simp at h1 h2
  omega
 subst hlen
 have hp : parts = #[] := by
  have h1 := hO.get.1
  simp at h1
  exact Array.size_eq_zero_iff.1 h1.symm
 have hrun : (Instr.buildSlice t 0 (parts.map fun (i, x) => (i, a.eval x))).run E.P w = .ok (.slice (some ⟨w.heap.size, 0, none⟩) 0 0) (w.alloc (.cells #[] e)) := by
  subst hp
  have hr0 : Array.range 0 = #[] := rfl
  simp [Instr.buildSlice, run_underlying ht, sizeOf, typeInfo, zeroValue, hie, hz, newRow, Instr.fill, hr0]
 have hex : (execOp a.eval o).run E.P w = .ok (.value (.slice (some ⟨w.heap.size, 0, none⟩) 0 0)) (w.alloc (.cells #[] e)) := by
  simp only [execOp, ho, Sem.run_bind, hrun]; rfl
 obtain ⟨R1, ext⟩ := R.1.setRow (r := d) (n := 0) (sz := sz) (e := e) (blk := w.heap.size) (cs := #[]) (w' := w.alloc (.cells #[] e)) E.ok (.inl hd') (.inl (Nat.le_refl _)) (by rw [H9]; simp) (fun b hb _ => Below.heap_alloc w _ b hb) (by simp) rfl rfl rfl
  (fun o' ho' => by rw [R.1.top _ (Nat.le_refl _)] at ho'; omega) (by simp) (by simp)
 have hg := A1v (σ' := τ.set (.row d) (.r 0 sz e)) (h' := { h with φ := fun b => if b = w.heap.size then 0 * sz else h.φ b, M := fun b => h.M b ∨ b = w.heap.size, γ := fun k => if k = d then some w.heap.size else h.γ k })
  (w' := w.alloc (.cells #[] e)) (r := d) (n := 0) (sz := sz) (e := e) (blk := w.heap.size) (cap := 0) (xs := []) (cs := #[]) (by simp) rfl (by simp) (by rw [H9]; simp) (by simp) (by omega) (by unfold maxLen; omega)
 have key := Bh (eff := { v := .slice (d + 1) sz [], wr := [(d, 0, sz, e)], rr := [d] }) cc R R1 ⟨.named d sz [] _ (.slice0 _ _ _), hg⟩ rfl
 exact Aq hi (Ad hgo) hdf (.inl hex) (hnx _ _ _ key rfl)
theorem Og {E : Env} {s : St} {K : St → Prop} {d sz e : Nat} {rest : List Ins} (hd : get s.rw d = none)
  (hk : Steps E rest K ((s.eff { v := .slice (d + 1) sz [], wr := [(d, 0, sz, e)], rr := [d] }).put (some d) (.slice (d + 1) sz []))) : Steps E (⟨some d, .mkslice sz e, [], none⟩ :: rest) K s :=
 Step1.does (ins := ⟨some d, .mkslice sz e, [], none⟩) (Y5 (by rw [fs_r]; exact hd)) hk
theorem TraceK.mkRow {E : Env} {s : St} {K : List (List Loc × List Loc) → St → List Ins → Prop} {d sz e : Nat} {rest : List Ins} (hd : get s.rw d = none)
  (tr : TraceK E ((s.eff { v := .slice (d + 1) sz [], wr := [(d, 0, sz, e)], rr := [d] }).put (some d) (.slice (d + 1) sz [])) rest fun fp s' r' => K ((wrOf ⟨some d, .mkslice sz e, [], none⟩ { v := .slice (d + 1) sz [], wr := [(d, 0, sz, e)], rr := [d] }, [.row d]) :: fp) s' r') : TraceK E s (⟨some d, .mkslice sz e, [], none⟩ :: rest) K :=
 .step (ins := ⟨some d, .mkslice sz e, [], none⟩) (Y5 (by rw [fs_r]; exact hd)) tr
end
section
open Go.RowKit
abbrev intV (n : Int) : V := .int .i64 n
section
variable {E : Env} {σ : FSt}
end
end
section
open Go.RowKit
abbrev prV (p : Int × Int) : V := .agg [.int .i64 p.1, .int .i64 p.2]
def flP (l : List (Int × Int)) : List Int := l.flatMap fun p => [p.1, p.2]
def CG2 (P : Program) (f : FuncId) (args : List V) (e : Nat) (l : List (Int × Int)) : Prop :=
 Bn P f = true ∧ ∀ (w : World) (φ : Nat → Nat) (vs : Array Value), (∀ b, w.heap.size ≤ b → φ b = 0) → Gl w φ → RepL w φ args vs →
  Calls P f vs w fun er w' => ((l = [] ∧ er = .returned (.slice none 0 0)) ∨ ∃ blk cap cs, er = .returned (.slice (some ⟨blk, 0, none⟩) l.length cap) ∧ l.length ≤ cap ∧ cap ≤ maxLen ∧ cs.size = cap * 2 ∧ w.heap.size ≤ blk ∧ blk < w'.heap.size ∧ w'.heap[blk]? = some (.cells cs e (0, 0)) ∧
   ∀ (j : Nat) n, (flP l)[j]? = some n → cs[j]? = some (.int .i64 n)) ∧ Below w.heap.size w w'
theorem A6g (l : List (Int × Int)) : (l.map prV).flatMap cells = (flP l).map intV := by
 induction l with
 | nil => rfl
 | cons a l ih => rw [List.map_cons, List.flatMap_cons, ih]; rfl
def qRow2 (t e : Nat) (l : List (Int × Int)) : Exit → St → Prop
 | .ret, s | .normal, s => ∃ r, get s.env t = some (.slice (r + 1) 2 (l.map prV)) ∧ get s.rw r = some (l.length, 2, e)
 | _, _ => False
theorem CG2_of {P : Program} {f nt t e : Nat} {ic : IC} (hmix : P.follows .mixedOrders = true) (hch : chkF P f = some (nt, ic, [.tmp t])) {args : List V} {l : List (Int × Int)} (hlen : args.length ≤ nt)
  (hT : ∀ (S : Sur) (ok : S.ok), Tr (env0 P hmix nt S ok) none ic (qRow2 t e l) (entry args)) : CG2 P f args e l := by
 obtain ⟨fn, c, hf, hb, hnt, hc, hres, hcall⟩ := L5 hch
 refine ⟨hcall, fun w φ vs htop hgl hrep => ?_⟩
 have hT := hT (S0 w φ) (S0_ok w φ hgl)
 rw [← callsIn_wide (n := 0)]
 refine callsIn_of_wp_marks hf hb trivial ?_
 have R0 : (env0 P hmix nt (S0 w φ) (S0_ok w φ hgl)).rel (entry args) { tmps := vs ++ Array.replicate (fn.ntmps - vs.size) undef, defers := [] } w { φ := φ, β := fun _ => none, γ := fun _ => none, M := fun _ => False, y := ⟨none, fun _ => none⟩ } := by
  have hl := hrep.1
  refine ⟨{ size := by simp; omega, env := fun t v hv => ?_, bx := fun i bo hb => ?_, dom := fun _ _ h => ((by cases h)), inj := fun _ _ _ h => ((by cases h)), rows := fun r n sz e hr => ?_, rdom := fun _ _ h => ((by cases h)), rinj := fun _ _ _ h => ((by cases h)), apart := fun _ _ _ h => ((by cases h)), pins := fun _ _ h => ((by cases h)), mine := fun _ h => ((by cases h)), top := htop, marks := trivial, sur := Moved.refl _ htop }, fun _ h => ((by cases h)), fun _ h => ((by cases h))⟩
  ·rw [fs_g] at hv
   obtain ⟨_, h1⟩ := Im 0 args t v hv
   simp only [Nat.sub_zero] at h1
   have ht : t < args.length := (List.getElem?_eq_some_iff.1 h1).1
   have ht' : t < vs.size := by omega
   have e : (vs ++ Array.replicate (fn.ntmps - vs.size) undef).getD t undef = vs[t] := by
    simp [Array.getElem?_append_left ht', ht']
   rw [e]
   have h2 := hrep.2 t v _ h1 (Array.getElem?_eq_getElem ht')
   exact ⟨by show t < nt; omega, .data h2, Ac h2⟩
  ·rw [fs_b] at hb; simp [entry, get] at hb
  ·rw [fs_r] at hr; simp [entry, get] at hr
 refine hT c hc 0 _ w _ R0 _ fun ex s' a' w' h' k R' ey => ?_
 have fin : (∃ r, get s'.env t = some (.slice (r + 1) 2 (l.map prV)) ∧ get s'.rw r = some (l.length, 2, e)) → LeavesInM Fence.wide 0 P fn a'.tmps
   (fun er w' => ((l = [] ∧ er = .returned (.slice none 0 0)) ∨ ∃ blk cap cs, er = .returned (.slice (some ⟨blk, 0, none⟩) l.length cap) ∧ l.length ≤ cap ∧ cap ≤ maxLen ∧ cs.size = cap * 2 ∧ w.heap.size ≤ blk ∧ blk < w'.heap.size ∧ w'.heap[blk]? = some (.cells cs e (0, 0)) ∧
     ∀ (j : Nat) n, (flP l)[j]? = some n → cs[j]? = some (.int .i64 n)) ∧ Below w.heap.size w w') a'.defers .returning w' := by
  rintro ⟨r, htr, hrr⟩
  refine Ab3 (E := env0 P hmix nt (S0 w φ) (S0_ok w φ hgl)) a'.defers a' w' rfl R' fun a2 w2 ht R2 => ?_
  obtain ⟨g1, g2, g3⟩ := R2.1.env t _ (by rw [fs_g]; exact htr)
  obtain ⟨x, hx⟩ : ∃ x, a2.tmps.getD t undef = x := ⟨_, rfl⟩
  rw [hx] at g2 g3
  have hS : Moved (fun _ => False) w φ h'.M w2 h'.φ := R2.1.sur
  have hbel : Below w.heap.size w w2 := ⟨hS.os, hS.tape, hS.output, hS.size, fun k hk => (hS.old k hk (fun h => h)).1⟩
  have hrl : h'.γ = h'.γ := rfl
  cases g2 with
  | data rr => cases rr
  | named _ _ _ _ hrep =>
    have hxc : x.cells[0]? = some x := by rcases F5 hrep with ⟨⟨_, _, rfl⟩, _⟩ | ⟨_, _, _, _, rfl, _⟩ <;> rfl
    obtain ⟨n, e', hr', hle, himp⟩ := g3 0 _ x rfl hxc r 2 (l.map prV) rfl
    rw [fs_r, hrr] at hr'
    cases hr'
    have hrun := J2 (P := P) (w := w2) (fn := fn) (tmps := a2.tmps) (xs := [x]) (by rw [hres]; rfl) (fun j r z h1 h2 => by
     rw [hres] at h1
     cases j with
     | zero => simp at h1 h2; subst h1 h2; simp only [hx]; rfl
     | succ j => simp at h1)
    rw [ht] at hrun
    rcases himp (by simp) with ⟨h1, rfl⟩ | ⟨blk, cap, cs, hγ, rfl, hheap, hsz, hcap, hmax⟩
    ·exact ⟨_, hrun, .inl ⟨by simpa using h1, rfl⟩, hbel⟩
    ·have hM : h'.M blk := R2.1.rowM hγ
     refine ⟨_, hrun, .inr ⟨blk, cap, cs, by rw [List.length_map], by simpa using hcap, hmax, by omega, (hS.mine _ hM).elim (fun h => h.elim) id, R2.1.mine _ hM, hheap, fun j m hj => ?_⟩, hbel⟩
     have hjl : ((l.map prV).flatMap cells)[j]? = some (intV m) := by
      rw [A6g, List.getElem?_map, hj]; rfl
     have hne : l.map prV ≠ [] := fun e => by
      rw [e] at hjl; simp at hjl
     rcases F5 hrep with ⟨_, e0⟩ | ⟨blk2, off2, cap2, cv, e2, _, _, _, ay⟩
     ·exact absurd e0 hne
     ·cases e2
      obtain ⟨_, k2, k3, _⟩ := ay j _ hjl
      have k4 : cv j = .int .i64 m := by
       generalize cv j = z at k3
       cases k3; rfl
      rw [k4] at k2
      unfold World.cell? at k2
      rw [hheap] at k2
      simpa using k2
 cases ex with
 | normal => exact fin k
 | ret => exact fin k
 | _ => exact k.elim
section
variable {E : Env} {σ : FSt}
theorem V3 {d : Nat} {f : FuncId} {xs : List X} {vs us : List V} {e : Nat} {l : List (Int × Int)} (hx : xs.mapM (evX σ) = some vs) (hd : ∀ b, toDs b vs = some (us, [])) (hC : CG2 E.P f us e l) (hrd : σ.r d = none) :
  Does E σ ⟨some d, .call f, xs, none⟩ { v := .slice (d + 1) 2 (l.map prV), wr := [(d, l.length, 2, e)], rr := [d] } (B7 xs ++ [.row d]) := by
 refine .sem fun τ hτ slots ops i o ro n log stp a w h hc hs hi R Q next hn => ?_
 have hrd' : τ.r d = none := by rw [r_eq (hτ (.row d) (by simp))]; exact hrd
 have hx' : xs.mapM (evX τ) = some vs := Br hx fun l hl => hτ l (by simp [hl])
 obtain ⟨os, cc⟩ := Aw hc
 have hdf := Ah cc.op
 have hgo : o.guard = none := by
  rcases cc.guard with ⟨_, e⟩ | ⟨_, _, _, _, _, e⟩
  ·exact e
  ·cases e
 obtain ⟨c, e1, e2, e3⟩ := Lx cc.op
 have hO := Au R.1 cc.xs hx'
 obtain ⟨q1, q2⟩ := hO.get
 subst e3
 have hw := Ad (ops := ops) (a := a) hgo
 have hrun := Lu (E := E) (a := a) (w := w) hC.1 e2 e1
 unfold wpOpIn
 simp only [hi, hw, if_true, Oper.wpIn]
 refine ⟨fun _ _ => trivial, ?_⟩
 rw [Oper.semAt_eq _ _ _ hdf, hrun]
 simp only [Oper.uponIn]
 refine ⟨fun e => by simp [Co, Fence.wide] at e, ?_⟩
 obtain ⟨h1, R1, ext1, p1, p2, p3, hrep⟩ := Ck R.1 (hd τ.b)
 have hRL : RepL w h1.φ us (c.args.map a.eval) := hrep _ (by simpa using q1) (fun i v x hv hx => by
  simp only [Array.getElem?_map, Option.map_eq_some_iff] at hx
  obtain ⟨p, hp, rfl⟩ := hx
  exact (q2 i v p hv (by simpa using hp)).1)
 refine (Bv (hC.2 w h1.φ _ R1.top (E.ok.gl _ _ _ _ _ R1.sur) hRL)).mono ?_
 rintro er w' ⟨hcase, hbel⟩
 have R1 : Rel E.nt E.S log stp τ a w h1 := R1
 rcases hcase with ⟨hl0, rfl⟩ | ⟨blk, cap, cs, rfl, hcap, hmax, hsz, hge, hlt, hheap, hcells⟩
 ·subst hl0
  have ex : Ext w h1.φ w' h1.φ := fun b o ho => by
   have hlt : b < w.heap.size := by
    rcases Nat.lt_or_ge b w.heap.size with h1 | h1
    ·exact h1
    ·rw [R1.top b h1] at ho; omega
   exact ⟨ho, hbel.cell (p := ⟨b, o, none⟩) hlt, B5 (hbel.block b hlt)⟩
  have R2 := R1.move E.ok (w' := w') (h' := h1) rfl rfl rfl (fun _ h => h)
   ⟨ex, fun b hlt _ => ⟨hbel.block b hlt, rfl⟩, hbel.size, hbel.os, hbel.tape, hbel.output, fun b hb => .inl hb, fun b hb => R1.top b (Nat.le_trans hbel.size hb)⟩
   (fun b hM => ⟨hbel.block b (R1.mine b hM), rfl⟩) (fun b hM => Nat.lt_of_lt_of_le (R1.mine b hM) hbel.size) (fun b hb => R1.top b (Nat.le_trans hbel.size hb))
  have R3 := R2.row0 (r := d) (sz := 2) (e := e) hrd'
  have hg := Abi (r := d) (n := 0) (sz := 2) (e := e) (σ' := τ.set (.row d) (.r 0 2 e)) (h' := h1) (w' := w') (by simp)
  exact hn _ _ _ (Bh (eff := { v := .slice (d + 1) 2 [], wr := [(d, 0, 2, e)], rr := [d] }) cc R R3 ⟨.named d 2 [] _ (.slice0 _ _ _), hg⟩ (by simpa using p3)) (by simpa using p3)
 ·obtain ⟨R3, ext⟩ := R1.setRow (r := d) (n := l.length) (sz := 2) (e := e) (blk := blk) (cs := cs) (w' := w') E.ok (.inl hrd') (.inl hge) hheap (fun b hb _ => hbel.block b hb) hbel.size hbel.os hbel.tape hbel.output
   (fun o' ho' => by rw [R1.top _ hge] at ho'; omega) (by omega) hlt
  have hrow := Yr (w' := w') (φ' := fun b => if b = blk then l.length * 2 else h1.φ b) (sz := 2) (blk := blk) (cap := cap) (e := e) (us := l.map prV) (cs := cs) (by omega) (by rw [List.length_map]; exact hcap) (fun u hu => by obtain ⟨_, _, rfl⟩ := List.mem_map.1 hu; rfl) hheap (by rw [List.length_map, if_pos rfl]; exact Nat.le_refl _) (fun j v hv => by
   rw [A6g, List.getElem?_map, Option.map_eq_some_iff] at hv
   obtain ⟨m, hm, rfl⟩ := hv
   exact ⟨_, hcells j m hm, .int _ _, rfl⟩)
  rw [List.length_map] at hrow
  have hg := A1v (σ' := τ.set (.row d) (.r l.length 2 e)) (h' := { h1 with φ := fun b => if b = blk then l.length * 2 else h1.φ b, M := fun b => h1.M b ∨ b = blk, γ := fun k => if k = d then some blk else h1.γ k })
   (w' := w') (r := d) (n := l.length) (sz := 2) (e := e) (blk := blk) (cap := cap) (xs := l.map prV) (cs := cs) (by simp) (by rw [List.length_map]) (if_pos rfl) hheap (by omega) hcap hmax
  exact hn _ _ _ (Bh (eff := { v := .slice (d + 1) 2 (l.map prV), wr := [(d, l.length, 2, e)], rr := [d] }) cc R R3 ⟨.named d 2 (l.map prV) _ hrow, hg⟩ (by simpa using p3)) (by simpa using p3)
theorem Steps.callG2 {s : St} {K : St → Prop} {d : Nat} {f : FuncId} {xs : List X} {vs us : List V} {e : Nat} {l : List (Int × Int)} {rest : List Ins} (hx : evXs s.env xs = some vs) (hd : ∀ b, toDs b vs = some (us, [])) (hC : CG2 E.P f us e l) (hrd : get s.rw d = none)
  (hk : Steps E rest K ((s.eff { v := .slice (d + 1) 2 (l.map prV), wr := [(d, l.length, 2, e)], rr := [d] }).put (some d) (.slice (d + 1) 2 (l.map prV)))) : Steps E (⟨some d, .call f, xs, none⟩ :: rest) K s :=
 Step1.does (ins := ⟨some d, .call f, xs, none⟩) (V3 (Ai hx) hd hC (by rw [fs_r]; exact hrd)) hk
theorem Px {E : Env} {s : St} {K : List (List Loc × List Loc) → St → List Ins → Prop} {d : Nat} {f : FuncId} {xs : List X} {vs us : List V} {e : Nat} {l : List (Int × Int)} {rest : List Ins} (hx : evXs s.env xs = some vs) (hd : ∀ b, toDs b vs = some (us, [])) (hC : CG2 E.P f us e l) (hrd : get s.rw d = none)
  (tr : TraceK E ((s.eff { v := .slice (d + 1) 2 (l.map prV), wr := [(d, l.length, 2, e)], rr := [d] }).put (some d) (.slice (d + 1) 2 (l.map prV))) rest fun fp s' r' => K ((wrOf ⟨some d, .call f, xs, none⟩ { v := .slice (d + 1) 2 (l.map prV), wr := [(d, l.length, 2, e)], rr := [d] }, B7 xs ++ [.row d]) :: fp) s' r') : TraceK E s (⟨some d, .call f, xs, none⟩ :: rest) K :=
 .step (ins := ⟨some d, .call f, xs, none⟩) (V3 (Ai hx) hd hC (by rw [fs_r]; exact hrd)) tr
end
end
end Go.Am
namespace Go.Proofs.YtabedohjkillfaaGreat
section
open Go.Am Go
attribute [local simp] cells Aa mkv Ag Ap under dem dem1 eB A7 B8 sB eF chV chC cruC D4 As eLeg legC eCru cS eSh Ds
theorem c_clone1 : C Tryz.prog Bu [sB [(0, 0)]] (sB [(0, 0)]) := by
 refine C_of mixed Bl (by simp) fun S ok => ?_
 refine A2 rfl (by simp) (Tr.seq (Tr.seq (Tr.reg (Steps.runN 1 rfl (by simp) ?_))))
 refine Mc rfl fun b hb => ?_
 obtain rfl := hb (by simp)
 refine Steps.fin rfl (by simp) (A4 rfl (Tr.skip (Tr.seq (Tr.reg (Og rfl (Steps.fin rfl (by simp) ?_))))))
 exact A5 rfl rfl rfl rfl trivial
theorem c_clone2 : C Tryz.prog Bu [sB [(0, 0), (10, 0)]] (sB [(0, 0), (10, 0)]) := by
 refine C_of mixed Bl (by simp) fun S ok => ?_
 refine A2 rfl (by simp) (Tr.seq (Tr.seq (Tr.reg (Steps.runN 1 rfl (by simp) ?_))))
 refine Mc rfl fun b hb => ?_
 obtain rfl := hb (by simp)
 refine Steps.fin rfl (by simp) (A4 rfl (Tr.skip (Tr.seq (Tr.reg (Og rfl (Steps.fin rfl (by simp) ?_))))))
 exact A5 rfl rfl rfl rfl trivial
def pasV (l : List (Int × Int)) (n : Int) : V := .agg [sB l, I n]
def yV (l : Nat) : V := .func (.yield l) [] []
def pV (a : Int × Int) (o : Int) : V := .vptr [I a.1, I a.2, I o] 0
attribute [local simp] pasV yV pV
def ysA : List (List V) := [[pasV [(0, 0)] 0]]
def ysB : List (List V) := [[pasV [(0, 0), (10, 0)] 14]]
theorem Ac8 (mb l : Nat) (A : Arena) : CY Tryz.prog Bx l (Oz ysA) [] A [sB [(0, 0)], .vptr [chV cS mb] 0, pV (0, 0) 0, pV (0, 0) 0, .vptr [yV l] 0] (fun r ys stp B => ys = ysA ∧ r = .bool (!stp) ∧ B = A) := by
 refine A9f mixed C9 (by simp) fun S ok S1 hE => ?_
 refine A2 rfl (by simp) (A3 rfl (by simp) (Steps.call rfl rfl (c_costA mb) (Steps.fin rfl (by simp) ?_)))
 refine Tr.seq (A8 (TraceK.run rfl (by simp) (TraceK.gcall (r := sB [(0, 0)]) rfl rfl rfl rfl (by simp) (fun _ => c_clone1) (TraceK.runN 2 rfl (by simp) (.done ⟨by kernel_rfl, by kernel_rfl, ?_⟩)))))
 refine Ov (Wk.trans (Pv (t := 22) (v := yV l) rfl rfl) (Pv (t := 26) (v := pasV [(0, 0)] 0) rfl rfl)) ?_
 refine Steps.on rfl rfl (Lm hE (A := A) (ys := []) rfl rfl rfl rfl (List.prefix_refl _) fun b => ?_)
 cases b with
 | true =>
   refine Steps.fin rfl (by simp) (Bg rfl rfl rfl ⟨A, ysA, rfl, rfl, rfl, rfl⟩)
 | false =>
   refine Steps.fin rfl (by simp) (Bg rfl rfl rfl ⟨A, ysA, rfl, rfl, rfl, rfl⟩)
theorem Ad1 (mb l : Nat) : C Tryz.prog Bx [sB [(0, 0), (0, 0)], .vptr [chV cS mb] 0, pV (0, 0) 0, pV (0, 0) 0, .vptr [yV l] 0] (.bool true) := by
 refine C_of mixed C9 (by simp) fun S ok => ?_
 refine A2 rfl (by simp) (A3 rfl (by simp) (Steps.call rfl rfl (c_costAA mb) (Steps.fin rfl (by simp) ?_)))
 refine Tr.seq (A8 (TraceK.run rfl (by simp) (TraceK.gcall (r := sB [(0, 0)]) rfl rfl rfl rfl (by simp) (fun e => absurd e (by decide)) (TraceK.runN 2 rfl (by simp) (TraceK.off (.bool true) rfl rfl (TraceK.run rfl (by simp) (.done ⟨by kernel_rfl, by kernel_rfl, ?_⟩)))))))
 exact A5 rfl rfl rfl rfl trivial
theorem Ac7 {mb : Nat} {L : KM} (hc : ClrP mb L L w1S) (l : Nat) : CY Tryz.prog Bx l (Oz ysB) [] [(mb, gmO L)] [sB [(0, 0), (10, 0)], .vptr [chV cS mb] 0, pV (0, 0) 0, pV (10, 0) 3, .vptr [yV l] 0] (fun r ys stp B => ys = ysB ∧ r = .bool (!stp) ∧ B = [(mb, gmO L)]) := by
 have kc := Acd hc
 refine A9f mixed C9 (by simp) fun S ok S1 hE => ?_
 refine A2 rfl (by simp) (Tr.seq (Tr.reg (Steps.inA 7 rfl rfl (A := [(mb, gmO L)]) (ys := []) rfl ?_)))
 have hA := hE.inA [] false
 refine Steps.runN 6 rfl (by simp) (Ak (F := []) hA rfl rfl rfl kc (.inl (by simp)) fun r B hB => ?_)
 obtain ⟨rfl, rfl⟩ := hB
 refine ⟨_, rfl, Steps.fin rfl (by simp) ?_⟩
 refine Tr.seq (A8 (TraceK.run rfl (by simp) (TraceK.gcall (r := sB [(0, 0), (10, 0)]) rfl rfl rfl rfl (by simp) (fun _ => c_clone2) (TraceK.runN 2 rfl (by simp) (.done ⟨by kernel_rfl, by kernel_rfl, ?_⟩)))))
 refine Ov (Wk.trans (Pv (t := 22) (v := yV l) rfl rfl) (Pv (t := 26) (v := pasV [(0, 0), (10, 0)] 14) rfl rfl)) ?_
 refine Steps.on rfl rfl (Lm hE (A := [(mb, gmO L)]) (ys := []) rfl rfl rfl rfl (List.prefix_refl _) fun b => ?_)
 cases b with
 | true =>
   refine Steps.fin rfl (by simp) (Bg rfl rfl rfl ⟨_, ysB, rfl, rfl, rfl, rfl⟩)
 | false =>
   refine Steps.fin rfl (by simp) (Bg rfl rfl rfl ⟨_, ysB, rfl, rfl, rfl, rfl⟩)
theorem A2k : CG2 Tryz.prog Bu [sB [(0, 0)]] 30 [(0, 0)] := by
 refine CG2_of mixed Bl (by simp) fun S ok => ?_
 refine A2 rfl (by simp) (Tr.seq (Tr.seq (Tr.reg (Steps.runN 1 rfl (by simp) ?_))))
 refine Mc rfl fun b hb => ?_
 obtain rfl := hb (by simp)
 refine Steps.fin rfl (by simp) (A4 rfl (Tr.skip (Tr.seq (Tr.reg (Og rfl (Steps.fin rfl (by simp) ?_))))))
 exact Tr.ret ⟨5, rfl, rfl⟩
def offV (mb l : Nat) (b : Int × Int) (o : Int) : V := .func (.func Bx) [] [.vptr [chV cS mb] 0, pV (0, 0) 0, pV b o, .vptr [yV l] 0]
attribute [local simp] offV
theorem c_nextA (mb l b6 : Nat) : C Tryz.prog Aj [sB [(0, 0)], I 0, .vptr [offV mb l (0, 0) 0] 0, pV (0, 0) 0, .vptr [chV cS mb] 0, .rptr b6 0] (.bool true) := by
 refine C_of mixed Dh (by simp) fun S ok => ?_
 refine A2 rfl (by simp) (Tr.seq (Tr.seq (A8 (TraceK.runN 2 rfl (by simp) (Px rfl (fun _ => rfl) A2k rfl (TraceK.run rfl (by simp) ?_))))))
 refine TraceK.callv (us := [sB [(0, 0), (0, 0)], .vptr [chV cS mb] 0, pV (0, 0) 0, pV (0, 0) 0, .vptr [yV l] 0]) rfl rfl (Ad1 mb l) (TraceK.run rfl (by simp) (.done ⟨by kernel_rfl, by kernel_rfl, ?_⟩))
 refine A4 rfl (Tr.skip ?_)
 refine Tr.seq (A2 rfl (by simp) (Tr.block ?_))
 refine Az 1 (TrN.succ ?_)
 refine A2 rfl (by simp) (Tr.seq (A4 rfl (Tr.exit ?_)))
 exact A2 rfl (by simp) (A5 rfl rfl rfl rfl trivial)
theorem cy_nextB {mb : Nat} {L : KM} (hc : ClrP mb L L w1S) (l b6 : Nat) : CY Tryz.prog Aj l (Oz ysB) [] [(mb, gmO L)] [sB [(0, 0)], I 0, .vptr [offV mb l (10, 0) 3] 0, pV (10, 0) 3, .vptr [chV cS mb] 0, .rptr b6 0] (fun r ys stp B => ys = ysB ∧ B = [(mb, gmO L)]) := by
 have ko := Ac7 hc l
 refine A9f mixed Dh (by simp) fun S ok S1 hE => ?_
 refine A2 rfl (by simp) (Tr.seq (Tr.seq (A8 (TraceK.runN 2 rfl (by simp) (Px rfl (fun _ => rfl) A2k rfl (TraceK.run rfl (by simp) (.done ⟨by kernel_rfl, by kernel_rfl, ?_⟩)))))))
 refine Ln hE (F := []) (A1 := [(mb, gmO L)]) (ys := []) (us := [sB [(0, 0), (10, 0)], .vptr [chV cS mb] 0, pV (0, 0) 0, pV (10, 0) 3, .vptr [yV l] 0]) rfl rfl rfl rfl ko fun r ys' stp' B hB => ?_
 obtain ⟨rfl, rfl, rfl⟩ := hB
 refine Steps.fin rfl (by simp) ?_
 cases stp' with
 | true =>
   refine A6 rfl (A2 rfl (by simp) (Bg rfl rfl rfl ⟨_, ysB, rfl, rfl, rfl⟩))
 | false =>
   refine A4 rfl (Tr.skip ?_)
   refine Tr.seq (A2 rfl (by simp) (Tr.block ?_))
   refine Az 1 (TrN.succ ?_)
   refine A2 rfl (by simp) (Tr.seq (A4 rfl (Tr.exit ?_)))
   exact A2 rfl (by simp) (Bg rfl rfl rfl ⟨_, ysB, rfl, rfl, rfl⟩)
end
section
open Go.Am Go
attribute [local simp] cells Aa mkv Ag Ap under dem dem1 eB A7 B8 sB eF chV chC cruC D4 As eLeg legC eCru cS eSh Ds pasV yV pV offV
def restA (ys0 : List (List V)) (A : Arena) (ys : List (List V)) (stp : Bool) (B : Arena) : Prop := ys = ys0 ∧ ∃ D, B = D ++ A
theorem A0x {A : Arena} {b : Nat} {o o' : Ob} (h : b ∉ A.map (·.1)) : setA ((b, o) :: A) b o' = (b, o') :: A := by
 unfold setA
 rw [List.map_cons, if_pos rfl]
 congr 1
 have e : A.map (fun p => if p.1 = b then (b, o') else p) = A.map id := List.map_congr_left fun p hp => by
  rw [if_neg (fun e => h (List.mem_map.2 ⟨p, hp, e⟩))]; rfl
 rw [e, List.map_id]
theorem cy_pasA (mb l : Nat) (A : Arena) : CY Tryz.prog Bm l (Oz ysA) [] A [yV l, .vptr [chV cS mb] 0, pV (0, 0) 0, pV (0, 0) 0] (fun _ ys stp B => restA ysA A ys stp B) := by
 have ko := Ac8 mb l A
 refine A9f mixed E3 (by simp) fun S ok S1 hE => ?_
 refine A2 rfl (by simp) (A2 rfl (by simp) ?_)
 refine Tr.seq (Eh 6 rfl (by simp) ?_)
 refine Steps.on rfl rfl (Steps.runN 1 rfl (by simp) (Steps.on rfl rfl (Steps.runN 1 rfl (by simp) (Steps.on rfl rfl (Steps.runN 1 rfl (by simp) (Steps.on rfl rfl (Steps.runN 1 rfl (by simp) ?_)))))))
 refine Steps.on rfl rfl (Ln hE (F := []) (A1 := A) (ys := []) (us := [sB [(0, 0)], .vptr [chV cS mb] 0, pV (0, 0) 0, pV (0, 0) 0, .vptr [yV l] 0]) rfl rfl rfl rfl ko fun r ys' stp' B hB => ?_)
 obtain ⟨rfl, rfl, eB⟩ := hB
 have eB := eB.symm
 subst eB
 refine Steps.on rfl rfl (Steps.fin rfl (by cases stp' <;> simp) ?_)
 cases stp' with
 | true => exact A6 rfl (Bg rfl rfl rfl ⟨_, ysA, rfl, rfl, [], rfl⟩)
 | false =>
 refine A4 rfl (Tr.skip ?_)
 refine Tr.seq (Tr.reg (Steps.inA 1 rfl rfl (A := A) (ys := ysA) rfl (Cu (hE.inA ysA false) rfl fun b6 hb6 => ⟨(b6, .cells [.nilf]) :: A, rfl, ?_⟩)))
 have htop := A0x (o := Ob.cells [.nilf]) (o' := .cells [.func (.func Aj) [] [.vptr [offV mb l (0, 0) 0] 0, pV (0, 0) 0, .vptr [chV cS mb] 0, .rptr b6 0]]) hb6
 refine Tr.seq (Tr.reg (Steps.runN 1 rfl (by simp) (Yl (A9h (t := 21) rfl rfl) (Steps.inA 1 rfl rfl (A := (b6, .cells [.nilf]) :: A) (ys := ysA) rfl (Gw (hE.inA ysA false) rfl rfl List.mem_cons_self (by simp) rfl rfl ⟨(b6, .cells [.func (.func Aj) [] [.vptr [offV mb l (0, 0) 0] 0, pV (0, 0) 0, .vptr [chV cS mb] 0, .rptr b6 0]]) :: A, congrArg encA htop, ?_⟩)))))
 refine Tr.reg (Steps.inA 1 rfl rfl (A := (b6, .cells [.func (.func Aj) [] [.vptr [offV mb l (0, 0) 0] 0, pV (0, 0) 0, .vptr [chV cS mb] 0, .rptr b6 0]]) :: A) (ys := ysA) rfl (Bf (hE.inA ysA false) rfl rfl List.mem_cons_self rfl ⟨_, rfl, ?_⟩))
 refine Steps.runN 3 rfl (by simp) (Steps.callv (us := [sB [(0, 0)], I 0, .vptr [offV mb l (0, 0) 0] 0, pV (0, 0) 0, .vptr [chV cS mb] 0, .rptr b6 0]) rfl rfl (c_nextA mb l b6) ?_)
 exact ⟨_, ⟨_, ysA, rfl, rfl, [_], rfl⟩, _, _, _, C2 rfl, rfl, rfl⟩
theorem cy_pasB {mb : Nat} {L : KM} (hc : ClrP mb L L w1S) (l : Nat) : CY Tryz.prog Bm l (Oz ysB) [] [(mb, gmO L)] [yV l, .vptr [chV cS mb] 0, pV (0, 0) 0, pV (10, 0) 3] (fun _ ys stp B => restA ysB [(mb, gmO L)] ys stp B) := by
 refine A9f mixed E3 (by simp) fun S ok S1 hE => ?_
 obtain ⟨A, hAA⟩ : ∃ A : Arena, [(mb, gmO L)] = A := ⟨_, rfl⟩
 rw [hAA]
 refine A2 rfl (by simp) (A2 rfl (by simp) ?_)
 refine Tr.seq (Eh 6 rfl (by simp) ?_)
 refine Steps.off (.bool true) rfl rfl rfl (Steps.off (.bool true) rfl rfl rfl (Steps.off (.bool true) rfl rfl rfl (Steps.off (.bool true) rfl rfl rfl (Steps.off (.bool true) rfl rfl rfl (Steps.off (.bool true) rfl rfl rfl (Steps.fin rfl (by simp) ?_))))))
 refine A4 rfl (Tr.skip ?_)
 refine Tr.seq (Tr.reg (Steps.inA 1 rfl rfl (A := A) (ys := []) rfl (Cu (hE.inA [] false) rfl fun b6 hb6 => ⟨(b6, .cells [.nilf]) :: A, rfl, ?_⟩)))
 have htop := A0x (o := Ob.cells [.nilf]) (o' := .cells [.func (.func Aj) [] [.vptr [offV mb l (10, 0) 3] 0, pV (10, 0) 3, .vptr [chV cS mb] 0, .rptr b6 0]]) hb6
 refine Tr.seq (Tr.reg (Steps.runN 1 rfl (by simp) (Yl (A9h (t := 21) rfl rfl) (Steps.inA 1 rfl rfl (A := (b6, .cells [.nilf]) :: A) (ys := []) rfl (Gw (hE.inA [] false) rfl rfl List.mem_cons_self (by simp) rfl rfl ⟨(b6, .cells [.func (.func Aj) [] [.vptr [offV mb l (10, 0) 3] 0, pV (10, 0) 3, .vptr [chV cS mb] 0, .rptr b6 0]]) :: A, congrArg encA htop, ?_⟩)))))
 refine Tr.reg (Steps.inA 1 rfl rfl (A := (b6, .cells [.func (.func Aj) [] [.vptr [offV mb l (10, 0) 3] 0, pV (10, 0) 3, .vptr [chV cS mb] 0, .rptr b6 0]]) :: A) (ys := []) rfl (Bf (hE.inA [] false) rfl rfl List.mem_cons_self rfl ⟨_, rfl, ?_⟩))
 have kn := cy_nextB hc l b6
 rw [hAA] at kn
 refine Steps.runN 3 rfl (by simp) (Ln hE (F := [(b6, .cells [.func (.func Aj) [] [.vptr [offV mb l (10, 0) 3] 0, pV (10, 0) 3, .vptr [chV cS mb] 0, .rptr b6 0]])]) (A1 := A) (ys := []) (us := [sB [(0, 0)], I 0, .vptr [offV mb l (10, 0) 3] 0, pV (10, 0) 3, .vptr [chV cS mb] 0, .rptr b6 0]) rfl rfl rfl rfl kn fun r ys' stp' B hB => ?_)
 obtain ⟨rfl, eB⟩ := hB
 have eB := eB.symm
 subst eB
 exact ⟨_, ⟨_, ysB, rfl, rfl, [_], rfl⟩, _, _, _, C2 rfl, rfl, rfl⟩
theorem Ya (mb : Nat) (a b : Int × Int) (oa ob : Int) : C Tryz.prog Js [chV cS mb, Ds a oa, Ds b ob] (.func (.func Bm) [] [.vptr [chV cS mb] 0, pV a oa, pV b ob]) := by
 refine C_of mixed Ia (by simp) fun S ok => ?_
 exact A2 rfl (by simp) (A2 rfl (by simp) (A5 rfl rfl rfl rfl trivial))
end
section
open Go.Am Go
attribute [local simp] cells Aa mkv Ag Ap under dem dem1 eB A7 B8 sB eF chV chC cruC D4 As eLeg legC eCru cS eSh Ds pasV yV pV offV
theorem A25 {A : Arena} {p : List (Int × Int)} {n : Int} {it : FuncId} {us : List V} (hus : Plain us)
  (hit : ∀ l, CY Tryz.prog it l (Oz [[pasV p n]]) [] A (yV l :: us) (fun _ ys stp B => restA [[pasV p n]] A ys stp B)) :
  CX Tryz.prog Gj A [] [.func (.func it) [] us, .func (.func Bs) [] []] (fun r B => (∃ D, B = D ++ A) ∧ r = .tuple [pasV p n, .bool true]) := by
 refine A74 mixed Fq (by simp) fun S1 ok1 => ?_
 refine A2 rfl (by simp) ?_
 refine Tr.weak (s' := ⟨[(0, .func (.func it) [] us), (3, .ptr 3 0), (4, .ptr 4 0), (5, .ptr 5 0)], [(3, ⟨[.func (.func Bs) [] []], false⟩), (4, ⟨[.nils, I 0], false⟩), (5, ⟨[.bool false], false⟩)], [], encA A, false⟩)
  (Ab (.k rfl (.k rfl (.k rfl (.k rfl .nil)))) (.k rfl (.k rfl (.k rfl .nil))) .nil (by simp only [Ec, List.all_cons, Bq hus]; rfl) rfl) ?_
 refine Tr.seq (A2 rfl (by simp) (Tr.block ?_))
 refine Tr.weak (s' := ⟨[(7, .func (.func it) [] us), (3, .ptr 3 0), (4, .ptr 4 0), (5, .ptr 5 0)], [(3, ⟨[.func (.func Bs) [] []], false⟩), (4, ⟨[.nils, I 0], false⟩), (5, ⟨[.bool false], false⟩)], [], encA A, false⟩)
  (Ab (.k rfl (.k rfl (.k rfl (.k rfl .nil)))) (.k rfl (.k rfl (.k rfl .nil))) .nil (by simp only [Ec, List.all_cons, Bq hus]; rfl) rfl) ?_
 refine A2x (F := []) (A1 := A) rfl ok1 rfl (hus.d _) rfl hit rfl (by simp only [List.all_cons, Bq hus]; rfl) rfl (by
   intro pre x hx
   have := List.IsPrefix.length_le hx
   obtain ⟨t, ht⟩ := hx
   rcases pre with _ | ⟨a, pre⟩
   ·simp at ht; rw [ht.1]; rfl
   ·simp at this)
  (fun pre t => t.bx = (if pre = [] then [(3, ⟨[.func (.func Bs) [] []], false⟩), (4, ⟨[.nils, I 0], false⟩), (5, ⟨[.bool false], false⟩)] else [(3, ⟨[.func (.func Bs) [] []], false⟩), (4, ⟨[sB p, I n], false⟩), (5, ⟨[.bool true], false⟩)]) ∧ t.rw = [] ∧ t.log = encA [])
  (fun e t => False) ⟨rfl, rfl, rfl⟩ ?_ ?_ ?_
 ·rintro a0 L0 rc0 h0 T1 T2 okT1 okT2 pre q t lp hpre ⟨hbx, hrw, hlog⟩ henv hstp
  obtain ⟨env, bx, rw, log, stp⟩ := t
  simp only at hbx hrw hlog henv hstp
  obtain ⟨rfl, rfl⟩ : pre = [] ∧ q = [pasV p n] := by
   have hl := List.IsPrefix.length_le hpre
   obtain ⟨u, hu⟩ := hpre
   rcases pre with _ | ⟨a, pre⟩
   ·simp at hu; exact ⟨rfl, hu.1⟩
   ·simp at hl
  rw [if_pos rfl] at hbx
  subst hbx hrw hlog henv hstp
  refine A9 rfl (by simp) ?_
  refine Tr.block (Tr.seq (Tr.reg (Steps.runN 6 rfl (by simp) (Steps.off (.bool true) rfl rfl rfl (Steps.fin rfl (by simp) ?_)))))
  refine A6 rfl (A9 rfl (by simp) ?_)
  exact ⟨⟨[], [(3, ⟨[.func (.func Bs) [] []], false⟩), (4, ⟨[sB p, I n], false⟩), (5, ⟨[.bool true], false⟩)], [], encA [], false⟩, Bz .nil (.k rfl (.k rfl (.k rfl .nil))) .nil rfl rfl rfl, ⟨rfl, rfl, rfl⟩, rfl⟩
 ·rintro t log B F' hlt ⟨rfl, D, rfl⟩ henv hstp ⟨hbx, hrw, hlog⟩
  obtain ⟨env, bx, rw, log, stp⟩ := t
  simp only at hbx hrw hlog henv hstp hlt
  obtain rfl := C3 (hlt.symm.trans hlog)
  rw [if_neg (by simp)] at hbx
  subst hbx hrw henv hstp
  show Tr _ _ _ _ _
  refine Tr.seq (A8 (TraceK.run rfl (by simp) (.done ⟨by kernel_rfl, by kernel_rfl, ?_⟩)))
  exact Bg rfl rfl rfl ⟨_, rfl, ⟨D, rfl⟩, rfl⟩
 ·rintro e t log B F' hlt hΦ henv h
  exact h.elim
end
section
open Go.Am Go
attribute [local simp] cells Aa mkv Ag Ap under dem dem1 eB A7 B8 sB eF chV chC cruC D4 As eLeg legC eCru cS eSh Ds pasV yV pV offV
theorem cx_bestA (mb : Nat) (A : Arena) : CX Tryz.prog Ey A [] [chV cS mb, Ds (0, 0) 0, Ds (0, 0) 0] (fun r B => (∃ D, B = D ++ A) ∧ r = .tuple [pasV [(0, 0)] 0, .bool true]) := by
 have kf := A25 (A := A) (p := [(0, 0)]) (n := 0) (it := Bm) (us := [.vptr [chV cS mb] 0, pV (0, 0) 0, pV (0, 0) 0]) ⟨fun b => rfl, fun B R => rfl⟩ (fun l => cy_pasA mb l A)
 refine J0 mixed G9 (by simp) fun S ok S1 hA hK hKD => ?_
 refine A2 rfl (by simp) (Tr.seq (Tr.reg (Steps.runN 3 rfl (by simp) (Steps.call rfl rfl (Ya mb (0, 0) (0, 0) 0 0) (Ak (F := []) hA rfl rfl rfl kf (.inl (by simp)) fun r B hB => ?_)))))
 obtain ⟨⟨D, rfl⟩, rfl⟩ := hB
 refine Steps.fin rfl (by simp) (Bg rfl rfl rfl ⟨_, rfl, ⟨D, rfl⟩, rfl⟩)
theorem cx_bestB {mb : Nat} {L : KM} (hc : ClrP mb L L w1S) : CX Tryz.prog Ey [(mb, gmO L)] [] [chV cS mb, Ds (0, 0) 0, Ds (10, 0) 3] (fun r B => (∃ D, B = D ++ [(mb, gmO L)]) ∧ r = .tuple [pasV [(0, 0), (10, 0)] 14, .bool true]) := by
 have kf := A25 (A := [(mb, gmO L)]) (p := [(0, 0), (10, 0)]) (n := 14) (it := Bm) (us := [.vptr [chV cS mb] 0, pV (0, 0) 0, pV (10, 0) 3]) ⟨fun b => rfl, fun B R => rfl⟩ (fun l => cy_pasB hc l)
 refine J0 mixed G9 (by simp) fun S ok S1 hA hK hKD => ?_
 refine A2 rfl (by simp) (Tr.seq (Tr.reg (Steps.runN 3 rfl (by simp) (Steps.call rfl rfl (Ya mb (0, 0) (10, 0) 0 3) (Ak (F := []) hA rfl rfl rfl kf (.inl (by simp)) fun r B hB => ?_)))))
 obtain ⟨⟨D, rfl⟩, rfl⟩ := hB
 refine Steps.fin rfl (by simp) (Bg rfl rfl rfl ⟨_, rfl, ⟨D, rfl⟩, rfl⟩)
def gk2 : GK Tryz.prog 129 6 (.int .i64 0) := GK_of (kt := 197) (e := 3) (by kernel_rfl) (by kernel_rfl) (by kernel_rfl)
end
section
open Go.Am Go
attribute [local simp] cells Aa mkv Ag Ap under dem dem1 eB A7 B8 sB eF chV chC cruC D4 As eLeg legC eCru cS eSh Ds pasV yV pV offV
def Dq (cb mb : Nat) : List V := [chV cS mb, .rmap cb]
def H2 (cb mb : Nat) : V := .agg (Dq cb mb)
def eRe (p : Int × Int) (o s : Int) : V := .agg [I p.1, I p.2, I o, I s]
attribute [local simp] Dq H2 eRe
def keyC (pa : Int × Int) (oa : Int) : List Int := [0, 0, 0, pa.1, pa.2, oa]
def arP (cb mb : Nat) (Kc L : KM) : Arena := [(cb, gmO Kc), (mb, gmO L)]
theorem A6p {cb mb : Nat} {Kc L L' : KM} {i w n oa : Int} {pa T : Int × Int} {r2 : V} {p : List (Int × Int)} (hends : C Tryz.prog Ew [chV cS mb, eSh i w] (.tuple [Ds pa oa, r2])) (h2 : ∃ q o, r2 = Ds q o)
  (hbest : CX Tryz.prog Ey [(mb, gmO L)] [] [chV cS mb, Ds (0, 0) 0, Ds pa oa] (fun r B => (∃ D, B = D ++ [(mb, gmO L)]) ∧ r = .tuple [pasV p n, .bool true]))
  (hshot : CX Tryz.prog De [(mb, gmO L)] [] [chV cS mb, eSh i w, I n] (fun r B => B = [(mb, gmO L')] ∧ r = .tuple [eB T, .bool true]))
  (hn : 0 ≤ n ∧ n < 1000) (hin : gmOk 6 Kc) (hkk : (keyC pa oa).length = 6 ∧ ∀ a ∈ keyC pa oa, inI a) (hnew : ∀ q ∈ Kc, q.1 ≠ keyC pa oa) :
  CX Tryz.prog C7 (arP cb mb Kc L) [] [H2 cb mb, eRe (0, 0) 0 0, eSh i w] (fun r B => B = arP cb mb (Kc ++ [(keyC pa oa, .int .i64 n)]) L' ∧ r = .tuple [eB T, .bool true]) := by
 obtain ⟨q2, o2, rfl⟩ := h2
 have kv : C Tryz.prog Hj [Ds (0, 0) 0] (.bool true) := Acq _ _
 refine J0 mixed Gk (by simp) fun S ok S1 hA hK hKD => ?_
 refine Tr.nd hA rfl fun hnd => ?_
 have hne : mb ≠ cb := by
  simp only [arP, List.map_cons, List.map_nil, List.nodup_cons, List.mem_cons, List.not_mem_nil, or_false] at hnd
  exact fun e => hnd.1 e.symm
 clear hnd
 have hset : ∀ o L, setA (arP cb mb Kc L) cb o = [(cb, o), (mb, gmO L)] := fun o L => by simp [setA, arP, hne]
 refine A2 rfl (by simp) (A3 rfl (by simp) (Steps.call rfl rfl hends (Steps.fin rfl (by simp) ?_)))
 refine A2 rfl (by simp) ?_
 refine Tr.seq (Tr.reg (Steps.runN 3 rfl (by simp) (Vl hA (A := arP cb mb Kc L) (mb := cb) (k := keyC pa oa) (v := I 0) (xv := .int .i64 0) (b := false) rfl rfl (by simp [arP]) (fun w hb => A0z gk2 hb hin hkk hnew) (fun w φ => .int _ _) (Steps.fin rfl (by simp) ?_))))
 refine Tr.seq (A2 rfl (by simp) (A6 rfl (A2 rfl (by simp) ?_)))
 refine Tr.seq (A3 rfl (by simp) (Steps.call rfl rfl kv (Steps.fin rfl (by simp) (A6 rfl ?_))))
 refine Tr.seq (Tr.reg (Steps.runN 5 rfl (by simp) (Ak (F := [(cb, gmO Kc)]) (A1 := [(mb, gmO L)]) hA rfl rfl rfl hbest (.inl (by simp)) fun r B hB => ?_)))
 obtain ⟨⟨D, rfl⟩, rfl⟩ := hB
 refine Steps.fin rfl (by simp) ?_
 refine A2 rfl (by simp) (A6 rfl (A9 rfl (by simp) ?_))
 refine Tr.weak (Wk.sub hA (A := [(cb, gmO Kc)] ++ (D ++ [(mb, gmO L)])) (B := arP cb mb Kc L) (D := D) rfl (by
  show List.Perm ([(cb, gmO Kc)] ++ (D ++ [(mb, gmO L)])) ([(cb, gmO Kc), (mb, gmO L)] ++ D)
  classical exact List.perm_iff_count.2 fun x => by simp only [List.count_append, List.count_cons, List.count_nil]; omega)) ?_
 refine Tr.reg (Steps.runN 4 rfl (by simp) (Re hA (A := arP cb mb Kc L) gk2 (keyC pa oa) (.int .i64 n) rfl rfl (by simp [arP]) hin hkk hnew (fun w φ x hx => by cases hx; rfl) rfl ?_))
 rw [hset]
 refine Steps.fin rfl trivial ?_
 have hn0 : decide (n < 0) = false := decide_eq_false (by omega)
 refine Tr.seq (Eh 2 rfl (by simp) ?_)
 rw [hn0]
 refine Steps.fin rfl trivial (A4 rfl (Tr.skip ?_))
 refine Tr.seq (Tr.reg (Steps.runN 7 rfl (by simp) ?_))
 rw [show IntKind.i64.wrap (0 + n) = n from by rw [Int.zero_add, w64 (by omega) (by omega)]]
 refine Ak (F := [(cb, gmO (Kc ++ [(keyC pa oa, .int .i64 n)]))]) (A1 := [(mb, gmO L)]) hA rfl rfl rfl hshot (.inl (by simp)) fun r B hB => ?_
 obtain ⟨rfl, rfl⟩ := hB
 refine Steps.fin rfl (by simp) (Bg rfl rfl rfl ⟨_, rfl, rfl, rfl⟩)
end
section
open Go.Am Go
attribute [local simp] cells Aa mkv Ag Ap under dem dem1 eB A7 B8 sB eF chV chC cruC D4 As eLeg legC eCru cS eSh Ds pasV yV pV offV Dq H2 eRe
theorem cx_goesH {cb mb : Nat} {Kc L : KM} (hshot : CX Tryz.prog De [(mb, gmO L)] [] [chV cS mb, eSh 0 0, I 0] (fun r B => B = [(mb, gmO L)] ∧ r = .tuple [eB (7, 12), .bool true]))
  (hin : gmOk 6 Kc) (hm : (keyC (0, 0) 0, .int .i64 0) ∈ Kc) (hone : ∀ q ∈ Kc, q.1 = keyC (0, 0) 0 → q.2 = .int .i64 0) :
  CX Tryz.prog C7 (arP cb mb Kc L) [] [H2 cb mb, eRe (0, 0) 0 0, eSh 0 0] (fun r B => B = arP cb mb Kc L ∧ r = .tuple [eB (7, 12), .bool true]) := by
 refine J0 mixed Gk (by simp) fun S ok S1 hA hK hKD => ?_
 refine A2 rfl (by simp) (A3 rfl (by simp) (Steps.call rfl rfl (A4u mb) (Steps.fin rfl (by simp) ?_)))
 refine A2 rfl (by simp) ?_
 refine Tr.seq (Tr.reg (Steps.runN 3 rfl (by simp) (Vl hA (A := arP cb mb Kc L) (mb := cb) (k := keyC (0, 0) 0) (v := I 0) (xv := .int .i64 0) (b := true) rfl rfl (by simp [arP]) (fun w hb => A5q gk2 hb hin hm hone) (fun w φ => .int _ _) (Steps.fin rfl (by simp) ?_))))
 refine Tr.seq (A2 rfl (by simp) (A4 rfl (Tr.skip ?_)))
 refine Tr.seq (A2 rfl (by simp) (A4 rfl (Tr.skip ?_)))
 refine Tr.seq (Tr.reg (Steps.runN 7 rfl (by simp) (Ak (F := [(cb, gmO Kc)]) (A1 := [(mb, gmO L)]) hA rfl rfl rfl hshot (.inl (by simp)) fun r B hB => ?_)))
 obtain ⟨rfl, rfl⟩ := hB
 refine Steps.fin rfl (by simp) (Bg rfl rfl rfl ⟨_, rfl, rfl, rfl⟩)
theorem Acv (cb mb : Nat) : C Tryz.prog Or [H2 cb mb] (eRe (0, 0) 0 0) := by
 refine C_of mixed Lf (by simp) fun S ok => ?_
 exact A2 rfl (by simp) (A2 rfl (by simp) (A5 rfl rfl rfl rfl trivial))
theorem c_after (cb mb : Nat) : C Tryz.prog Ot [H2 cb mb, eSh 0 0, I 12] (eRe (10, 0) 0 12) := by
 refine C_of mixed Lg (by simp) fun S ok => ?_
 refine A2 rfl (by simp) (A3 rfl (by simp) (Steps.call rfl rfl (A4u mb) (Steps.fin rfl (by simp) ?_)))
 exact A2 rfl (by simp) (A5 rfl rfl rfl rfl trivial)
theorem A6v (cb mb : Nat) : C Tryz.prog Hk [H2 cb mb, I 1, eSh 0 0] (I 2) := by
 refine C_of mixed G6 (by simp) fun S ok => ?_
 refine A2 rfl (by simp) (Tr.seq (A8 (TraceK.run rfl (by simp) (.done ⟨by kernel_rfl, by kernel_rfl, ?_⟩))))
 exact A5 rfl rfl rfl rfl trivial
theorem A6u (cb mb : Nat) : C Tryz.prog Hk [H2 cb mb, I 1, eSh 0 1] (I 3) := by
 refine C_of mixed G6 (by simp) fun S ok => ?_
 refine A2 rfl (by simp) (Tr.seq (A8 (TraceK.run rfl (by simp) (.done ⟨by kernel_rfl, by kernel_rfl, ?_⟩))))
 exact A5 rfl rfl rfl rfl trivial
def plP (cb mb : Nat) : V := .vptr (Dq cb mb) 0
attribute [local simp] plP
theorem Te (cb mb : Nat) (n : Int) : C Tryz.prog N7 [H2 cb mb, I n] (.func (.func B9) [] [plP cb mb, .vptr [I n] 0]) := by
 refine C_of mixed K8 (by simp) fun S ok => ?_
 exact A2 rfl (by simp) (A2 rfl (by simp) (A5 rfl rfl rfl rfl trivial))
end
section
open Go.Am Go
attribute [local simp] cells Aa mkv Ag Ap under dem dem1 eB A7 B8 sB eF chV chC cruC D4 As eLeg legC eCru cS eSh Ds pasV yV pV offV Dq H2 eRe plP
theorem bit0 : (A2q BinOp.and IntKind.i64 0 (IntKind.i64.wrap (1 * 2 ^ min (Int.toNat 0) IntKind.i64.bits)) != 0) = false := by decide
theorem bit1 : (A2q BinOp.and IntKind.i64 1 (IntKind.i64.wrap (1 * 2 ^ min (Int.toNat 0) IntKind.i64.bits)) != 0) = true := by decide
theorem Abb (cb mb : Nat) : Iter Tryz.prog B9 [plP cb mb, .vptr [I 0] 0] [] := by
 refine Oi mixed F2 (by simp) fun S ok => ?_
 refine A2 rfl (by simp) (Tr.block ?_)
 refine Az 2 (TrN.succ ?_)
 refine Tr.weak (s' := ⟨[(0, .yld), (1, plP cb mb), (2, .vptr [I 0] 0), (12, I 1), (13, I 0)], [], [], [], false⟩) (Ab (.k rfl (.k rfl (.k rfl (.cons rfl (VLe.i rfl) (.cons rfl (VLe.i rfl) .nil))))) .nil .nil rfl rfl) ?_
 refine A2 rfl (by simp) (Tr.seq (A6 rfl (Tr.skip (Tr.seq (Tr.block (A2 rfl (by simp) (A2 rfl (by simp) (Tr.block ?_))))))))
 refine Az 3 (TrN.succ ?_)
 refine Tr.weak (s' := ⟨[(0, .yld), (1, plP cb mb), (2, .vptr [I 0] 0), (4, I 0), (12, I 1), (13, I 0), (16, I 0)], [], [], [], false⟩) (Ab (.k rfl (.k rfl (.k rfl (.cons rfl (VLe.i rfl) (.cons rfl (VLe.i rfl) (.cons rfl (VLe.i rfl) (.cons rfl (VLe.i rfl) .nil))))))) .nil .nil rfl rfl) ?_
 refine A2 rfl (by simp) (Tr.seq (A6 rfl (Tr.skip (Tr.seq (Tr.block (A2 rfl (by simp) (Tr.seq ?_)))))))
 refine A8 (TraceK.runN 5 rfl (by simp) ?_)
 rw [bit0]
 refine TraceK.runN 5 rfl (by simp) (TraceK.off (.bool true) rfl rfl (TraceK.run rfl (by simp) (.done ⟨by kernel_rfl, by kernel_rfl, ?_⟩)))
 refine A4 rfl (Tr.skip (A9 rfl (by simp) (TrN.succ ?_)))
 refine Tr.weak (s' := ⟨[(0, .yld), (1, plP cb mb), (2, .vptr [I 0] 0), (4, I 0), (12, I 1), (13, I 0), (16, I 1)], [], [], [], false⟩) (Ab (.k rfl (.k rfl (.k rfl (.cons rfl (VLe.i rfl) (.cons rfl (VLe.i rfl) (.cons rfl (VLe.i rfl) (.cons rfl (VLe.i rfl) .nil))))))) .nil .nil rfl rfl) ?_
 refine A2 rfl (by simp) (Tr.seq (A6 rfl (Tr.skip (Tr.seq (Tr.block (A2 rfl (by simp) (Tr.seq ?_)))))))
 refine A8 (TraceK.runN 5 rfl (by simp) ?_)
 rw [bit0]
 refine TraceK.runN 5 rfl (by simp) (TraceK.off (.bool true) rfl rfl (TraceK.run rfl (by simp) (.done ⟨by kernel_rfl, by kernel_rfl, ?_⟩)))
 refine A4 rfl (Tr.skip (A9 rfl (by simp) (TrN.succ ?_)))
 refine Tr.weak (s' := ⟨[(0, .yld), (1, plP cb mb), (2, .vptr [I 0] 0), (4, I 0), (12, I 1), (13, I 0), (16, I 2)], [], [], [], false⟩) (Ab (.k rfl (.k rfl (.k rfl (.cons rfl (VLe.i rfl) (.cons rfl (VLe.i rfl) (.cons rfl (VLe.i rfl) (.cons rfl (VLe.i rfl) .nil))))))) .nil .nil rfl rfl) ?_
 refine A2 rfl (by simp) (Tr.seq (A4 rfl (Tr.exit ?_)))
 refine A9 rfl (by simp) (TrN.succ ?_)
 refine Tr.weak (s' := ⟨[(0, .yld), (1, plP cb mb), (2, .vptr [I 0] 0), (12, I 1), (13, I 1)], [], [], [], false⟩) (Ab (.k rfl (.k rfl (.k rfl (.cons rfl (VLe.i rfl) (.cons rfl (VLe.i rfl) .nil))))) .nil .nil rfl rfl) ?_
 refine A2 rfl (by simp) (Tr.seq (A4 rfl (Tr.exit ?_)))
 exact ⟨.inr rfl, [], [], [], rfl, rfl, rfl⟩
theorem Up (cb mb : Nat) : Iter Tryz.prog B9 [plP cb mb, .vptr [I 1] 0] [[eSh 0 0], [eSh 0 1]] := by
 refine Oi mixed F2 (by simp) fun S ok => ?_
 refine A2 rfl (by simp) (Tr.block ?_)
 refine Az 2 (TrN.succ ?_)
 refine Tr.weak (s' := ⟨[(0, .yld), (1, plP cb mb), (2, .vptr [I 1] 0), (12, I 1), (13, I 0)], [], [], [], false⟩) (Ab (.k rfl (.k rfl (.k rfl (.cons rfl (VLe.i rfl) (.cons rfl (VLe.i rfl) .nil))))) .nil .nil rfl rfl) ?_
 refine A2 rfl (by simp) (Tr.seq (A6 rfl (Tr.skip (Tr.seq (Tr.block (A2 rfl (by simp) (A2 rfl (by simp) (Tr.block ?_))))))))
 refine Az 3 (TrN.succ ?_)
 refine Tr.weak (s' := ⟨[(0, .yld), (1, plP cb mb), (2, .vptr [I 1] 0), (4, I 0), (12, I 1), (13, I 0), (16, I 0)], [], [], [], false⟩) (Ab (.k rfl (.k rfl (.k rfl (.cons rfl (VLe.i rfl) (.cons rfl (VLe.i rfl) (.cons rfl (VLe.i rfl) (.cons rfl (VLe.i rfl) .nil))))))) .nil .nil rfl rfl) ?_
 refine A2 rfl (by simp) (Tr.seq (A6 rfl (Tr.skip (Tr.seq (Tr.block (A2 rfl (by simp) (Tr.seq ?_)))))))
 refine A8 (TraceK.runN 5 rfl (by simp) ?_)
 rw [bit1]
 refine TraceK.runN 5 rfl (by simp) (.done ⟨by kernel_rfl, by kernel_rfl, ?_⟩)
 refine Hy rfl rfl rfl rfl (by simp [allU]) rfl (by exact ⟨[[eSh 0 1]], rfl⟩) rfl fun b => ?_
 refine Steps.fin rfl (by cases b <;> simp) ?_
 cases b with
 | false =>
   refine A6 rfl ?_
   exact Tr.ret ⟨.inl rfl, [], [], [], rfl, rfl, rfl⟩
 | true =>
 refine A4 rfl (Tr.skip (A9 rfl (by simp) (TrN.succ ?_)))
 refine Tr.weak (s' := ⟨[(0, .yld), (1, plP cb mb), (2, .vptr [I 1] 0), (4, I 0), (12, I 1), (13, I 0), (16, I 1)], [], [], [[eSh 0 0]], false⟩) (Bz (.k rfl (.k rfl (.k rfl (.cons rfl (VLe.i rfl) (.cons rfl (VLe.i rfl) (.cons rfl (VLe.i rfl) (.cons rfl (VLe.i rfl) .nil))))))) .nil .nil rfl rfl rfl) ?_
 refine A2 rfl (by simp) (Tr.seq (A6 rfl (Tr.skip (Tr.seq (Tr.block (A2 rfl (by simp) (Tr.seq ?_)))))))
 refine A8 (TraceK.runN 5 rfl (by simp) ?_)
 rw [bit1]
 refine TraceK.runN 5 rfl (by simp) (.done ⟨by kernel_rfl, by kernel_rfl, ?_⟩)
 refine Hy rfl rfl rfl rfl (by simp [allU]) rfl (by exact ⟨[], rfl⟩) rfl fun b => ?_
 refine Steps.fin rfl (by cases b <;> simp) ?_
 cases b with
 | false =>
   refine A6 rfl ?_
   exact Tr.ret ⟨.inl rfl, [], [], [], rfl, rfl, rfl⟩
 | true =>
 refine A4 rfl (Tr.skip (A9 rfl (by simp) (TrN.succ ?_)))
 refine Tr.weak (s' := ⟨[(0, .yld), (1, plP cb mb), (2, .vptr [I 1] 0), (4, I 0), (12, I 1), (13, I 0), (16, I 2)], [], [], [[eSh 0 0], [eSh 0 1]], false⟩) (Bz (.k rfl (.k rfl (.k rfl (.cons rfl (VLe.i rfl) (.cons rfl (VLe.i rfl) (.cons rfl (VLe.i rfl) (.cons rfl (VLe.i rfl) .nil))))))) .nil .nil rfl rfl rfl) ?_
 refine A2 rfl (by simp) (Tr.seq (A4 rfl (Tr.exit ?_)))
 refine A9 rfl (by simp) (TrN.succ ?_)
 refine Tr.weak (s' := ⟨[(0, .yld), (1, plP cb mb), (2, .vptr [I 1] 0), (12, I 1), (13, I 1)], [], [], [[eSh 0 0], [eSh 0 1]], false⟩) (Bz (.k rfl (.k rfl (.k rfl (.cons rfl (VLe.i rfl) (.cons rfl (VLe.i rfl) .nil))))) .nil .nil rfl rfl rfl) ?_
 refine A2 rfl (by simp) (Tr.seq (A4 rfl (Tr.exit ?_)))
 exact ⟨.inr rfl, [], [], [], rfl, rfl, rfl⟩
end
section
open Go.Am Go
attribute [local simp] cells Aa mkv Ag Ap under dem dem1 eB A7 B8 sB eF chV chC cruC D4 As eLeg legC eCru cS eSh Ds pasV yV pV offV Dq H2 eRe plP
def shP (w : Int) : V := .vptr [I 0, I w] 0
def tbV (tb : Nat) : V := .sref tb 0 4 4
attribute [local simp] shP tbV
theorem bitN : (A2q BinOp.andNot IntKind.i64 1 (IntKind.i64.wrap (1 * 2 ^ min (Int.toNat 0) IntKind.i64.bits))) = 0 := by decide
theorem c_before (cb mb tb : Nat) (w : Int) : C Tryz.prog N8 [H2 cb mb, tbV tb, I 1, eSh 0 w] (.func (.func Cn) [] [.vptr [I 1] 0, shP w, plP cb mb, .vptr [tbV tb] 0]) := by
 refine C_of mixed K9 (by simp) fun S ok => ?_
 exact A2 rfl (by simp) (A2 rfl (by simp) (A5 rfl rfl rfl rfl trivial))
theorem i_before (cb mb tb : Nat) (w : Int) : Iter Tryz.prog Cn [.vptr [I 1] 0, shP w, plP cb mb, .vptr [tbV tb] 0] [[eRe (0, 0) 0 0]] := by
 refine Oi mixed It (by simp) fun S ok => ?_
 refine A2 rfl (by simp) ?_
 refine Tr.seq (A8 (TraceK.runN 5 rfl (by simp) ?_))
 rw [bitN]
 refine TraceK.run rfl (by simp) (.done ⟨by kernel_rfl, by kernel_rfl, ?_⟩)
 refine Tr.seq (A2 rfl (by simp) (A6 rfl ?_))
 refine Tr.seq (A8 (TraceK.run rfl (by simp) (TraceK.call rfl rfl (Acv cb mb) (.done ⟨by kernel_rfl, by kernel_rfl, ?_⟩))))
 refine Steps.yield rfl trivial rfl (List.prefix_refl _) rfl fun b => ?_
 refine Steps.fin rfl trivial ?_
 exact Tr.ret ⟨.inr rfl, [], [], [], rfl, rfl, rfl⟩
theorem Yd (cb mb tb : Nat) (w : Int) : C Tryz.prog Kd [H2 cb mb, tbV tb, I 1, eSh 0 w] (.func (.func C8) [] [plP cb mb, .vptr [tbV tb] 0, .vptr [I 1] 0, shP w]) := by
 refine C_of mixed Is (by simp) fun S ok => ?_
 exact A2 rfl (by simp) (A2 rfl (by simp) (A5 rfl rfl rfl rfl trivial))
theorem V4 {cb mb tb : Nat} {Kc L Kc' L' : KM} {w t0 e : Int} (hg : CX Tryz.prog C7 (arP cb mb Kc L) [] [H2 cb mb, eRe (0, 0) 0 0, eSh 0 w] (fun r B => B = arP cb mb Kc' L' ∧ r = .tuple [eB (t0, e), .bool true])) (l : Nat) :
  CY Tryz.prog C8 l (Oz [[I e]]) [] (arP cb mb Kc L) [yV l, plP cb mb, .vptr [tbV tb] 0, .vptr [I 1] 0, shP w] (fun _ ys stp B => ys = [[I e]] ∧ B = arP cb mb Kc' L') := by
 refine A9f mixed Hp (by simp) fun S ok S1 hE => ?_
 refine A2 rfl (by simp) ?_
 refine A3 rfl (by simp) (Steps.call rfl rfl (c_before cb mb tb w) (Steps.fin rfl (by simp) (Tr.block ?_)))
 refine Tr.weak (s' := ⟨[(13, .func (.func Cn) [] [.vptr [I 1] 0, shP w, plP cb mb, .vptr [tbV tb] 0]), (1, plP cb mb), (4, shP w), (5, .ptr 5 0)], [(5, ⟨[yV l], false⟩)], [], encA (arP cb mb Kc L) ++ [], false⟩)
  (Bz (.k rfl (.k rfl (.k rfl (.k rfl .nil)))) (.k rfl .nil) .nil rfl rfl rfl) ?_
 refine Tr.range (us := [.vptr [I 1] 0, shP w, plP cb mb, .vptr [tbV tb] 0]) rfl rfl (i_before cb mb tb w) rfl rfl rfl (by intro x hx; rw [List.mem_singleton.1 hx]; rfl)
  (fun pre t => t.bx = [(5, ⟨[yV l], false⟩)] ∧ t.rw = [] ∧ t.log = (if pre = [] then encA (arP cb mb Kc L) ++ [] else encA (arP cb mb Kc' L') ++ [[I e]]))
  (fun x t => x = .ret ∧ t.log = encA (arP cb mb Kc' L') ++ [[I e]]) ⟨rfl, rfl, rfl⟩ ?_ ?_ ?_
 ·rintro a0 L0 rc0 h0 T1 T2 okT1 okT2 pre q t lp hpre ⟨hbx, hrw, hlog⟩ henv hstp
  obtain ⟨env, bx, rw, log, stp⟩ := t
  simp only at hbx hrw hlog henv hstp
  obtain ⟨rfl, rfl⟩ : pre = [] ∧ q = [eRe (0, 0) 0 0] := by
   have hl := List.IsPrefix.length_le hpre
   obtain ⟨u, hu⟩ := hpre
   rcases pre with _ | ⟨a, pre⟩
   ·simp at hu; exact ⟨rfl, by simpa using hu.1⟩
   ·simp at hl
  rw [if_pos rfl] at hlog
  subst hbx hrw hlog henv hstp
  refine A9 rfl (by simp) ?_
  have hE2 := hE.inner (cc := { s := ⟨[(13, .func (.func Cn) [] [.vptr [I 1] 0, shP w, plP cb mb, .vptr [tbV tb] 0]), (1, plP cb mb), (4, shP w), (5, .ptr 5 0)], [(5, ⟨[yV l], false⟩)], [], encA (arP cb mb Kc L) ++ [], false⟩, a := a0, L := L0, rc := rc0, h0 := h0, Inv := fun pre t => t.bx = [(5, ⟨[yV l], false⟩)] ∧ t.rw = [] ∧ t.log = (if pre = [] then encA (arP cb mb Kc L) ++ [] else encA (arP cb mb Kc' L') ++ [[I e]]), Ix := fun x t => x = .ret ∧ t.log = encA (arP cb mb Kc' L') ++ [[I e]] }) okT2
  refine Tr.block (Tr.seq (Tr.reg (Steps.inA 4 rfl rfl (A := arP cb mb Kc L) (ys := []) rfl ?_)))
  have hA := hE2.inA [] false
  refine Steps.runN 3 rfl (by simp) (Ak (F := []) hA rfl rfl rfl hg (.inl (by simp)) fun r B hB => ?_)
  obtain ⟨rfl, rfl⟩ := hB
  refine ⟨_, rfl, Steps.fin rfl (by simp) ?_⟩
  refine Tr.seq (Tr.reg (Steps.runN 2 rfl (by simp) (Steps.on rfl rfl (Steps.runN 1 rfl (by simp) (Steps.on rfl rfl (Steps.runN 1 rfl (by simp) (Steps.on rfl rfl (Steps.runN 1 rfl (by simp) ?_))))))))
  refine Steps.on rfl rfl (Lm hE2 (A := arP cb mb Kc' L') (ys := []) rfl rfl rfl rfl (List.prefix_refl _) fun b => ?_)
  refine Steps.on rfl rfl (Steps.fin rfl (by cases b <;> simp) ?_)
  cases b with
  | false =>
    refine A6 rfl (Tr.ret ?_)
    exact ⟨⟨[], [(5, ⟨[yV l], false⟩)], [], encA (arP cb mb Kc' L') ++ [[I e]], true⟩, Bz .nil (.k rfl .nil) .nil rfl rfl rfl, rfl, rfl⟩
  | true =>
    refine A4 rfl (Tr.skip ?_)
    exact ⟨⟨[], [(5, ⟨[yV l], false⟩)], [], encA (arP cb mb Kc' L') ++ [[I e]], false⟩, Bz .nil (.k rfl .nil) .nil rfl rfl rfl, ⟨rfl, rfl, by simp⟩, rfl⟩
 ·rintro t henv hstp ⟨hbx, hrw, hlog⟩
  rw [if_neg (by simp)] at hlog
  exact ⟨_, ⟨_, _, hlog, rfl, rfl⟩, _, _, _, C2 rfl, rfl, rfl⟩
 ·rintro x t henv ⟨rfl, hlog⟩
  exact ⟨_, ⟨_, _, hlog, rfl, rfl⟩, _, _, _, C2 rfl, rfl, rfl⟩
end
section
open Go.Am Go
attribute [local simp] cells Aa mkv Ag Ap under dem dem1 eB A7 B8 sB eF chV chC cruC D4 As eLeg legC eCru cS eSh Ds pasV yV pV offV Dq H2 eRe plP shP tbV
theorem A26 {A A' : Arena} {e : Int} {it : FuncId} {us : List V} (hus : Plain us)
  (hit : ∀ l, CY Tryz.prog it l (Oz [[I e]]) [] A (yV l :: us) (fun _ ys stp B => ys = [[I e]] ∧ B = A')) :
  CX Tryz.prog Fb A [] [.func (.func it) [] us, .func (.func C5) [] []] (fun r B => B = A' ∧ r = .tuple [I e, .bool true]) := by
 refine A74 mixed N4 (by simp) fun S1 ok1 => ?_
 refine A2 rfl (by simp) ?_
 refine Tr.weak (s' := ⟨[(0, .func (.func it) [] us), (3, .ptr 3 0), (4, .ptr 4 0), (5, .ptr 5 0)], [(3, ⟨[.func (.func C5) [] []], false⟩), (4, ⟨[I 0], false⟩), (5, ⟨[.bool false], false⟩)], [], encA A, false⟩)
  (Ab (.k rfl (.k rfl (.k rfl (.k rfl .nil)))) (.k rfl (.k rfl (.k rfl .nil))) .nil (by simp only [Ec, List.all_cons, Bq hus]; rfl) rfl) ?_
 refine Tr.seq (A2 rfl (by simp) (Tr.block ?_))
 refine Tr.weak (s' := ⟨[(7, .func (.func it) [] us), (3, .ptr 3 0), (4, .ptr 4 0), (5, .ptr 5 0)], [(3, ⟨[.func (.func C5) [] []], false⟩), (4, ⟨[I 0], false⟩), (5, ⟨[.bool false], false⟩)], [], encA A, false⟩)
  (Ab (.k rfl (.k rfl (.k rfl (.k rfl .nil)))) (.k rfl (.k rfl (.k rfl .nil))) .nil (by simp only [Ec, List.all_cons, Bq hus]; rfl) rfl) ?_
 refine A2x (F := []) (A1 := A) rfl ok1 rfl (hus.d _) rfl hit rfl (by simp only [List.all_cons, Bq hus]; rfl) rfl (by
   intro pre x hx
   have := List.IsPrefix.length_le hx
   obtain ⟨t, ht⟩ := hx
   rcases pre with _ | ⟨a, pre⟩
   ·simp at ht; rw [ht.1]; rfl
   ·simp at this)
  (fun pre t => t.bx = (if pre = [] then [(3, ⟨[.func (.func C5) [] []], false⟩), (4, ⟨[I 0], false⟩), (5, ⟨[.bool false], false⟩)] else [(3, ⟨[.func (.func C5) [] []], false⟩), (4, ⟨[I e], false⟩), (5, ⟨[.bool true], false⟩)]) ∧ t.rw = [] ∧ t.log = encA [])
  (fun e t => False) ⟨rfl, rfl, rfl⟩ ?_ ?_ ?_
 ·rintro a0 L0 rc0 h0 T1 T2 okT1 okT2 pre q t lp hpre ⟨hbx, hrw, hlog⟩ henv hstp
  obtain ⟨env, bx, rw, log, stp⟩ := t
  simp only at hbx hrw hlog henv hstp
  obtain ⟨rfl, rfl⟩ : pre = [] ∧ q = [I e] := by
   have hl := List.IsPrefix.length_le hpre
   obtain ⟨u, hu⟩ := hpre
   rcases pre with _ | ⟨a, pre⟩
   ·simp at hu; exact ⟨rfl, hu.1⟩
   ·simp at hl
  rw [if_pos rfl] at hbx
  subst hbx hrw hlog henv hstp
  refine A9 rfl (by simp) ?_
  refine Tr.block (Tr.seq (Tr.reg (Steps.runN 6 rfl (by simp) (Steps.off (.bool true) rfl rfl rfl (Steps.fin rfl (by simp) ?_)))))
  refine A6 rfl (A9 rfl (by simp) ?_)
  exact ⟨⟨[], [(3, ⟨[.func (.func C5) [] []], false⟩), (4, ⟨[I e], false⟩), (5, ⟨[.bool true], false⟩)], [], encA [], false⟩, Bz .nil (.k rfl (.k rfl (.k rfl .nil))) .nil rfl rfl rfl, ⟨rfl, rfl, rfl⟩, rfl⟩
 ·rintro t log B F' hlt ⟨rfl, rfl⟩ henv hstp ⟨hbx, hrw, hlog⟩
  obtain ⟨env, bx, rw, log, stp⟩ := t
  simp only at hbx hrw hlog henv hstp hlt
  obtain rfl := C3 (hlt.symm.trans hlog)
  rw [if_neg (by simp)] at hbx
  subst hbx hrw henv hstp
  show Tr _ _ _ _ _
  refine Tr.seq (A8 (TraceK.run rfl (by simp) (.done ⟨by kernel_rfl, by kernel_rfl, ?_⟩)))
  exact Bg rfl rfl rfl ⟨_, rfl, rfl, rfl⟩
 ·rintro e t log B F' hlt hΦ henv h
  exact h.elim
end
section
open Go.Am Go
def L1 : KM := [(kw w1S, .bool true)]
def L2 : KM := L1 ++ [(kw w2S, .bool true)]
def K1 : KM := [(keyC (0, 0) 0, .int .i64 0)]
def K2 : KM := K1 ++ [(keyC (10, 0) 3, .int .i64 14)]
theorem ok1 : gmOk 4 L1 := fun p hp => by
 rw [List.mem_singleton.1 hp]; exact kw_ok (w := w1S) (by decide) (by decide)
theorem ok2 : gmOk 4 L2 := fun p hp => by
 rcases List.mem_append.1 hp with h | h
 ·exact ok1 p h
 ·rw [List.mem_singleton.1 h]; exact kw_ok (w := w2S) (by decide) (by decide)
theorem Ab5 {pa : Int × Int} {oa : Int} (h1 : inI pa.1) (h2 : inI pa.2) (h3 : inI oa) : (keyC pa oa).length = 6 ∧ ∀ a ∈ keyC pa oa, inI a := by
 refine ⟨rfl, fun a ha => ?_⟩
 have h0 : inI 0 := by unfold inI; omega
 simp only [keyC, List.mem_cons, List.not_mem_nil, or_false] at ha
 rcases ha with rfl | rfl | rfl | rfl | rfl | rfl <;> assumption
theorem kA_ok : (keyC (0, 0) 0).length = 6 ∧ ∀ a ∈ keyC (0, 0) 0, inI a := Ab5 (by unfold inI; simp) (by unfold inI; simp) (by unfold inI; simp)
theorem kB_ok : (keyC (10, 0) 3).length = 6 ∧ ∀ a ∈ keyC (10, 0) 3, inI a := Ab5 (by unfold inI; simp) (by unfold inI; simp) (by unfold inI; simp)
theorem okK1 : gmOk 6 K1 := fun p hp => by rw [List.mem_singleton.1 hp]; exact kA_ok
theorem okK2 : gmOk 6 K2 := fun p hp => by
 rcases List.mem_append.1 hp with h | h
 ·exact okK1 p h
 ·rw [List.mem_singleton.1 h]; exact kB_ok
theorem clr1 (mb : Nat) : ClrP mb [] L1 w1S := by
 have h := Zv A51 cS_ok (w := w1S) (by decide) (by decide) (mb := mb) (l := []) (fun p hp => by cases hp) (fun p hp => by cases hp)
 rw [clear1S] at h; exact h
theorem clr1h (mb : Nat) {L : KM} (hL : L = L1 ∨ L = L2) : ClrP mb L L w1S := by
 rcases hL with rfl | rfl
 ·exact A28 (by decide) (by decide) ok1 (List.mem_singleton.2 rfl) (fun q hq _ => by rw [List.mem_singleton.1 hq])
 ·refine A28 (by decide) (by decide) ok2 (by simp [L2, L1]) (fun q hq he => ?_)
  rcases List.mem_append.1 hq with h | h
  ·rw [List.mem_singleton.1 h]
  ·rw [List.mem_singleton.1 h]
theorem clr2 (mb : Nat) : ClrP mb L1 L2 w2S := by
 have h := Zv A51 cS_ok (w := w2S) (by decide) (by decide) (mb := mb) (l := L1) ok1 (fun p hp => by rw [List.mem_singleton.1 hp]; decide)
 rw [clear2S] at h; exact h
theorem goes1 (cb mb : Nat) : CX Tryz.prog C7 (arP cb mb [] []) [] [H2 cb mb, eRe (0, 0) 0 0, eSh 0 0] (fun r B => B = arP cb mb K1 L1 ∧ r = .tuple [eB (7, 12), .bool true]) :=
 A6p (n := 0) (A4u mb) ⟨_, _, rfl⟩ (cx_bestA mb _) (A6o (clr1 mb)) (by omega) (fun p hp => by cases hp) kA_ok (fun p hp => by cases hp)
theorem goes2 (cb mb : Nat) : CX Tryz.prog C7 (arP cb mb K1 L1) [] [H2 cb mb, eRe (0, 0) 0 0, eSh 0 1] (fun r B => B = arP cb mb K2 L2 ∧ r = .tuple [eB (14, 19), .bool true]) :=
 A6p (n := 14) (c_ends2 mb) ⟨_, _, rfl⟩ (cx_bestB (clr1h mb (.inl rfl))) (cx_shot2 (clr2 mb)) (by omega) okK1 kB_ok (fun p hp => by rw [List.mem_singleton.1 hp]; decide)
theorem goes3 (cb mb : Nat) : CX Tryz.prog C7 (arP cb mb K2 L2) [] [H2 cb mb, eRe (0, 0) 0 0, eSh 0 0] (fun r B => B = arP cb mb K2 L2 ∧ r = .tuple [eB (7, 12), .bool true]) :=
 cx_goesH (A6o (clr1h mb (.inr rfl))) okK2 (by simp [K2, K1]) (fun q hq he => by
  rcases List.mem_append.1 hq with h | h
  ·rw [List.mem_singleton.1 h]
  ·rw [List.mem_singleton.1 h] at he; exact absurd he (by decide))
def earV (cb mb tb : Nat) (w : Int) : List V := [plP cb mb, .vptr [tbV tb] 0, .vptr [I 1] 0, shP w]
theorem first1 (cb mb tb : Nat) : CX Tryz.prog Fb (arP cb mb [] []) [] [.func (.func C8) [] (earV cb mb tb 0), .func (.func C5) [] []] (fun r B => B = arP cb mb K1 L1 ∧ r = .tuple [I 12, .bool true]) :=
 A26 ⟨fun b => rfl, fun B R => rfl⟩ (fun l => V4 (goes1 cb mb) l)
theorem first2 (cb mb tb : Nat) : CX Tryz.prog Fb (arP cb mb K1 L1) [] [.func (.func C8) [] (earV cb mb tb 1), .func (.func C5) [] []] (fun r B => B = arP cb mb K2 L2 ∧ r = .tuple [I 19, .bool true]) :=
 A26 ⟨fun b => rfl, fun B R => rfl⟩ (fun l => V4 (goes2 cb mb) l)
end
section
open Go.Am Go
attribute [local simp] cells Aa mkv Ag Ap under dem dem1 eB A7 B8 sB eF chV chC cruC D4 As eLeg legC eCru cS eSh Ds pasV yV pV offV Dq H2 eRe plP shP tbV
def tbA (tb cb mb : Nat) (l : List V) (Kc L : KM) : Arena := (tb, .cells l) :: arP cb mb Kc L
theorem Qk {tb cb mb : Nat} {l l' : List V} {Kc L : KM} (h1 : cb ≠ tb) (h2 : mb ≠ tb) : setA (tbA tb cb mb l Kc L) tb (.cells l') = tbA tb cb mb l' Kc L := by
 simp [setA, tbA, arP, h1, h2]
theorem cx_table (cb mb : Nat) : CX Tryz.prog Oq (arP cb mb [] []) [] [H2 cb mb] (fun r B => ∃ tb, B = tbA tb cb mb [I (-1), I (-1), I 12, I 19] K2 L2 ∧ r = tbV tb) := by
 refine J0 mixed Le (by simp) fun S ok S1 hA hK hKD => ?_
 refine A2 rfl (by simp) (A2 rfl (by simp) ?_)
 refine Tr.weak (s' := ⟨[(1, .ptr 1 0), (3, I 1)], [(1, ⟨Dq cb mb, false⟩)], [], encA (arP cb mb [] []), false⟩) (Bz (.k rfl (.cons rfl (VLe.i rfl) .nil)) (.k rfl .nil) .nil rfl rfl rfl) ?_
 refine Tr.seq (Tr.reg (Steps.runN 4 rfl (by simp) (A32 hA (N := 4) rfl (by decide) (by decide) (by omega) (by omega) (by omega) rfl fun tb htb => Steps.fin rfl (by simp) ?_)))
 have h1 : cb ≠ tb := fun e => htb (by simp [arP, e])
 have h2 : mb ≠ tb := fun e => htb (by simp [arP, e])
 refine Tr.weak (s' := ⟨[(1, .ptr 1 0), (3, I 1), (4, .ptr 4 0)], [(1, ⟨Dq cb mb, false⟩), (4, ⟨[tbV tb], false⟩)], [], encA (tbA tb cb mb [I 0, I 0, I 0, I 0] [] []), false⟩) (Bz (.k rfl (.k rfl (.k rfl .nil))) (.k rfl (.k rfl .nil)) .nil rfl rfl rfl) ?_
 refine Tr.seq (Tr.seq (Tr.reg (Steps.runN 1 rfl (by simp) (Mb rfl (Steps.fin rfl (by simp) (Tr.block ?_))))))
 refine Az 5 (TrN.succ ?_)
 refine Tr.weak (s' := ⟨[(1, .ptr 1 0), (3, I 1), (4, .ptr 4 0), (23, I 4), (24, I 0)], [(1, ⟨Dq cb mb, false⟩), (4, ⟨[tbV tb], false⟩)], [], encA (tbA tb cb mb [I 0, I 0, I 0, I 0] [] []), false⟩) (Bz (.k rfl (.k rfl (.k rfl (.cons rfl (VLe.i rfl) (.cons rfl (VLe.i rfl) .nil))))) (.k rfl (.k rfl .nil)) .nil rfl rfl rfl) ?_
 refine A2 rfl (by simp) (Tr.seq (A6 rfl (Tr.skip (Tr.seq (Tr.block (A2 rfl (by simp) (Tr.reg (Steps.runN 2 rfl (by simp) (Iy (j := 0) rfl rfl (by omega) (Be hA (A := tbA tb cb mb [I 0, I 0, I 0, I 0] [] []) rfl rfl List.mem_cons_self (by simp) rfl rfl (Steps.fin rfl trivial ?_)))))))))))
 refine A9 rfl (by simp) (TrN.succ ?_)
 refine Tr.weak (s' := ⟨[(1, .ptr 1 0), (3, I 1), (4, .ptr 4 0), (23, I 4), (24, I 1)], [(1, ⟨Dq cb mb, false⟩), (4, ⟨[tbV tb], false⟩)], [], encA (tbA tb cb mb [I (-1), I 0, I 0, I 0] [] []), false⟩) (Bz (.k rfl (.k rfl (.k rfl (.cons rfl (VLe.i rfl) (.cons rfl (VLe.i rfl) .nil))))) (.k rfl (.k rfl .nil)) .nil rfl rfl (congrArg encA (Qk h1 h2))) ?_
 refine A2 rfl (by simp) (Tr.seq (A6 rfl (Tr.skip (Tr.seq (Tr.block (A2 rfl (by simp) (Tr.reg (Steps.runN 2 rfl (by simp) (Iy (j := 1) rfl rfl (by omega) (Be hA (A := tbA tb cb mb [I (-1), I 0, I 0, I 0] [] []) rfl rfl List.mem_cons_self (by simp) rfl rfl (Steps.fin rfl trivial ?_)))))))))))
 refine A9 rfl (by simp) (TrN.succ ?_)
 refine Tr.weak (s' := ⟨[(1, .ptr 1 0), (3, I 1), (4, .ptr 4 0), (23, I 4), (24, I 2)], [(1, ⟨Dq cb mb, false⟩), (4, ⟨[tbV tb], false⟩)], [], encA (tbA tb cb mb [I (-1), I (-1), I 0, I 0] [] []), false⟩) (Bz (.k rfl (.k rfl (.k rfl (.cons rfl (VLe.i rfl) (.cons rfl (VLe.i rfl) .nil))))) (.k rfl (.k rfl .nil)) .nil rfl rfl (congrArg encA (Qk h1 h2))) ?_
 refine A2 rfl (by simp) (Tr.seq (A6 rfl (Tr.skip (Tr.seq (Tr.block (A2 rfl (by simp) (Tr.reg (Steps.runN 2 rfl (by simp) (Iy (j := 2) rfl rfl (by omega) (Be hA (A := tbA tb cb mb [I (-1), I (-1), I 0, I 0] [] []) rfl rfl List.mem_cons_self (by simp) rfl rfl (Steps.fin rfl trivial ?_)))))))))))
 refine A9 rfl (by simp) (TrN.succ ?_)
 refine Tr.weak (s' := ⟨[(1, .ptr 1 0), (3, I 1), (4, .ptr 4 0), (23, I 4), (24, I 3)], [(1, ⟨Dq cb mb, false⟩), (4, ⟨[tbV tb], false⟩)], [], encA (tbA tb cb mb [I (-1), I (-1), I (-1), I 0] [] []), false⟩) (Bz (.k rfl (.k rfl (.k rfl (.cons rfl (VLe.i rfl) (.cons rfl (VLe.i rfl) .nil))))) (.k rfl (.k rfl .nil)) .nil rfl rfl (congrArg encA (Qk h1 h2))) ?_
 refine A2 rfl (by simp) (Tr.seq (A6 rfl (Tr.skip (Tr.seq (Tr.block (A2 rfl (by simp) (Tr.reg (Steps.runN 2 rfl (by simp) (Iy (j := 3) rfl rfl (by omega) (Be hA (A := tbA tb cb mb [I (-1), I (-1), I (-1), I 0] [] []) rfl rfl List.mem_cons_self (by simp) rfl rfl (Steps.fin rfl trivial ?_)))))))))))
 refine A9 rfl (by simp) (TrN.succ ?_)
 refine Tr.weak (s' := ⟨[(1, .ptr 1 0), (3, I 1), (4, .ptr 4 0), (23, I 4), (24, I 4)], [(1, ⟨Dq cb mb, false⟩), (4, ⟨[tbV tb], false⟩)], [], encA (tbA tb cb mb [I (-1), I (-1), I (-1), I (-1)] [] []), false⟩) (Bz (.k rfl (.k rfl (.k rfl (.cons rfl (VLe.i rfl) (.cons rfl (VLe.i rfl) .nil))))) (.k rfl (.k rfl .nil)) .nil rfl rfl (congrArg encA (Qk h1 h2))) ?_
 refine A2 rfl (by simp) (Tr.seq (A4 rfl (Tr.exit ?_)))
 refine Tr.weak (s' := ⟨[(1, .ptr 1 0), (3, I 1), (4, .ptr 4 0)], [(1, ⟨Dq cb mb, false⟩), (4, ⟨[tbV tb], false⟩)], [], encA (tbA tb cb mb [I (-1), I (-1), I (-1), I (-1)] [] []), false⟩) (Bz (.k rfl (.k rfl (.k rfl .nil))) (.k rfl (.k rfl .nil)) .nil rfl rfl rfl) ?_
 refine Tr.seq (A2 rfl (by simp) (Tr.block ?_))
 refine Az 3 (TrN.succ ?_)
 refine Tr.weak (s' := ⟨[(1, .ptr 1 0), (3, I 1), (4, .ptr 4 0), (32, I 2), (33, I 0)], [(1, ⟨Dq cb mb, false⟩), (4, ⟨[tbV tb], false⟩)], [], encA (tbA tb cb mb [I (-1), I (-1), I (-1), I (-1)] [] []), false⟩) (Bz (.k rfl (.k rfl (.k rfl (.cons rfl (VLe.i rfl) (.cons rfl (VLe.i rfl) .nil))))) (.k rfl (.k rfl .nil)) .nil rfl rfl rfl) ?_
 refine A2 rfl (by simp) (Tr.seq (A6 rfl (Tr.skip (Tr.seq (Tr.block (A2 rfl (by simp) (A3 rfl (by simp) (Steps.call rfl rfl (Te cb mb 0) (Steps.fin rfl trivial (Tr.block ?_))))))))))
 refine Tr.weak (s' := ⟨[(38, .func (.func B9) [] [plP cb mb, .vptr [I 0] 0]), (1, .ptr 1 0), (3, I 1), (4, .ptr 4 0), (6, .ptr 6 0), (32, I 2), (33, I 0)], [(1, ⟨Dq cb mb, false⟩), (4, ⟨[tbV tb], false⟩), (6, ⟨[I 0], false⟩)], [], encA (tbA tb cb mb [I (-1), I (-1), I (-1), I (-1)] [] []), false⟩) (Bz (.k rfl (.k rfl (.k rfl (.k rfl (.k rfl (.k rfl (.k rfl .nil))))))) (.k rfl (.k rfl (.k rfl .nil))) .nil rfl rfl rfl) ?_
 refine Tr.range rfl rfl (Abb cb mb) rfl rfl rfl (by intro x hx; cases hx)
  (fun pre t => t.bx = [(1, ⟨Dq cb mb, false⟩), (4, ⟨[tbV tb], false⟩), (6, ⟨[I 0], false⟩)] ∧ t.rw = [] ∧ t.log = encA (tbA tb cb mb [I (-1), I (-1), I (-1), I (-1)] [] [])) (fun e t => False) ⟨rfl, rfl, rfl⟩ ?_ ?_ ?_
 ·rintro a0 L0 rc0 h0 T1 T2 okT1 okT2 pre q t lp hpre hI henv hstp
  exfalso
  have := List.IsPrefix.length_le hpre
  simp at this
 rotate_left
 ·rintro e t henv h
  exact h.elim
 rintro ⟨env, bx, rw, log, stp⟩ henv hstp ⟨hbx, hrw, hlog⟩
 simp only at hbx hrw hlog henv hstp
 subst hbx hrw hlog henv hstp
 refine A9 rfl (by simp) (TrN.succ ?_)
 refine Tr.weak (s' := ⟨[(1, .ptr 1 0), (3, I 1), (4, .ptr 4 0), (32, I 2), (33, I 1)], [(1, ⟨Dq cb mb, false⟩), (4, ⟨[tbV tb], false⟩)], [], encA (tbA tb cb mb [I (-1), I (-1), I (-1), I (-1)] [] []), false⟩) (Bz (.k rfl (.k rfl (.k rfl (.cons rfl (VLe.i rfl) (.cons rfl (VLe.i rfl) .nil))))) (.k rfl (.k rfl .nil)) .nil rfl rfl rfl) ?_
 refine A2 rfl (by simp) (Tr.seq (A6 rfl (Tr.skip (Tr.seq (Tr.block (A2 rfl (by simp) (A3 rfl (by simp) (Steps.call rfl rfl (Te cb mb 1) (Steps.fin rfl trivial (Tr.block ?_))))))))))
 refine Tr.weak (s' := ⟨[(38, .func (.func B9) [] [plP cb mb, .vptr [I 1] 0]), (1, .ptr 1 0), (3, I 1), (4, .ptr 4 0), (6, .ptr 6 0), (32, I 2), (33, I 1)], [(1, ⟨Dq cb mb, false⟩), (4, ⟨[tbV tb], false⟩), (6, ⟨[I 1], false⟩)], [], encA (tbA tb cb mb [I (-1), I (-1), I (-1), I (-1)] [] []), false⟩) (Bz (.k rfl (.k rfl (.k rfl (.k rfl (.k rfl (.k rfl (.k rfl .nil))))))) (.k rfl (.k rfl (.k rfl .nil))) .nil rfl rfl rfl) ?_
 refine Tr.range rfl rfl (Up cb mb) rfl rfl rfl (by intro x hx; simp only [List.mem_cons, List.not_mem_nil, or_false] at hx; rcases hx with rfl | rfl <;> rfl)
  (fun pre t => t.bx = [(1, ⟨Dq cb mb, false⟩), (4, ⟨[tbV tb], false⟩), (6, ⟨[I 1], false⟩)] ∧ t.rw = [] ∧ t.log = encA (match pre.length with | 0 => tbA tb cb mb [I (-1), I (-1), I (-1), I (-1)] [] [] | 1 => tbA tb cb mb [I (-1), I (-1), I 12, I (-1)] K1 L1 | _ => tbA tb cb mb [I (-1), I (-1), I 12, I 19] K2 L2)) (fun e t => False) ⟨rfl, rfl, rfl⟩ ?_ ?_ ?_
 ·rintro a0 L0 rc0 h0 T1 T2 okT1 okT2 pre q t lp hpre ⟨hbx, hrw, hlog⟩ henv hstp
  obtain ⟨env, bx, rw, log, stp⟩ := t
  simp only at hbx hrw hlog henv hstp
  have hcase : (pre = [] ∧ q = [eSh 0 0]) ∨ (pre = [[eSh 0 0]] ∧ q = [eSh 0 1]) := by
   obtain ⟨u, hu⟩ := hpre
   rcases pre with _ | ⟨a, _ | ⟨b, pre⟩⟩
   ·rw [List.nil_append, List.cons_append] at hu
    exact .inl ⟨rfl, (List.cons.inj hu).1⟩
   ·rw [List.cons_append, List.cons_append, List.nil_append, List.cons_append] at hu
    obtain ⟨e1, e2⟩ := List.cons.inj hu
    exact .inr ⟨by rw [e1], (List.cons.inj e2).1⟩
   ·simp at hu
  rcases hcase with ⟨rfl, rfl⟩ | ⟨rfl, rfl⟩
  ·have hlog : log = encA (tbA tb cb mb [I (-1), I (-1), I (-1), I (-1)] [] []) := hlog
   subst hbx hrw hlog henv hstp
   refine A9 rfl (by simp) ?_
   have hA2 : ∀ c, InA ((env0 Tryz.prog mixed 59 S ok).inner c T2 okT2.ok) S1 [] false := fun c => ⟨okT2.sub.trans hA.sub, hA.ok⟩
   refine Tr.block (Tr.seq (Tr.reg (Steps.runN 4 rfl (by simp) (Steps.call rfl rfl (Yd cb mb tb 0) (Ak (F := [(tb, .cells [I (-1), I (-1), I (-1), I (-1)])]) (A1 := arP cb mb [] []) (hA2 _) rfl rfl rfl (first1 cb mb tb) (.inl (by simp)) fun r B hB => ?_)))))
   obtain ⟨rfl, rfl⟩ := hB
   refine Steps.fin rfl (by simp) ?_
   refine A2 rfl (by simp) (A6 rfl ?_)
   refine Ct rfl rfl rfl (TraceK.runN 4 rfl (by simp) (TraceK.call rfl rfl (A6v cb mb) (TraceK.runN 1 rfl (by simp) (Bw (j := 2) rfl rfl (by omega) (.done ⟨by kernel_rfl, by kernel_rfl, ?_⟩)))))
   refine Be (hA2 _) (A := tbA tb cb mb [I (-1), I (-1), I (-1), I (-1)] K1 L1) rfl rfl List.mem_cons_self (by simp) rfl rfl (Steps.fin rfl trivial ?_)
   exact ⟨⟨[], [(1, ⟨Dq cb mb, false⟩), (4, ⟨[tbV tb], false⟩), (6, ⟨[I 1], false⟩)], [], encA (tbA tb cb mb [I (-1), I (-1), I 12, I (-1)] K1 L1), false⟩, Bz .nil (.k rfl (.k rfl (.k rfl .nil))) .nil rfl rfl (congrArg encA (Qk h1 h2)), ⟨rfl, rfl, rfl⟩, rfl⟩
  ·have hlog : log = encA (tbA tb cb mb [I (-1), I (-1), I 12, I (-1)] K1 L1) := hlog
   subst hbx hrw hlog henv hstp
   refine A9 rfl (by simp) ?_
   have hA2 : ∀ c, InA ((env0 Tryz.prog mixed 59 S ok).inner c T2 okT2.ok) S1 [] false := fun c => ⟨okT2.sub.trans hA.sub, hA.ok⟩
   refine Tr.block (Tr.seq (Tr.reg (Steps.runN 4 rfl (by simp) (Steps.call rfl rfl (Yd cb mb tb 1) (Ak (F := [(tb, .cells [I (-1), I (-1), I 12, I (-1)])]) (A1 := arP cb mb K1 L1) (hA2 _) rfl rfl rfl (first2 cb mb tb) (.inl (by simp)) fun r B hB => ?_)))))
   obtain ⟨rfl, rfl⟩ := hB
   refine Steps.fin rfl (by simp) ?_
   refine A2 rfl (by simp) (A6 rfl ?_)
   refine Ct rfl rfl rfl (TraceK.runN 4 rfl (by simp) (TraceK.call rfl rfl (A6u cb mb) (TraceK.runN 1 rfl (by simp) (Bw (j := 3) rfl rfl (by omega) (.done ⟨by kernel_rfl, by kernel_rfl, ?_⟩)))))
   refine Be (hA2 _) (A := tbA tb cb mb [I (-1), I (-1), I 12, I (-1)] K2 L2) rfl rfl List.mem_cons_self (by simp) rfl rfl (Steps.fin rfl trivial ?_)
   exact ⟨⟨[], [(1, ⟨Dq cb mb, false⟩), (4, ⟨[tbV tb], false⟩), (6, ⟨[I 1], false⟩)], [], encA (tbA tb cb mb [I (-1), I (-1), I 12, I 19] K2 L2), false⟩, Bz .nil (.k rfl (.k rfl (.k rfl .nil))) .nil rfl rfl (congrArg encA (Qk h1 h2)), ⟨rfl, rfl, rfl⟩, rfl⟩
 rotate_left
 ·rintro e t henv h
  exact h.elim
 rintro ⟨env, bx, rw, log, stp⟩ henv hstp ⟨hbx, hrw, hlog⟩
 simp only at hbx hrw hlog henv hstp
 have hlog : log = encA (tbA tb cb mb [I (-1), I (-1), I 12, I 19] K2 L2) := hlog
 subst hbx hrw hlog henv hstp
 refine A9 rfl (by simp) (TrN.succ ?_)
 refine Tr.weak (s' := ⟨[(1, .ptr 1 0), (3, I 1), (4, .ptr 4 0), (32, I 2), (33, I 2)], [(1, ⟨Dq cb mb, false⟩), (4, ⟨[tbV tb], false⟩)], [], encA (tbA tb cb mb [I (-1), I (-1), I 12, I 19] K2 L2), false⟩) (Bz (.k rfl (.k rfl (.k rfl (.cons rfl (VLe.i rfl) (.cons rfl (VLe.i rfl) .nil))))) (.k rfl (.k rfl .nil)) .nil rfl rfl rfl) ?_
 refine A2 rfl (by simp) (Tr.seq (A4 rfl (Tr.exit ?_)))
 refine A2 rfl (by simp) ?_
 exact Bg rfl rfl rfl ⟨_, rfl, tb, rfl, rfl⟩
end
end Go.Proofs.YtabedohjkillfaaGreat
namespace Go.Am
section
open Go.RowKit
theorem A94 {E : Env} {s : St} {K : St → Prop} {d t : Nat} {x y : X} {rest : List Ins} (hx : evXs s.env [x, y] = some [.nils, .nils]) (hk : Steps E rest K (s.put (some d) (.bool true))) : Steps E (⟨some d, .raw 8 0 t, [x, y], none⟩ :: rest) K s := by
 refine Step1.raw fun slots ops o i ro n a w h hc hs hi R Q next hn => ?_
 obtain ⟨os, cc⟩ := Aw hc
 have hgo := Al cc rfl
 obtain ⟨p, q, u, e, e1, e2, rfl⟩ := Yy cc.op
 obtain ⟨v1, v2, hu, o1, o2⟩ := (Au R.1 cc.xs (Ai hx)).two
 simp only [List.cons.injEq, and_true] at hu
 obtain ⟨hu1, hu2⟩ := hu
 subst hu1 hu2
 have hp := J9 o1
 have hq := J9 o2
 have hex : (execOp a.eval o).run E.P w = .ok (.value (.bool true)) w := by
  have g2 : (binOp .eql t (.slice none 0 0) (.slice none 0 0)).run E.P w = .ok (.bool true) w := Lib.run_eql_slice_nil w t e none 0 0 0 0 e2
  have g1 : (eqGuard .eql t p q (.slice none 0 0) (.slice none 0 0)).run E.P w = .ok () w := rfl
  simp only [execOp, e1, hp, hq, Sem.run_bind, g1, g2, Result.andThen_ok, Sem.run_pure]
 refine Aq (x := .bool true) (w' := w) hi (Ad hgo) (Ah cc.op) (.inl hex) (hn _ _ w h hk ?_ rfl)
 show E.relF _ _ _ _ _ _
 rw [(Bt _ _ _).1, (Bt _ _ _).2, Dy]
 exact Bh (eff := { v := .bool true }) cc R R.1 (.data (.bool _)) rfl
end
section
open Go.RowKit
theorem Wk.take {E : Env} {S1 : Sur} {l0 : List (List V)} {s0 : Bool} {A : Arena} (hES : E.S = SA S1 l0 s0) {s : St} {t blk : Nat} {cs : List V} (ht : get s.env t = some (.rptr blk 0)) (hl : s.log = encA A) (hA : (blk, Ob.cells cs) ∈ A) (hb : get s.bx t = none) :
  Wk E s { (s.setB t ⟨cs, false⟩).put (some t) (.ptr t 0) with log := encA (Ux A blk) } := by
 intro a w h R
 obtain ⟨q1, q2, _⟩ := R.1.env t _ (by rw [fs_g]; exact ht)
 have hsur : SA S1 l0 s0 s.log s.stp h.M w h.φ := by rw [← hES]; exact R.1.sur
 obtain ⟨A0, e, hs, hAr, hS⟩ := hsur
 obtain rfl := C3 (hl.symm.trans e)
 obtain ⟨vs, et, h1, h2, h3⟩ := hAr.ok _ hA
 have hlt := hAr.lt _ hA
 have hfr := hAr.fr _ hA
 have hz := hAr.z _ hA
 simp only at hlt hfr hz h1
 have e1 : a.tmps.getD t undef = .pointer (some ⟨blk, 0, none⟩) := by
  revert q2
  generalize a.tmps.getD t undef = x1
  intro q2
  cases q2 with
  | data r => cases r; rfl
 have hsur2 : E.S (encA (Ux A blk)) s.stp (fun b => h.M b ∨ b = blk) w h.φ := by
  rw [hES]
  refine ⟨Ux A blk, rfl, hs, ⟨A6l hAr.nd, fun p hp => hAr.ok p (dropA_mem.1 hp).1, fun p hp hM => ?_, fun p hp => hAr.lt p (dropA_mem.1 hp).1, fun p hp => hAr.z p (dropA_mem.1 hp).1⟩, ?_⟩
  ·rcases hM with hM | hM
   ·exact hAr.fr p (dropA_mem.1 hp).1 hM
   ·exact (dropA_mem.1 hp).2 hM
  ·have eM : (fun b => (h.M b ∨ b = blk) ∨ b ∈ (Ux A blk).map (·.1)) = fun b => h.M b ∨ b ∈ A.map (·.1) := by
    funext b
    apply propext
    constructor
    ·rintro ((hM | rfl) | hm)
     ·exact .inl hM
     ·exact .inr (List.mem_map.2 ⟨_, hA, rfl⟩)
     ·obtain ⟨p, hp, rfl⟩ := List.mem_map.1 hm
      exact .inr (List.mem_map.2 ⟨p, (dropA_mem.1 hp).1, rfl⟩)
    ·rintro (hM | hm)
     ·exact .inl (.inl hM)
     ·obtain ⟨p, hp, rfl⟩ := List.mem_map.1 hm
      by_cases eb : p.1 = blk
      ·exact .inl (.inr eb)
      ·exact .inr (List.mem_map.2 ⟨p, dropA_mem.2 ⟨hp, eb⟩, rfl⟩)
   rw [eM]; exact hS
 have R1 := R.1.grow (S' := E.S) (log' := encA (Ux A blk)) (stp' := s.stp) (fun b => h.M b ∨ b = blk) (fun b hb => .inl hb) (fun b hb => by
  rcases hb with hb | rfl
  ·exact R.1.mine b hb
  ·exact hlt) hsur2
 have R2 := R1.addBox (d := t) (blk := blk) (zs := cs) (cs := vs) (e := et) (by rw [fs_b]; exact hb) (.inr rfl) h1 h2 (fun j v x hv hx => by
  obtain ⟨r1, r2⟩ := h3 j v x hv hx
  exact ⟨.data r1, Cv r1, r2⟩) hz (fun i hi => hfr (R.1.boxM hi)) (fun r hr => hfr (R.1.rowM hr))
 rw [← Zt] at R2
 have R3 := R2.put (d := t) (v := .ptr t 0) (x := a.tmps.getD t undef) q1 (by rw [e1]; exact .ptr t 0 blk (by simp)) (fun j u z hu hz => by
  cases j with
  | zero => simp [cells] at hu; subst hu; intro r sz xs e; cases e
  | succ j => simp [cells] at hu)
 rw [Oy (by rw [R.1.size]; exact q1)] at R3
 rw [← Dy] at R3
 exact ⟨_, ⟨R3, R.2⟩, rfl⟩
end
end Go.Am
namespace Go.Proofs.YtabedohjkillfaaGreat
section
open Go.Am Go
attribute [local simp] cells Aa mkv Ag Ap under dem dem1 eB A7 B8 sB eF chV chC cruC D4 As eLeg legC eCru cS eSh Ds pasV yV pV offV Dq H2 eRe plP shP tbV
theorem c_cloneN : C Tryz.prog F4 [.nils] .nils := by
 refine C_of mixed El (by simp) fun S ok => ?_
 refine A2 rfl (by simp) (Tr.seq (Tr.seq (Tr.reg (Steps.runN 1 rfl (by simp) (A94 rfl (Steps.fin rfl (by simp) (A6 rfl ?_)))))))
 exact A2 rfl (by simp) (A5 rfl rfl rfl rfl trivial)
theorem Ac9 : CX Tryz.prog Vv [] [] [eCru cS] (fun r B => ∃ cb mb, B = arP cb mb [] [] ∧ r = .tuple [H2 cb mb, I 0]) := by
 have kc := Y8 A51 cS_ok
 refine J0 mixed Ra (by simp) fun S ok S1 hA hK hKD => ?_
 refine A2 rfl (by simp) (Tr.seq (Tr.reg (Steps.runN 1 rfl (by simp) (Ak (F := []) hA rfl rfl rfl kc (.inl (by simp)) fun r B hB => ?_))))
 obtain ⟨mb, rfl, rfl⟩ := hB
 refine Steps.fin rfl (by simp) ?_
 refine Tr.seq (Tr.reg (Steps.runN 1 rfl (by simp) (A2z hA (A := [(mb, gmO [])]) rfl fun cb hcb => Steps.fin rfl (by simp) ?_)))
 exact Bg rfl rfl rfl ⟨_, rfl, cb, mb, rfl, rfl⟩
def srS : V := .slice 0 2 [eSh 0 0]
def nxV (fb eb nb cb mb : Nat) : V := .func (.func Hl) [] [.rptr fb 0, .rptr eb 0, plP cb mb, .rptr nb 0]
def seB (fb eb : Nat) (v : V) : Arena := [(fb, .cells [v]), (eb, .cells [I 12])]
attribute [local simp] srS nxV
theorem Acb {fb eb nb cb mb : Nat} (hne : eb ≠ fb) : CX Tryz.prog Hl (seB fb eb .nils) [] [srS, eRe (10, 0) 0 12, I 0, .rptr fb 0, .rptr eb 0, plP cb mb, .rptr nb 0] (fun r B => r = .bool true ∧ B = seB fb eb srS) := by
 refine J0 mixed Iw (by simp) fun S ok S1 hA hK hKD => ?_
 have hset : setA (seB fb eb .nils) fb (.cells ([V.nils].set 0 srS)) = seB fb eb srS := by simp [setA, seB, hne]
 refine A2 rfl (by simp) (Tr.scope (Tr.seq (A2 rfl (by simp) (A6 rfl ?_))))
 refine Tr.seq (Tr.reg (Steps.runN 1 rfl (by simp) (Be hA (A := seB fb eb .nils) (v := srS) (blk := fb) (off := 0) rfl rfl List.mem_cons_self (by simp) rfl rfl ?_)))
 rw [hset]
 refine Steps.fin rfl trivial ?_
 refine Tr.seq (Tr.reg (Steps.runN 2 rfl (by simp) (Bf hA (A := seB fb eb srS) rfl rfl (show (eb, Ob.cells [I 12]) ∈ _ by simp [seB]) rfl (Steps.fin rfl (by simp) ?_))))
 exact Bg rfl rfl rfl ⟨_, rfl, rfl, rfl⟩
def nbA (fb eb nb cb mb : Nat) : Arena := [(nb, .cells [nxV fb eb nb cb mb])]
theorem A8n {fb eb nb cb mb : Nat} (hne : eb ≠ fb) : CX Tryz.prog Hl (nbA fb eb nb cb mb ++ (seB fb eb .nils ++ arP cb mb K2 L2)) [] [.nils, eRe (0, 0) 0 0, I 1, .rptr fb 0, .rptr eb 0, plP cb mb, .rptr nb 0] (fun r B => r = .bool true ∧ B = nbA fb eb nb cb mb ++ (arP cb mb K2 L2 ++ seB fb eb srS)) := by
 refine J0 mixed Iw (by simp) fun S ok S1 hA hK hKD => ?_
 refine A2 rfl (by simp) (Tr.scope (Tr.seq (A2 rfl (by simp) (A4 rfl (Tr.skip (Tr.seq (Tr.label ?_)))))))
 refine Tr.seq (A3 rfl (by simp) (Steps.call rfl rfl (Te cb mb 1) (Steps.fin rfl trivial (Tr.block ?_))))
 refine Tr.weak (s' := ⟨[(23, .func (.func B9) [] [plP cb mb, .vptr [I 1] 0]), (4, .rptr eb 0), (5, plP cb mb), (6, .rptr nb 0), (7, .ptr 7 0), (8, .ptr 8 0), (9, .ptr 9 0), (10, .ptr 10 0)], [(7, ⟨[.nils], false⟩), (8, ⟨[I 0, I 0, I 0, I 0], false⟩), (9, ⟨[I 1], false⟩), (10, ⟨[.bool false], false⟩)], [], encA (nbA fb eb nb cb mb ++ (seB fb eb .nils ++ arP cb mb K2 L2)), false⟩)
  (Bz (.k rfl (.k rfl (.k rfl (.k rfl (.k rfl (.k rfl (.k rfl (.k rfl .nil)))))))) (.k rfl (.k rfl (.k rfl (.k rfl .nil)))) .nil rfl rfl rfl) ?_
 refine Tr.range rfl rfl (Up cb mb) rfl rfl rfl (by intro x hx; simp only [List.mem_cons, List.not_mem_nil, or_false] at hx; rcases hx with rfl | rfl <;> rfl)
  (fun pre t => pre = [] ∧ t.bx = [(7, ⟨[.nils], false⟩), (8, ⟨[I 0, I 0, I 0, I 0], false⟩), (9, ⟨[I 1], false⟩), (10, ⟨[.bool false], false⟩)] ∧ t.rw = [] ∧ t.log = encA (nbA fb eb nb cb mb ++ (seB fb eb .nils ++ arP cb mb K2 L2)))
  (fun e t => e = .ret ∧ t.bx = [(7, ⟨[.nils], false⟩), (8, ⟨[I 0, I 0, I 0, I 0], false⟩), (9, ⟨[I 1], false⟩), (10, ⟨[.bool true], false⟩)] ∧ t.log = encA (nbA fb eb nb cb mb ++ (arP cb mb K2 L2 ++ seB fb eb srS))) ⟨rfl, rfl, rfl, rfl⟩ ?_ ?_ ?_
 ·rintro a0 L0 rc0 h0 T1 T2 okT1 okT2 pre q t lp hpre ⟨rfl, hbx, hrw, hlog⟩ henv hstp
  obtain ⟨env, bx, rw, log, stp⟩ := t
  simp only at hbx hrw hlog henv hstp
  obtain rfl : q = [eSh 0 0] := by
   obtain ⟨u, hu⟩ := hpre
   rw [List.nil_append, List.cons_append] at hu
   exact (List.cons.inj hu).1
  subst hbx hrw hlog henv hstp
  have hA2 : ∀ c, InA ((env0 Tryz.prog mixed 57 S ok).inner c T2 okT2.ok) S1 [] false := fun c => ⟨okT2.sub.trans hA.sub, hA.ok⟩
  refine A9 rfl (by simp) ?_
  refine Tr.block (Tr.seq (Tr.reg (Steps.runN 3 rfl (by simp) (Ak (F := nbA fb eb nb cb mb ++ seB fb eb .nils) (A1 := arP cb mb K2 L2) (hA2 _) rfl rfl rfl (goes3 cb mb) (.inl (by simp)) fun r B hB => ?_))))
  obtain ⟨rfl, rfl⟩ := hB
  refine Steps.fin rfl (by simp) ?_
  refine Tr.weak (s' := ⟨[(4, .rptr eb 0), (5, plP cb mb), (6, .rptr nb 0), (7, .ptr 7 0), (8, .ptr 8 0), (9, .ptr 9 0), (10, .ptr 10 0), (11, .ptr 11 0), (12, .ptr 12 0), (13, .bool true)], [(7, ⟨[.nils], false⟩), (8, ⟨[I 0, I 0, I 0, I 0], false⟩), (9, ⟨[I 1], false⟩), (10, ⟨[.bool false], false⟩), (11, ⟨[I 0, I 0], false⟩), (12, ⟨[I 7, I 12], false⟩)], [], encA (nbA fb eb nb cb mb ++ (seB fb eb .nils ++ arP cb mb K2 L2)), false⟩)
   (Bz (.k rfl (.k rfl (.k rfl (.k rfl (.k rfl (.k rfl (.k rfl (.k rfl (.k rfl (.k rfl .nil)))))))))) (.k rfl (.k rfl (.k rfl (.k rfl (.k rfl (.k rfl .nil)))))) .nil rfl rfl rfl) ?_
  refine Tr.seq (Tr.seq (Tr.reg (Steps.runN 3 rfl (by simp) (Steps.on rfl rfl (Steps.runN 1 rfl (by simp) (Steps.on rfl rfl (Steps.runN 1 rfl (by simp) (Steps.on rfl rfl (Bf (hA2 _) (A := nbA fb eb nb cb mb ++ (seB fb eb .nils ++ arP cb mb K2 L2)) rfl rfl (show (eb, Ob.cells [I 12]) ∈ _ by simp [seB]) rfl (Steps.on rfl rfl (Steps.fin rfl (by simp) (A4 rfl (Tr.skip ?_)))))))))))))
  refine Tr.seq (Ct rfl rfl rfl (A := nbA fb eb nb cb mb ++ (seB fb eb .nils ++ arP cb mb K2 L2)) (Ay (hA2 _) rfl rfl rfl (show (nb, Ob.cells [nxV fb eb nb cb mb]) ∈ _ by simp [nbA]) (by simp) (TraceK.runN 1 rfl (by simp) (TraceK.call rfl rfl c_cloneN (TraceK.runN 7 rfl (by simp) (TraceK.call rfl rfl (c_after cb mb) (TraceK.runN 5 rfl (by simp) ?_)))))))
  rw [bitN]
  refine .done ⟨by kernel_rfl, by kernel_rfl, ?_⟩
  refine Ov (Ib (hA2 _) (A := nbA fb eb nb cb mb ++ (seB fb eb .nils ++ arP cb mb K2 L2)) (B := nbA fb eb nb cb mb ++ arP cb mb K2 L2 ++ seB fb eb .nils) rfl (by classical exact List.perm_iff_count.2 fun x => by simp only [List.count_append]; omega)) ?_
  refine Hz (F := nbA fb eb nb cb mb ++ arP cb mb K2 L2) (A1 := seB fb eb .nils) (us := [srS, eRe (10, 0) 0 12, I 0, .rptr fb 0, .rptr eb 0, plP cb mb, .rptr nb 0]) (hA2 _) rfl rfl rfl (Th (Acb hne)) (.inl (by simp)) fun B hB => ?_
  obtain rfl := hB
  refine Steps.fin rfl trivial (A6 rfl (A2 rfl (by simp) (Tr.ret ?_)))
  exact ⟨⟨[], [(7, ⟨[.nils], false⟩), (8, ⟨[I 0, I 0, I 0, I 0], false⟩), (9, ⟨[I 1], false⟩), (10, ⟨[.bool true], false⟩)], [], encA (nbA fb eb nb cb mb ++ (arP cb mb K2 L2 ++ seB fb eb srS)), false⟩, Bz .nil (.k rfl (.k rfl (.k rfl (.k rfl .nil)))) .nil rfl rfl rfl, rfl, rfl, rfl⟩
 ·rintro t henv hstp ⟨h, _⟩
  cases h
 ·rintro e ⟨env, bx, rw, log, stp⟩ henv ⟨rfl, hbx, hlog⟩
  simp only at hbx hlog henv
  subst hbx hlog henv
  exact ⟨_, ⟨_, rfl, rfl, rfl⟩, _, _, _, C2 rfl, rfl, rfl⟩
end
section
open Go.Am Go
attribute [local simp] cells Aa mkv Ag Ap under dem dem1 eB A7 B8 sB eF chV chC cruC D4 As eLeg legC eCru cS eSh Ds pasV yV pV offV Dq H2 eRe plP shP tbV srS nxV
def ebA (eb : Nat) (v : V) : Arena := [(eb, .cells [v])]
theorem A9x {eb tb cb mb : Nat} {v w : V} {l : List V} {Kc L : KM} (h1 : tb ≠ eb) (h2 : cb ≠ eb) (h3 : mb ≠ eb) : setA (ebA eb v ++ tbA tb cb mb l Kc L) eb (.cells ([v].set 0 w)) = ebA eb w ++ tbA tb cb mb l Kc L := by
 simp [setA, ebA, tbA, arP, h1, h2, h3]
theorem setA_nb {nb fb eb tb cb mb : Nat} {v w u x : V} {l : List V} {Kc L : KM} (h0 : fb ≠ nb) (h4 : eb ≠ nb) (h1 : tb ≠ nb) (h2 : cb ≠ nb) (h3 : mb ≠ nb) : setA ((nb, .cells [v]) :: (fb, .cells [x]) :: (ebA eb u ++ tbA tb cb mb l Kc L)) nb (.cells ([v].set 0 w)) = (nb, .cells [w]) :: (fb, .cells [x]) :: (ebA eb u ++ tbA tb cb mb l Kc L) := by
 simp [setA, ebA, tbA, arP, h0, h1, h2, h3, h4]
def resA (fb eb nb cb mb : Nat) : Arena := nbA fb eb nb cb mb ++ (seB fb eb .nils ++ arP cb mb K2 L2)
theorem cx_BestS : CX Tryz.prog A0p [] [] [eCru cS] (fun r _ => r = .tuple [srS, I 12, I 0]) := by
 refine A74 mixed Vf (by simp) fun S1 ok1 => ?_
 have hA : InA (env0 Tryz.prog mixed 64 (SA S1 [] false) (Jo ok1 [] false)) S1 [] false := ⟨Sub.refl _, ok1⟩
 refine Tr.seq (Tr.reg (Steps.runN 2 rfl (by simp) (Cu hA rfl fun eb heb => Steps.fin rfl (by simp) ?_)))
 refine Tr.seq (Tr.reg (Steps.runN 1 rfl (by simp) (Ak (F := ebA eb (I 0)) (A1 := []) hA rfl rfl rfl Ac9 (.inl (by simp)) fun r B hB => ?_)))
 obtain ⟨cb, mb, rfl, rfl⟩ := hB
 refine Steps.fin rfl (by simp) ?_
 refine Tr.seq (A2 rfl (by simp) (A4 rfl (Tr.skip ?_)))
 refine A2 rfl (by simp) ?_
 refine Tr.weak (s' := ⟨[(3, .rptr eb 0), (5, .ptr 5 0), (6, .ptr 6 0)], [(5, ⟨Dq cb mb, false⟩), (6, ⟨[I 1], false⟩)], [], encA (ebA eb (I 0) ++ arP cb mb [] []), false⟩)
  (Bz (.k rfl (.k rfl (.k rfl .nil))) (.k rfl (.cons rfl (.cons (VLe.i rfl) .nil) .nil)) .nil rfl rfl rfl) ?_
 refine Tr.seq (Tr.reg (Steps.runN 1 rfl (by simp) (Ak (F := ebA eb (I 0)) (A1 := arP cb mb [] []) hA rfl rfl rfl (cx_table cb mb) (.inl (by simp)) fun r B hB => ?_)))
 obtain ⟨tb, rfl, rfl⟩ := hB
 refine Steps.fin rfl (by simp) ?_
 refine Tr.nd hA rfl fun hnd => ?_
 have hn : tb ≠ eb ∧ cb ≠ eb ∧ mb ≠ eb := by
  simp only [ebA, tbA, arP, List.cons_append, List.nil_append, List.map_cons, List.map_nil, List.nodup_cons, List.mem_cons, List.not_mem_nil, or_false, not_or] at hnd
  exact ⟨fun e => hnd.1.1 e.symm, fun e => hnd.1.2.1 e.symm, fun e => hnd.1.2.2 e.symm⟩
 clear hnd
 obtain ⟨n1, n2, n3⟩ := hn
 refine Tr.seq (Tr.reg (Be hA (A := ebA eb (I 0) ++ tbA tb cb mb [I (-1), I (-1), I 12, I 19] K2 L2) (blk := eb) (off := 0) (v := I (-1)) rfl rfl List.mem_cons_self (by simp) rfl rfl (Steps.fin rfl trivial ?_)))
 refine Tr.weak (s' := ⟨[(3, .rptr eb 0), (5, .ptr 5 0), (6, .ptr 6 0), (7, .ptr 7 0)], [(5, ⟨Dq cb mb, false⟩), (6, ⟨[I 1], false⟩), (7, ⟨[tbV tb], false⟩)], [], encA (ebA eb (I (-1)) ++ tbA tb cb mb [I (-1), I (-1), I 12, I 19] K2 L2), false⟩)
  (Bz (.k rfl (.k rfl (.k rfl (.k rfl .nil)))) (.k rfl (.k rfl (.k rfl .nil))) .nil rfl rfl (congrArg encA (A9x n1 n2 n3))) ?_
 refine Tr.seq (A3 rfl (by simp) (Steps.call rfl rfl (Te cb mb 1) (Steps.fin rfl trivial (Tr.block ?_))))
 refine Tr.weak (s' := ⟨[(33, .func (.func B9) [] [plP cb mb, .vptr [I 1] 0]), (3, .rptr eb 0), (5, .ptr 5 0), (6, .ptr 6 0), (7, .ptr 7 0)], [(5, ⟨Dq cb mb, false⟩), (6, ⟨[I 1], false⟩), (7, ⟨[tbV tb], false⟩)], [], encA (ebA eb (I (-1)) ++ tbA tb cb mb [I (-1), I (-1), I 12, I 19] K2 L2), false⟩)
  (Bz (.k rfl (.k rfl (.k rfl (.k rfl (.k rfl .nil))))) (.k rfl (.k rfl (.k rfl .nil))) .nil rfl rfl rfl) ?_
 refine Tr.range rfl rfl (Up cb mb) rfl rfl rfl (by intro x hx; simp only [List.mem_cons, List.not_mem_nil, or_false] at hx; rcases hx with rfl | rfl <;> rfl)
  (fun pre t => t.bx = [(5, ⟨Dq cb mb, false⟩), (6, ⟨[I 1], false⟩), (7, ⟨[tbV tb], false⟩)] ∧ t.rw = [] ∧ t.log = encA (ebA eb (match pre.length with | 0 => I (-1) | _ => I 12) ++ tbA tb cb mb [I (-1), I (-1), I 12, I 19] K2 L2)) (fun e t => False) ⟨rfl, rfl, rfl⟩ ?_ ?_ ?_
 ·rintro a0 L0 rc0 h0 T1 T2 okT1 okT2 pre q t lp hpre ⟨hbx, hrw, hlog⟩ henv hstp
  obtain ⟨env, bx, rw, log, stp⟩ := t
  simp only at hbx hrw hlog henv hstp
  have hA2 : ∀ c, InA ((env0 Tryz.prog mixed 64 (SA S1 [] false) (Jo ok1 [] false)).inner c T2 okT2.ok) S1 [] false := fun c => ⟨okT2.sub.trans hA.sub, hA.ok⟩
  have hcase : (pre = [] ∧ q = [eSh 0 0]) ∨ (pre = [[eSh 0 0]] ∧ q = [eSh 0 1]) := by
   obtain ⟨u, hu⟩ := hpre
   rcases pre with _ | ⟨a, _ | ⟨b, pre⟩⟩
   ·rw [List.nil_append, List.cons_append] at hu
    exact .inl ⟨rfl, (List.cons.inj hu).1⟩
   ·rw [List.cons_append, List.cons_append, List.nil_append, List.cons_append] at hu
    obtain ⟨e1, e2⟩ := List.cons.inj hu
    exact .inr ⟨by rw [e1], (List.cons.inj e2).1⟩
   ·simp at hu
  rcases hcase with ⟨rfl, rfl⟩ | ⟨rfl, rfl⟩
  ·have hlog : log = encA (ebA eb (I (-1)) ++ tbA tb cb mb [I (-1), I (-1), I 12, I 19] K2 L2) := hlog
   subst hbx hrw hlog henv hstp
   refine A9 rfl (by simp) (Tr.block ?_)
   refine Tr.seq (Ct rfl rfl rfl (A := ebA eb (I (-1)) ++ tbA tb cb mb [I (-1), I (-1), I 12, I 19] K2 L2) (TraceK.runN 4 rfl (by simp) (TraceK.call rfl rfl (A6v cb mb) (Bw (j := 2) rfl rfl (by omega) (Ay (hA2 _) rfl rfl rfl (show (tb, Ob.cells [I (-1), I (-1), I 12, I 19]) ∈ _ by simp [tbA]) (by simp) (TraceK.run rfl (by simp) (.done ⟨by kernel_rfl, by kernel_rfl, ?_⟩)))))))
   refine Tr.weak (s' := ⟨[(3, .rptr eb 0), (5, .ptr 5 0), (6, .ptr 6 0), (7, .ptr 7 0), (9, I 12)], [(5, ⟨Dq cb mb, false⟩), (6, ⟨[I 1], false⟩), (7, ⟨[tbV tb], false⟩)], [], encA (ebA eb (I (-1)) ++ tbA tb cb mb [I (-1), I (-1), I 12, I 19] K2 L2), false⟩)
    (Bz (.k rfl (.k rfl (.k rfl (.k rfl (.k rfl .nil))))) (.k rfl (.k rfl (.k rfl .nil))) .nil rfl rfl rfl) ?_
   refine Tr.seq (Tr.reg (Steps.runN 3 rfl (by simp) (Steps.on rfl rfl (Bf (hA2 _) (A := ebA eb (I (-1)) ++ tbA tb cb mb [I (-1), I (-1), I 12, I 19] K2 L2) rfl rfl (show (eb, Ob.cells [I (-1)]) ∈ _ from List.mem_cons_self) rfl (Steps.on rfl rfl (Steps.runN 1 rfl (by simp) (Steps.on rfl rfl (Steps.runN 1 rfl (by simp) (Steps.off (.bool true) rfl rfl rfl (Steps.off (.bool true) rfl rfl rfl (Steps.off (.bool true) rfl rfl rfl (Steps.on rfl rfl (Steps.fin rfl (by simp) ?_)))))))))))))
   refine A6 rfl (Tr.reg (Steps.runN 1 rfl (by simp) (Be (hA2 _) (A := ebA eb (I (-1)) ++ tbA tb cb mb [I (-1), I (-1), I 12, I 19] K2 L2) (blk := eb) (off := 0) (v := I 12) rfl rfl List.mem_cons_self (by simp) rfl rfl (Steps.fin rfl trivial ?_))))
   exact ⟨⟨[], [(5, ⟨Dq cb mb, false⟩), (6, ⟨[I 1], false⟩), (7, ⟨[tbV tb], false⟩)], [], encA (ebA eb (I 12) ++ tbA tb cb mb [I (-1), I (-1), I 12, I 19] K2 L2), false⟩, Bz .nil (.k rfl (.k rfl (.k rfl .nil))) .nil rfl rfl (congrArg encA (A9x n1 n2 n3)), ⟨rfl, rfl, rfl⟩, rfl⟩
  ·have hlog : log = encA (ebA eb (I 12) ++ tbA tb cb mb [I (-1), I (-1), I 12, I 19] K2 L2) := hlog
   subst hbx hrw hlog henv hstp
   refine A9 rfl (by simp) (Tr.block ?_)
   refine Tr.seq (Ct rfl rfl rfl (A := ebA eb (I 12) ++ tbA tb cb mb [I (-1), I (-1), I 12, I 19] K2 L2) (TraceK.runN 4 rfl (by simp) (TraceK.call rfl rfl (A6u cb mb) (Bw (j := 3) rfl rfl (by omega) (Ay (hA2 _) rfl rfl rfl (show (tb, Ob.cells [I (-1), I (-1), I 12, I 19]) ∈ _ by simp [tbA]) (by simp) (TraceK.run rfl (by simp) (.done ⟨by kernel_rfl, by kernel_rfl, ?_⟩)))))))
   refine Tr.weak (s' := ⟨[(3, .rptr eb 0), (5, .ptr 5 0), (6, .ptr 6 0), (7, .ptr 7 0), (9, I 19)], [(5, ⟨Dq cb mb, false⟩), (6, ⟨[I 1], false⟩), (7, ⟨[tbV tb], false⟩)], [], encA (ebA eb (I 12) ++ tbA tb cb mb [I (-1), I (-1), I 12, I 19] K2 L2), false⟩)
    (Bz (.k rfl (.k rfl (.k rfl (.k rfl (.k rfl .nil))))) (.k rfl (.k rfl (.k rfl .nil))) .nil rfl rfl rfl) ?_
   refine Tr.seq (Tr.reg (Steps.runN 3 rfl (by simp) (Steps.on rfl rfl (Bf (hA2 _) (A := ebA eb (I 12) ++ tbA tb cb mb [I (-1), I (-1), I 12, I 19] K2 L2) rfl rfl (show (eb, Ob.cells [I 12]) ∈ _ from List.mem_cons_self) rfl (Steps.on rfl rfl (Steps.runN 1 rfl (by simp) (Steps.on rfl rfl (Steps.runN 1 rfl (by simp) (Steps.on rfl rfl (Steps.runN 1 rfl (by simp) (Steps.on rfl rfl (Bf (hA2 _) (A := ebA eb (I 12) ++ tbA tb cb mb [I (-1), I (-1), I 12, I 19] K2 L2) rfl rfl (show (eb, Ob.cells [I 12]) ∈ _ from List.mem_cons_self) rfl (Steps.on rfl rfl (Steps.runN 1 rfl (by simp) (Steps.on rfl rfl (Steps.fin rfl (by simp) ?_))))))))))))))))
   refine A4 rfl (Tr.skip ?_)
   exact ⟨⟨[], [(5, ⟨Dq cb mb, false⟩), (6, ⟨[I 1], false⟩), (7, ⟨[tbV tb], false⟩)], [], encA (ebA eb (I 12) ++ tbA tb cb mb [I (-1), I (-1), I 12, I 19] K2 L2), false⟩, Bz .nil (.k rfl (.k rfl (.k rfl .nil))) .nil rfl rfl rfl, ⟨rfl, rfl, rfl⟩, rfl⟩
 rotate_left
 ·rintro e t henv h
  exact h.elim
 rintro ⟨env, bx, rw, log, stp⟩ henv hstp ⟨hbx, hrw, hlog⟩
 simp only at hbx hrw hlog henv hstp
 have hlog : log = encA (ebA eb (I 12) ++ tbA tb cb mb [I (-1), I (-1), I 12, I 19] K2 L2) := hlog
 subst hbx hrw hlog henv hstp
 refine Tr.seq (Tr.seq (Tr.reg (Bf hA (A := ebA eb (I 12) ++ tbA tb cb mb [I (-1), I (-1), I 12, I 19] K2 L2) rfl rfl (show (eb, Ob.cells [I 12]) ∈ _ from List.mem_cons_self) rfl (Steps.runN 1 rfl (by simp) (Steps.fin rfl (by simp) (A4 rfl (Tr.skip ?_)))))))
 refine Tr.seq (Tr.reg (Cu hA (A := ebA eb (I 12) ++ tbA tb cb mb [I (-1), I (-1), I 12, I 19] K2 L2) rfl fun fb hfb => Steps.fin rfl (by simp) ?_))
 refine Tr.seq (Tr.reg (Cu hA (A := (fb, .cells [.nils]) :: (ebA eb (I 12) ++ tbA tb cb mb [I (-1), I (-1), I 12, I 19] K2 L2)) rfl fun nb hnb => Steps.fin rfl (by simp) ?_))
 have hne : eb ≠ fb := fun e => hfb (by simp [ebA, e])
 refine Tr.seq (Tr.reg (Steps.runN 1 rfl (by simp) (Yl (A9h (t := 56) (u := nxV fb eb nb cb mb) (ids := [5]) rfl rfl) ?_)))
 have hm : fb ≠ nb ∧ eb ≠ nb ∧ tb ≠ nb ∧ cb ≠ nb ∧ mb ≠ nb := by
  simp only [ebA, tbA, arP, List.cons_append, List.nil_append, List.map_cons, List.map_nil, List.mem_cons, List.not_mem_nil, or_false, not_or] at hnb
  exact ⟨fun e => hnb.1 e.symm, fun e => hnb.2.1 e.symm, fun e => hnb.2.2.1 e.symm, fun e => hnb.2.2.2.1 e.symm, fun e => hnb.2.2.2.2 e.symm⟩
 obtain ⟨m1, m2, m3, m4, m5⟩ := hm
 refine Gw hA (A := (nb, .cells [.nilf]) :: (fb, .cells [.nils]) :: (ebA eb (I 12) ++ tbA tb cb mb [I (-1), I (-1), I 12, I 19] K2 L2)) (blk := nb) (off := 0) (v := nxV fb eb nb cb mb) rfl rfl List.mem_cons_self (by simp) rfl rfl ?_
 rw [setA_nb m1 m2 m3 m4 m5]
 refine Steps.fin rfl trivial ?_
 refine Tr.weak (s' := ⟨[(3, .rptr eb 0), (5, .ptr 5 0), (6, .ptr 6 0), (10, .rptr fb 0), (11, .rptr nb 0)], [(5, ⟨Dq cb mb, true⟩), (6, ⟨[I 1], false⟩)], [], encA ((nb, .cells [nxV fb eb nb cb mb]) :: (fb, .cells [.nils]) :: (ebA eb (I 12) ++ tbA tb cb mb [I (-1), I (-1), I 12, I 19] K2 L2)), false⟩)
  (Bz (.k rfl (.k rfl (.k rfl (.k rfl (.k rfl .nil))))) (.k rfl (.k rfl .nil)) .nil rfl rfl rfl) ?_
 refine Tr.weak (Wk.sub hA (B := resA fb eb nb cb mb) (D := [(tb, .cells [I (-1), I (-1), I 12, I 19])]) rfl (by classical exact List.perm_iff_count.2 fun x => by simp only [resA, nbA, seB, ebA, tbA, List.count_append, List.count_cons, List.count_nil]; omega)) ?_
 refine Tr.seq (Ct rfl rfl rfl (A := resA fb eb nb cb mb) (Ay hA rfl rfl rfl (show (nb, Ob.cells [nxV fb eb nb cb mb]) ∈ _ by simp [resA, nbA]) (by simp) (TraceK.runN 1 rfl (by simp) (TraceK.call rfl rfl (Acv cb mb) (TraceK.runN 1 rfl (by simp) (.done ⟨by kernel_rfl, by kernel_rfl, ?_⟩))))))
 refine Hz (F := []) (A1 := resA fb eb nb cb mb) (us := [.nils, eRe (0, 0) 0 0, I 1, .rptr fb 0, .rptr eb 0, plP cb mb, .rptr nb 0]) hA rfl rfl rfl (Th (A8n hne)) (.inl (by simp)) fun B hB => ?_
 obtain rfl := hB
 refine Steps.fin rfl trivial ?_
 refine Tr.seq (Ct rfl rfl rfl (A := nbA fb eb nb cb mb ++ (arP cb mb K2 L2 ++ seB fb eb srS)) (Ay hA rfl rfl rfl (show (fb, Ob.cells [srS]) ∈ _ by simp [seB]) (by simp) (Ay hA rfl rfl rfl (show (eb, Ob.cells [I 12]) ∈ _ by simp [seB]) (by simp) (TraceK.runN 1 rfl (by simp) (Lk hA rfl rfl rfl (show (eb, Ob.cells [I 12]) ∈ _ by simp [seB]) (by simp) rfl rfl rfl (TraceK.runN 1 rfl (by simp) (.done ⟨by kernel_rfl, by kernel_rfl, Steps.fin rfl trivial ?_⟩)))))))
 refine Tr.weak (Wk.take (t := 3) (blk := eb) (A := nbA fb eb nb cb mb ++ (arP cb mb K2 L2 ++ seB fb eb srS)) rfl rfl rfl (show (eb, Ob.cells [I 12]) ∈ _ by simp [seB]) rfl) ?_
 exact Bg rfl rfl rfl ⟨_, rfl, rfl⟩
end
section
open Go.Am
attribute [local simp] cells Aa mkv Ag Ap under dem dem1 eB A7 B8
def minW (a b : Int × Int) : Int × Int := (w (a.1 - b.2), w (a.2 - b.1))
theorem c_minusW (a b : Int × Int) : C Tryz.prog Nd [eB a, eB b] (eB (minW a b)) := by
 refine C_of mixed Sq (by simp) fun S ok => ?_
 exact A2 rfl (by simp) (A2 rfl (by simp) (Bb rfl rfl rfl trivial))
theorem c_low (a b : Int × Int) : C Tryz.prog Q5 [eB a, eB b] (.bool (lowB a b)) := by
 refine C_of mixed Mz (by simp) fun S ok => ?_
 exact A2 rfl (by simp) (A2 rfl (by simp) (Bb rfl rfl rfl trivial))
theorem c_high (a b : Int × Int) : C Tryz.prog Q4 [eB a, eB b] (.bool (Wf a b)) := by
 refine C_of mixed My (by simp) fun S ok => ?_
 exact A2 rfl (by simp) (A2 rfl (by simp) (Bb rfl rfl rfl trivial))
theorem Aag {bt : Int × Int → Int × Int → Bool} {l : List (Int × Int)} {m : Nat} {p : Int × Int} (h : l[m]? = some p) : Fz bt (l.take (m + 1)) = Cd bt (Fz bt (l.take m)) p := by
 unfold Fz; rw [List.take_add_one, h, List.foldl_append]; rfl
theorem c_pick {it bf : FuncId} {us : List V} {bt : Int × Int → Int × Int → Bool} {l : List (Int × Int)} (hbt : ∀ a b, C Tryz.prog bf [eB a, eB b] (.bool (bt a b))) (hus : Plain us) (hit : Iter Tryz.prog it us (l.map eEnd)) :
  C Tryz.prog Jp [.func (.func it) [] us, .func (.func bf) [] []] (.tuple [eB (Fz bt l).1, .bool (Fz bt l).2]) := by
 refine C_of mixed I9 (by simp) fun S ok => ?_
 refine A2 rfl (by simp) (Tr.seq (A2 rfl (by simp) (Tr.block ?_)))
 refine Tr.weak (s' := ⟨[(7, .func (.func it) [] us), (3, .ptr 3 0), (4, .ptr 4 0), (5, .ptr 5 0)], [(3, ⟨[.func (.func bf) [] []], false⟩), (4, ⟨[I (Fz bt []).1.1, I (Fz bt []).1.2], false⟩), (5, ⟨[.bool (Fz bt []).2], false⟩)], [], [], false⟩)
  (Ab (.k rfl (.k rfl (.k rfl (.k rfl .nil)))) (.k rfl (.k rfl (.k rfl .nil))) .nil (by simp only [Ec, List.all_cons, Bq hus]; rfl) rfl) ?_
 refine Tr.range rfl (hus.d _) hit rfl (by simp only [List.all_cons, Bq hus]; rfl) rfl (by intro x hx; obtain ⟨b, _, rfl⟩ := List.mem_map.1 hx; rfl)
  (fun pre t => ∃ m, m ≤ l.length ∧ pre = (l.take m).map eEnd ∧ t.bx = [(3, ⟨[.func (.func bf) [] []], false⟩), (4, ⟨[I (Fz bt (l.take m)).1.1, I (Fz bt (l.take m)).1.2], false⟩), (5, ⟨[.bool (Fz bt (l.take m)).2], false⟩)] ∧ t.rw = [] ∧ t.log = [])
  (fun _ _ => False) ⟨0, by omega, rfl, rfl, rfl, rfl⟩ ?_ ?_ ?_
 ·rintro a0 L0 rc0 h0 S1 S2 ok1 ok2 pre q t lp hpre ⟨m, hm, rfl, hbx, hrw, hlog⟩ henv hstp
  obtain ⟨env, bx, rw, log, stp⟩ := t
  simp only at hbx hrw hlog henv hstp
  subst hbx hrw hlog henv hstp
  have hmx : m < l.length ∧ ∃ b, l[m]? = some b ∧ q = eEnd b := by
   have h1 : ((l.take m).map eEnd).length = m := by simp; omega
   have h2 := hpre.length_le
   simp at h2
   have hml : m < l.length := by omega
   refine ⟨hml, _, List.getElem?_eq_getElem hml, ?_⟩
   have h3 := List.IsPrefix.getElem hpre (i := m) (by simp; omega)
   simp only [List.getElem_map] at h3
   rw [List.getElem_append_right (by omega)] at h3
   simpa using h3
  obtain ⟨hml, p, hb, rfl⟩ := hmx
  have eH := Aag (bt := bt) hb
  obtain ⟨⟨f, b⟩, hH⟩ : ∃ H, Fz bt (l.take m) = H := ⟨_, rfl⟩
  rw [hH] at eH ⊢
  refine A9 rfl (by simp) ?_
  refine Tr.weak (s' := ⟨[(3, .ptr 3 0), (4, .ptr 4 0), (5, .ptr 5 0), (6, .ptr 6 0)], [(3, ⟨[.func (.func bf) [] []], false⟩), (4, ⟨[I f.1, I f.2], false⟩), (5, ⟨[.bool b], false⟩), (6, ⟨[I p.1, I p.2], false⟩)], [], [], false⟩)
   (Ab (.k rfl (.k rfl (.k rfl (.k rfl .nil)))) (.k rfl (.k rfl (.k rfl (.k rfl .nil)))) .nil rfl rfl) ?_
  have kb := hbt p f
  refine Tr.block (A3 rfl (by simp) ?_)
  cases b with
  | false =>
    refine Steps.off (want := false) (.bool true) rfl rfl rfl (Steps.fin rfl (by simp) (A6 rfl (A9 rfl (by simp) ?_)))
    refine ⟨⟨[], [(3, ⟨[.func (.func bf) [] []], false⟩), (4, ⟨[I (Fz bt (l.take (m + 1))).1.1, I (Fz bt (l.take (m + 1))).1.2], false⟩), (5, ⟨[.bool (Fz bt (l.take (m + 1))).2], false⟩)], [], [], false⟩, ?_, ⟨m + 1, by omega, ?_, rfl, rfl, rfl⟩, rfl⟩
    ·rw [eH]
     refine Ab .nil (.k rfl (.cons rfl (.cons (VLe.i ?_) (.cons (VLe.i ?_) .nil)) (.cons rfl (.cons (VLe.of_eq ?_) .nil) .nil))) .nil rfl rfl <;> simp [Cd]
    ·rw [List.take_add_one, hb]; simp
  | true =>
    refine Steps.gcallv (r := .bool (bt p f)) rfl rfl rfl rfl rfl (fun _ => by simp) (fun _ => kb) (Steps.fin rfl (by simp) ?_)
    cases hh : bt p f with
    | true =>
      refine A6 rfl (A9 rfl (by simp) ?_)
      refine ⟨⟨[], [(3, ⟨[.func (.func bf) [] []], false⟩), (4, ⟨[I (Fz bt (l.take (m + 1))).1.1, I (Fz bt (l.take (m + 1))).1.2], false⟩), (5, ⟨[.bool (Fz bt (l.take (m + 1))).2], false⟩)], [], [], false⟩, ?_, ⟨m + 1, by omega, ?_, rfl, rfl, rfl⟩, rfl⟩
      ·rw [eH]
       refine Ab .nil (.k rfl (.cons rfl (.cons (VLe.i ?_) (.cons (VLe.i ?_) .nil)) (.cons rfl (.cons (VLe.of_eq ?_) .nil) .nil))) .nil rfl rfl <;> simp [Cd, hh]
      ·rw [List.take_add_one, hb]; simp
    | false =>
      refine A4 rfl (Tr.skip ?_)
      refine ⟨⟨[], [(3, ⟨[.func (.func bf) [] []], false⟩), (4, ⟨[I (Fz bt (l.take (m + 1))).1.1, I (Fz bt (l.take (m + 1))).1.2], false⟩), (5, ⟨[.bool (Fz bt (l.take (m + 1))).2], false⟩)], [], [], false⟩, ?_, ⟨m + 1, by omega, ?_, rfl, rfl, rfl⟩, rfl⟩
      ·rw [eH]
       refine Ab .nil (.k rfl (.cons rfl (.cons (VLe.i ?_) (.cons (VLe.i ?_) .nil)) (.cons rfl (.cons (VLe.of_eq ?_) .nil) .nil))) .nil rfl rfl <;> simp [Cd, hh]
      ·rw [List.take_add_one, hb]; simp
 ·rintro ⟨env, bx, rw, log, stp⟩ henv hstp ⟨m, hm, hpre, hbx, hrw, hlog⟩
  simp only at hbx hrw hlog henv hstp
  subst hbx hrw hlog henv hstp
  have hml : m = l.length := by
   have := congrArg List.length hpre
   simp at this; omega
  subst hml
  rw [List.take_length]
  exact Ll rfl (by simp) (by kernel_rfl) (A5 rfl rfl rfl rfl trivial)
 ·intro e t _ h; exact h.elim
end
section
open Go.Am
attribute [local simp] cells Aa mkv Ag Ap under dem dem1 eB A7 B8
theorem Ym {x : Int} (h : -1000000 ≤ x ∧ x ≤ 1000000) : 0 ≤ x * x ∧ x * x ≤ 1000000000000 := by
 have h0 := Xe x
 rcases Int.le_total 0 x with h1 | h1
 ·have h2 : x * x ≤ 1000000 * 1000000 := Int.mul_le_mul h.2 h.2 h1 (by omega)
  omega
 ·have h2 : -x * -x ≤ 1000000 * 1000000 := Int.mul_le_mul (show -x ≤ 1000000 by omega) (show -x ≤ 1000000 by omega) (by omega) (by omega)
  rw [Int.neg_mul_neg] at h2; omega
theorem rows_mid {f : Fr} (hf : midF f) {r : Int × Int × Int} (h : r ∈ Bc f) : (-1000000 ≤ r.1 ∧ r.1 ≤ 1000000) ∧ -1000000 ≤ r.2.1 ∧ r.2.1 ≤ r.2.2 ∧ r.2.2 ≤ 1000000 := by
 obtain ⟨⟨a1, a2⟩, a3, a4, a5⟩ := Ox _ _ h
 obtain ⟨⟨⟨hx1, hx2⟩, hx3, hx4⟩, ⟨⟨hy1, hy2⟩, hy3, hy4⟩, _⟩ := hf
 unfold lowY at a3; unfold Dm at a4
 omega
theorem A5w (f : Fr) : Plain [.vptr (A7 f) 0, .vptr [I 0, I 0] 0] := ⟨fun b => rfl, fun B R => rfl⟩
theorem A1p {f : Fr} (hf : midF f) : Iter Tryz.prog I2 [.vptr (A7 f) 0, .vptr [I 0, I 0] 0] (((Bc f).map rowSq).map eEnd) := by
 refine Oi mixed N0 (by simp) fun S ok => ?_
 refine A2 rfl (by simp) ?_
 refine A3 rfl (by simp) (Steps.call rfl rfl (Acz f) (Steps.fin rfl (by simp) (Tr.block ?_)))
 refine Tr.weak (s' := ⟨[(10, .func (.func Cc) [] [.vptr (A7 f) 0]), (2, .vptr [I 0, I 0] 0), (3, .ptr 3 0)], [(3, ⟨[.yld], false⟩)], [], [], false⟩)
  (Ab (.k rfl (.k rfl (.k rfl .nil))) (.k rfl .nil) .nil rfl rfl) ?_
 refine Tr.range rfl rfl (Abc hf) rfl rfl rfl (by intro x hx; obtain ⟨b, _, rfl⟩ := List.mem_map.1 hx; rfl)
  (fun pre t => ∃ m, m ≤ (Bc f).length ∧ pre = ((Bc f).take m).map eRow ∧ t.bx = [(3, ⟨[.yld], false⟩)] ∧ t.rw = [] ∧ t.log = (((Bc f).take m).map rowSq).map eEnd)
  (fun e t => e = .ret ∧ t.stp = true) ⟨0, by omega, rfl, rfl, rfl, rfl⟩ ?_ ?_ ?_
 ·rintro a0 L0 rc0 h0 S1 S2 ok1 ok2 pre q t lp hpre ⟨m, hm, rfl, hbx, hrw, hlog⟩ henv hstp
  obtain ⟨env, bx, rw, log, stp⟩ := t
  simp only at hbx hrw hlog henv hstp
  subst hbx hrw hlog henv hstp
  have hmx : m < (Bc f).length ∧ ∃ b, (Bc f)[m]? = some b ∧ q = eRow b := by
   have h1 : (((Bc f).take m).map eRow).length = m := by simp; omega
   have h2 := hpre.length_le
   simp at h2
   have hml : m < (Bc f).length := by omega
   refine ⟨hml, _, List.getElem?_eq_getElem hml, ?_⟩
   have h3 := List.IsPrefix.getElem hpre (i := m) (by simp; omega)
   simp only [List.getElem_map] at h3
   rw [List.getElem_append_right (by omega)] at h3
   simpa using h3
  obtain ⟨hml, ⟨x, a, b⟩, hb, rfl⟩ := hmx
  obtain ⟨lg, hlg⟩ : ∃ lg, (((Bc f).take m).map rowSq).map eEnd = lg := ⟨_, rfl⟩
  have hp1 : List.IsPrefix (lg ++ [eEnd (rowSq (x, a, b))]) (((Bc f).map rowSq).map eEnd) := by
   refine ⟨(((Bc f).drop (m + 1)).map rowSq).map eEnd, ?_⟩
   have hr : (Bc f)[m] = (x, a, b) := (List.getElem?_eq_some_iff.1 hb).2
   have e : Bc f = (Bc f).take m ++ ((x, a, b) :: (Bc f).drop (m + 1)) := by
    rw [← hr, ← List.drop_eq_getElem_cons hml, List.take_append_drop]
   conv => rhs; rw [e]
   rw [← hlg]; simp
  rw [hlg]
  obtain ⟨b1, b2, b3, b4⟩ := rows_mid hf (List.mem_of_getElem? hb)
  simp only at b1 b2 b3 b4
  refine A9 rfl (by simp) ?_
  refine Tr.block (A2 rfl (by simp) ?_)
  refine Ll rfl (by simp) (by kernel_rfl) ?_
  obtain ⟨nr, hnr⟩ : ∃ nr, max a (min 0 b) = nr := ⟨_, rfl⟩
  refine Tr.weak (s' := ⟨[(3, .ptr 3 0), (5, I x), (6, I nr), (7, I a), (8, I b)], [(3, ⟨[.yld], false⟩)], [], lg, false⟩)
   (Ab (.k rfl (.cons rfl (VLe.i ?_) (.cons rfl (VLe.i ?_) (.cons rfl (VLe.i ?_) (.cons rfl (VLe.i ?_) .nil))))) (.k rfl .nil) .nil rfl rfl) ?_
  ·show IntKind.wrap .i64 (x - 0) = x
   rw [Int.sub_zero]; exact w64 (by omega) (by omega)
  ·rw [← hnr]
   simp (disch := omega) only [cond_true, cond_false, H7, Jc, w64, Int.sub_zero]
  ·show IntKind.wrap .i64 (a - 0) = a
   rw [Int.sub_zero]; exact w64 (by omega) (by omega)
  ·show IntKind.wrap .i64 (b - 0) = b
   rw [Int.sub_zero]; exact w64 (by omega) (by omega)
  have q1 := Ym b1
  have q2 := Ym (x := nr) (by omega)
  have q3 := Ym (x := a) (by omega)
  have q4 := Ym (x := b) (by omega)
  obtain ⟨p1, hq1⟩ : ∃ p, x * x + nr * nr = p := ⟨_, rfl⟩
  obtain ⟨p2, hq2⟩ : ∃ p, x * x + max (a * a) (b * b) = p := ⟨_, rfl⟩
  have eY : eEnd (rowSq (x, a, b)) = [.agg [I p1, I p2]] := by
   simp only [eEnd, eB, rowSq, hnr, hq1, hq2]
  rw [eY] at hp1
  refine Eh 20 rfl (by simp) ?_
  refine Yl (s' := ⟨[(38, .yld), (57, .agg [I p1, I p2])], [(3, ⟨[.yld], false⟩)], [], lg, false⟩) (Ab (.k rfl (.cons rfl (VLe.aggL (.cons (VLe.i ?_) (.cons (VLe.i ?_) .nil))) .nil)) (.k rfl .nil) .nil rfl rfl) ?_
  ·rw [← hq1]; simp (disch := omega) only [w64]
  ·rw [← hq2]; simp (disch := omega) only [w64, H7, cond_true]
  clear hq1 hq2
  refine Steps.yield rfl (by simp) rfl hp1 rfl (fun c => ?_)
  cases c with
  | false =>
    refine Steps.fin rfl (by simp) (A6 rfl ?_)
    exact Tr.ret ⟨⟨[], [(3, ⟨[.yld], false⟩)], [], lg ++ [[.agg [I p1, I p2]]], true⟩, Ab .nil (.k rfl .nil) .nil rfl rfl, rfl, rfl⟩
  | true =>
    refine Steps.fin rfl (by simp) (A4 rfl (Tr.skip ?_))
    refine ⟨⟨[], [(3, ⟨[.yld], false⟩)], [], lg ++ [[.agg [I p1, I p2]]], false⟩, Ab .nil (.k rfl .nil) .nil rfl rfl, ⟨m + 1, by omega, ?_, rfl, rfl, ?_⟩, rfl⟩
    ·rw [List.take_add_one, hb]; simp
    ·rw [List.take_add_one, hb, List.map_append, List.map_append, hlg, ← eY]; rfl
 ·rintro ⟨env, bx, rw, log, stp⟩ henv hstp ⟨m, hm, hpre, hbx, hrw, hlog⟩
  simp only at hbx hrw hlog henv hstp
  subst hbx hrw hlog henv hstp
  have hml : m = (Bc f).length := by
   have := congrArg List.length hpre
   simp at this; omega
  subst hml
  refine ⟨.inr ?_, [], [], [], rfl, rfl, rfl⟩
  simp only [List.take_length]
 ·rintro e t _ ⟨rfl, h⟩
  exact ⟨.inl h, [], [], [], rfl, rfl, rfl⟩
theorem Acw {f : Fr} (hf : midF f) : ∃ b : Bool, C Tryz.prog Sz [.agg (A7 f), eB (0, 0)] (.tuple [eB (sqsN f), .bool b]) := by
 have k1 := c_pick c_low (A5w f) (A1p hf)
 have k2 := c_pick c_high (A5w f) (A1p hf)
 obtain ⟨⟨⟨a1, a2⟩, a3⟩, ha⟩ : ∃ p, Fz lowB ((Bc f).map rowSq) = p := ⟨_, rfl⟩
 obtain ⟨⟨⟨b1, b2⟩, b3⟩, hb⟩ : ∃ p, Fz Wf ((Bc f).map rowSq) = p := ⟨_, rfl⟩
 have e : sqsN f = (a1, b2) := by unfold sqsN; rw [ha, hb]
 rw [ha] at k1
 rw [hb] at k2
 rw [e]
 refine ⟨a3, C_of mixed Pm (by simp) fun S ok => ?_⟩
 refine A2 rfl (by simp) (A2 rfl (by simp) ?_)
 refine A3 rfl (by simp) (Steps.call rfl rfl k1 (Steps.fin rfl (by simp) ?_))
 refine Tr.weak (s' := ⟨[(4, .ptr 4 0), (5, .bool false), (6, .func (.func I2) [] [.ptr 2 0, .ptr 3 0]), (7, .ptr 7 0), (8, .bool a3)], [(2, ⟨A7 f, true⟩), (3, ⟨[I 0, I 0], true⟩), (4, ⟨[I 0, I 0], false⟩), (7, ⟨[I a1, I a2], false⟩)], [], [], false⟩)
  (Ab (.k rfl (.k rfl (.k rfl (.k rfl (.k rfl .nil))))) (.k rfl (.k rfl (.k rfl (.k rfl .nil)))) .nil rfl rfl) ?_
 refine A3 rfl (by simp) (Steps.call rfl rfl k2 (Steps.fin rfl (by simp) ?_))
 exact A2 rfl (by simp) (A5 rfl rfl rfl rfl trivial)
end
section
open Go.Am
attribute [local simp] cells Aa mkv Ag Ap under dem dem1 eB A7 B8
theorem Y9 {f : Fr} (hf : midF f) : ∃ e : Int, (e = 0 ↔ (Bj f).2 = true) ∧ C Tryz.prog Ev [.agg (A7 f)] (.tuple [.agg (A7 (Bj f).1), I e]) := by
 cases h : (Bj f).2 with
 | true => exact ⟨0, by simp, Vg hf h⟩
 | false =>
   refine ⟨4, by simp, ?_⟩
   rw [Abf h]
   exact Tc hf h
theorem c_twoS {a b : Fr} (ha : Av a = true) (hb : Av b = true) : ∃ e : Int, (e = 0 ↔ (Bj a).2 = true ∧ (Bj b).2 = true) ∧ C Tryz.prog A38 [.agg (A7 a), .agg (A7 b)] (if (Bj a).2 && (Bj b).2 then .tuple [.agg (A7 (Bj a).1), .agg (A7 (Bj b).1), I e] else .tuple [.agg (A7 frZ), .agg (A7 frZ), I e]) := by
 have ka := Dd a
 have kb := Dd b
 rw [if_pos ha] at ka
 rw [if_pos hb] at kb
 obtain ⟨e1, h1, k1⟩ := Y9 (Ju ha)
 obtain ⟨e2, h2, k2⟩ := Y9 (Ju hb)
 have k3 := Fy e1 e2
 obtain ⟨e, he⟩ : ∃ e, (if e1 = 0 then e2 else e1) = e := ⟨_, rfl⟩
 rw [he] at k3
 have hz : e = 0 ↔ (Bj a).2 = true ∧ (Bj b).2 = true := by
  rw [← he]
  by_cases h : e1 = 0
  ·rw [if_pos h]; exact ⟨fun h' => ⟨h1.1 h, h2.1 h'⟩, fun h' => h2.2 h'.2⟩
  ·rw [if_neg h]; exact ⟨fun h' => absurd h' h, fun h' => absurd (h1.2 h'.1) h⟩
 refine ⟨e, hz, C_of mixed Wp (by simp) fun S ok => ?_⟩
 refine A2 rfl (by simp) (Tr.seq (Tr.seq ?_))
 refine A8 (TraceK.run rfl (by simp) (TraceK.call rfl rfl ka (TraceK.run rfl (by simp) (TraceK.call rfl rfl kb (TraceK.run rfl (by simp) (TraceK.call rfl rfl (Fy 0 0) ?_))))))
 refine TraceK.run rfl (by simp) (.done ⟨by kernel_rfl, by kernel_rfl, ?_⟩)
 refine A2 rfl (by simp) (A4 rfl (Tr.skip ?_))
 refine Tr.weak (s' := ⟨[(2, .ptr 2 0), (3, .ptr 3 0), (4, .ptr 4 0), (5, .ptr 5 0), (6, I 0)], [(2, ⟨A7 a, false⟩), (3, ⟨A7 b, false⟩), (4, ⟨A7 frZ, false⟩), (5, ⟨A7 frZ, false⟩)], [], [], false⟩)
  (Ab (.k rfl (.k rfl (.k rfl (.k rfl (.k rfl .nil))))) (.k rfl (.k rfl (.k rfl (.k rfl .nil)))) .nil rfl rfl) ?_
 refine A3 rfl (by simp) (Steps.call rfl rfl (Cs a) (Steps.run rfl (by simp) (Steps.call rfl rfl k1 (Steps.fin rfl (by simp) ?_))))
 refine A3 rfl (by simp) (Steps.call rfl rfl (Cs b) (Steps.run rfl (by simp) (Steps.call rfl rfl k2 (Steps.fin rfl (by simp) ?_))))
 refine Tr.weak (s' := ⟨[(2, .ptr 2 0), (3, .ptr 3 0), (4, .ptr 4 0), (5, .ptr 5 0), (6, I e1), (8, I e2)], [(4, ⟨A7 (Bj a).1, false⟩), (5, ⟨A7 (Bj b).1, false⟩), (2, ⟨A7 a, false⟩), (3, ⟨A7 b, false⟩)], [], [], false⟩)
  (Ab (.k rfl (.k rfl (.k rfl (.k rfl (.k rfl (.k rfl .nil)))))) (.k rfl (.k rfl (.k rfl (.k rfl .nil)))) .nil rfl rfl) ?_
 refine Tr.seq (Tr.seq (Tr.reg (Steps.run rfl (by simp) (Steps.call rfl rfl k3 (Steps.fin rfl (by simp) ?_)))))
 by_cases h0 : e = 0
 ·have hh := hz.1 h0
  rw [hh.1, hh.2]
  subst h0
  refine A2 rfl (by simp) (A4 rfl (Tr.skip ?_))
  exact Ll rfl (by simp) (by kernel_rfl) (A5 rfl rfl rfl rfl trivial)
 ·have hh : ((Bj a).2 && (Bj b).2) = false := by
   cases h4 : (Bj a).2 <;> cases h5 : (Bj b).2 <;> first | rfl | exact absurd (hz.2 ⟨h4, h5⟩) h0
  rw [hh]
  refine A2 rfl (by simp) (A6 (congrArg (fun b => some (V.bool b)) (show ((e : Int) != 0) = true by simpa using h0)) ?_)
  exact A2 rfl (by simp) (A5 rfl rfl rfl rfl trivial)
theorem Aaz {a b : Fr} (ha : Av a = true) (hb : Av b = true) : midF (comb minB a b) := by
 rw [Cb] at ha hb
 unfold fitF fitB at ha hb
 unfold midF comb minB
 simp only
 omega
theorem c_combM {a b : Fr} (ha : Av a = true) (hb : Av b = true) : C Tryz.prog Dp [.agg (A7 a), .agg (A7 b), .func (.func Nd) [] []] (.agg (A7 (comb minB a b))) := by
 have k := Fs c_minusW a b
 rw [Cb] at ha hb
 unfold fitF fitB at ha hb
 have e : comb minW a b = comb minB a b := by
  unfold comb minW minB w
  simp (disch := omega) only [w64]
 rw [← e]; exact k
theorem c_Gap {a b : Fr} (ha : Av a = true) (hb : Av b = true) : ∃ e : Int, C Tryz.prog A3a [.agg (A7 a), .agg (A7 b)] (.tuple [eB (gapN a b), I e]) := by
 obtain ⟨e, he, k⟩ := c_twoS ha hb
 unfold gapN
 rw [ha, hb]
 by_cases h0 : e = 0
 ·have hh := he.1 h0
  rw [hh.1, hh.2] at k
  rw [hh.1, hh.2]
  subst h0
  have fa := (M4 (Ha ha) hh.1).2
  have fb := (M4 (Ha hb) hh.2).2
  obtain ⟨sb, k2⟩ := Acw (Aaz fa fb)
  refine ⟨0, C_of mixed Nb (by simp) fun S ok => ?_⟩
  refine A2 rfl (by simp) (A3 rfl (by simp) (Steps.call rfl rfl k (Steps.fin rfl (by simp) ?_)))
  refine Tr.seq (A2 rfl (by simp) (A4 rfl (Tr.skip ?_)))
  refine A3 rfl (by simp) (Steps.call rfl rfl (c_combM fa fb) (Steps.run rfl (by simp) (Steps.call rfl rfl k2 (Steps.fin rfl (by simp) ?_))))
  exact A2 rfl (by simp) (A5 rfl rfl rfl rfl trivial)
 ·have hh : ((Bj a).2 && (Bj b).2) = false := by
   cases h4 : (Bj a).2 <;> cases h5 : (Bj b).2 <;> first | rfl | exact absurd (he.2 ⟨h4, h5⟩) h0
  rw [hh] at k
  have e2 : (true && true && (Bj a).2 && (Bj b).2) = false := by simpa using hh
  rw [e2]
  refine ⟨e, C_of mixed Nb (by simp) fun S ok => ?_⟩
  refine A2 rfl (by simp) (A3 rfl (by simp) (Steps.call rfl rfl k (Steps.fin rfl (by simp) ?_)))
  refine Tr.seq (A2 rfl (by simp) (A6 (congrArg (fun b => some (V.bool b)) (show ((e : Int) != 0) = true by simpa using h0)) ?_))
  exact A2 rfl (by simp) (A5 rfl rfl rfl rfl trivial)
end
section
open Go.Am
attribute [local simp] cells Aa mkv Ag Ap under dem dem1 eB A7 B8
def sdT : Sd → Nat
 | .rng .. => 231
 | .sec .. => 233
 | .off .. => 235
def frI (r : Fr) : List Int := [r.x.1, r.x.2, r.y.1, r.y.2, r.s.1, r.s.2, r.d.1, r.d.2]
def sdI : Sd → List Int
 | .rng a b lo hi => [a, b, lo, hi]
 | .sec a b o => [a, b, o]
 | .off a b r => a :: b :: frI r
def sdC (o : Sd) : List V := (sdI o).map I
def sdV (o : Sd) : V := .iface (sdT o) (.agg (sdC o))
theorem rep_int {w : World} {φ : Nat → Nat} {n : Int} {x : Value} (h : RepD w φ (I n) x) : x = .int .i64 n := by cases h; rfl
theorem rep_ints {w : World} {φ : Nat → Nat} {l : List Int} {x : Value} (h : RepD w φ (.agg (l.map I)) x) : x = .agg (l.map fun n => Value.int .i64 n).toArray := by
 cases h with
 | agg cs vs hl hh =>
   obtain ⟨vs⟩ := vs
   congr 2
   apply List.ext_getElem?
   intro i
   simp only [List.length_map, List.size_toArray] at hl
   rw [List.getElem?_map]
   by_cases hi : i < l.length
   ·have h1 : vs[i]? = some vs[i] := List.getElem?_eq_getElem (by omega)
    have h2 : l[i]? = some l[i] := List.getElem?_eq_getElem hi
    have := hh i (I l[i]) vs[i] (by rw [List.getElem?_map, h2]; rfl) (by simp)
    rw [h1, h2, rep_int this]; rfl
   ·rw [List.getElem?_eq_none (by omega), List.getElem?_eq_none (show l.length ≤ i by omega)]; rfl
theorem ints_rep {w : World} {φ : Nat → Nat} (l : List Int) : RepD w φ (.agg (l.map I)) (.agg (l.map fun n => Value.int .i64 n).toArray) := by
 refine .agg _ _ (by simp) fun i v x h1 h2 => ?_
 simp only [List.getElem?_toArray, List.getElem?_map, Option.map_eq_some_iff] at h1 h2
 obtain ⟨n, h3, rfl⟩ := h1
 obtain ⟨m, h4, rfl⟩ := h2
 rw [h3] at h4; cases h4
 exact .int _ _
theorem A4e (a b c d : Int) (w : World) : (method (Tryz.prog.types.size + Made.depth) 231 (.agg #[.int .i64 a, .int .i64 b, .int .i64 c, .int .i64 d]) "paravane/fix.nodes").run Tryz.prog w = .ok (Dj, .agg #[.int .i64 a, .int .i64 b]) w := by kernel_rfl
theorem A4d (a b c : Int) (w : World) : (method (Tryz.prog.types.size + Made.depth) 233 (.agg #[.int .i64 a, .int .i64 b, .int .i64 c]) "paravane/fix.nodes").run Tryz.prog w = .ok (Dj, .agg #[.int .i64 a, .int .i64 b]) w := by kernel_rfl
theorem A4f (a b c d e f g h i j : Int) (w : World) : (method (Tryz.prog.types.size + Made.depth) 235 (.agg #[.int .i64 a, .int .i64 b, .int .i64 c, .int .i64 d, .int .i64 e, .int .i64 f, .int .i64 g, .int .i64 h, .int .i64 i, .int .i64 j]) "paravane/fix.nodes").run Tryz.prog w = .ok (Dj, .agg #[.int .i64 a, .int .i64 b]) w := by kernel_rfl
theorem A86 (v : Value) (w : World) : (method (Tryz.prog.types.size + Made.depth) 231 v "paravane/fix.span").run Tryz.prog w = .ok (Fu, v) w := by kernel_rfl
theorem A85 (v : Value) (w : World) : (method (Tryz.prog.types.size + Made.depth) 233 v "paravane/fix.span").run Tryz.prog w = .ok (Iz, v) w := by kernel_rfl
theorem A87 (v : Value) (w : World) : (method (Tryz.prog.types.size + Made.depth) 235 v "paravane/fix.span").run Tryz.prog w = .ok (Fv, v) w := by kernel_rfl
def spanFn : Sd → FuncId
 | .rng .. => Fu
 | .sec .. => Iz
 | .off .. => Fv
theorem A88 (o : Sd) (w : World) (φ : Nat → Nat) (x : Value) (h : RepD w φ (.agg (sdC o)) x) : ∃ y, (method (Tryz.prog.types.size + Made.depth) (sdT o) x "paravane/fix.nodes").run Tryz.prog w = .ok (Dj, y) w ∧ RepD w φ (.agg [I o.a, I o.b]) y := by
 have e := rep_ints h
 have r : RepD w φ (.agg [I o.a, I o.b]) (.agg #[.int .i64 o.a, .int .i64 o.b]) := ints_rep [(o.a : Int), (o.b : Int)]
 refine ⟨_, ?_, r⟩
 rw [e]
 cases o with
 | rng a b lo hi => exact A4e _ _ _ _ w
 | sec a b k => exact A4d _ _ _ w
 | off a b r => exact A4f _ _ _ _ _ _ _ _ _ _ w
theorem Ph (o : Sd) (w : World) (φ : Nat → Nat) (x : Value) (h : RepD w φ (.agg (sdC o)) x) : ∃ y, (method (Tryz.prog.types.size + Made.depth) (sdT o) x "paravane/fix.span").run Tryz.prog w = .ok (spanFn o, y) w ∧ RepD w φ (.agg (sdC o)) y := by
 refine ⟨x, ?_, h⟩
 cases o with
 | rng a b lo hi => exact A86 _ w
 | sec a b k => exact A85 _ w
 | off a b r => exact A87 _ w
theorem c_nodes (a b : Int) : C Tryz.prog Dj [.agg [I a, I b]] (.tuple [I a, I b]) := by
 refine C_of mixed Pp (by simp) fun S ok => ?_
 exact A2 rfl (by simp) (Ll rfl (by simp) (by kernel_rfl) (A5 rfl rfl rfl rfl trivial))
theorem Ps (n lo hi : Int) : C Tryz.prog Gb [I n, I lo, I hi] (.bool (btw n lo hi)) := by
 refine C_of mixed Wt (by simp) fun S ok => ?_
 refine A2 rfl (by simp) ?_
 refine A2 rfl (by simp) ?_
 refine Bb rfl rfl ?_ trivial
 simp [Cp, btw]
theorem Ad8 {n : Int} (h0 : 0 ≤ n) (h1 : n ≤ 1099511627776) : C Tryz.prog Vu [I n] (eB (abt n)) := by
 have k := A6y n
 have hb : btw n 0 1099511627776 = true := by rw [Ca]; omega
 unfold A3r at k
 rw [if_pos hb] at k
 have hs := Ua h0 h1
 refine C_of mixed A05 (by simp) fun S ok => ?_
 refine A2 rfl (by simp) (A3 rfl (by simp) (Steps.call rfl rfl k (Steps.fin rfl (by simp) ?_)))
 refine A2 rfl (by simp) (A5 rfl rfl rfl ?_ trivial)
 have e := w64 (n := 0 - isq n) (by omega) (by omega)
 show V.agg [I (-isq n), I (isq n)] = V.agg [I (w (0 - isq n)), I (isq n)]
 unfold w; rw [e, Int.zero_sub]
theorem c_spanO {n : Nat} {o : Sd} (ho : o.ok n) : C Tryz.prog (spanFn o) [.agg (sdC o)] (.agg (A7 o.span)) := by
 cases o with
 | rng a b lo hi =>
   obtain ⟨_, h1, h2, h3⟩ := ho
   have k1 := Ad8 (n := hi) (by omega) (by omega)
   have k2 : C Tryz.prog Vu [I (w (2 * hi))] (eB (abt (2 * hi))) := by
    have e := w64 (n := 2 * hi) (by omega) (by omega)
    unfold w; rw [e]; exact Ad8 (by omega) (by omega)
   show C Tryz.prog Fu [.agg [I a, I b, I lo, I hi]] _
   refine C_of mixed O8 (by simp) fun S ok => ?_
   refine A2 rfl (by simp) ?_
   refine Tr.seq (A8 (TraceK.run rfl (by simp) (TraceK.call rfl rfl k1 (TraceK.run rfl (by simp) ?_))))
   refine TraceK.call rfl rfl k1 (TraceK.run rfl (by simp) (TraceK.call rfl rfl k2 (TraceK.run rfl (by simp) ?_)))
   refine TraceK.call rfl rfl k2 (TraceK.run rfl (by simp) (.done ⟨by kernel_rfl, by kernel_rfl, ?_⟩))
   exact A5 rfl rfl rfl rfl trivial
 | sec a b k => exact ho.2.elim
 | off a b r =>
   show C Tryz.prog Fv [.agg (I a :: I b :: A7 r)] _
   refine C_of mixed O9 (by simp) fun S ok => ?_
   exact A2 rfl (by simp) (A2 rfl (by simp) (A5 rfl rfl rfl rfl trivial))
end
section
open Go.Am
attribute [local simp] cells Aa mkv Ag Ap under dem dem1 eB A7 B8
def smB (b : Int × Int) : Prop := (-4000000 ≤ b.1 ∧ b.1 ≤ 4000000) ∧ -4000000 ≤ b.2 ∧ b.2 ≤ 4000000
def smF (f : Fr) : Prop := (smB f.x ∧ smB f.y) ∧ smB f.s ∧ smB f.d
theorem A5o {f : Fr} (h : Av f = true) : smF f := by
 rw [Cb] at h
 unfold fitF fitB at h; unfold smF smB; omega
theorem A3l {n : Nat} {o : Sd} (ho : o.ok n) : smF o.span := by
 cases o with
 | rng a b lo hi =>
   obtain ⟨_, h1, h2, h3⟩ := ho
   have e1 := Ua (n := hi) (by omega) (by omega)
   have e2 := Ua (n := 2 * hi) (by omega) (by omega)
   unfold smF smB Sd.span abt
   simp only
   omega
 | sec a b k => exact ho.2.elim
 | off a b r => exact A5o ho.2
theorem sm_back {s : Fr} (h : smF s) : smF (A52 s) := by
 unfold smF smB at *; unfold A52 A3j; simp only; omega
theorem A0a {b by' : Int × Int} {m : Int} (h1 : smB b) (h2 : smB by') (h3 : 0 ≤ m ∧ m ≤ 65536) : C Tryz.prog A5e [eB b, eB by', I m] (eB (Xg b by' m)) := by
 unfold smB at h1 h2
 refine C_of mixed A03 (by simp) fun S ok => ?_
 refine A2 rfl (by simp) (A2 rfl (by simp) (Bb rfl rfl ?_ trivial))
 have e1 := w64 (n := b.1 + by'.1) (by omega) (by omega)
 have e2 := w64 (n := b.2 + by'.2) (by omega) (by omega)
 have e3 := w64 (n := 0 - m) (by omega) (by omega)
 show V.agg [I (max (b.1 + by'.1) (-m)), I (min (b.2 + by'.2) m)] = V.agg [I (if w (0 - m) > w (b.1 + by'.1) then w (0 - m) else w (b.1 + by'.1)), I (if m < w (b.2 + by'.2) then m else w (b.2 + by'.2))]
 unfold w
 rw [e1, e2, e3, Int.zero_sub, H7, Jc]
theorem A6r {r s : Fr} (h1 : smF r) (h2 : smF s) : C Tryz.prog A3e [.agg (A7 r), .agg (A7 s)] (.agg (A7 (winF r s))) := by
 have k1 := A0a (m := 32768) h1.1.1 h2.1.1 (by omega)
 have k2 := A0a (m := 32768) h1.1.2 h2.1.2 (by omega)
 have k3 := A0a (m := 65536) h1.2.1 h2.2.1 (by omega)
 have k4 := A0a (m := 65536) h1.2.2 h2.2.2 (by omega)
 refine C_of mixed Wu (by simp) fun S ok => ?_
 refine A2 rfl (by simp) ?_
 refine Tr.seq (A8 (TraceK.run rfl (by simp) (TraceK.call rfl rfl k1 (TraceK.run rfl (by simp) ?_))))
 refine TraceK.call rfl rfl k2 (TraceK.run rfl (by simp) (TraceK.call rfl rfl k3 (TraceK.run rfl (by simp) ?_)))
 refine TraceK.call rfl rfl k4 (TraceK.run rfl (by simp) (.done ⟨by kernel_rfl, by kernel_rfl, ?_⟩))
 exact A5 rfl rfl rfl rfl trivial
theorem A6s {b : Int × Int} (h : smB b) : C Tryz.prog A3h [eB b] (eB (A3j b)) := by
 unfold smB at h
 refine C_of mixed Wv (by simp) fun S ok => ?_
 refine A2 rfl (by simp) (A2 rfl (by simp) (Bb rfl rfl ?_ trivial))
 have e1 := w64 (n := 0 - b.2) (by omega) (by omega)
 have e2 := w64 (n := 0 - b.1) (by omega) (by omega)
 show V.agg [I (-b.2), I (-b.1)] = V.agg [I (w (0 - b.2)), I (w (0 - b.1))]
 unfold w
 rw [e1, e2, Int.zero_sub, Int.zero_sub]
theorem c_back {s : Fr} (h : smF s) : C Tryz.prog A9e [.agg (A7 s)] (.agg (A7 (A52 s))) := by
 have k1 := A6s h.1.1
 have k2 := A6s h.1.2
 have k3 := A6s h.2.1
 have k4 := A6s h.2.2
 refine C_of mixed A2j (by simp) fun S ok => ?_
 refine A2 rfl (by simp) (A2 rfl (by simp) ?_)
 refine Tr.seq (A8 (TraceK.run rfl (by simp) (TraceK.callv rfl rfl k1 (TraceK.run rfl (by simp) ?_))))
 refine TraceK.callv rfl rfl k2 (TraceK.run rfl (by simp) (TraceK.callv rfl rfl k3 (TraceK.run rfl (by simp) ?_)))
 refine TraceK.callv rfl rfl k4 (TraceK.run rfl (by simp) (.done ⟨by kernel_rfl, by kernel_rfl, ?_⟩))
 exact A5 rfl rfl rfl rfl trivial
def clashV : Value := .iface 237 (.agg #[])
theorem Tq (w : World) (φ : Nat → Nat) (z : Value) (h : RepD w φ (.agg []) z) : z = .agg #[] := by
 cases h with
 | agg cs vs hl hh => exact congrArg Value.agg (Array.eq_empty_of_size_eq_zero (by simpa using hl.symm))
theorem M9 : Wi Tryz.prog 237 = true := by kernel_rfl
theorem c_cutS {r b t : Fr} (h : cutO r b = some t) : C Tryz.prog A3g [.agg (A7 r), .agg (A7 b)] (.agg (A7 t)) := by
 have k := c_MeetS h
 refine C_of mixed Ve (by simp) fun S ok => ?_
 refine A2 rfl (by simp) (A3 rfl (by simp) (Steps.call rfl rfl k (Steps.fin rfl (by simp) ?_)))
 refine Tr.seq (A2 rfl (by simp) (A4 rfl (Tr.skip ?_)))
 exact A2 rfl (by simp) (A5 rfl rfl rfl rfl trivial)
theorem c_cutN {r b : Fr} (h : cutO r b = none) : CP Tryz.prog A3g [] [] [.agg (A7 r), .agg (A7 b)] (fun _ _ => False) clashV (fun B => B = []) := by
 obtain ⟨e, he, k⟩ := c_MeetN h
 refine Adi mixed Ve (by simp) fun S ok S1 hA hK hKD => ?_
 refine A2 rfl (by simp) (A3 rfl (by simp) (Steps.call rfl rfl k (Steps.fin rfl (by simp) ?_)))
 refine Tr.seq (A2 rfl (by simp) (A6 (congrArg (fun b => some (V.bool b)) (show ((e : Int) != 0) = true by simpa using he)) ?_))
 refine Vj (Ft 2 (Steps.runN 1 rfl (by simp) (Vk (v' := .agg []) M9 rfl (fun _ => rfl) ?_)))
 exact PSteps.panic (y := .agg #[]) rfl Tq ⟨rfl, [], rfl, rfl⟩
theorem A3w : ∃ i, Tryz.prog.info? 231 = some i ∧ i.zero = some (.agg #[.int .i64 0, .int .i64 0, .int .i64 0, .int .i64 0]) := by
 have h : (Tryz.prog.info? 231).bind (·.zero) = some (.agg #[.int .i64 0, .int .i64 0, .int .i64 0, .int .i64 0]) := by kernel_rfl
 cases hi : Tryz.prog.info? 231 with
 | none => rw [hi] at h; cases h
 | some i => rw [hi] at h; exact ⟨i, rfl, h⟩
theorem Tu : Wi Tryz.prog 231 = true := by kernel_rfl
theorem A8v (o : Sd) {a b : Fr} (ha : Av a = true) (hb : Av b = true) : C Tryz.prog X9 [sdV o, .agg (A7 a), .agg (A7 b)] (.bool (posB o a b)) := by
 obtain ⟨i, hi, hz⟩ := A3w
 obtain ⟨e, kg⟩ := c_Gap ha hb
 obtain ⟨g, hg⟩ : ∃ g, gapN a b = g := ⟨_, rfl⟩
 rw [hg] at kg
 refine C_of mixed Su (by simp) fun S ok => ?_
 refine A2 rfl (by simp) (A2 rfl (by simp) (Tr.block (Tr.seq (Tr.reg (A31 (i := i) Tu hi hz rfl rfl ?_)))))
 cases o with
 | rng p q lo hi' =>
   refine Steps.fin rfl (by simp) (A6 rfl ?_)
   refine A2 rfl (by simp [sdC, sdI]) (A3 rfl (by simp) (Steps.call rfl rfl kg (Steps.fin rfl (by simp) ?_)))
   refine A2 rfl (by simp [sdC, sdI]) (A5 rfl rfl rfl ?_ trivial)
   simp only [posB, hg, Cp]
   cases h1 : decide (g.1 ≤ hi') <;> cases h2 : decide (lo ≤ g.2) <;> simp_all [sdC, sdI]
 | sec p q k =>
   refine Steps.fin rfl (by simp) (A4 rfl ?_)
   exact A2 rfl (by simp) (A2 rfl (by simp) (A5 rfl rfl rfl rfl trivial))
 | off p q r =>
   refine Steps.fin rfl (by simp) (A4 rfl ?_)
   exact A2 rfl (by simp) (A2 rfl (by simp) (A5 rfl rfl rfl rfl trivial))
end
end Go.Proofs.YtabedohjkillfaaGreat
