/-
  Parts of the proof: the abstract machine, the compiled code, contracts of the functions, S6 laws (spelled short by a program).
-/
import Derived.Test.YtabedohjkillfaaGreatX3
import Derived.RangeFuncNested
import Derived.Maps.RangeRun
import Derived.Carry
import Derived.WalkSpells
set_option maxRecDepth 100000
set_option maxHeartbeats 4000000
set_option linter.unusedVariables false
set_option linter.unusedSimpArgs false
namespace Go.Proofs.YtabedohjkillfaaGreat
section
open Go.Am
attribute [local simp] cells Aa mkv Ag Ap under dem dem1 eB B8
def Jz (n m : Int) : Int := if m < 1 then 0 else n % m
theorem Aa2 {n m : Int} (hm : 1 ≤ m) : (n.tmod m < 0 → n.tmod m + m = n % m) ∧ (¬ n.tmod m < 0 → n.tmod m = n % m) := by
 have h1 := Int.emod_nonneg n (show m ≠ 0 by omega)
 have h2 := Int.emod_lt_of_pos n (show 0 < m by omega)
 have h3 := Int.tmod_eq_emod (a := n) (b := m)
 split at h3
 ·omega
 ·have : (m.natAbs : Int) = m := by omega
  omega
theorem J4 {n m : Int} (hm : 1 ≤ m) : 0 ≤ Jz n m ∧ Jz n m < m := by
 unfold Jz
 rw [if_neg (by omega)]
 exact ⟨Int.emod_nonneg n (by omega), Int.emod_lt_of_pos n (by omega)⟩
theorem A2o (n m : Int) (hm : m ≤ 9223372036854775807) : C Tryz.prog A3c [I n, I m] (I (Jz n m)) := by
 refine C_of mixed Ws (by simp) fun S ok => ?_
 refine A2 rfl (by simp) (Tr.seq (A2 rfl (by simp) (Tr.cond rfl rfl (fun h1 => A2 rfl (by simp) (A5 rfl rfl rfl ?_ trivial)) (fun h1 => Tr.skip ?_))))
 ·have h1 : m < 1 := by simpa using h1
  simp [Cp, Jz, h1]
 have h1 : ¬ m < 1 := by simpa using h1
 have hr := J4 (n := n) (m := m) (by omega)
 obtain ⟨k1, k2⟩ := Aa2 (n := n) (m := m) (by omega)
 have e : Jz n m = n % m := by unfold Jz; rw [if_neg h1]
 refine A2 rfl (by simp; omega) (Tr.seq (A2 rfl (by simp) (Tr.cond rfl rfl (fun h2 => A9 rfl (by simp) ?_) (fun h2 => Tr.skip ?_))))
 ·have h2 : n.tmod m < 0 := by simpa using h2
  refine A2 rfl (by simp) (A5 rfl rfl rfl ?_ trivial)
  show I (Jz n m) = I (IntKind.i64.wrap (n.tmod m + m))
  rw [e, k1 h2, w64 (by omega) (by omega)]
 ·have h2 : ¬ n.tmod m < 0 := by simpa using h2
  refine A2 rfl (by simp) (A5 rfl rfl rfl ?_ trivial)
  show I (Jz n m) = I (n.tmod m)
  rw [e, k2 h2]
end
section
open Go.Am
attribute [local simp] cells Aa mkv Ag Ap under dem dem1 eB A7 B8
structure HullOk (T : Fr) (l : List (Int × Int)) : Prop where
 i : ∀ p ∈ l, (T.x.1 ≤ p.1 ∧ p.1 ≤ T.x.2) ∧ (T.y.1 ≤ p.2 ∧ p.2 ≤ T.y.2) ∧ (T.s.1 ≤ p.1 + p.2 ∧ p.1 + p.2 ≤ T.s.2) ∧ T.d.1 ≤ p.1 - p.2 ∧ p.1 - p.2 ≤ T.d.2
 a1 : ∃ p ∈ l, p.1 = T.x.1
 a2 : ∃ p ∈ l, p.1 = T.x.2
 b1 : ∃ p ∈ l, p.2 = T.y.1
 b2 : ∃ p ∈ l, p.2 = T.y.2
 c1 : ∃ p ∈ l, p.1 + p.2 = T.s.1
 c2 : ∃ p ∈ l, p.1 + p.2 = T.s.2
 d1 : ∃ p ∈ l, p.1 - p.2 = T.d.1
 d2 : ∃ p ∈ l, p.1 - p.2 = T.d.2
theorem ofF_pl {p : Int × Int} (h : An p = true) : ofF p = ⟨(p.1, p.1), (p.2, p.2), (p.1 + p.2, p.1 + p.2), (p.1 - p.2, p.1 - p.2)⟩ := by
 simp only [An, Bool.and_eq_true, Ca] at h
 unfold ofF w
 rw [w64 (n := p.1 + p.2) (by omega) (by omega), w64 (n := p.1 - p.2) (by omega) (by omega)]
theorem Rw {l : List (Int × Int)} {f : Int × Int → Int} {m : Int} {p : Int × Int} (h : ∃ q ∈ l, f q = m) : (∃ q ∈ l ++ [p], f q = min m (f p)) ∧ ∃ q ∈ l ++ [p], f q = max m (f p) := by
 obtain ⟨q, hq, rfl⟩ := h
 constructor
 ·by_cases h : f q ≤ f p
  ·exact ⟨q, by simp [hq], by omega⟩
  ·exact ⟨p, by simp, by omega⟩
 ·by_cases h : f q ≤ f p
  ·exact ⟨p, by simp, by omega⟩
  ·exact ⟨q, by simp [hq], by omega⟩
theorem hull_one {p : Int × Int} (hp : An p = true) : Da [p] = (⟨(p.1, p.1), (p.2, p.2), (p.1 + p.2, p.1 + p.2), (p.1 - p.2, p.1 - p.2)⟩, true) := by
 simp [Da, Gu, comb, A9t, ofF_pl hp]
theorem A4b : ∀ (n : Nat) (l : List (Int × Int)), l.length = n + 1 → (∀ p ∈ l, An p = true) → (Da l).2 = true ∧ HullOk (Da l).1 l
 | 0, l, hl, hp => by
   match l, hl with
   | [p], _ =>
     rw [hull_one (hp p (by simp))]
     refine ⟨rfl, ⟨?_, ?_, ?_, ?_, ?_, ?_, ?_, ?_, ?_⟩⟩
     ·intro q hq
      rw [List.mem_singleton.1 hq]; simp
     all_goals exact ⟨p, by simp, rfl⟩
 | n + 1, l, hl, hp => by
   have hne : l ≠ [] := fun e => by rw [e] at hl; simp at hl
   obtain ⟨m, p, rfl⟩ : ∃ m p, l = m ++ [p] := ⟨l.dropLast, l.getLast hne, (List.dropLast_concat_getLast hne).symm⟩
   obtain ⟨h2, ih⟩ := A4b n m (by simpa using hl) fun q hq => hp q (by simp [hq])
   have e : Da (m ++ [p]) = Gu (Da m) p := by unfold Da; rw [List.foldl_append]; rfl
   rw [e]
   obtain ⟨⟨T, b⟩, hT⟩ : ∃ T, Da m = T := ⟨_, rfl⟩
   rw [hT] at h2 ih ⊢
   simp only at h2 ih
   subst h2
   refine ⟨rfl, ?_⟩
   have eT : (Gu (T, true) p).1 = ⟨(min T.x.1 p.1, max T.x.2 p.1), (min T.y.1 p.2, max T.y.2 p.2), (min T.s.1 (p.1 + p.2), max T.s.2 (p.1 + p.2)), (min T.d.1 (p.1 - p.2), max T.d.2 (p.1 - p.2))⟩ := by
    simp [Gu, comb, A9t, ofF_pl (hp p (by simp))]
   rw [eT]
   refine ⟨?_, (Rw (f := fun q => q.1) ih.a1).1, (Rw (f := fun q => q.1) ih.a2).2, (Rw (f := fun q => q.2) ih.b1).1, (Rw (f := fun q => q.2) ih.b2).2, (Rw (f := fun q => q.1 + q.2) ih.c1).1, (Rw (f := fun q => q.1 + q.2) ih.c2).2, (Rw (f := fun q => q.1 - q.2) ih.d1).1, (Rw (f := fun q => q.1 - q.2) ih.d2).2⟩
   intro q hq
   simp only
   rcases List.mem_append.1 hq with hq | hq
   ·have := ih.i q hq
    omega
   ·rw [List.mem_singleton.1 hq]
    omega
theorem Ox {f : Fr} {r : Int × Int × Int} : ∀ (n : Nat) (x : Int), r ∈ Hm f n x → (x ≤ r.1 ∧ r.1 < x + n) ∧ r.2.1 = lowY f r.1 ∧ r.2.2 = Dm f r.1 ∧ r.2.1 ≤ r.2.2
 | 0, x, h => by cases h
 | n + 1, x, h => by
   simp only [Hm] at h
   split at h
   ·rename_i h1
    rcases List.mem_cons.1 h with rfl | h
    ·exact ⟨⟨by simp, by simp; omega⟩, rfl, rfl, h1⟩
    ·have := Ox n (x + 1) h
     exact ⟨⟨by omega, by push_cast; omega⟩, this.2⟩
   ·have := Ox n (x + 1) h
    exact ⟨⟨by omega, by push_cast; omega⟩, this.2⟩
theorem A4i {f : Fr} {p : Int × Int} (hp : p ∈ Dr f) : p ∈ Yx f := by
 unfold Dr at hp
 obtain ⟨r, hr, hp⟩ := List.mem_flatMap.1 hp
 obtain ⟨h1, h2, h3, h4⟩ := Ox _ _ hr
 rw [U5]
 unfold Jl at hp
 split at hp
 ·rw [List.mem_singleton.1 hp]
  exact ⟨⟨by simp only; omega, by simp only; omega⟩, by simp only; omega, by simp only; omega⟩
 ·rcases List.mem_cons.1 hp with rfl | hp
  ·exact ⟨⟨by simp only; omega, by simp only; omega⟩, by simp only; omega, by simp only; omega⟩
  ·rw [List.mem_singleton.1 hp]
   exact ⟨⟨by simp only; omega, by simp only; omega⟩, by simp only; omega, by simp only; omega⟩
end
section
open Go.Am
attribute [local simp] cells Aa mkv Ag Ap under dem dem1 eB A7 B8
def Nq (a b c : Int × Int) : Int := (b.1 - a.1) * (c.2 - a.2) - (b.2 - a.2) * (c.1 - a.1)
theorem mul_bd {x y B : Int} (hB : 0 ≤ B) (hx : -B ≤ x ∧ x ≤ B) (hy : -B ≤ y ∧ y ≤ B) : -(B * B) ≤ x * y ∧ x * y ≤ B * B := by
 have h1 : x.natAbs ≤ B.natAbs := by omega
 have h2 : y.natAbs ≤ B.natAbs := by omega
 have h3 := Nat.mul_le_mul h1 h2
 rw [← Int.natAbs_mul, ← Int.natAbs_mul] at h3
 have hb := Int.mul_nonneg hB hB
 omega
theorem Aay {x y : Int} (hx : -200000 ≤ x ∧ x ≤ 200000) (hy : -200000 ≤ y ∧ y ≤ 200000) : -40000000000 ≤ x * y ∧ x * y ≤ 40000000000 := by
 have := mul_bd (B := 200000) (by omega) hx hy
 omega
theorem c_left {a b c : Int × Int} (ha : An a = true) (hb : An b = true) (hc : An c = true) : C Tryz.prog A0m [eB a, eB b, eB c] (I (Nq a b c)) := by
 have pa := Bd ha
 have pb := Bd hb
 have pc := Bd hc
 refine C_of mixed V9 (by simp) fun S ok => ?_
 refine A2 rfl (by simp) (A2 rfl (by simp) (Bb rfl rfl ?_ trivial))
 have q1 := Aay (x := b.1 - a.1) (y := c.2 - a.2) (by omega) (by omega)
 have q2 := Aay (x := b.2 - a.2) (y := c.1 - a.1) (by omega) (by omega)
 have e1 := w64 (n := b.1 - a.1) (by omega) (by omega)
 have e2 := w64 (n := c.2 - a.2) (by omega) (by omega)
 have e3 := w64 (n := b.2 - a.2) (by omega) (by omega)
 have e4 := w64 (n := c.1 - a.1) (by omega) (by omega)
 have e5 := w64 (n := (b.1 - a.1) * (c.2 - a.2)) (by omega) (by omega)
 have e6 := w64 (n := (b.2 - a.2) * (c.1 - a.1)) (by omega) (by omega)
 have e7 := w64 (n := (b.1 - a.1) * (c.2 - a.2) - (b.2 - a.2) * (c.1 - a.1)) (by omega) (by omega)
 show I (Nq a b c) = I (w (w (w (b.1 - a.1) * w (c.2 - a.2)) - w (w (b.2 - a.2) * w (c.1 - a.1))))
 unfold w
 rw [e1, e2, e3, e4, e5, e6, e7]
 rfl
def pAt (f : List (Int × Int)) (i : Nat) : Int × Int := f.getD i (0, 0)
def Fd (f : List (Int × Int)) (i : Nat) : (Int × Int) × (Int × Int) := (pAt f i, pAt f ((i + 1) % f.length))
def Ci (f : List (Int × Int)) : List ((Int × Int) × (Int × Int)) := (List.range f.length).map (Fd f)
def Jm (q : (Int × Int) × (Int × Int)) : List V := [eB q.1, eB q.2]
theorem Fk (f : List (Int × Int)) : (Ci f).length = f.length := by simp [Ci]
theorem Fl {f : List (Int × Int)} {k : Nat} (h : k < f.length) : (Ci f)[k]? = some (Fd f k) := by
 unfold Ci
 rw [List.getElem?_map, List.getElem?_range h]; rfl
theorem J8 {f : List (Int × Int)} {k : Nat} (h : k < f.length) : pAt f k = f[k] := by
 unfold pAt; rw [List.getD_eq_getElem?_getD, List.getElem?_eq_getElem h]; rfl
theorem Acx (f : List (Int × Int)) : C Tryz.prog X7 [sB f] (.func (.func Eo) [] [.vptr [sB f] 0]) := by
 refine C_of mixed Sp (by simp) fun S ok => ?_
 exact A2 rfl (by simp [sB]) (A2 rfl (by simp) (Bb rfl rfl rfl trivial))
theorem Tv (f : List (Int × Int)) : Plain [.vptr [sB f] 0] := ⟨fun b => rfl, fun B R => rfl⟩
theorem neB (a b : Nat) : ((a : Int) != (b : Int)) = !(a == b) := by
 simp only [bne]
 congr 1
 by_cases h : a = b
 ·subst h; simp
 ·have h2 : ¬ (a : Int) = (b : Int) := by omega
  rw [beq_eq_false_iff_ne.2 h2, beq_eq_false_iff_ne.2 h]
theorem A5k {a b : Nat} : ((a : Int)).tmod (b : Int) = ((a % b : Nat) : Int) := by
 rw [Int.tmod_eq_emod_of_nonneg (by omega)]; omega
theorem Aba {f : List (Int × Int)} (hl : f.length ≤ 1000000) : Iter Tryz.prog Eo [.vptr [sB f] 0] ((Ci f).map Jm) := by
 refine Oi mixed Pn (by simp) fun S ok => ?_
 refine A2 rfl (by simp [sB]) (Tr.block ?_)
 refine Tr.loop (fun (k : Nat) st => k ≤ f.length ∧ st = ⟨[(0, .yld), (1, .vptr [sB f] 0), (5, sB f), (6, I (f.length : Nat)), (7, I (k : Nat))], [], [], ((Ci f).take k).map Jm, false⟩) (fun k => f.length - k) 0
  (Ab (.k rfl (.k rfl (.k rfl (.cons rfl (VLe.i (by simp [sB])) (.cons rfl (VLe.i rfl) .nil))))) .nil .nil rfl rfl) ⟨by omega, rfl⟩ ?_
 rintro k st ⟨hk, rfl⟩
 refine A2 rfl (by simp) (Ei rfl (fun h2 => ?_) (fun h2 => ?_))
 rotate_left
 ·have h2 : k = f.length := by simp at h2; omega
  subst h2
  refine Tr.exit ⟨.inr ?_, [], [], [], rfl, rfl, rfl⟩
  show ((Ci f).take f.length).map Jm = (Ci f).map Jm
  rw [← Fk f, List.take_length]
 have h2 : k < f.length := by simpa using h2
 have hm : (k + 1) % f.length < f.length := Nat.mod_lt _ (by omega)
 obtain ⟨lg, hlg⟩ : ∃ lg, ((Ci f).take k).map Jm = lg := ⟨_, rfl⟩
 have hnext : ((Ci f).take (k + 1)).map Jm = lg ++ [Jm (Fd f k)] := by
  rw [List.take_add_one, Fl h2, List.map_append, hlg]; rfl
 have hp1 : List.IsPrefix (lg ++ [Jm (Fd f k)]) ((Ci f).map Jm) := by
  rw [← hnext]; exact (List.take_prefix _ _).map _
 rw [hlg]
 refine Cm (Tr.seq (Tr.block (A2 rfl ?_ ?_)))
 ·rw [Ao h2]; simp; omega
 rw [Ao h2, ← J8 h2]
 have e0 : (IntKind.wrap .i64 ((k : Int) + 1)).tmod (((f.map eB).length : Nat) : Int) = (((k + 1) % f.length : Nat) : Int) := by
  rw [w64 (by omega) (by omega), List.length_map, ← A5k]; rfl
 have hne : f ≠ [] := fun e => by subst e; simp at h2
 have hd1 := Int.emod_nonneg ((k : Int) + 1) (show ((f.length : Nat) : Int) ≠ 0 by omega)
 have hd2 := Int.emod_lt_of_pos ((k : Int) + 1) (show 0 < ((f.length : Nat) : Int) by omega)
 refine Tr.seq ?_
 refine A8 (TraceK.runN 8 rfl (by simp [hne]) ?_)
 rw [e0]
 refine TraceK.runN 1 rfl (by simp; omega) ?_
 rw [Ao hm, ← J8 hm]
 refine TraceK.runN 1 rfl (by simp) (.done ⟨by kernel_rfl, by kernel_rfl, ?_⟩)
 refine Steps.yield rfl (by simp) rfl hp1 rfl (fun c => ?_)
 cases c with
 | false =>
   refine Steps.fin rfl (by simp) (A6 rfl ?_)
   exact Tr.ret ⟨.inl rfl, [], [], [], rfl, rfl, rfl⟩
 | true =>
   refine Steps.fin rfl (by simp) (A4 rfl (Tr.skip (A9 rfl (by simp) ?_)))
   exact ⟨k + 1, ⟨[(0, .yld), (1, .vptr [sB f] 0), (5, sB f), (6, I (f.length : Nat)), (7, I ((k + 1 : Nat) : Int))], [], [], ((Ci f).take (k + 1)).map Jm, false⟩, Bz (.k rfl (.k rfl (.k rfl (.k rfl (.cons rfl (VLe.i (w64 (by omega) (by omega))) .nil))))) .nil .nil rfl rfl hnext.symm, ⟨h2, rfl⟩, by omega⟩
def Tn (f : List (Int × Int)) (i j : Nat) : Bool := j == i || j == (i + 1) % f.length || decide (0 < Nq (pAt f i) (pAt f ((i + 1) % f.length)) (pAt f j))
def A7h (f : List (Int × Int)) (i : Nat) : Bool := (List.range f.length).all (Tn f i)
def E0 (f : List (Int × Int)) : Bool := btw f.length 3 8 && f.all An && (List.range f.length).all (A7h f)
theorem Aco (n lo hi : Int) : C Tryz.prog Lo [I n, I lo, I hi] (.bool (btw n lo hi)) := by
 refine C_of mixed Ip (by simp) fun S ok => ?_
 refine A2 rfl (by simp) ?_
 refine A2 rfl (by simp) ?_
 refine Bb rfl rfl ?_ trivial
 simp [Cp, btw]
theorem A17 {f : List (Int × Int)} (h : f.all An = true) {i : Nat} (hi : i < f.length) : An (pAt f i) = true := by
 rw [J8 hi]; exact List.all_eq_true.1 h _ (List.getElem_mem hi)
theorem Lh {f : List (Int × Int)} (hl : f.length ≤ 9223372036854775807) : C Tryz.prog Oo [sB f] (I (if E0 f then 0 else 12)) := by
 have hlm : (f.map eB).length = f.length := List.length_map _
 refine C_of mixed Lb (by simp) fun S ok => ?_
 refine A2 rfl (by simp) (Tr.seq (A3 rfl (by simp [sB]) (Steps.call rfl rfl (Aco _ _ _) (Steps.fin rfl (by simp) ?_))))
 rw [hlm]
 refine Tr.cond rfl rfl (fun h => ?_) (fun h => ?_)
 ·refine A2 rfl (by simp) (A5 rfl rfl rfl ?_ trivial)
  have h : btw f.length 3 8 = false := by simpa using h
  simp [Cp, E0, h]
 have h0 : btw f.length 3 8 = true := by simpa using h
 have hb := (Ca _ _ _).1 h0
 refine Tr.skip (Tr.seq (A2 rfl (by simp [sB]) (Tr.block ?_)))
 refine Tr.loop (fun (k : Nat) st => (k ≤ f.length ∧ (f.take k).all An = true) ∧ st = ⟨[(0, sB f), (14, sB f), (15, I (f.length : Nat)), (16, I (k : Nat))], [], [], [], false⟩) (fun k => f.length - k) 0
  (Ab (.k rfl (.k rfl (.cons rfl (VLe.i (by simp [sB])) (.cons rfl (VLe.i rfl) .nil)))) .nil .nil rfl rfl) ⟨⟨by omega, by simp⟩, rfl⟩ ?_
 rintro k st ⟨⟨hk, hf⟩, rfl⟩
 refine A2 rfl (by simp) (Ei rfl (fun h2 => ?_) (fun h2 => ?_))
 ·have h2 : k < f.length := by simpa using h2
  refine Cm (Tr.seq (Tr.block (A2 rfl ?_ ?_)))
  ·rw [Ao h2]; simp; omega
  rw [Ao h2]
  refine A3 rfl (by simp) (Steps.call rfl rfl (Ce f[k]) (Steps.fin rfl (by simp) ?_))
  refine Tr.cond rfl rfl (fun h3 => ?_) (fun h3 => ?_)
  ·have h3 : An f[k] = false := by
    cases hp : An f[k] with
    | false => rfl
    | true => rw [hp] at h3; simp at h3
   refine A2 rfl (by simp) (A5 rfl rfl rfl ?_ trivial)
   have : f.all An = false := by
    rw [List.all_eq_false]; exact ⟨f[k], List.getElem_mem h2, by simp [h3]⟩
   simp [Cp, E0, this]
  ·have h3 : An f[k] = true := by
    cases hp : An f[k] with
    | true => rfl
    | false => rw [hp] at h3; simp at h3
   refine Tr.skip (A9 rfl (by simp) ?_)
   refine ⟨k + 1, _, Ab (.k rfl (.k rfl (.k rfl (.cons rfl (VLe.i (w64 (by omega) (by omega))) .nil)))) .nil .nil rfl rfl, ⟨⟨h2, ?_⟩, rfl⟩, by omega⟩
   rw [List.take_add_one, List.all_append, hf, List.getElem?_eq_getElem h2]
   simp [h3]
 have h2 : k = f.length := by simp at h2; omega
 subst h2
 rw [List.take_length] at hf
 refine Tr.exit ?_
 refine Tr.weak (s' := ⟨[(0, sB f)], [], [], [], false⟩) (Ab (.k rfl .nil) .nil .nil rfl rfl) ?_
 refine Tr.seq (A2 rfl (by simp [sB]) (Tr.block ?_))
 refine Tr.loop (fun (i : Nat) st => (i ≤ f.length ∧ ∀ a < i, A7h f a = true) ∧ st = ⟨[(0, sB f), (24, sB f), (25, I (f.length : Nat)), (26, I (i : Nat))], [], [], [], false⟩) (fun i => f.length - i) 0
  (Ab (.k rfl (.k rfl (.cons rfl (VLe.i (by simp [sB])) (.cons rfl (VLe.i rfl) .nil)))) .nil .nil rfl rfl) ⟨⟨by omega, fun a ha => by omega⟩, rfl⟩ ?_
 rintro i st ⟨⟨hi, hrow⟩, rfl⟩
 refine A2 rfl (by simp) (Ei rfl (fun h2 => ?_) (fun h2 => ?_))
 rotate_left
 ·have h2 : i = f.length := by simp at h2; omega
  subst h2
  refine Tr.exit (A2 rfl (by simp) (A5 rfl rfl rfl ?_ trivial))
  have : (List.range f.length).all (A7h f) = true := List.all_eq_true.2 fun a ha => hrow a (List.mem_range.1 ha)
  simp [Cp, E0, h0, hf, this]
 have h2 : i < f.length := by simpa using h2
 have hm : (i + 1) % f.length < f.length := Nat.mod_lt _ (by omega)
 have e0 : (IntKind.wrap .i64 ((i : Int) + 1)).tmod (((f.map eB).length : Nat) : Int) = (((i + 1) % f.length : Nat) : Int) := by
  rw [w64 (by omega) (by omega), List.length_map, ← A5k]; rfl
 refine Cm (Tr.seq (Tr.block (A2 rfl ?_ ?_)))
 ·rw [Ao h2]; simp; omega
 rw [Ao h2, ← J8 h2]
 have hne : f ≠ [] := fun e => by subst e; simp at h2
 have hd1 := Int.emod_nonneg ((i : Int) + 1) (show ((f.length : Nat) : Int) ≠ 0 by omega)
 have hd2 := Int.emod_lt_of_pos ((i : Int) + 1) (show 0 < ((f.length : Nat) : Int) by omega)
 refine A2 rfl (by simp [sB, hne]) ?_
 rw [e0]
 refine A2 rfl (by simp [sB]) (Tr.block ?_)
 refine Tr.loop (fun (j : Nat) st => (j ≤ f.length ∧ ∀ b < j, Tn f i b = true) ∧ st = ⟨[(0, sB f), (5, I (i : Nat)), (6, .ptr 6 0), (7, I ((i + 1) % f.length : Nat)), (24, sB f), (25, I (f.length : Nat)), (26, I (i : Nat)), (36, sB f), (37, I (f.length : Nat)), (38, I (j : Nat))], [(6, ⟨[I (pAt f i).1, I (pAt f i).2], false⟩)], [], [], false⟩) (fun j => f.length - j) 0
  (Ab (.k rfl (.k rfl (.k rfl (.k rfl (.k rfl (.k rfl (.k rfl (.k rfl (.cons rfl (VLe.i (by simp [sB])) (.cons rfl (VLe.i rfl) .nil)))))))))) (.k rfl .nil) .nil rfl rfl) ⟨⟨by omega, fun a ha => by omega⟩, rfl⟩ ?_
 rintro j st ⟨⟨hj, hturn⟩, rfl⟩
 refine A2 rfl (by simp) (Ei rfl (fun h3 => ?_) (fun h3 => ?_))
 rotate_left
 ·have h3 : j = f.length := by simp at h3; omega
  subst h3
  refine Tr.exit (A9 rfl (by simp) ?_)
  refine ⟨i + 1, _, Ab (.k rfl (.k rfl (.k rfl (.cons rfl (VLe.i (w64 (by omega) (by omega))) .nil)))) .nil .nil rfl rfl, ⟨⟨h2, fun a ha => ?_⟩, rfl⟩, by omega⟩
  by_cases e : a = i
  ·subst e; exact List.all_eq_true.2 fun b hb => hturn b (List.mem_range.1 hb)
  ·exact hrow a (by omega)
 have h3 : j < f.length := by simpa using h3
 refine Cm (Tr.seq (Tr.block (A2 rfl ?_ ?_)))
 ·rw [Ao h3]; simp; omega
 rw [Ao h3, ← J8 h3]
 have kl := c_left (A17 hf h2) (A17 hf hm) (A17 hf h3)
 obtain ⟨g1, hg1⟩ : ∃ g, ((j : Int) != (i : Int)) = g := ⟨_, rfl⟩
 obtain ⟨g2, hg2⟩ : ∃ g, ((j : Int) != (((i + 1) % f.length : Nat) : Int)) = g := ⟨_, rfl⟩
 have hT : Tn f i j = ((!g1) || (!g2) || decide (0 < Nq (pAt f i) (pAt f ((i + 1) % f.length)) (pAt f j))) := by
  unfold Tn
  rw [← hg1, ← hg2, neB, neB, Bool.not_not, Bool.not_not]
 refine Of ⟨[(0, sB f), (5, I (i : Nat)), (6, .ptr 6 0), (7, I ((i + 1) % f.length : Nat)), (24, sB f), (25, I (f.length : Nat)), (26, I (i : Nat)), (36, sB f), (37, I (f.length : Nat)), (38, I (j : Nat)), (60, .bool (!Tn f i j))], [(6, ⟨[I (pAt f i).1, I (pAt f i).2], false⟩)], [], [], false⟩ ?_ ?_
 ·refine A8 (TraceK.runN 3 rfl (by simp) ?_)
  rw [hg1]
  refine TraceK.runN 4 rfl (by simp) ?_
  rw [hg2]
  refine TraceK.runN 5 rfl (by simp [sB]) ?_
  refine TraceK.runN 1 rfl ?_ ?_
  ·cases g1 <;> cases g2 <;> simp [sB] <;> omega
  rw [Ao hm, ← J8 hm]
  refine TraceK.runN 2 rfl (by cases g1 <;> cases g2 <;> simp) ?_
  refine TraceK.gcall (r := I (Nq (pAt f i) (pAt f ((i + 1) % f.length)) (pAt f j))) rfl rfl rfl rfl (by cases g1 <;> cases g2 <;> simp) (fun _ => kl) (TraceK.run rfl (by cases g1 <;> cases g2 <;> simp) (.done ⟨by kernel_rfl, by kernel_rfl, ?_⟩))
  refine Ab (.k rfl (.k rfl (.k rfl (.k rfl (.k rfl (.k rfl (.k rfl (.k rfl (.k rfl (.k rfl (.cons rfl (VLe.of_eq (congrArg V.bool ?_)) .nil))))))))))) (.k rfl .nil) .nil rfl rfl
  rw [hT]
  generalize Nq (pAt f i) (pAt f ((i + 1) % f.length)) (pAt f j) = z
  have ez : decide (z ≤ 0) = !decide (0 < z) := by
   by_cases h : 0 < z
   ·have : ¬ z ≤ 0 := by omega
    simp [h, this]
   ·have : z ≤ 0 := by omega
    simp [h, this]
  cases g1 <;> cases g2 <;> simp [ez]
 refine Tr.cond rfl rfl (fun h4 => ?_) (fun h4 => ?_)
 ·have h4 : Tn f i j = false := by simpa using h4
  refine A2 rfl (by simp) (A5 rfl rfl rfl ?_ trivial)
  have h5 : A7h f i = false := by
   unfold A7h; rw [List.all_eq_false]; exact ⟨j, List.mem_range.2 h3, by simp [h4]⟩
  have : (List.range f.length).all (A7h f) = false := by
   rw [List.all_eq_false]; exact ⟨i, List.mem_range.2 h2, by simp [h5]⟩
  simp [Cp, E0, this]
 ·have h4 : Tn f i j = true := by simpa using h4
  refine Tr.skip (A9 rfl (by simp) ?_)
  refine ⟨j + 1, _, Ab (.k rfl (.k rfl (.k rfl (.k rfl (.k rfl (.k rfl (.k rfl (.k rfl (.k rfl (.cons rfl (VLe.i (w64 (by omega) (by omega))) .nil)))))))))) (.k rfl .nil) .nil rfl rfl, ⟨⟨h3, fun b hb => ?_⟩, rfl⟩, by omega⟩
  by_cases e : b = j
  ·subst e; exact h4
  ·exact hturn b (by omega)
end
section
open Go.Am
theorem Acy (n lo hi : Int) : C Tryz.prog Lo [I n, I lo, I hi] (.bool (btw n lo hi)) := by
 refine C_of mixed Ip (by simp) fun S ok => ?_
 refine A2 rfl (by simp) ?_
 refine A2 rfl (by simp) ?_
 refine Bb rfl rfl ?_ trivial
 simp [Cp, btw]
def isqL (n : Int) : Nat → Int
 | 0 => 0
 | k + 1 => if (isqL n k + 2 ^ (20 - k)) * (isqL n k + 2 ^ (20 - k)) ≤ n then isqL n k + 2 ^ (20 - k) else isqL n k
def isq (n : Int) : Int := isqL n 21
theorem Za (n : Int) : ∀ k, k ≤ 21 → 0 ≤ isqL n k ∧ isqL n k ≤ 2 ^ 21 - 2 ^ (21 - k)
 | 0, _ => by simp [isqL]
 | k + 1, h => by
   have ih := Za n k (by omega)
   have e1 : (2 : Int) ^ (21 - k) = 2 * 2 ^ (20 - k) := by
    rw [show 21 - k = (20 - k) + 1 by omega, Int.pow_succ]; omega
   have e2 : 21 - (k + 1) = 20 - k := by omega
   have e3 : (0 : Int) < 2 ^ (20 - k) := Int.pow_pos (by omega)
   rw [e2]
   simp only [isqL]
   split <;> omega
def F9 (k : Nat) : Int := if k ≤ 20 then 2 ^ (20 - k) else 0
theorem c_root (n : Int) : C Tryz.prog A0k [I n] (I (isq n)) := by
 refine C_of mixed V7 (by simp) fun S ok => ?_
 refine A2 rfl (by simp) ?_
 refine A2 rfl (by simp) ?_
 refine Tr.seq (A2 rfl (by simp) (Tr.block ?_))
 refine Tr.loop (fun k s => k ≤ 21 ∧ s = ⟨[(0, I n), (3, I (isqL n k)), (4, I (F9 k))], [], [], [], false⟩) (fun k => 21 - k) 0
  (Ab (.k rfl (.k rfl (.cons rfl (.of_eq (by rfl)) .nil))) .nil .nil rfl rfl) ⟨by omega, rfl⟩ ?_
 rintro k s ⟨hk, rfl⟩
 have hb := Za n k hk
 refine Tr.seq (A2 rfl (by simp) (Tr.cond rfl rfl (fun h1 => ?_) (fun h1 => ?_)))
 ·have hk20 : k ≤ 20 := by
   rcases Nat.lt_or_ge 20 k with h | h
   ·simp [F9, show ¬ k ≤ 20 by omega] at h1
   ·exact h
  have eb : F9 k = 2 ^ (20 - k) := by simp [F9, hk20]
  have ebn : (F9 k).tdiv 2 = F9 (k + 1) := by
   rw [eb]
   unfold F9
   by_cases h : k + 1 ≤ 20
   ·rw [if_pos h, show 20 - k = (20 - (k + 1)) + 1 by omega, Int.pow_succ]; exact Int.mul_tdiv_cancel _ (by decide)
   ·rw [if_neg h, show 20 - k = 0 by omega]; rfl
  have ep : (1 : Int) ≤ F9 k ∧ F9 k ≤ 1048576 := by
   rw [eb]
   have h1 : (0 : Int) < 2 ^ (20 - k) := Int.pow_pos (by omega)
   have h2 : (2 : Nat) ^ (20 - k) ≤ 2 ^ 20 := Nat.pow_le_pow_right (by omega) (by omega)
   have h3 : ((2 ^ (20 - k) : Nat) : Int) ≤ ((2 ^ 20 : Nat) : Int) := by exact_mod_cast h2
   simp at h3
   omega
  have e21 : (2 : Int) ^ (21 - k) = 2 * F9 k := by
   rw [eb, show 21 - k = (20 - k) + 1 by omega, Int.pow_succ]; omega
  have hr : 0 ≤ isqL n k ∧ isqL n k + F9 k ≤ 2097152 := by
   rw [e21] at hb
   have : (2 : Int) ^ 21 = 2097152 := by rfl
   omega
  have ew : IntKind.wrap .i64 (isqL n k + F9 k) = isqL n k + F9 k := w64 (by omega) (by omega)
  have ew2 : IntKind.wrap .i64 ((isqL n k + F9 k) * (isqL n k + F9 k)) = (isqL n k + F9 k) * (isqL n k + F9 k) := by
   have h1 : 0 ≤ (isqL n k + F9 k) * (isqL n k + F9 k) := Int.mul_nonneg (by omega) (by omega)
   have h2 : (isqL n k + F9 k) * (isqL n k + F9 k) ≤ 2097152 * 2097152 := Int.mul_le_mul (by omega) (by omega) (by omega) (by omega)
   exact w64 (by omega) (by omega)
  have ewb : IntKind.wrap .i64 ((F9 k).tdiv 2) = F9 (k + 1) := by
   have h0 : (F9 k).tdiv 2 = F9 k / 2 := Int.tdiv_eq_ediv_of_nonneg (by omega)
   rw [← ebn, h0]; exact w64 (by omega) (by omega)
  have es : isqL n (k + 1) = if (isqL n k + F9 k) * (isqL n k + F9 k) ≤ n then isqL n k + F9 k else isqL n k := by rw [eb]; rfl
  refine Cm (Tr.seq (Tr.block (A2 rfl (by simp) (Tr.cond rfl rfl (fun h2 => ?_) (fun h2 => ?_)))))
  ·rw [ew, ew2] at h2
   refine A9 rfl (by simp) ?_
   refine A9 rfl (by simp) ?_
   refine ⟨k + 1, _, ?_, ⟨by omega, rfl⟩, by omega⟩
   refine Ab (.k rfl (.cons rfl (VLe.i ?_) (.cons rfl (VLe.i ?_) .nil))) .nil .nil rfl rfl
   ·rw [ew, es, if_pos (by simpa using h2)]
   ·exact ewb
  ·rw [ew, ew2] at h2
   refine Tr.skip ?_
   refine A9 rfl (by simp) ?_
   refine ⟨k + 1, _, ?_, ⟨by omega, rfl⟩, by omega⟩
   refine Ab (.k rfl (.cons rfl (VLe.i ?_) (.cons rfl (VLe.i ?_) .nil))) .nil .nil rfl rfl
   ·rw [es, if_neg (by simpa using h2)]
   ·exact ewb
 ·have hk21 : k = 21 := by
   rcases Nat.lt_or_ge 20 k with h | h
   ·omega
   ·have h1' : (0 : Int) < 2 ^ (20 - k) := Int.pow_pos (by omega)
    simp [F9, h] at h1
    omega
  subst hk21
  refine Tr.exit ?_
  refine A2 rfl (by simp) ?_
  exact Bb rfl rfl rfl trivial
def A3r (n : Int) : V := if btw n 0 1099511627776 then .tuple [I (isq n), I 0] else .tuple [I 0, I 7]
theorem A6y (n : Int) : C Tryz.prog Qb [I n] (A3r n) := by
 refine C_of mixed Vb (by simp) fun S ok => ?_
 refine A2 rfl (by simp) ?_
 refine Tr.seq (A3 rfl (by simp) (Steps.call rfl rfl (Acy _ _ _) (Steps.fin rfl (by simp) ?_)))
 refine Tr.cond rfl rfl (fun h => ?_) (fun h => ?_)
 ·refine A2 rfl (by simp) (Tr.retT rfl rfl ?_ trivial)
  have h : btw n 0 1099511627776 = false := by simpa using h
  simp [A3r, h, Cp]
 ·refine Cm (A3 rfl (by simp) (Steps.call rfl rfl (c_root _) (Steps.fin rfl (by simp) (Bb rfl rfl ?_ trivial))))
  have h : btw n 0 1099511627776 = true := by simpa using h
  simp [A3r, h, Cp]
theorem A1d {n : Int} (h0 : 0 ≤ n) (h1 : n ≤ 1099511627776) : ∀ k, k ≤ 21 → isqL n k * isqL n k ≤ n ∧ n < (isqL n k + 2 ^ (21 - k)) * (isqL n k + 2 ^ (21 - k))
 | 0, _ => by simp [isqL]; omega
 | k + 1, h => by
   have ih := A1d h0 h1 k (by omega)
   have e1 : (2 : Int) ^ (21 - k) = 2 ^ (20 - k) + 2 ^ (20 - k) := by
    rw [show 21 - k = (20 - k) + 1 by omega, Int.pow_succ]; omega
   rw [e1] at ih
   rw [show 21 - (k + 1) = 20 - k by omega]
   simp only [isqL]
   split
   ·rename_i h2
    refine ⟨h2, ?_⟩
    rw [Int.add_assoc]; exact ih.2
   ·rename_i h2
    exact ⟨ih.1, by omega⟩
theorem P2 {n : Int} (h0 : 0 ≤ n) (h1 : n ≤ 1099511627776) : 0 ≤ isq n ∧ isq n * isq n ≤ n ∧ n < (isq n + 1) * (isq n + 1) := by
 have h := A1d h0 h1 21 (by omega)
 exact ⟨(Za n 21 (by omega)).1, h.1, by simpa [isq] using h.2⟩
theorem P3 {n a : Int} (h1 : n ≤ 1099511627776) (h : a * a ≤ n) : -isq n ≤ a ∧ a ≤ isq n := by
 have h0 : 0 ≤ n := by
  have : 0 ≤ a * a := by
   rcases Int.le_total 0 a with h | h
   ·exact Int.mul_nonneg h h
   ·have := Int.mul_nonneg (show 0 ≤ -a by omega) (show 0 ≤ -a by omega); rw [Int.neg_mul_neg] at this; exact this
  omega
 obtain ⟨g0, g1, g2⟩ := P2 h0 h1
 rcases Int.le_total 0 a with h3 | h3
 ·have := sq_lt h3 (by omega) (show a * a < (isq n + 1) * (isq n + 1) by omega)
  omega
 ·have := sq_lt (show 0 ≤ -a by omega) (by omega) (show -a * -a < (isq n + 1) * (isq n + 1) by rw [Int.neg_mul_neg]; omega)
  omega
theorem Ua {n : Int} (h0 : 0 ≤ n) (h1 : n ≤ 1099511627776) : 0 ≤ isq n ∧ isq n ≤ 2097151 := by
 have := Za n 21 (by omega)
 have e : (2 : Int) ^ 21 - 2 ^ (21 - 21) = 2097151 := by decide
 unfold isq; omega
end
section
open Go.Am
def inR (f : Fr) (p : Int × Int) : Prop := (f.x.1 ≤ p.1 ∧ p.1 ≤ f.x.2) ∧ (f.y.1 ≤ p.2 ∧ p.2 ≤ f.y.2) ∧ (f.s.1 ≤ p.1 + p.2 ∧ p.1 + p.2 ≤ f.s.2) ∧ f.d.1 ≤ p.1 - p.2 ∧ p.1 - p.2 ≤ f.d.2
def subR (a b : Fr) : Prop := (b.x.1 ≤ a.x.1 ∧ a.x.2 ≤ b.x.2) ∧ (b.y.1 ≤ a.y.1 ∧ a.y.2 ≤ b.y.2) ∧ (b.s.1 ≤ a.s.1 ∧ a.s.2 ≤ b.s.2) ∧ b.d.1 ≤ a.d.1 ∧ a.d.2 ≤ b.d.2
theorem subR.refl (a : Fr) : subR a a := by unfold subR; omega
theorem subR.trans {a b c : Fr} (h1 : subR a b) (h2 : subR b c) : subR a c := by unfold subR at *; omega
theorem subR.inR {a b : Fr} (h : subR a b) {p : Int × Int} (hp : inR a p) : inR b p := by unfold subR at h; unfold Proofs.YtabedohjkillfaaGreat.inR at *; omega
theorem places_inR {f : Fr} {q : Int × Int} : q ∈ Yx f ↔ inR f q := by
 rw [U5]; unfold inR lowY Dm; omega
theorem Kk {f : Fr} : ∀ {n : Nat} {x0 x : Int}, x0 ≤ x → x < x0 + n → lowY f x ≤ Dm f x → (x, lowY f x, Dm f x) ∈ Hm f n x0
 | 0, x0, x, h1, h2, _ => by omega
 | n + 1, x0, x, h1, h2, h3 => by
   simp only [Hm]
   by_cases e : x = x0
   ·subst e; rw [if_pos h3]; simp
   ·have := Kk (f := f) (n := n) (x0 := x0 + 1) (x := x) (by omega) (by push_cast at h2; omega) h3
    split
    ·simp [this]
    ·exact this
theorem F7 {f : Fr} {p : Int × Int} (h : p ∈ Dr f) : inR f p := places_inR.1 (A4i h)
theorem Pd {f : Fr} {q : Int × Int} (h : inR f q) : ((q.1, lowY f q.1) ∈ Dr f ∧ (q.1, Dm f q.1) ∈ Dr f) ∧ lowY f q.1 ≤ q.2 ∧ q.2 ≤ Dm f q.1 := by
 obtain ⟨h1, h2, h3, h4⟩ := h
 have a : lowY f q.1 ≤ q.2 := by unfold lowY; omega
 have b : q.2 ≤ Dm f q.1 := by unfold Dm; omega
 have hr : (q.1, lowY f q.1, Dm f q.1) ∈ Bc f := Kk h1.1 (by omega) (by omega)
 refine ⟨⟨List.mem_flatMap.2 ⟨_, hr, ?_⟩, List.mem_flatMap.2 ⟨_, hr, ?_⟩⟩, a, b⟩
 ·unfold Jl; split <;> simp
 ·unfold Jl; split
  ·rename_i e; simp only at e; simp [e]
  ·simp
def Bj (f : Fr) : Fr × Bool := Da (Dr f)
def inPl (f : Fr) : Prop := (-32768 ≤ f.x.1 ∧ f.x.2 ≤ 32768) ∧ -32768 ≤ f.y.1 ∧ f.y.2 ≤ 32768
theorem Ha {f : Fr} (h : Av f = true) : inPl f := by
 rw [Cb] at h
 unfold fitF fitB at h; unfold inPl; omega
theorem Lw {f : Fr} (hf : inPl f) {p : Int × Int} (h : inR f p) : An p = true := by
 unfold inPl at hf; unfold inR at h
 simp only [An, Bool.and_eq_true, Ca]; omega
theorem Abe {f : Fr} (hf : inPl f) (hne : Dr f ≠ []) : (Bj f).2 = true ∧ HullOk (Bj f).1 (Dr f) :=
 A4b ((Dr f).length - 1) _ (by have := List.length_pos_iff.2 hne; omega) fun p hp => Lw hf (F7 hp)
theorem hull_ne {f : Fr} (h : (Bj f).2 = true) : Dr f ≠ [] := fun e => by
 unfold Bj at h; rw [e] at h; simp [Da] at h
theorem M4 {f : Fr} (hf : inPl f) (h : (Bj f).2 = true) : subR (Bj f).1 f ∧ Av (Bj f).1 = true := by
 obtain ⟨_, H⟩ := Abe hf (hull_ne h)
 obtain ⟨p1, q1, e1⟩ := H.a1; obtain ⟨p2, q2, e2⟩ := H.a2; obtain ⟨p3, q3, e3⟩ := H.b1; obtain ⟨p4, q4, e4⟩ := H.b2
 obtain ⟨p5, q5, e5⟩ := H.c1; obtain ⟨p6, q6, e6⟩ := H.c2; obtain ⟨p7, q7, e7⟩ := H.d1; obtain ⟨p8, q8, e8⟩ := H.d2
 have i := H.i p1 q1
 have r1 := F7 q1; have r2 := F7 q2; have r3 := F7 q3; have r4 := F7 q4
 have r5 := F7 q5; have r6 := F7 q6; have r7 := F7 q7; have r8 := F7 q8
 unfold inR at *
 unfold inPl at hf
 rw [Cb]
 unfold subR fitF fitB
 omega
theorem Pf {f : Fr} (hf : inPl f) {q : Int × Int} (h : inR f q) : (Bj f).2 = true ∧ inR (Bj f).1 q := by
 obtain ⟨⟨m1, m2⟩, a, b⟩ := Pd h
 obtain ⟨k1, H⟩ := Abe hf (List.ne_nil_of_mem m1)
 have u := H.i _ m1
 have v := H.i _ m2
 refine ⟨k1, ?_⟩
 simp only at u v
 unfold inR; omega
def Hr (f : Fr) : Option Fr := if Av f && (Bj f).2 then some (Bj f).1 else none
theorem Qg {f t : Fr} (h : Hr f = some t) : Av f = true ∧ (Bj f).2 = true ∧ t = (Bj f).1 ∧ subR t f ∧ Av t = true := by
 unfold Hr at h
 split at h
 ·rename_i h1
  simp only [Bool.and_eq_true] at h1
  cases h
  have := M4 (Ha h1.1) h1.2
  exact ⟨h1.1, h1.2, rfl, this.1, this.2⟩
 ·cases h
theorem A9p {f : Fr} (hf : Av f = true) {q : Int × Int} (h : inR f q) : ∃ t, Hr f = some t ∧ inR t q := by
 obtain ⟨h1, h2⟩ := Pf (Ha hf) h
 exact ⟨_, by unfold Hr; rw [hf, h1]; rfl, h2⟩
def cutO (r b : Fr) : Option Fr := if Av r && Av b && (Bj (comb cutB r b)).2 then some (Bj (comb cutB r b)).1 else none
theorem cut_pl {r : Fr} (b : Fr) (h : Av r = true) : inPl (comb cutB r b) := by
 have := Ha h
 unfold inPl comb cutB at *
 simp only
 omega
theorem Hv {r b a : Fr} (h : cutO r b = some a) : Av r = true ∧ Av b = true ∧ subR a r ∧ subR a b ∧ Av a = true := by
 unfold cutO at h
 split at h
 ·rename_i h1
  simp only [Bool.and_eq_true] at h1
  cases h
  obtain ⟨k1, k2⟩ := M4 (cut_pl b h1.1.1) h1.2
  generalize (Bj (comb cutB r b)).1 = T at k1 k2 ⊢
  refine ⟨h1.1.1, h1.1.2, ?_, ?_, k2⟩
  ·unfold subR comb cutB at k1; unfold subR; simp only at k1; omega
  ·unfold subR comb cutB at k1; unfold subR; simp only at k1; omega
 ·cases h
theorem Acg {r b : Fr} (hr : Av r = true) (hb : Av b = true) {q : Int × Int} (h1 : inR r q) (h2 : inR b q) : ∃ a, cutO r b = some a ∧ inR a q := by
 have h : inR (comb cutB r b) q := by
  unfold inR comb cutB at *
  simp only
  omega
 obtain ⟨k1, k2⟩ := Pf (cut_pl b hr) h
 exact ⟨_, by unfold cutO; rw [hr, hb, k1]; rfl, k2⟩
def Xg (b by' : Int × Int) (m : Int) : Int × Int := (max (b.1 + by'.1) (-m), min (b.2 + by'.2) m)
def winF (r s : Fr) : Fr := ⟨Xg r.x s.x 32768, Xg r.y s.y 32768, Xg r.s s.s 65536, Xg r.d s.d 65536⟩
def A3j (b : Int × Int) : Int × Int := (-b.2, -b.1)
def A52 (s : Fr) : Fr := ⟨A3j s.x, A3j s.y, A3j s.s, A3j s.d⟩
def abt (n : Int) : Int × Int := (-isq n, isq n)
def A7u (r : Fr) (x y : Int) : Bool := btw x r.x.1 r.x.2 && btw y r.y.1 r.y.2 && btw (x + y) r.s.1 r.s.2 && btw (x - y) r.d.1 r.d.2
def frZ : Fr := ⟨(0, 0), (0, 0), (0, 0), (0, 0)⟩
def octL : List Fr :=
 let free : Int × Int := (-131072, 131072)
 let U9 : Int × Int := (0, 131072)
 let most : Int × Int := (-131072, 0)
 [⟨free, U9, free, U9⟩, ⟨U9, free, free, most⟩, ⟨most, free, U9, free⟩, ⟨free, U9, most, free⟩, ⟨free, most, free, most⟩, ⟨most, free, free, U9⟩, ⟨U9, free, most, free⟩, ⟨free, most, U9, free⟩]
inductive Sd
 | rng (a b : Nat) (lo hi : Int)
 | sec (a b : Nat) (o : Nat)
 | off (a b : Nat) (r : Fr)
def Sd.a : Sd → Nat
 | .rng a _ _ _ | .sec a _ _ | .off a _ _ => a
def Sd.b : Sd → Nat
 | .rng _ b _ _ | .sec _ b _ | .off _ b _ => b
def Sd.span : Sd → Fr
 | .rng _ _ _ hi => ⟨abt hi, abt hi, abt (2 * hi), abt (2 * hi)⟩
 | .sec _ _ o => octL.getD o frZ
 | .off _ _ r => r
def Sd.of (o : Sd) (x y : Int) : Bool := match o with
 | .rng _ _ lo hi => btw (x * x + y * y) lo hi
 | .sec _ _ k => A7u (octL.getD k frZ) x y
 | .off _ _ r => A7u r x y
def Sd.ok (n : Nat) (o : Sd) : Prop := (o.a < n ∧ o.b < n ∧ o.a ≠ o.b) ∧ match o with
 | .rng _ _ lo hi => 0 ≤ lo ∧ lo ≤ hi ∧ hi ≤ 17179869184
 | .sec _ _ _ => False
 | .off _ _ r => Av r = true
theorem Xe (a : Int) : 0 ≤ a * a := by
 rcases Int.le_total 0 a with h | h
 ·exact Int.mul_nonneg h h
 ·have := Int.mul_nonneg (show 0 ≤ -a by omega) (show 0 ≤ -a by omega); rw [Int.neg_mul_neg] at this; exact this
theorem of_span {n : Nat} {o : Sd} (ho : o.ok n) {x y : Int} (h : o.of x y = true) : A7u o.span x y = true := by
 cases o with
 | rng a b lo hi =>
   obtain ⟨_, h1, h2, h3⟩ := ho
   simp only [Sd.of, Ca] at h
   have hx := Xe x; have hy := Xe y
   have e1 : (x + y) * (x + y) + (x - y) * (x - y) = 2 * (x * x + y * y) := by
    simp only [Int.add_mul, Int.mul_add, Int.sub_mul, Int.mul_sub, Int.mul_comm y x]; omega
   have hs := Xe (x + y); have hd := Xe (x - y)
   have a1 := P3 (n := hi) (a := x) (by omega) (by omega)
   have a2 := P3 (n := hi) (a := y) (by omega) (by omega)
   have a3 := P3 (n := 2 * hi) (a := x + y) (by omega) (by omega)
   have a4 := P3 (n := 2 * hi) (a := x - y) (by omega) (by omega)
   simp only [Sd.span, A7u, abt, Bool.and_eq_true, Ca]
   omega
 | sec a b k => exact h
 | off a b r => exact h
theorem lies_iff {r : Fr} {x y : Int} : A7u r x y = true ↔ inR r (x, y) := by
 simp only [A7u, Bool.and_eq_true, Ca]; unfold inR; omega
theorem A9i {r s : Fr} {p q : Int × Int} (hr : inR r p) (hs : inR s (q.1 - p.1, q.2 - p.2)) (hq : An q = true) : Av (winF r s) = true ∧ inR (winF r s) q := by
 simp only [An, Bool.and_eq_true, Ca] at hq
 unfold inR at hr hs ⊢
 rw [Cb]
 unfold fitF fitB winF Xg
 simp only at hs ⊢
 omega
theorem back_has {s : Fr} {x y : Int} (h : inR s (x, y)) : inR (A52 s) (-x, -y) := by
 unfold inR A52 A3j at *
 simp only at h ⊢
 omega
def minB (a b : Int × Int) : Int × Int := (a.1 - b.2, a.2 - b.1)
def rowSq (r : Int × Int × Int) : Int × Int := (r.1 * r.1 + (max r.2.1 (min 0 r.2.2)) * (max r.2.1 (min 0 r.2.2)), r.1 * r.1 + max (r.2.1 * r.2.1) (r.2.2 * r.2.2))
def Cd (better : Int × Int → Int × Int → Bool) (a : (Int × Int) × Bool) (x : Int × Int) : (Int × Int) × Bool := if !a.2 || better x a.1 then (x, true) else a
def Fz (better : Int × Int → Int × Int → Bool) (l : List (Int × Int)) : (Int × Int) × Bool := l.foldl (Cd better) ((0, 0), false)
def lowB (a b : Int × Int) : Bool := decide (a.1 < b.1)
def Wf (a b : Int × Int) : Bool := decide (a.2 > b.2)
def sqsN (f : Fr) : Int × Int := ((Fz lowB ((Bc f).map rowSq)).1.1, (Fz Wf ((Bc f).map rowSq)).1.2)
theorem A5x : ∀ (l : List (Int × Int)) (a : (Int × Int) × Bool), (a.2 = true → (l.foldl (Cd lowB) a).1.1 ≤ a.1.1) ∧ ∀ x ∈ l, (l.foldl (Cd lowB) a).1.1 ≤ x.1
 | [], a => ⟨fun _ => Int.le_refl _, fun x h => by cases h⟩
 | y :: l, a => by
   obtain ⟨h1, h2⟩ := A5x l (Cd lowB a y)
   have h3 : (Cd lowB a y).2 = true ∧ (Cd lowB a y).1.1 ≤ y.1 ∧ (a.2 = true → (Cd lowB a y).1.1 ≤ a.1.1) := by
    unfold Cd lowB
    cases ha : a.2 with
    | false => simp
    | true =>
      by_cases hl : y.1 < a.1.1
      ·simp [hl]; omega
      ·simp [hl, ha]; omega
   rw [List.foldl_cons]
   have h4 := h1 h3.1
   refine ⟨fun ha => by have := h3.2.2 ha; omega, fun x hx => ?_⟩
   rcases List.mem_cons.1 hx with rfl | hx
   ·omega
   ·exact h2 x hx
theorem A18 : ∀ (l : List (Int × Int)) (a : (Int × Int) × Bool), (a.2 = true → a.1.2 ≤ (l.foldl (Cd Wf) a).1.2) ∧ ∀ x ∈ l, x.2 ≤ (l.foldl (Cd Wf) a).1.2
 | [], a => ⟨fun _ => Int.le_refl _, fun x h => by cases h⟩
 | y :: l, a => by
   obtain ⟨h1, h2⟩ := A18 l (Cd Wf a y)
   have h3 : (Cd Wf a y).2 = true ∧ y.2 ≤ (Cd Wf a y).1.2 ∧ (a.2 = true → a.1.2 ≤ (Cd Wf a y).1.2) := by
    unfold Cd Wf
    cases ha : a.2 with
    | false => simp
    | true =>
      by_cases hl : y.2 > a.1.2
      ·simp [hl]; omega
      ·simp [hl, ha]; omega
   rw [List.foldl_cons]
   have h4 := h1 h3.1
   refine ⟨fun ha => by have := h3.2.2 ha; omega, fun x hx => ?_⟩
   rcases List.mem_cons.1 hx with rfl | hx
   ·omega
   ·exact h2 x hx
theorem Yn {a b : Int} (h0 : 0 ≤ a) (h : a ≤ b) : a * a ≤ b * b := Int.mul_le_mul h h h0 (by omega)
theorem sqs_has {f : Fr} {q : Int × Int} (h : inR f q) : (sqsN f).1 ≤ q.1 * q.1 + q.2 * q.2 ∧ q.1 * q.1 + q.2 * q.2 ≤ (sqsN f).2 := by
 obtain ⟨_, a, b⟩ := Pd h
 have hr : (q.1, lowY f q.1, Dm f q.1) ∈ Bc f := Kk h.1.1 (by have := h.1.2; omega) (by omega)
 have hm : rowSq (q.1, lowY f q.1, Dm f q.1) ∈ (Bc f).map rowSq := List.mem_map.2 ⟨_, hr, rfl⟩
 have h1 := (A5x ((Bc f).map rowSq) ((0, 0), false)).2 _ hm
 have h2 := (A18 ((Bc f).map rowSq) ((0, 0), false)).2 _ hm
 generalize lowY f q.1 = lo at a h1 h2
 generalize Dm f q.1 = hi at b h1 h2
 have e : ∀ z : Int, z * z = -z * -z := fun z => by rw [Int.neg_mul_neg]
 have k1 : (max lo (min 0 hi)) * (max lo (min 0 hi)) ≤ q.2 * q.2 := by
  rcases Int.le_total 0 lo with h3 | h3
  ·rw [show max lo (min 0 hi) = lo by omega]; exact Yn h3 a
  ·rcases Int.le_total hi 0 with h4 | h4
   ·rw [show max lo (min 0 hi) = hi by omega, e hi, e q.2]; exact Yn (by omega) (by omega)
   ·rw [show max lo (min 0 hi) = 0 by omega]; have := Xe q.2; omega
 have k2 : q.2 * q.2 ≤ max (lo * lo) (hi * hi) := by
  rcases Int.le_total 0 q.2 with h3 | h3
  ·have := Yn h3 b; omega
  ·have := Yn (show 0 ≤ -q.2 by omega) (show -q.2 ≤ -lo by omega)
   rw [Int.neg_mul_neg, Int.neg_mul_neg] at this; omega
 simp only [rowSq] at h1 h2
 unfold sqsN Fz
 simp only
 omega
def gapN (a b : Fr) : Int × Int := if Av a && Av b && (Bj a).2 && (Bj b).2 then sqsN (comb minB (Bj a).1 (Bj b).1) else (0, 0)
theorem gap_has {a b : Fr} (ha : Av a = true) (hb : Av b = true) {p q : Int × Int} (hp : inR a p) (hq : inR b q) : (gapN a b).1 ≤ (q.1 - p.1) * (q.1 - p.1) + (q.2 - p.2) * (q.2 - p.2) ∧ (q.1 - p.1) * (q.1 - p.1) + (q.2 - p.2) * (q.2 - p.2) ≤ (gapN a b).2 := by
 obtain ⟨u1, u2⟩ := Pf (Ha ha) hp
 obtain ⟨v1, v2⟩ := Pf (Ha hb) hq
 have h : inR (comb minB (Bj a).1 (Bj b).1) (p.1 - q.1, p.2 - q.2) := by
  unfold inR comb minB at *
  simp only
  omega
 have := sqs_has h
 have e : ∀ y z : Int, (y - z) * (y - z) = (z - y) * (z - y) := fun y z => by rw [← Int.neg_mul_neg, show -(y - z) = z - y by omega]
 simp only at this
 rw [e p.1 q.1, e p.2 q.2] at this
 unfold gapN
 rw [ha, hb, u1, v1]
 exact this
def posB (o : Sd) (a b : Fr) : Bool := match o with
 | .rng _ _ lo hi => decide ((gapN a b).1 ≤ hi) && decide (lo ≤ (gapN a b).2)
 | _ => true
def Gr (ns : List Fr) (o : Sd) : Option (Fr × Fr) :=
 match cutO (ns.getD o.a frZ) (winF (ns.getD o.b frZ) (A52 o.span)) with
 | none => none
 | some a => match cutO (ns.getD o.b frZ) (winF a o.span) with
   | none => none
   | some b => if posB o a b then some (a, b) else none
def fits (l : List (Int × Int)) (o : Sd) : Bool := o.of ((l.getD o.b (0, 0)).1 - (l.getD o.a (0, 0)).1) ((l.getD o.b (0, 0)).2 - (l.getD o.a (0, 0)).2)
theorem A5m {ns : List Fr} {o : Sd} {a b : Fr} (h : Gr ns o = some (a, b)) : subR a (ns.getD o.a frZ) ∧ subR b (ns.getD o.b frZ) ∧ Av a = true ∧ Av b = true := by
 unfold Gr at h
 split at h
 ·cases h
 ·rename_i a' ha
  split at h
  ·cases h
  ·rename_i b' hb
   split at h
   ·cases h
    have h1 := Hv ha
    have h2 := Hv hb
    exact ⟨h1.2.2.1, h2.2.2.1, h1.2.2.2.2, h2.2.2.2.2⟩
   ·cases h
theorem A5n {n : Nat} {ns : List Fr} {o : Sd} (ho : o.ok n) (hns : ∀ i < n, Av (ns.getD i frZ) = true) {l : List (Int × Int)} (hl : ∀ i < n, inR (ns.getD i frZ) (l.getD i (0, 0))) (hf : fits l o = true) :
  ∃ a b, Gr ns o = some (a, b) ∧ inR a (l.getD o.a (0, 0)) ∧ inR b (l.getD o.b (0, 0)) := by
 have ha := hl o.a ho.1.1
 have hb := hl o.b ho.1.2.1
 have fa := hns o.a ho.1.1
 have fb := hns o.b ho.1.2.1
 have hs := lies_iff.1 (of_span ho hf)
 have hf' : o.of ((l.getD o.b (0, 0)).1 - (l.getD o.a (0, 0)).1) ((l.getD o.b (0, 0)).2 - (l.getD o.a (0, 0)).2) = true := hf
 unfold Gr
 generalize ns.getD o.a frZ = ra at *
 generalize ns.getD o.b frZ = rb at *
 generalize l.getD o.a (0, 0) = p at *
 generalize l.getD o.b (0, 0) = q at *
 have hbk := back_has hs
 rw [show -(q.1 - p.1) = p.1 - q.1 by omega, show -(q.2 - p.2) = p.2 - q.2 by omega] at hbk
 obtain ⟨w1, w2⟩ := A9i hb hbk (Lw (Ha fa) ha)
 obtain ⟨a, ea, ia⟩ := Acg fa w1 ha w2
 obtain ⟨w3, w4⟩ := A9i ia hs (Lw (Ha fb) hb)
 obtain ⟨b, eb, ib⟩ := Acg fb w3 hb w4
 rw [ea]
 simp only
 rw [eb]
 simp only
 have hpos : posB o a b = true := by
  cases o with
  | rng _ _ lo hi =>
    have g := gap_has (Hv ea).2.2.2.2 (Hv eb).2.2.2.2 ia ib
    have hf2 : btw ((q.1 - p.1) * (q.1 - p.1) + (q.2 - p.2) * (q.2 - p.2)) lo hi = true := hf'
    rw [Ca] at hf2
    simp only [posB, Bool.and_eq_true, decide_eq_true_eq]
    omega
  | sec _ _ _ => rfl
  | off _ _ _ => rfl
 rw [hpos]
 exact ⟨a, b, rfl, ia, ib⟩
def wdF (f : Fr) : Int := (f.x.2 - f.x.1) + (f.y.2 - f.y.1) + (f.s.2 - f.s.1) + (f.d.2 - f.d.1)
theorem wd_nn {f : Fr} (h : Av f = true) : 0 ≤ wdF f := by
 rw [Cb] at h; unfold fitF fitB at h; unfold wdF; omega
theorem wd_le {a b : Fr} (h : subR a b) : wdF a ≤ wdF b := by unfold subR at h; unfold wdF; omega
theorem wd_eq {a b : Fr} (h : subR a b) (e : wdF b ≤ wdF a) : a = b := by
 obtain ⟨⟨a1, a2⟩, ⟨a3, a4⟩, ⟨a5, a6⟩, a7, a8⟩ := a
 obtain ⟨⟨b1, b2⟩, ⟨b3, b4⟩, ⟨b5, b6⟩, b7, b8⟩ := b
 unfold subR at h; unfold wdF at e
 simp only at h e
 simp only [Fr.mk.injEq, Prod.mk.injEq]
 omega
def sumW : List Fr → Int
 | [] => 0
 | f :: l => wdF f + sumW l
theorem Yk : ∀ (l : List Fr) (i : Nat) (f : Fr), i < l.length → sumW (l.set i f) = sumW l - wdF (l.getD i frZ) + wdF f
 | [], i, f, h => by simp at h
 | a :: l, 0, f, h => by simp [sumW]; omega
 | a :: l, i + 1, f, h => by
   have := Yk l i f (by simpa using h)
   simp only [List.set_cons_succ, sumW, this, List.getD_cons_succ]; omega
theorem Tp : ∀ (l : List Fr), (∀ f ∈ l, Av f = true) → 0 ≤ sumW l
 | [], _ => Int.le_refl _
 | f :: l, h => by
   have h1 := wd_nn (h f (by simp))
   have h2 := Tp l fun g hg => h g (by simp [hg])
   simp only [sumW]; omega
def FitL (ns : List Fr) (os : List Sd) (l : List (Int × Int)) : Prop := l.length = ns.length ∧ (∀ i < ns.length, inR (ns.getD i frZ) (l.getD i (0, 0))) ∧ ∀ o ∈ os, fits l o = true
structure InvN (ns0 : List Fr) (os : List Sd) (ns : List Fr) : Prop where
 len : ns.length = ns0.length
 fit : ∀ i < ns0.length, Av (ns.getD i frZ) = true
 sub : ∀ i < ns0.length, subR (ns.getD i frZ) (ns0.getD i frZ)
 has : ∀ l, FitL ns0 os l → ∀ i < ns0.length, inR (ns.getD i frZ) (l.getD i (0, 0))
theorem Pg {l : List Fr} {i j : Nat} {f : Fr} (hi : i < l.length) : (l.set i f).getD j frZ = if j = i then f else l.getD j frZ := by
 simp only [List.getD_eq_getElem?_getD]
 by_cases h : j = i
 ·subst h; rw [if_pos rfl, List.getElem?_set_self hi]; rfl
 ·rw [if_neg h, List.getElem?_set_ne (by omega)]
def E6 (ns : List Fr) (o : Sd) (a b : Fr) : List Fr := (ns.set o.a a).set o.b b
theorem inv_step {ns0 : List Fr} {os : List Sd} {ns : List Fr} (h : InvN ns0 os ns) {o : Sd} (hm : o ∈ os) (ho : o.ok ns0.length) {a b : Fr} (e : Gr ns o = some (a, b)) : InvN ns0 os (E6 ns o a b) := by
 obtain ⟨s1, s2, s3, s4⟩ := A5m e
 have hla : o.a < ns.length := by rw [h.len]; exact ho.1.1
 have hlb : o.b < (ns.set o.a a).length := by rw [List.length_set, h.len]; exact ho.1.2.1
 have g : ∀ i, (E6 ns o a b).getD i frZ = if i = o.b then b else if i = o.a then a else ns.getD i frZ := fun i => by
  unfold E6; rw [Pg hlb, Pg hla]
 refine ⟨by unfold E6; rw [List.length_set, List.length_set]; exact h.len, fun i hi => ?_, fun i hi => ?_, fun l hl i hi => ?_⟩
 ·rw [g]
  split
  ·exact s4
  ·split
   ·exact s3
   ·exact h.fit i hi
 ·rw [g]
  split
  ·rename_i e1; rw [e1]; exact s2.trans (h.sub _ ho.1.2.1)
  ·split
   ·rename_i e1; rw [e1]; exact s1.trans (h.sub _ ho.1.1)
   ·exact h.sub i hi
 ·obtain ⟨a', b', e', ia, ib⟩ := A5n ho h.fit (h.has l hl) (hl.2.2 o hm)
  rw [e'] at e
  cases e
  rw [g]
  split
  ·rename_i e1; rw [e1]; exact ib
  ·split
   ·rename_i e1; rw [e1]; exact ia
   ·exact h.has l hl i hi
theorem Ab6 {ns0 : List Fr} {os : List Sd} {ns : List Fr} (h : InvN ns0 os ns) {o : Sd} (hm : o ∈ os) (ho : o.ok ns0.length) (e : Gr ns o = none) : ∀ l, ¬ FitL ns0 os l := fun l hl => by
 obtain ⟨a', b', e', _⟩ := A5n ho h.fit (h.has l hl) (hl.2.2 o hm)
 rw [e'] at e; cases e
theorem A9r {ns0 : List Fr} {os : List Sd} {ns : List Fr} (h : InvN ns0 os ns) {o : Sd} (ho : o.ok ns0.length) {a b : Fr} (e : Gr ns o = some (a, b)) : sumW (E6 ns o a b) ≤ sumW ns ∧ ((a ≠ ns.getD o.a frZ ∨ b ≠ ns.getD o.b frZ) → sumW (E6 ns o a b) < sumW ns) ∧ 0 ≤ sumW ns := by
 obtain ⟨s1, s2, s3, s4⟩ := A5m e
 have hla : o.a < ns.length := by rw [h.len]; exact ho.1.1
 have hlb : o.b < (ns.set o.a a).length := by rw [List.length_set, h.len]; exact ho.1.2.1
 have e1 : sumW (E6 ns o a b) = sumW ns - wdF (ns.getD o.a frZ) + wdF a - wdF (ns.getD o.b frZ) + wdF b := by
  unfold E6
  rw [Yk _ _ _ hlb, Yk _ _ _ hla, Pg hla, if_neg (by have := ho.1.2.2; omega)]
 have l1 := wd_le s1
 have l2 := wd_le s2
 refine ⟨by omega, fun hne => ?_, Tp ns fun f hf => ?_⟩
 ·apply Classical.byContradiction
  intro hno
  rcases hne with hne | hne
  ·exact hne (wd_eq s1 (by omega))
  ·exact hne (wd_eq s2 (by omega))
 ·obtain ⟨i, hi, rfl⟩ := List.mem_iff_getElem.1 hf
  have := h.fit i (by rw [← h.len]; exact hi)
  rwa [List.getD_eq_getElem?_getD, List.getElem?_eq_getElem hi] at this
end
section
open Go.Am
attribute [local simp] cells Aa mkv Ag Ap under dem dem1 eB A7 B8
theorem Dl {x y B C : Int} (hB : 0 ≤ B) (hC : 0 ≤ C) (hx : -B ≤ x ∧ x ≤ B) (hy : -C ≤ y ∧ y ≤ C) : -(B * C) ≤ x * y ∧ x * y ≤ B * C := by
 have h1 : x.natAbs ≤ B.natAbs := by omega
 have h2 : y.natAbs ≤ C.natAbs := by omega
 have h3 := Nat.mul_le_mul h1 h2
 rw [← Int.natAbs_mul, ← Int.natAbs_mul] at h3
 have hb := Int.mul_nonneg hB hC
 omega
def exS (p q : Int) (a : (Int × Int) × Bool) (r : Int × Int × Int) : (Int × Int) × Bool :=
 let u := p * r.1 + q * r.2.1
 let v := p * r.1 + q * r.2.2
 let o := if a.2 then a.1 else (u, u)
 ((min (min o.1 u) v, max (max o.2 u) v), true)
def exL (p q : Int) (l : List (Int × Int × Int)) : (Int × Int) × Bool := l.foldl (exS p q) ((0, 0), false)
def exF (f : Fr) (p q : Int) : Int × Int := (exL p q (Bc f)).1
theorem A6i (p q : Int) : ∀ (l : List (Int × Int × Int)) (a : (Int × Int) × Bool), a.2 = true → (l.foldl (exS p q) a).1.1 ≤ a.1.1 ∧ a.1.2 ≤ (l.foldl (exS p q) a).1.2
 | [], a, _ => ⟨Int.le_refl _, Int.le_refl _⟩
 | r :: l, a, h => by
   have ih := A6i p q l (exS p q a r) rfl
   rw [List.foldl_cons]
   have h1 : (exS p q a r).1.1 ≤ a.1.1 ∧ a.1.2 ≤ (exS p q a r).1.2 := by
    unfold exS; simp only [h, if_true]; omega
   omega
theorem Abq (p q : Int) : ∀ (l : List (Int × Int × Int)) (a : (Int × Int) × Bool) (r : Int × Int × Int), r ∈ l → ((l.foldl (exS p q) a).1.1 ≤ p * r.1 + q * r.2.1 ∧ (l.foldl (exS p q) a).1.1 ≤ p * r.1 + q * r.2.2) ∧ p * r.1 + q * r.2.1 ≤ (l.foldl (exS p q) a).1.2 ∧ p * r.1 + q * r.2.2 ≤ (l.foldl (exS p q) a).1.2
 | [], a, r, h => by cases h
 | r0 :: l, a, r, h => by
   rw [List.foldl_cons]
   rcases List.mem_cons.1 h with rfl | h
   ·have ih := A6i p q l (exS p q a r) rfl
    have h1 : ((exS p q a r).1.1 ≤ p * r.1 + q * r.2.1 ∧ (exS p q a r).1.1 ≤ p * r.1 + q * r.2.2) ∧ p * r.1 + q * r.2.1 ≤ (exS p q a r).1.2 ∧ p * r.1 + q * r.2.2 ≤ (exS p q a r).1.2 := by
     unfold exS; simp only; omega
    omega
   ·exact Abq p q l _ r h
theorem A6h {f : Fr} {p q : Int} {z : Int × Int} (h : inR f z) : (exF f p q).1 ≤ p * z.1 + q * z.2 ∧ p * z.1 + q * z.2 ≤ (exF f p q).2 := by
 obtain ⟨_, a, b⟩ := Pd h
 have hr : (z.1, lowY f z.1, Dm f z.1) ∈ Bc f := Kk h.1.1 (by have := h.1.2; omega) (by omega)
 have k := Abq p q (Bc f) ((0, 0), false) _ hr
 simp only at k
 unfold exF exL
 rcases Int.le_total 0 q with h1 | h1
 ·have h2 := Int.mul_le_mul_of_nonneg_left a h1
  have h3 := Int.mul_le_mul_of_nonneg_left b h1
  omega
 ·have h2 := Int.mul_le_mul_of_nonpos_left h1 a
  have h3 := Int.mul_le_mul_of_nonpos_left h1 b
  omega
def exBd (a : (Int × Int) × Bool) : Prop := (-400000000 ≤ a.1.1 ∧ a.1.1 ≤ 400000000) ∧ -400000000 ≤ a.1.2 ∧ a.1.2 ≤ 400000000
theorem exS_bd {p q : Int} (hp : -2000 ≤ p ∧ p ≤ 2000) (hq : -2000 ≤ q ∧ q ≤ 2000) {a : (Int × Int) × Bool} (ha : exBd a) {r : Int × Int × Int} (h1 : -32768 ≤ r.1 ∧ r.1 ≤ 32768) (h2 : -32768 ≤ r.2.1 ∧ r.2.1 ≤ 32768) (h3 : -32768 ≤ r.2.2 ∧ r.2.2 ≤ 32768) : exBd (exS p q a r) := by
 have q1 := Dl (x := p) (y := r.1) (B := 2000) (C := 32768) (by omega) (by omega) hp h1
 have q2 := Dl (x := q) (y := r.2.1) (B := 2000) (C := 32768) (by omega) (by omega) hq h2
 have q3 := Dl (x := q) (y := r.2.2) (B := 2000) (C := 32768) (by omega) (by omega) hq h3
 unfold exBd at *
 unfold exS
 cases a.2 <;> simp only [if_true, if_false, Bool.false_eq_true] <;> omega
theorem Xl {f : Fr} (hf : Av f = true) {r : Int × Int × Int} (h : r ∈ Bc f) : (-32768 ≤ r.1 ∧ r.1 ≤ 32768) ∧ (-32768 ≤ r.2.1 ∧ r.2.1 ≤ 32768) ∧ -32768 ≤ r.2.2 ∧ r.2.2 ≤ 32768 := by
 obtain ⟨⟨a1, a2⟩, a3, a4, a5⟩ := Ox _ _ h
 rw [Cb] at hf
 unfold fitF fitB at hf
 unfold lowY at a3; unfold Dm at a4
 omega
theorem exL_bd {f : Fr} (hf : Av f = true) {p q : Int} (hp : -2000 ≤ p ∧ p ≤ 2000) (hq : -2000 ≤ q ∧ q ≤ 2000) : exBd (exL p q (Bc f)) := by
 have : ∀ (l : List (Int × Int × Int)) (a : (Int × Int) × Bool), (∀ r ∈ l, r ∈ Bc f) → exBd a → exBd (l.foldl (exS p q) a) := by
  intro l
  induction l with
  | nil => intro a _ h; exact h
  | cons r l ih =>
    intro a hl ha
    have hr := Xl hf (hl r (by simp))
    exact ih _ (fun r' h' => hl r' (by simp [h'])) (exS_bd hp hq ha hr.1 hr.2.1 hr.2.2)
 exact this _ _ (fun r h => h) (by unfold exBd; simp)
theorem Ma {f : Fr} {p q : Int} (hf : Av f = true) (hp : -2000 ≤ p ∧ p ≤ 2000) (hq : -2000 ≤ q ∧ q ≤ 2000) : C Tryz.prog X4 [.agg (A7 f), I p, I q] (eB (exF f p q)) := by
 have hf' := hf
 rw [Cb] at hf'
 obtain ⟨⟨⟨x1, x2, x3⟩, y1, y2, y3⟩, ⟨s1, s2, s3⟩, d1, d2, d3⟩ := hf'
 refine C_of mixed Sm (by simp) fun S ok => ?_
 refine A2 rfl (by simp) (A2 rfl (by simp) (A2 rfl (by simp) (Tr.seq (A2 rfl (by simp) (Tr.block ?_)))))
 refine Tr.loop (α := Nat × ((Int × Int) × Bool)) (fun k s => (k.1 ≤ (f.x.2 + 1 - f.x.1).toNat ∧ exBd k.2 ∧ (Hm f ((f.x.2 + 1 - f.x.1).toNat - k.1) (f.x.1 + k.1)).foldl (exS p q) k.2 = exL p q (Bc f)) ∧ s = ⟨[(1, I p), (2, I q), (3, .ptr 3 0), (6, .ptr 6 0), (7, .ptr 7 0), (8, .bool k.2.2), (9, I (f.x.1 + k.1))], [(3, ⟨A7 f, false⟩), (6, ⟨[I 0, I 0], false⟩), (7, ⟨[I k.2.1.1, I k.2.1.2], false⟩)], [], [], false⟩) (fun k => (f.x.2 + 1 - f.x.1).toNat - k.1) (0, ((0, 0), false))
  (Ab (.k rfl (.k rfl (.k rfl (.k rfl (.k rfl (.k rfl (.cons rfl (VLe.i (by simp)) .nil))))))) (.k rfl (.k rfl (.k rfl .nil))) .nil rfl rfl) ⟨⟨Nat.zero_le _, by unfold exBd; simp, by simp [exL, Bc]⟩, rfl⟩ ?_
 rintro ⟨k, st⟩ s ⟨⟨hk, hbd, hfold⟩, rfl⟩
 simp only at hk hbd hfold
 refine Tr.seq (A2 rfl (by simp) (Tr.cond rfl rfl (fun h1 => Tr.skip ?_) (fun h1 => Tr.exit ?_)))
 rotate_left
 ·have h1 : ¬ f.x.1 + (k : Int) ≤ f.x.2 := by simpa using h1
  rw [show (f.x.2 + 1 - f.x.1).toNat - k = 0 by omega] at hfold
  have e : st = exL p q (Bc f) := by simpa [Hm] using hfold
  subst e
  refine A2 rfl (by simp) (A5 rfl rfl rfl rfl trivial)
 have h1 : f.x.1 + (k : Int) ≤ f.x.2 := by simpa using h1
 obtain ⟨x, hx⟩ : ∃ x, f.x.1 + (k : Int) = x := ⟨_, rfl⟩
 have hx' : x + 1 = f.x.1 + ((k + 1 : Nat) : Int) := by omega
 obtain ⟨n, hn⟩ : ∃ n, (f.x.2 + 1 - f.x.1).toNat - k = n + 1 := ⟨_, (Nat.succ_pred_eq_of_pos (by omega)).symm⟩
 have hn2 : (f.x.2 + 1 - f.x.1).toNat - (k + 1) = n := by omega
 rw [hn, hx] at hfold
 rw [hx]
 obtain ⟨lo, hlo⟩ : ∃ l, lowY f x = l := ⟨_, rfl⟩
 obtain ⟨hi, hhi⟩ : ∃ l, Dm f x = l := ⟨_, rfl⟩
 rw [Hm, hlo, hhi] at hfold
 obtain ⟨st', hst'⟩ : ∃ s', (if lo ≤ hi then exS p q st (x, lo, hi) else st) = s' := ⟨_, rfl⟩
 have hb2 : exBd st' := by
  rw [← hst']
  split
  ·rename_i h
   have hlo' := hlo; have hhi' := hhi
   unfold lowY at hlo'; unfold Dm at hhi'
   refine exS_bd hp hq hbd ?_ ?_ ?_ <;> simp only <;> omega
  ·exact hbd
 have hfold2 : (Hm f n (x + 1)).foldl (exS p q) st' = exL p q (Bc f) := by
  rw [← hfold, ← hst']
  split <;> rfl
 refine Of ⟨[(1, I p), (2, I q), (3, .ptr 3 0), (6, .ptr 6 0), (7, .ptr 7 0), (8, .bool st'.2), (9, I x)], [(3, ⟨A7 f, false⟩), (6, ⟨[I 0, I 0], false⟩), (7, ⟨[I st'.1.1, I st'.1.2], false⟩)], [], [], false⟩ (Tr.block ?_) ?_
 rotate_left
 ·refine A9 rfl (by simp) ?_
  refine ⟨(k + 1, st'), _, Ab (.k rfl (.k rfl (.k rfl (.k rfl (.k rfl (.k rfl (.cons rfl (VLe.i ?_) .nil))))))) (.k rfl (.k rfl (.k rfl .nil))) .nil rfl rfl, ⟨⟨by simp only; omega, hb2, ?_⟩, rfl⟩, by simp only; omega⟩
  ·show IntKind.wrap .i64 (x + 1) = f.x.1 + ((k + 1 : Nat) : Int)
   rw [w64 (by omega) (by omega)]; exact hx'
  ·simp only; rw [hn2, ← hx']; exact hfold2
 refine Ll rfl (by simp) (by kernel_rfl) ?_
 refine Tr.weak (s' := ⟨[(1, I p), (2, I q), (3, .ptr 3 0), (6, .ptr 6 0), (7, .ptr 7 0), (8, .bool st.2), (9, I x), (10, I lo), (11, I hi)], [(3, ⟨A7 f, false⟩), (6, ⟨[I 0, I 0], false⟩), (7, ⟨[I st.1.1, I st.1.2], false⟩)], [], [], false⟩)
  (Ab (.k rfl (.k rfl (.k rfl (.k rfl (.k rfl (.k rfl (.k rfl (.cons rfl (VLe.i ?_) (.cons rfl (VLe.i ?_) .nil))))))))) (.k rfl (.k rfl (.k rfl .nil))) .nil rfl rfl) ?_
 ·rw [← hlo]
  unfold lowY
  simp (disch := omega) only [cond_true, cond_false, H7, Jc, w64]
 ·rw [← hhi]
  unfold Dm
  simp (disch := omega) only [cond_true, cond_false, H7, Jc, w64]
 refine Tr.seq (A2 rfl (by simp) (Tr.cond rfl rfl (fun h3 => ?_) (fun h3 => ?_)))
 ·have h3 : ¬ lo ≤ hi := by have : decide (lo > hi) = true := h3; have := of_decide_eq_true this; omega
  rw [if_neg h3] at hst'
  subst hst'
  exact Tr.exit (Ab (.k rfl (.k rfl (.k rfl (.k rfl (.k rfl (.k rfl (.k rfl .nil))))))) (.k rfl (.k rfl (.k rfl .nil))) .nil rfl rfl)
 have h3 : lo ≤ hi := by have : decide (lo > hi) = false := h3; have := of_decide_eq_false this; omega
 rw [if_pos h3] at hst'
 have hlo' := hlo; have hhi' := hhi
 unfold lowY at hlo'; unfold Dm at hhi'
 have q1 := Dl (x := p) (y := x) (B := 2000) (C := 32768) (by omega) (by omega) hp (by omega)
 have q2 := Dl (x := q) (y := lo) (B := 2000) (C := 32768) (by omega) (by omega) hq (by omega)
 have q3 := Dl (x := q) (y := hi) (B := 2000) (C := 32768) (by omega) (by omega) hq (by omega)
 refine Tr.skip (A2 rfl (by simp) ?_)
 obtain ⟨u, hu⟩ : ∃ u, p * x + q * lo = u := ⟨_, rfl⟩
 obtain ⟨v, hv⟩ : ∃ v, p * x + q * hi = v := ⟨_, rfl⟩
 have hst2 : st' = ((min (min (if st.2 then st.1 else (u, u)).1 u) v, max (max (if st.2 then st.1 else (u, u)).2 u) v), true) := by
  rw [← hst', ← hu, ← hv]; rfl
 refine Tr.weak (s' := ⟨[(1, I p), (2, I q), (3, .ptr 3 0), (6, .ptr 6 0), (7, .ptr 7 0), (8, .bool st.2), (9, I x), (12, I u), (13, I v)], [(3, ⟨A7 f, false⟩), (6, ⟨[I 0, I 0], false⟩), (7, ⟨[I st.1.1, I st.1.2], false⟩)], [], [], false⟩)
  (Ab (.k rfl (.k rfl (.k rfl (.k rfl (.k rfl (.k rfl (.k rfl (.cons rfl (VLe.i ?_) (.cons rfl (VLe.i ?_) .nil))))))))) (.k rfl (.k rfl (.k rfl .nil))) .nil rfl rfl) ?_
 ·rw [← hu]; simp (disch := omega) only [w64]
 ·rw [← hv]; simp (disch := omega) only [w64]
 clear hu hv q1 q2 q3 hfold hfold2 hb2
 obtain ⟨⟨m1, m2⟩, sb⟩ := st
 refine Of ⟨[(1, I p), (2, I q), (3, .ptr 3 0), (6, .ptr 6 0), (7, .ptr 7 0), (8, .bool true), (9, I x), (12, I u), (13, I v)], [(3, ⟨A7 f, false⟩), (6, ⟨[I 0, I 0], false⟩), (7, ⟨[I (if sb then (m1, m2) else (u, u)).1, I (if sb then (m1, m2) else (u, u)).2], false⟩)], [], [], false⟩ (A2 rfl (by simp) ?_) ?_
 ·cases sb with
  | false =>
    refine A6 rfl (A9 rfl (by simp) ?_)
    exact Ab (.k rfl (.k rfl (.k rfl (.k rfl (.k rfl (.k rfl (.k rfl (.k rfl (.k rfl .nil))))))))) (.k rfl (.k rfl (.k rfl .nil))) .nil rfl rfl
  | true =>
    refine A4 rfl (Tr.skip ?_)
    exact Ab (.k rfl (.k rfl (.k rfl (.k rfl (.k rfl (.k rfl (.k rfl (.k rfl (.k rfl .nil))))))))) (.k rfl (.k rfl (.k rfl .nil))) .nil rfl rfl
 refine A9 rfl (by simp) ?_
 rw [hst2]
 refine Ab (.k rfl (.k rfl (.k rfl (.k rfl (.k rfl (.k rfl (.k rfl .nil))))))) (.k rfl (.k rfl (.cons rfl (.cons (VLe.i ?_) (.cons (VLe.i ?_) .nil)) .nil))) .nil rfl rfl
 ·simp only [cond_true, cond_false, Jc]
 ·simp only [cond_true, cond_false, H7]
end
section
open Go.Am
attribute [local simp] cells Aa mkv Ag Ap under dem dem1 eB A7 B8
theorem Fy (a b : Int) : C Tryz.prog Id [.slice 0 1 [I a, I b]] (I (if a = 0 then b else a)) := by
 refine C_of mixed Sr (by simp) fun S ok => ?_
 refine A2 rfl (by simp) (Tr.seq (A2 rfl (by simp) (Tr.block ?_)))
 refine Az 3 (TrN.succ ?_)
 refine A2 rfl (by simp) (Tr.seq (A6 rfl (Tr.skip (Tr.seq (Tr.block (A2 rfl (by simp) (A2 rfl (by simp) ?_)))))))
 by_cases h : a = 0
 rotate_left
 ·refine A6 (congrArg (fun b => some (V.bool b)) (show ((a : Int) != 0) = true by simpa using h)) (A2 rfl (by simp) (A5 rfl rfl rfl ?_ trivial))
  simp [Cp, h]
 subst h
 refine A4 rfl (Tr.skip (A9 rfl (by simp) (TrN.succ ?_)))
 refine A2 rfl (by simp) (Tr.seq (A6 rfl (Tr.skip (Tr.seq (Tr.block (A2 rfl (by simp) (A2 rfl (by simp) ?_)))))))
 by_cases h : b = 0
 rotate_left
 ·refine A6 (congrArg (fun b => some (V.bool b)) (show ((b : Int) != 0) = true by simpa using h)) (A2 rfl (by simp) (A5 rfl rfl rfl ?_ trivial))
  simp [Cp]
 subst h
 refine A4 rfl (Tr.skip (A9 rfl (by simp) (TrN.succ ?_)))
 refine A2 rfl (by simp) (Tr.seq (A4 rfl (Tr.exit ?_)))
 exact A2 rfl (by simp) (A5 rfl rfl rfl rfl trivial)
theorem Abf {f : Fr} (h : (Bj f).2 = false) : (Bj f).1 = frZ := by
 unfold Bj Da at *
 generalize Dr f = l at *
 cases l with
 | nil => rfl
 | cons p l =>
   exfalso
   have : ∀ (l : List (Int × Int)) (a : Fr × Bool), a.2 = true → (l.foldl Gu a).2 = true := by
    intro l
    induction l with
    | nil => intro a h; exact h
    | cons q l ih => intro a _; exact ih _ rfl
   rw [List.foldl_cons, this l _ rfl] at h
   cases h
theorem Tc {f : Fr} (hf : midF f) (h : (Bj f).2 = false) : C Tryz.prog Ev [.agg (A7 f)] (.tuple [.agg (A7 frZ), I 4]) := by
 have kh := c_hull (J7 f) (Xv hf)
 have h' : (Da (Dr f)).2 = false := h
 rw [h'] at kh
 refine C_of mixed G3 (by simp) fun S ok => ?_
 refine A2 rfl (by simp) (A3 rfl (by simp) (Steps.call rfl rfl (Yc f) (Steps.run rfl (by simp) (Steps.call rfl rfl kh (Steps.fin rfl (by simp) ?_)))))
 refine Tr.seq (A2 rfl (by simp) (A6 rfl ?_))
 exact A2 rfl (by simp) (A5 rfl rfl rfl rfl trivial)
theorem Ad6 (f : Fr) : C Tryz.prog Qa [.agg (A7 f), I 4] (.tuple [.agg (A7 frZ), I 4]) := by
 refine C_of mixed La (by simp) fun S ok => ?_
 refine A2 rfl (by simp) (Tr.seq (A2 rfl (by simp) (A6 rfl ?_)))
 exact A2 rfl (by simp) (A5 rfl rfl rfl rfl trivial)
theorem Tg {f t : Fr} (h : Hr f = some t) : C Tryz.prog Ne [.agg (A7 f)] (.tuple [.agg (A7 t), I 0]) := by
 obtain ⟨h1, h2, rfl, _⟩ := Qg h
 have kc := Dd f
 rw [if_pos h1] at kc
 refine C_of mixed Ge (by simp) fun S ok => ?_
 refine A2 rfl (by simp) (Tr.seq (A3 rfl (by simp) (Steps.call rfl rfl kc (Steps.fin rfl (by simp) (A2 rfl (by simp) (A4 rfl (Tr.skip ?_)))))))
 refine A3 rfl (by simp) (Steps.call rfl rfl (Cs f) (Steps.call rfl rfl (Vg (Ju h1) h2) (Steps.run rfl (by simp) ?_)))
 exact Steps.call rfl rfl (c_done (Bj f).1) (Steps.fin rfl (by simp) (A5 rfl rfl rfl rfl trivial))
theorem c_TightN {f : Fr} (h : Hr f = none) : ∃ e : Int, e ≠ 0 ∧ C Tryz.prog Ne [.agg (A7 f)] (.tuple [.agg (A7 frZ), I e]) := by
 have kc := Dd f
 by_cases h1 : Av f = true
 ·have h2 : (Bj f).2 = false := by
   unfold Hr at h
   rw [h1] at h
   cases h2 : (Bj f).2 with
   | false => rfl
   | true => rw [h2] at h; simp at h
  rw [if_pos h1] at kc
  refine ⟨4, by decide, C_of mixed Ge (by simp) fun S ok => ?_⟩
  refine A2 rfl (by simp) (Tr.seq (A3 rfl (by simp) (Steps.call rfl rfl kc (Steps.fin rfl (by simp) (A2 rfl (by simp) (A4 rfl (Tr.skip ?_)))))))
  refine A3 rfl (by simp) (Steps.call rfl rfl (Cs f) (Steps.call rfl rfl (Tc (Ju h1) h2) (Steps.run rfl (by simp) ?_)))
  exact Steps.call rfl rfl (Ad6 frZ) (Steps.fin rfl (by simp) (A5 rfl rfl rfl rfl trivial))
 ·rw [if_neg h1] at kc
  refine ⟨11, by decide, C_of mixed Ge (by simp) fun S ok => ?_⟩
  refine A2 rfl (by simp) (Tr.seq (A3 rfl (by simp) (Steps.call rfl rfl kc (Steps.fin rfl (by simp) (A2 rfl (by simp) (A6 rfl ?_))))))
  exact A2 rfl (by simp) (A5 rfl rfl rfl rfl trivial)
theorem A63 {a : Fr} (b : Fr) (h : Av a = true) (h2 : Av b = true) : midF (comb cutB a b) := by
 rw [Cb] at h h2
 unfold fitF fitB at h h2
 unfold midF comb cutB
 simp only
 omega
theorem c_MeetS {a b t : Fr} (h : cutO a b = some t) : C Tryz.prog Qc [.agg (A7 a), .agg (A7 b)] (.tuple [.agg (A7 t), I 0]) := by
 unfold cutO at h
 split at h
 rotate_left
 ·cases h
 rename_i h0
 simp only [Bool.and_eq_true] at h0
 obtain ⟨⟨h1, h2⟩, h3⟩ := h0
 cases h
 have ka := Dd a
 have kb := Dd b
 rw [if_pos h1] at ka
 rw [if_pos h2] at kb
 have kt := Vg (A63 b h1 h2) h3
 refine C_of mixed He (by simp) fun S ok => ?_
 refine A2 rfl (by simp) (Tr.seq (Tr.seq ?_))
 refine A8 (TraceK.run rfl (by simp) (TraceK.call rfl rfl ka (TraceK.run rfl (by simp) (TraceK.call rfl rfl kb (TraceK.run rfl (by simp) (TraceK.call rfl rfl (Fy 0 0) ?_))))))
 refine TraceK.run rfl (by simp) (.done ⟨by kernel_rfl, by kernel_rfl, ?_⟩)
 refine A2 rfl (by simp) (A4 rfl (Tr.skip ?_))
 refine Tr.weak (s' := ⟨[(2, .ptr 2 0), (3, .ptr 3 0), (4, .ptr 4 0), (5, I 0)], [(2, ⟨A7 a, false⟩), (3, ⟨A7 b, false⟩), (4, ⟨A7 frZ, false⟩)], [], [], false⟩)
  (Ab (.k rfl (.k rfl (.k rfl (.k rfl .nil)))) (.k rfl (.k rfl (.k rfl .nil))) .nil rfl rfl) ?_
 refine Tr.seq (A8 (TraceK.run rfl (by simp) (TraceK.call rfl rfl (Cs a) (TraceK.run rfl (by simp) (TraceK.call rfl rfl (Cs b) (TraceK.call rfl rfl (Fs c_cut a b) (TraceK.call rfl rfl kt (TraceK.run rfl (by simp) ?_))))))))
 exact TraceK.call rfl rfl (c_done (Bj (comb cutB a b)).1) (TraceK.run rfl (by simp) (.done ⟨by kernel_rfl, by kernel_rfl, A5 rfl rfl rfl rfl trivial⟩))
theorem c_MeetN {a b : Fr} (h : cutO a b = none) : ∃ e : Int, e ≠ 0 ∧ C Tryz.prog Qc [.agg (A7 a), .agg (A7 b)] (.tuple [.agg (A7 frZ), I e]) := by
 have ka := Dd a
 have kb := Dd b
 by_cases h12 : Av a = true ∧ Av b = true
 ·obtain ⟨h1, h2⟩ := h12
  have h3 : (Bj (comb cutB a b)).2 = false := by
   unfold cutO at h
   rw [h1, h2] at h
   cases h3 : (Bj (comb cutB a b)).2 with
   | false => rfl
   | true => rw [h3] at h; simp at h
  rw [if_pos h1] at ka
  rw [if_pos h2] at kb
  have kt := Tc (A63 b h1 h2) h3
  refine ⟨4, by decide, C_of mixed He (by simp) fun S ok => ?_⟩
  refine A2 rfl (by simp) (Tr.seq (Tr.seq ?_))
  refine A8 (TraceK.run rfl (by simp) (TraceK.call rfl rfl ka (TraceK.run rfl (by simp) (TraceK.call rfl rfl kb (TraceK.run rfl (by simp) (TraceK.call rfl rfl (Fy 0 0) ?_))))))
  refine TraceK.run rfl (by simp) (.done ⟨by kernel_rfl, by kernel_rfl, ?_⟩)
  refine A2 rfl (by simp) (A4 rfl (Tr.skip ?_))
  refine Tr.weak (s' := ⟨[(2, .ptr 2 0), (3, .ptr 3 0), (4, .ptr 4 0), (5, I 0)], [(2, ⟨A7 a, false⟩), (3, ⟨A7 b, false⟩), (4, ⟨A7 frZ, false⟩)], [], [], false⟩)
   (Ab (.k rfl (.k rfl (.k rfl (.k rfl .nil)))) (.k rfl (.k rfl (.k rfl .nil))) .nil rfl rfl) ?_
  refine Tr.seq (A8 (TraceK.run rfl (by simp) (TraceK.call rfl rfl (Cs a) (TraceK.run rfl (by simp) (TraceK.call rfl rfl (Cs b) (TraceK.call rfl rfl (Fs c_cut a b) (TraceK.call rfl rfl kt (TraceK.run rfl (by simp) ?_))))))))
  exact TraceK.call rfl rfl (Ad6 frZ) (TraceK.run rfl (by simp) (.done ⟨by kernel_rfl, by kernel_rfl, A5 rfl rfl rfl rfl trivial⟩))
 ·obtain ⟨e, he, k1⟩ : ∃ e : Int, e ≠ 0 ∧ C Tryz.prog Id [.slice 0 1 [I (if Av a then 0 else 11), I (if Av b then 0 else 11)]] (I e) := by
   refine ⟨_, ?_, Fy _ _⟩
   by_cases h1 : Av a = true
   ·have h2 : Av b = false := by
     cases hb : Av b with
     | false => rfl
     | true => exact absurd ⟨h1, hb⟩ h12
    rw [h1, h2]; decide
   ·have h1 : Av a = false := by simpa using h1
    rw [h1]; simp
  refine ⟨e, he, C_of mixed He (by simp) fun S ok => ?_⟩
  refine A2 rfl (by simp) (Tr.seq (Tr.seq ?_))
  refine A8 (TraceK.run rfl (by simp) (TraceK.call rfl rfl ka (TraceK.run rfl (by simp) (TraceK.call rfl rfl kb (TraceK.run rfl (by simp) (TraceK.call rfl rfl k1 ?_))))))
  refine TraceK.run rfl (by simp) (.done ⟨by kernel_rfl, by kernel_rfl, ?_⟩)
  refine A2 rfl (by simp) (A6 (congrArg (fun b => some (V.bool b)) (show ((e : Int) != 0) = true by simpa using he)) ?_)
  exact A2 rfl (by simp) (A5 rfl rfl rfl rfl trivial)
def eqFr (f g : Fr) : Bool := f.x.1 == g.x.1 && (f.x.2 == g.x.2 && (f.y.1 == g.y.1 && (f.y.2 == g.y.2 && (f.s.1 == g.s.1 && (f.s.2 == g.s.2 && (f.d.1 == g.d.1 && (f.d.2 == g.d.2 && true)))))))
theorem eqFr_iff {f g : Fr} : eqFr f g = true ↔ f = g := by
 obtain ⟨⟨a1, a2⟩, ⟨a3, a4⟩, ⟨a5, a6⟩, a7, a8⟩ := f
 obtain ⟨⟨b1, b2⟩, ⟨b3, b4⟩, ⟨b5, b6⟩, b7, b8⟩ := g
 simp [eqFr, and_assoc]
end
section
open Go.Am
attribute [local simp] cells Aa mkv Ag Ap under dem dem1 eB A7 B8
def inF (f : List (Int × Int)) (p : Int × Int) : Bool := (Ci f).all fun q => decide (0 ≤ Nq q.1 q.2 p)
theorem A9u {f : List (Int × Int)} (hf : f.all An = true) {k : Nat} (hk : k < f.length) : An (Fd f k).1 = true ∧ An (Fd f k).2 = true :=
 ⟨A17 hf hk, A17 hf (Nat.mod_lt _ (by omega))⟩
theorem c_in {f : List (Int × Int)} {p : Int × Int} (hl : f.length ≤ 1000000) (hf : f.all An = true) (hp : An p = true) : C Tryz.prog A5d [sB f, eB p] (.bool (inF f p)) := by
 refine C_of mixed A02 (by simp) fun S ok => ?_
 refine A2 rfl (by simp) (Tr.seq (A3 rfl (by simp) (Steps.call rfl rfl (Acx f) (Steps.fin rfl (by simp) (Tr.block ?_)))))
 refine Tr.weak (s' := ⟨[(8, .func (.func Eo) [] [.vptr [sB f] 0]), (3, .ptr 3 0), (4, .ptr 4 0)], [(3, ⟨[I p.1, I p.2], false⟩), (4, ⟨[.bool false], false⟩)], [], [], false⟩)
  (Ab (.k rfl (.k rfl (.k rfl .nil))) (.k rfl (.k rfl .nil)) .nil rfl rfl) ?_
 refine Tr.range rfl ((Tv f).d _) (Aba hl) rfl rfl rfl (by intro x hx; obtain ⟨b, _, rfl⟩ := List.mem_map.1 hx; rfl)
  (fun pre t => ∃ m, (m ≤ f.length ∧ ∀ k < m, 0 ≤ Nq (Fd f k).1 (Fd f k).2 p) ∧ pre = ((Ci f).take m).map Jm ∧ t.bx = [(3, ⟨[I p.1, I p.2], false⟩), (4, ⟨[.bool false], false⟩)] ∧ t.rw = [] ∧ t.log = [])
  (fun e t => e = .ret ∧ inF f p = false ∧ t.bx = [(3, ⟨[I p.1, I p.2], false⟩), (4, ⟨[.bool false], false⟩)] ∧ t.rw = [] ∧ t.log = [] ∧ t.stp = false) ⟨0, ⟨by omega, fun k h => by omega⟩, rfl, rfl, rfl, rfl⟩ ?_ ?_ ?_
 ·rintro a0 L0 rc0 h0 S1 S2 ok1 ok2 pre q t lp hpre ⟨m, ⟨hm, hall⟩, rfl, hbx, hrw, hlog⟩ henv hstp
  obtain ⟨env, bx, rw, log, stp⟩ := t
  simp only at hbx hrw hlog henv hstp
  subst hbx hrw hlog henv hstp
  have hmx : m < f.length ∧ q = Jm (Fd f m) := by
   have hsl := Fk f
   have h1 : (((Ci f).take m).map Jm).length = m := by simp; omega
   have h2 := hpre.length_le
   simp at h2
   have hml : m < f.length := by omega
   refine ⟨hml, ?_⟩
   have h3 := List.IsPrefix.getElem hpre (i := m) (by simp; omega)
   rw [List.getElem_append_right (by omega)] at h3
   have h4 := Fl hml
   have h5 : (Ci f)[m] = Fd f m := Option.some.inj ((List.getElem?_eq_getElem (by omega)).symm.trans h4)
   simp only [List.getElem_map, h5] at h3
   simpa using h3
  obtain ⟨hml, rfl⟩ := hmx
  obtain ⟨pl1, pl2⟩ := A9u hf hml
  have kl := c_left pl1 pl2 hp
  obtain ⟨⟨a, b⟩, hab⟩ : ∃ q, Fd f m = q := ⟨_, rfl⟩
  rw [hab] at kl ⊢
  refine A2 rfl (by simp) (A9 rfl (by simp) ?_)
  refine Tr.weak (s' := ⟨[(3, .ptr 3 0), (4, .ptr 4 0), (5, .ptr 5 0), (6, .ptr 6 0)], [(3, ⟨[I p.1, I p.2], false⟩), (4, ⟨[.bool false], false⟩), (5, ⟨[I a.1, I a.2], false⟩), (6, ⟨[I b.1, I b.2], false⟩)], [], [], false⟩)
   (Ab (.k rfl (.k rfl (.k rfl (.k rfl .nil)))) (.k rfl (.k rfl (.k rfl (.k rfl .nil)))) .nil rfl rfl) ?_
  refine Tr.block (A3 rfl (by simp) (Steps.call rfl rfl kl (Steps.fin rfl (by simp) ?_)))
  refine Tr.cond rfl rfl (fun h2 => ?_) (fun h2 => ?_)
  ·have h2 : ¬ 0 ≤ Nq a b p := by have : decide (Nq a b p < 0) = true := h2; have := of_decide_eq_true this; omega
   have hno : inF f p = false := by
    unfold inF
    rw [List.all_eq_false]
    exact ⟨Fd f m, List.mem_of_getElem? (Fl hml), by rw [hab]; simpa using h2⟩
   refine A2 rfl (by simp) (Tr.ret ?_)
   exact ⟨⟨[], [(3, ⟨[I p.1, I p.2], false⟩), (4, ⟨[.bool false], false⟩)], [], [], false⟩, Ab .nil (.k rfl (.k rfl .nil)) .nil rfl rfl, rfl, hno, rfl, rfl, rfl, rfl⟩
  ·have h2 : 0 ≤ Nq a b p := by have : decide (Nq a b p < 0) = false := h2; have := of_decide_eq_false this; omega
   refine Tr.skip ?_
   refine ⟨⟨[], [(3, ⟨[I p.1, I p.2], false⟩), (4, ⟨[.bool false], false⟩)], [], [], false⟩, Ab .nil (.k rfl (.k rfl .nil)) .nil rfl rfl, ⟨m + 1, ⟨hml, fun k hk => ?_⟩, ?_, rfl, rfl, rfl⟩, rfl⟩
   ·by_cases e : k = m
    ·subst e; rw [hab]; exact h2
    ·exact hall k (by omega)
   ·rw [List.take_add_one, Fl hml, hab]; simp
 ·rintro ⟨env, bx, rw, log, stp⟩ henv hstp ⟨m, ⟨hm, hall⟩, hpre, hbx, hrw, hlog⟩
  simp only at hbx hrw hlog henv hstp
  subst hbx hrw hlog henv hstp
  have hml : m = f.length := by
   have := congrArg List.length hpre
   have hsl := Fk f
   simp at this; omega
  subst hml
  have hyes : inF f p = true := by
   unfold inF
   rw [List.all_eq_true]
   intro q hq
   obtain ⟨k, hk, rfl⟩ := List.mem_map.1 hq
   simpa using hall k (List.mem_range.1 hk)
  refine A2 rfl (by simp) (A5 rfl rfl rfl ?_ trivial)
  rw [hyes]; rfl
 ·rintro e ⟨env, bx, rw, log, stp⟩ henv ⟨rfl, hno, hbx, hrw, hlog, hst⟩
  simp only at hbx hrw hlog henv hst
  subst hbx hrw hlog henv hst
  refine ⟨trivial, _, _, _, C2 rfl, rfl, ?_⟩
  rw [hno]; rfl
theorem c_Inside {f : List (Int × Int)} {p : Int × Int} (hf : E0 f = true) (hp : An p = true) : C Tryz.prog Vs [sB f, eB p] (.tuple [.bool (inF f p), I 0]) := by
 have h := hf
 unfold E0 at h
 simp only [Bool.and_eq_true] at h
 have hl := (Ca _ _ _).1 h.1.1
 have ka := Lh (f := f) (by omega)
 rw [if_pos hf] at ka
 have kb := Ce p
 rw [if_pos hp] at kb
 refine C_of mixed R7 (by simp) fun S ok => ?_
 refine A2 rfl (by simp) (Tr.seq (Tr.seq ?_))
 refine A8 (TraceK.run rfl (by simp) (TraceK.call rfl rfl ka (TraceK.run rfl (by simp) (TraceK.call rfl rfl kb (TraceK.run rfl (by simp) (TraceK.call rfl rfl (Fy 0 0) ?_))))))
 refine TraceK.run rfl (by simp) (.done ⟨by kernel_rfl, by kernel_rfl, ?_⟩)
 refine A2 rfl (by simp) (A4 rfl (Tr.skip ?_))
 refine A3 rfl (by simp) (Steps.call rfl rfl (c_in (by omega) h.1.2 hp) (Steps.fin rfl (by simp) (A5 rfl rfl rfl rfl trivial)))
def Aad (a b : Int × Int) : Int × Int := (w (a.1 + b.1), w (a.2 + b.2))
def plusB (a b : Int × Int) : Int × Int := (a.1 + b.1, a.2 + b.2)
theorem Ad0 (a b : Int × Int) : C Tryz.prog A0l [eB a, eB b] (eB (Aad a b)) := by
 refine C_of mixed V8 (by simp) fun S ok => ?_
 exact A2 rfl (by simp) (A2 rfl (by simp) (Bb rfl rfl rfl trivial))
def inV (p : Int × Int) : Bool := btw p.1 (-65536) 65536 && btw p.2 (-65536) 65536
def okXY (f : Fr) : Bool := E8 32768 f.x && E8 32768 f.y
def movF (f : Fr) (p : Int × Int) : Fr := comb plusB (Bj f).1 ⟨(p.1, p.1), (p.2, p.2), (p.1 + p.2, p.1 + p.2), (p.1 - p.2, p.1 - p.2)⟩
def movO (f : Fr) (p : Int × Int) : Option Fr := if Av f && inV p && (Bj f).2 && okXY (movF f p) then some (movF f p) else none
theorem inV_spec {p : Int × Int} : inV p = true ↔ (-65536 ≤ p.1 ∧ p.1 ≤ 65536) ∧ -65536 ≤ p.2 ∧ p.2 ≤ 65536 := by
 simp only [inV, Bool.and_eq_true, Ca]
theorem ofF_V {p : Int × Int} (h : inV p = true) : ofF p = ⟨(p.1, p.1), (p.2, p.2), (p.1 + p.2, p.1 + p.2), (p.1 - p.2, p.1 - p.2)⟩ := by
 have := inV_spec.1 h
 unfold ofF w
 rw [w64 (n := p.1 + p.2) (by omega) (by omega), w64 (n := p.1 - p.2) (by omega) (by omega)]
theorem A29 {a b : Fr} (ha : Av a = true) (hb : ((-200000 ≤ b.x.1 ∧ b.x.1 ≤ 200000) ∧ (-200000 ≤ b.x.2 ∧ b.x.2 ≤ 200000)) ∧ ((-200000 ≤ b.y.1 ∧ b.y.1 ≤ 200000) ∧ (-200000 ≤ b.y.2 ∧ b.y.2 ≤ 200000)) ∧ ((-200000 ≤ b.s.1 ∧ b.s.1 ≤ 200000) ∧ (-200000 ≤ b.s.2 ∧ b.s.2 ≤ 200000)) ∧ (-200000 ≤ b.d.1 ∧ b.d.1 ≤ 200000) ∧ -200000 ≤ b.d.2 ∧ b.d.2 ≤ 200000) : comb Aad a b = comb plusB a b := by
 rw [Cb] at ha
 unfold fitF fitB at ha
 unfold comb Aad plusB w
 simp (disch := omega) only [w64]
theorem A6w (f : Fr) : C Tryz.prog Vq [.agg (A7 f)] (if okXY f then .tuple [.agg (A7 f), I 0] else .tuple [.agg (A7 frZ), I 7]) := by
 have k1 := Rd (l := 32768) f.x (by omega)
 have k2 := Rd (l := 32768) f.y (by omega)
 obtain ⟨g1, hg1⟩ : ∃ g, E8 32768 f.x = g := ⟨_, rfl⟩
 obtain ⟨g2, hg2⟩ : ∃ g, E8 32768 f.y = g := ⟨_, rfl⟩
 rw [hg1] at k1
 rw [hg2] at k2
 have e : okXY f = (g1 && g2) := by unfold okXY; rw [hg1, hg2]
 rw [e]
 refine C_of mixed R5 (by simp) fun S ok => ?_
 refine A2 rfl (by simp) (Tr.seq (A3 rfl (by simp) (Steps.call rfl rfl k1 (Steps.run rfl (by simp) ?_))))
 refine Steps.gcall (r := .bool g2) rfl rfl rfl rfl (by simp) (fun _ => k2) (Steps.fin rfl (by cases g1 <;> simp) ?_)
 refine Tr.cond rfl rfl (fun h => ?_) (fun h => ?_)
 ·have h : (g1 && g2) = false := by revert h; cases g1 <;> cases g2 <;> simp
  rw [h]
  exact A2 rfl (by simp) (A5 rfl rfl rfl rfl trivial)
 ·have h : (g1 && g2) = true := by revert h; cases g1 <;> cases g2 <;> simp
  rw [h]
  refine Tr.skip (A3 rfl (by simp) (Steps.call rfl rfl (Tf f) (Steps.fin rfl (by simp) (A5 rfl rfl rfl rfl trivial))))
theorem A4y {f T : Fr} {p : Int × Int} (h : movO f p = some T) : C Tryz.prog Jr [.agg (A7 f), eB p] (.tuple [.agg (A7 T), I 0]) := by
 unfold movO at h
 split at h
 rotate_left
 ·cases h
 rename_i h0
 simp only [Bool.and_eq_true] at h0
 obtain ⟨⟨⟨h1, h2⟩, h3⟩, h4⟩ := h0
 cases h
 have kc := Dd f
 rw [if_pos h1] at kc
 have hv := inV_spec.1 h2
 have i1 := Ru (l := 65536) p.1 (by omega)
 have i2 := Ru (l := 65536) p.2 (by omega)
 rw [Pc (by omega)] at i1 i2
 have hcp : comb Aad (Bj f).1 (ofF p) = movF f p := by
  rw [ofF_V h2]
  exact A29 (M4 (Ha h1) h3).2 (by simp only; omega)
 have kco := Fs Ad0 (Bj f).1 (ofF p)
 rw [hcp] at kco
 have ki := A6w (movF f p)
 rw [if_pos h4] at ki
 refine C_of mixed E1 (by simp) fun S ok => ?_
 refine A2 rfl (by simp) (Tr.seq (A3 rfl (by simp) (Steps.call rfl rfl kc (Steps.fin rfl (by simp) (A2 rfl (by simp) (A4 rfl (Tr.skip ?_)))))))
 refine Tr.seq (Tr.seq (A8 (TraceK.run rfl (by simp) (TraceK.call rfl rfl i1 (TraceK.run rfl (by simp) ?_)))))
 refine TraceK.gcall (r := I p.2) rfl rfl rfl rfl (by simp) (fun _ => i2) (TraceK.run rfl (by simp) (.done ⟨by kernel_rfl, by kernel_rfl, ?_⟩))
 refine Tr.weak (s' := ⟨[(2, .ptr 2 0), (3, .ptr 3 0), (4, .ptr 4 0), (5, I 0), (28, .bool false)], [(2, ⟨A7 f, false⟩), (3, ⟨[I p.1, I p.2], false⟩), (4, ⟨A7 frZ, false⟩)], [], [], false⟩)
  (Ab (.k rfl (.k rfl (.k rfl (.k rfl (.cons rfl (VLe.of_eq (congrArg V.bool (by simp))) .nil))))) (.k rfl (.k rfl (.k rfl .nil))) .nil rfl rfl) ?_
 refine A4 rfl (Tr.skip ?_)
 refine A3 rfl (by simp) (Steps.call rfl rfl (Cs f) (Steps.call rfl rfl (Vg (Ju h1) h3) (Steps.fin rfl (by simp) ?_)))
 refine Tr.seq (A2 rfl (by simp) (A4 rfl (Tr.skip ?_)))
 refine Tr.seq (A8 (TraceK.run rfl (by simp) (TraceK.call rfl rfl (A8w p) (TraceK.call rfl rfl kco (TraceK.call rfl rfl ki (TraceK.run rfl (by simp) (.done ⟨by kernel_rfl, by kernel_rfl, ?_⟩)))))))
 exact A5 rfl rfl rfl rfl trivial
theorem A4z {f : Fr} {p : Int × Int} (h : movO f p = none) : ∃ e : Int, e ≠ 0 ∧ C Tryz.prog Jr [.agg (A7 f), eB p] (.tuple [.agg (A7 frZ), I e]) := by
 have kc := Dd f
 by_cases h1 : Av f = true
 rotate_left
 ·rw [if_neg h1] at kc
  refine ⟨11, by decide, C_of mixed E1 (by simp) fun S ok => ?_⟩
  refine A2 rfl (by simp) (Tr.seq (A3 rfl (by simp) (Steps.call rfl rfl kc (Steps.fin rfl (by simp) (A2 rfl (by simp) (A6 rfl ?_))))))
  exact A2 rfl (by simp) (A5 rfl rfl rfl rfl trivial)
 rw [if_pos h1] at kc
 have i1 := Ru (l := 65536) p.1 (by omega)
 have i2 := Ru (l := 65536) p.2 (by omega)
 obtain ⟨g, hg⟩ : ∃ g : Bool, (if Mu 65536 p.1 != p.1 then true else Mu 65536 p.2 != p.2) = g := ⟨_, rfl⟩
 have hgv : g = !inV p := by
  rw [← hg]
  have e := inV_spec (p := p)
  have s1 : (Mu 65536 p.1 != p.1) = !btw p.1 (-65536) 65536 := by
   simp only [bne]
   congr 1
   rw [Bool.eq_iff_iff, Ca, beq_iff_eq]
   unfold Mu; omega
  have s2 : (Mu 65536 p.2 != p.2) = !btw p.2 (-65536) 65536 := by
   simp only [bne]
   congr 1
   rw [Bool.eq_iff_iff, Ca, beq_iff_eq]
   unfold Mu; omega
  rw [s1, s2]
  unfold inV
  cases btw p.1 (-65536) 65536 <;> cases btw p.2 (-65536) 65536 <;> rfl
 by_cases h2 : inV p = true
 rotate_left
 ·have h2 : inV p = false := by simpa using h2
  rw [h2] at hgv
  refine ⟨7, by decide, C_of mixed E1 (by simp) fun S ok => ?_⟩
  refine A2 rfl (by simp) (Tr.seq (A3 rfl (by simp) (Steps.call rfl rfl kc (Steps.fin rfl (by simp) (A2 rfl (by simp) (A4 rfl (Tr.skip ?_)))))))
  refine Tr.seq (Tr.seq (A8 (TraceK.run rfl (by simp) (TraceK.call rfl rfl i1 (TraceK.run rfl (by simp) ?_)))))
  refine TraceK.gcall (r := I (Mu 65536 p.2)) rfl rfl rfl rfl (by simp) (fun _ => i2) (TraceK.run rfl (by simp) (.done ⟨by kernel_rfl, by kernel_rfl, ?_⟩))
  refine Tr.weak (s' := ⟨[(4, .ptr 4 0), (28, .bool true)], [(4, ⟨A7 frZ, false⟩)], [], [], false⟩)
   (Ab (.k rfl (.cons rfl (VLe.of_eq (congrArg V.bool ?_)) .nil)) (.k rfl .nil) .nil rfl rfl) ?_
  ·have : g = true := hgv
   rw [← this, ← hg]
   cases Mu 65536 p.1 != p.1 <;> rfl
  exact A6 rfl (A2 rfl (by simp) (A5 rfl rfl rfl rfl trivial))
 rw [h2] at hgv
 have hv := inV_spec.1 h2
 rw [Pc (by omega)] at i1 i2
 obtain ⟨Q, hQ⟩ : ∃ Q : V, (if (Bj f).2 then .tuple [.agg (A7 (Bj f).1), I 0] else .tuple [.agg (A7 frZ), I 4]) = Q := ⟨_, rfl⟩
 by_cases h3 : (Bj f).2 = true
 ·have h4 : okXY (movF f p) = false := by
   unfold movO at h
   rw [h1, h2, h3] at h
   cases h4 : okXY (movF f p) with
   | false => rfl
   | true => rw [h4] at h; simp at h
  have hcp : comb Aad (Bj f).1 (ofF p) = movF f p := by
   rw [ofF_V h2]
   exact A29 (M4 (Ha h1) h3).2 (by simp only; omega)
  have kco := Fs Ad0 (Bj f).1 (ofF p)
  rw [hcp] at kco
  have ki := A6w (movF f p)
  rw [if_neg (by simp [h4])] at ki
  refine ⟨7, by decide, C_of mixed E1 (by simp) fun S ok => ?_⟩
  refine A2 rfl (by simp) (Tr.seq (A3 rfl (by simp) (Steps.call rfl rfl kc (Steps.fin rfl (by simp) (A2 rfl (by simp) (A4 rfl (Tr.skip ?_)))))))
  refine Tr.seq (Tr.seq (A8 (TraceK.run rfl (by simp) (TraceK.call rfl rfl i1 (TraceK.run rfl (by simp) ?_)))))
  refine TraceK.gcall (r := I p.2) rfl rfl rfl rfl (by simp) (fun _ => i2) (TraceK.run rfl (by simp) (.done ⟨by kernel_rfl, by kernel_rfl, ?_⟩))
  refine Tr.weak (s' := ⟨[(2, .ptr 2 0), (3, .ptr 3 0), (4, .ptr 4 0), (5, I 0), (28, .bool false)], [(2, ⟨A7 f, false⟩), (3, ⟨[I p.1, I p.2], false⟩), (4, ⟨A7 frZ, false⟩)], [], [], false⟩)
   (Ab (.k rfl (.k rfl (.k rfl (.k rfl (.cons rfl (VLe.of_eq (congrArg V.bool (by simp))) .nil))))) (.k rfl (.k rfl (.k rfl .nil))) .nil rfl rfl) ?_
  refine A4 rfl (Tr.skip ?_)
  refine A3 rfl (by simp) (Steps.call rfl rfl (Cs f) (Steps.call rfl rfl (Vg (Ju h1) h3) (Steps.fin rfl (by simp) ?_)))
  refine Tr.seq (A2 rfl (by simp) (A4 rfl (Tr.skip ?_)))
  refine Tr.seq (A8 (TraceK.run rfl (by simp) (TraceK.call rfl rfl (A8w p) (TraceK.call rfl rfl kco (TraceK.call rfl rfl ki (TraceK.run rfl (by simp) (.done ⟨by kernel_rfl, by kernel_rfl, ?_⟩)))))))
  exact A5 rfl rfl rfl rfl trivial
 ·have h3 : (Bj f).2 = false := by simpa using h3
  refine ⟨4, by decide, C_of mixed E1 (by simp) fun S ok => ?_⟩
  refine A2 rfl (by simp) (Tr.seq (A3 rfl (by simp) (Steps.call rfl rfl kc (Steps.fin rfl (by simp) (A2 rfl (by simp) (A4 rfl (Tr.skip ?_)))))))
  refine Tr.seq (Tr.seq (A8 (TraceK.run rfl (by simp) (TraceK.call rfl rfl i1 (TraceK.run rfl (by simp) ?_)))))
  refine TraceK.gcall (r := I p.2) rfl rfl rfl rfl (by simp) (fun _ => i2) (TraceK.run rfl (by simp) (.done ⟨by kernel_rfl, by kernel_rfl, ?_⟩))
  refine Tr.weak (s' := ⟨[(2, .ptr 2 0), (3, .ptr 3 0), (4, .ptr 4 0), (5, I 0), (28, .bool false)], [(2, ⟨A7 f, false⟩), (3, ⟨[I p.1, I p.2], false⟩), (4, ⟨A7 frZ, false⟩)], [], [], false⟩)
   (Ab (.k rfl (.k rfl (.k rfl (.k rfl (.cons rfl (VLe.of_eq (congrArg V.bool (by simp))) .nil))))) (.k rfl (.k rfl (.k rfl .nil))) .nil rfl rfl) ?_
  refine A4 rfl (Tr.skip ?_)
  refine A3 rfl (by simp) (Steps.call rfl rfl (Cs f) (Steps.call rfl rfl (Tc (Ju h1) h3) (Steps.fin rfl (by simp) ?_)))
  refine Tr.seq (A2 rfl (by simp) (A6 rfl ?_))
  exact A2 rfl (by simp) (A5 rfl rfl rfl rfl trivial)
end
section
open Go.Am
attribute [local simp] cells Aa mkv Ag Ap under dem dem1 eB A7 B8
def hullAsg : IC := .reg [⟨some 6, .alloc [.int .i64 0, .int .i64 0], [], none⟩, ⟨none, .store 2, [.t 6, .t 14], none⟩]
def hullBody : IC := .block 3 (.seq (.seq (.reg [⟨some 15, .load 1 false, [.t 3], none⟩, ⟨some 16, .un .not, [.t 15], none⟩])
  (.cond (.t 16) (.reg [⟨some 17, .load 2 true, [.t 6], none⟩, ⟨some 18, .call Om, [.t 17], none⟩, ⟨none, .store 8, [.t 2, .t 18], none⟩, ⟨none, .store 1, [.t 3, .c (.bool true)], none⟩]) .skip))
  (.draw [0, 0, 2, 7, 15] [⟨some 19, .load 8 true, [.t 2], none⟩, ⟨some 20, .load 2 true, [.t 6], none⟩, ⟨some 21, .call Om, [.t 20], none⟩, ⟨some 22, .call Dp, [.t 19, .t 21, .c (.func (.func Q6) [] [])], none⟩, ⟨none, .store 8, [.t 2, .t 22], none⟩]))
theorem Abk {H0 : Fr × Bool} {l : List (Int × Int)} {m : Nat} {p : Int × Int} (h : l[m]? = some p) : (l.take (m + 1)).foldl Gu H0 = Gu ((l.take m).foldl Gu H0) p := by
 rw [List.take_add_one, h, List.foldl_append]; rfl
theorem A6a {S : Sur} {ok : S.ok} {it : FuncId} {us : List V} {l : List (Int × Int)} (hus : Plain us) (hit : Iter Tryz.prog it us (l.map eEnd)) {H0 : Fr × Bool} {fs : V} (hfs : ∀ B, B6 B (fun _ => none) 6 fs = true) {k : Int} {Q : Exit → St → Prop}
  (hQ : Q .normal ⟨[(13, .func (.func it) [] us), (2, .ptr 2 0), (3, .ptr 3 0), (7, fs), (8, I 2), (9, I k)], [(2, ⟨A7 (l.foldl Gu H0).1, false⟩), (3, ⟨[.bool (l.foldl Gu H0).2], false⟩)], [], [], false⟩) :
  Tr (env0 Tryz.prog mixed 26 S ok) none (.range (.t 13) [14] hullAsg hullBody) Q ⟨[(13, .func (.func it) [] us), (2, .ptr 2 0), (3, .ptr 3 0), (7, fs), (8, I 2), (9, I k)], [(2, ⟨A7 H0.1, false⟩), (3, ⟨[.bool H0.2], false⟩)], [], [], false⟩ := by
 refine Tr.range rfl (hus.d _) hit rfl (by simp only [List.all_cons, Bq hus, hfs]; rfl) rfl (by intro x hx; obtain ⟨b, _, rfl⟩ := List.mem_map.1 hx; rfl)
  (fun pre t => ∃ m, m ≤ l.length ∧ pre = (l.take m).map eEnd ∧ t.bx = [(2, ⟨A7 ((l.take m).foldl Gu H0).1, false⟩), (3, ⟨[.bool ((l.take m).foldl Gu H0).2], false⟩)] ∧ t.rw = [] ∧ t.log = [])
  (fun _ _ => False) ⟨0, by omega, rfl, rfl, rfl, rfl⟩ ?_ ?_ ?_
 ·rintro a0 L0 rc0 h0 S1 S2 ok1 ok2 pre q t lp hpre ⟨m, hm, rfl, hbx, hrw, hlog⟩ henv hstp
  obtain ⟨env, bx, rw, log, stp⟩ := t
  simp only at hbx hrw hlog henv hstp
  subst hbx hrw hlog henv hstp
  have hmx : m < l.length ∧ ∃ b, l[m]? = some b ∧ q = eEnd b := by
   have h1 : ((l.take m).map eEnd).length = m := by simp; omega
   have h2 := hpre.length_le
   simp at h2
   have hml : m < l.length := by omega
   refine ⟨hml, _, List.getElem?_eq_getElem hml, ?_⟩
   have h3 := List.IsPrefix.getElem hpre (i := m) (by simp; omega)
   simp only [List.getElem_map] at h3
   rw [List.getElem_append_right (by omega)] at h3
   simpa using h3
  obtain ⟨hml, p, hb, rfl⟩ := hmx
  have eH := Abk (H0 := H0) hb
  obtain ⟨⟨f, b⟩, hH⟩ : ∃ H, (l.take m).foldl Gu H0 = H := ⟨_, rfl⟩
  rw [hH] at eH ⊢
  refine A9 rfl (by simp) ?_
  refine Tr.weak (s' := ⟨[(2, .ptr 2 0), (3, .ptr 3 0), (6, .ptr 6 0)], [(2, ⟨A7 f, false⟩), (3, ⟨[.bool b], false⟩), (6, ⟨[I p.1, I p.2], false⟩)], [], [], false⟩)
   (Ab (.k rfl (.k rfl (.k rfl .nil))) (.k rfl (.k rfl (.k rfl .nil))) .nil rfl rfl) ?_
  refine Tr.block (Of ⟨[(2, .ptr 2 0), (3, .ptr 3 0), (6, .ptr 6 0)], [(2, ⟨A7 (if b then f else ofF p), false⟩), (3, ⟨[.bool true], false⟩), (6, ⟨[I p.1, I p.2], false⟩)], [], [], false⟩ ?_ ?_)
  ·cases b with
   | true =>
     refine A2 rfl (by simp) (A4 rfl (Tr.skip ?_))
     exact Ab (.k rfl (.k rfl (.k rfl .nil))) (.k rfl (.k rfl (.k rfl .nil))) .nil rfl rfl
   | false =>
     refine A2 rfl (by simp) (A6 rfl ?_)
     refine Tr.reg (Steps.run rfl (by simp) (Steps.call rfl rfl (A8w p) (Steps.fin rfl (by simp) ?_)))
     exact Ab (.k rfl (.k rfl (.k rfl .nil))) (.k rfl (.k rfl (.k rfl .nil))) .nil rfl rfl
  refine A8 (TraceK.run rfl (by simp) (TraceK.call rfl rfl (A8w p) (TraceK.call rfl rfl (Fs c_span (if b then f else ofF p) (ofF p)) (TraceK.run rfl (by simp) (.done ⟨by kernel_rfl, by kernel_rfl, ?_⟩)))))
  refine ⟨⟨[], [(2, ⟨A7 ((l.take (m + 1)).foldl Gu H0).1, false⟩), (3, ⟨[.bool ((l.take (m + 1)).foldl Gu H0).2], false⟩)], [], [], false⟩, ?_, ⟨m + 1, by omega, ?_, rfl, rfl, rfl⟩, rfl⟩
  ·rw [eH]
   exact Ab .nil (.k rfl (.k rfl .nil)) .nil rfl rfl
  ·rw [List.take_add_one, hb]; simp
 ·rintro ⟨env, bx, rw, log, stp⟩ henv hstp ⟨m, hm, hpre, hbx, hrw, hlog⟩
  simp only at hbx hrw hlog henv hstp
  subst hbx hrw hlog henv hstp
  have hml : m = l.length := by
   have := congrArg List.length hpre
   simp at this; omega
  subst hml
  rw [List.take_length]
  exact hQ
 ·intro e t _ h; exact h.elim
theorem Ad4 {it jt : FuncId} {us vs : List V} {l m : List (Int × Int)} (hus : Plain us) (hvs : Plain vs) (hit : Iter Tryz.prog it us (l.map eEnd)) (hjt : Iter Tryz.prog jt vs (m.map eEnd)) :
  C Tryz.prog Q7 [.slice 0 1 [.func (.func it) [] us, .func (.func jt) [] vs]] (.tuple [.agg (A7 (Da (l ++ m)).1), .bool (Da (l ++ m)).2]) := by
 have efold : m.foldl Gu (l.foldl Gu (Da [])) = Da (l ++ m) := by unfold Da; rw [List.foldl_append]; rfl
 have hfs : ∀ B, B6 B (fun _ => none) 6 (.slice 0 1 [.func (.func it) [] us, .func (.func jt) [] vs]) = true := fun B => rfl
 refine C_of mixed L9 (by simp) fun S ok => ?_
 refine A2 rfl (by simp) (Tr.seq (A2 rfl (by simp) (Tr.block ?_)))
 refine Az 3 (TrN.succ ?_)
 refine A2 rfl (by simp) (Tr.seq (A6 rfl (Tr.skip (Tr.seq (Tr.block (A2 rfl (by simp) (A2 rfl (by simp) (Tr.block ?_))))))))
 refine Tr.weak (s' := ⟨[(13, .func (.func it) [] us), (2, .ptr 2 0), (3, .ptr 3 0), (7, .slice 0 1 [.func (.func it) [] us, .func (.func jt) [] vs]), (8, I 2), (9, I 0)], [(2, ⟨A7 (Da []).1, false⟩), (3, ⟨[.bool (Da []).2], false⟩)], [], [], false⟩)
  (Ab (.k rfl (.k rfl (.k rfl (.k rfl (.cons rfl (VLe.i rfl) (.k rfl .nil)))))) (.k rfl (.k rfl .nil)) .nil (by simp only [Ec, List.all_cons, Bq hus]; rfl) rfl) ?_
 refine A6a hus hit hfs ?_
 refine A9 rfl (by simp) (TrN.succ ?_)
 refine A2 rfl (by simp) (Tr.seq (A6 rfl (Tr.skip (Tr.seq (Tr.block (A2 rfl (by simp) (A2 rfl (by simp) (Tr.block ?_))))))))
 refine Tr.weak (s' := ⟨[(13, .func (.func jt) [] vs), (2, .ptr 2 0), (3, .ptr 3 0), (7, .slice 0 1 [.func (.func it) [] us, .func (.func jt) [] vs]), (8, I 2), (9, I 1)], [(2, ⟨A7 (l.foldl Gu (Da [])).1, false⟩), (3, ⟨[.bool (l.foldl Gu (Da [])).2], false⟩)], [], [], false⟩)
  (Ab (.k rfl (.k rfl (.k rfl (.k rfl (.cons rfl (VLe.i rfl) (.cons rfl (VLe.i rfl) .nil)))))) (.k rfl (.k rfl .nil)) .nil (by simp only [Ec, List.all_cons, Bq hvs]; rfl) rfl) ?_
 refine A6a hvs hjt hfs ?_
 rw [efold]
 refine A9 rfl (by simp) (TrN.succ ?_)
 refine A2 rfl (by simp) (Tr.seq (A4 rfl (Tr.exit ?_)))
 exact Ll rfl (by simp) (by kernel_rfl) (A5 rfl rfl rfl rfl trivial)
def joiF (a b : Fr) : Fr × Bool := Da (Dr a ++ Dr b)
def joiO (a b : Fr) : Option Fr := if Av a && Av b && (joiF a b).2 then some (joiF a b).1 else none
theorem Ad9 {a b T : Fr} (h : joiO a b = some T) : C Tryz.prog Qd [.agg (A7 a), .agg (A7 b)] (.tuple [.agg (A7 T), I 0]) := by
 unfold joiO at h
 split at h
 rotate_left
 ·cases h
 rename_i h0
 simp only [Bool.and_eq_true] at h0
 obtain ⟨⟨h1, h2⟩, h3⟩ := h0
 cases h
 have ka := Dd a
 have kb := Dd b
 rw [if_pos h1] at ka
 rw [if_pos h2] at kb
 have kh := Ad4 (J7 a) (J7 b) (Xv (Ju h1)) (Xv (Ju h2))
 have e : Da (Dr a ++ Dr b) = joiF a b := rfl
 rw [e, h3] at kh
 refine C_of mixed Hf (by simp) fun S ok => ?_
 refine A2 rfl (by simp) (Tr.seq (Tr.seq ?_))
 refine A8 (TraceK.run rfl (by simp) (TraceK.call rfl rfl ka (TraceK.run rfl (by simp) (TraceK.call rfl rfl kb (TraceK.run rfl (by simp) (TraceK.call rfl rfl (Fy 0 0) ?_))))))
 refine TraceK.run rfl (by simp) (.done ⟨by kernel_rfl, by kernel_rfl, ?_⟩)
 refine A2 rfl (by simp) (A4 rfl (Tr.skip ?_))
 refine Tr.weak (s' := ⟨[(2, .ptr 2 0), (3, .ptr 3 0), (4, .ptr 4 0), (5, I 0)], [(2, ⟨A7 a, false⟩), (3, ⟨A7 b, false⟩), (4, ⟨A7 frZ, false⟩)], [], [], false⟩)
  (Ab (.k rfl (.k rfl (.k rfl (.k rfl .nil)))) (.k rfl (.k rfl (.k rfl .nil))) .nil rfl rfl) ?_
 refine Tr.seq (A8 (TraceK.run rfl (by simp) (TraceK.call rfl rfl (Cs a) (TraceK.call rfl rfl (Yc a) (TraceK.run rfl (by simp) (TraceK.call rfl rfl (Cs b) (TraceK.call rfl rfl (Yc b) (TraceK.run rfl (by simp) ?_))))))))
 refine TraceK.call rfl rfl kh (TraceK.run rfl (by simp) (.done ⟨by kernel_rfl, by kernel_rfl, ?_⟩))
 refine Tr.seq (A2 rfl (by simp) (A4 rfl (Tr.skip ?_)))
 exact A3 rfl (by simp) (Steps.call rfl rfl (Tf (joiF a b).1) (Steps.fin rfl (by simp) (A5 rfl rfl rfl rfl trivial)))
theorem Ada {a b : Fr} (h : joiO a b = none) : ∃ e : Int, e ≠ 0 ∧ C Tryz.prog Qd [.agg (A7 a), .agg (A7 b)] (.tuple [.agg (A7 frZ), I e]) := by
 have ka := Dd a
 have kb := Dd b
 by_cases h12 : Av a = true ∧ Av b = true
 ·obtain ⟨h1, h2⟩ := h12
  have h3 : (joiF a b).2 = false := by
   unfold joiO at h
   rw [h1, h2] at h
   cases h3 : (joiF a b).2 with
   | false => rfl
   | true => rw [h3] at h; simp at h
  rw [if_pos h1] at ka
  rw [if_pos h2] at kb
  have kh := Ad4 (J7 a) (J7 b) (Xv (Ju h1)) (Xv (Ju h2))
  have e : Da (Dr a ++ Dr b) = joiF a b := rfl
  rw [e, h3] at kh
  refine ⟨4, by decide, C_of mixed Hf (by simp) fun S ok => ?_⟩
  refine A2 rfl (by simp) (Tr.seq (Tr.seq ?_))
  refine A8 (TraceK.run rfl (by simp) (TraceK.call rfl rfl ka (TraceK.run rfl (by simp) (TraceK.call rfl rfl kb (TraceK.run rfl (by simp) (TraceK.call rfl rfl (Fy 0 0) ?_))))))
  refine TraceK.run rfl (by simp) (.done ⟨by kernel_rfl, by kernel_rfl, ?_⟩)
  refine A2 rfl (by simp) (A4 rfl (Tr.skip ?_))
  refine Tr.weak (s' := ⟨[(2, .ptr 2 0), (3, .ptr 3 0), (4, .ptr 4 0), (5, I 0)], [(2, ⟨A7 a, false⟩), (3, ⟨A7 b, false⟩), (4, ⟨A7 frZ, false⟩)], [], [], false⟩)
   (Ab (.k rfl (.k rfl (.k rfl (.k rfl .nil)))) (.k rfl (.k rfl (.k rfl .nil))) .nil rfl rfl) ?_
  refine Tr.seq (A8 (TraceK.run rfl (by simp) (TraceK.call rfl rfl (Cs a) (TraceK.call rfl rfl (Yc a) (TraceK.run rfl (by simp) (TraceK.call rfl rfl (Cs b) (TraceK.call rfl rfl (Yc b) (TraceK.run rfl (by simp) ?_))))))))
  refine TraceK.call rfl rfl kh (TraceK.run rfl (by simp) (.done ⟨by kernel_rfl, by kernel_rfl, ?_⟩))
  refine Tr.seq (A2 rfl (by simp) (A6 rfl ?_))
  exact A2 rfl (by simp) (A5 rfl rfl rfl rfl trivial)
 ·obtain ⟨e, he, k1⟩ : ∃ e : Int, e ≠ 0 ∧ C Tryz.prog Id [.slice 0 1 [I (if Av a then 0 else 11), I (if Av b then 0 else 11)]] (I e) := by
   refine ⟨_, ?_, Fy _ _⟩
   by_cases h1 : Av a = true
   ·have h2 : Av b = false := by
     cases hb : Av b with
     | false => rfl
     | true => exact absurd ⟨h1, hb⟩ h12
    rw [h1, h2]; decide
   ·have h1 : Av a = false := by simpa using h1
    rw [h1]; simp
  refine ⟨e, he, C_of mixed Hf (by simp) fun S ok => ?_⟩
  refine A2 rfl (by simp) (Tr.seq (Tr.seq ?_))
  refine A8 (TraceK.run rfl (by simp) (TraceK.call rfl rfl ka (TraceK.run rfl (by simp) (TraceK.call rfl rfl kb (TraceK.run rfl (by simp) (TraceK.call rfl rfl k1 ?_))))))
  refine TraceK.run rfl (by simp) (.done ⟨by kernel_rfl, by kernel_rfl, ?_⟩)
  refine A2 rfl (by simp) (A6 (congrArg (fun b => some (V.bool b)) (show ((e : Int) != 0) = true by simpa using he)) ?_)
  exact A2 rfl (by simp) (A5 rfl rfl rfl rfl trivial)
def sweO (r : Fr) (p q : Int × Int) : Option Fr := match movO r p with
 | none => none
 | some a => match movO r q with
   | none => none
   | some b => joiO a b
theorem c_Swept {r : Fr} {p q : Int × Int} : (∀ T, sweO r p q = some T → C Tryz.prog Nf [.agg (A7 r), eB p, eB q] (.tuple [.agg (A7 T), I 0])) ∧ (sweO r p q = none → ∃ e : Int, e ≠ 0 ∧ C Tryz.prog Nf [.agg (A7 r), eB p, eB q] (.tuple [.agg (A7 frZ), I e])) := by
 unfold sweO
 cases h1 : movO r p with
 | none =>
   obtain ⟨e, he, k⟩ := A4z h1
   refine ⟨fun T h => (by cases h), fun _ => ⟨e, he, C_of mixed En (by simp) fun S ok => ?_⟩⟩
   refine A2 rfl (by simp) (A3 rfl (by simp) (Steps.call rfl rfl k (Steps.fin rfl (by simp) ?_)))
   refine Tr.seq (A2 rfl (by simp) (A6 (congrArg (fun b => some (V.bool b)) (show ((e : Int) != 0) = true by simpa using he)) ?_))
   exact A2 rfl (by simp) (A5 rfl rfl rfl rfl trivial)
 | some a =>
   have ka := A4y h1
   cases h2 : movO r q with
   | none =>
     obtain ⟨e, he, k⟩ := A4z h2
     refine ⟨fun T h => (by cases h), fun _ => ⟨e, he, C_of mixed En (by simp) fun S ok => ?_⟩⟩
     refine A2 rfl (by simp) (A3 rfl (by simp) (Steps.call rfl rfl ka (Steps.fin rfl (by simp) ?_)))
     refine Tr.seq (A2 rfl (by simp) (A4 rfl (Tr.skip ?_)))
     refine A3 rfl (by simp) (Steps.call rfl rfl k (Steps.fin rfl (by simp) ?_))
     refine Tr.seq (A2 rfl (by simp) (A6 (congrArg (fun b => some (V.bool b)) (show ((e : Int) != 0) = true by simpa using he)) ?_))
     exact A2 rfl (by simp) (A5 rfl rfl rfl rfl trivial)
   | some b =>
     have kb := A4y h2
     refine ⟨fun T h => ?_, fun h => ?_⟩
     ·have kj := Ad9 h
      refine C_of mixed En (by simp) fun S ok => ?_
      refine A2 rfl (by simp) (A3 rfl (by simp) (Steps.call rfl rfl ka (Steps.fin rfl (by simp) ?_)))
      refine Tr.seq (A2 rfl (by simp) (A4 rfl (Tr.skip ?_)))
      refine A3 rfl (by simp) (Steps.call rfl rfl kb (Steps.fin rfl (by simp) ?_))
      refine Tr.seq (A2 rfl (by simp) (A4 rfl (Tr.skip ?_)))
      exact A3 rfl (by simp) (Steps.call rfl rfl kj (Steps.fin rfl (by simp) (A5 rfl rfl rfl rfl trivial)))
     ·obtain ⟨e, he, kj⟩ := Ada h
      refine ⟨e, he, C_of mixed En (by simp) fun S ok => ?_⟩
      refine A2 rfl (by simp) (A3 rfl (by simp) (Steps.call rfl rfl ka (Steps.fin rfl (by simp) ?_)))
      refine Tr.seq (A2 rfl (by simp) (A4 rfl (Tr.skip ?_)))
      refine A3 rfl (by simp) (Steps.call rfl rfl kb (Steps.fin rfl (by simp) ?_))
      refine Tr.seq (A2 rfl (by simp) (A4 rfl (Tr.skip ?_)))
      exact A3 rfl (by simp) (Steps.call rfl rfl kj (Steps.fin rfl (by simp) (A5 rfl rfl rfl rfl trivial)))
end
end Go.Proofs.YtabedohjkillfaaGreat
namespace Go.Am
section
open Go.RowKit
def A33 (E : Env) (c : LC) (ys : YL) (ps : List Nat) (asg body : IC) : Prop :=
 ∀ (S1 S2 : Sur) (ok1 : SurIn E.S S1) (ok2 : SurIn E.S S2) (pre : List (List V)) (x : List V) (t : St) (l : Nat), (∀ log stp M w φ, S2 log stp M w φ → ∃ r, w.heap[l]? = some (.loop r)) → ys (pre ++ [x]) → c.Inv pre t → t.env = c.s.env → t.stp = c.s.stp →
   Tr (E.inner c S1 ok1.ok) (some l) asg (qOnly fun t1 => Tr (E.inner c S2 ok2.ok) (some l) body (qRound (E.inner c S2 ok2.ok) c (pre ++ [x])) t1) { t with env := penv ps x c.s.env }
theorem Rm {E : Env} {c : LC} {ys : YL} {ps : List Nat} {asg body : IC} {ca cb : Code} {fn : FuncId} {D : Nat} (hrc : ∀ st p, c.rc st p = { state := st, pending := p, fn := fn, tmps := c.a.tmps, params := ps.toArray, assign := ca, body := cb, defers := D })
  (ha : D5 E.P E.nt ca = some asg) (hb : D5 E.P E.nt cb = some body) (hyok : E.yok c.h0.y) (hpin : ∀ i ∈ E.pin, Bi c.s.bx i = true) (henv : c.s.env.all (fun p => B6 (Bi c.s.bx) (fun _ => none) 6 p.2) = true)
  (hps : ∀ p ∈ ps, p < E.nt) (hlen : ∀ pre x, ys (pre ++ [x]) → x.length = ps.length) (hround : A33 E c ys ps asg body) : Em E.P (SI E c) ys c.L := by
 rintro log x M w φ xs hp ⟨t, hh, pend, h⟩ htop hM hrep
 obtain ⟨hI, hst, rfl⟩ := h.go rfl
 have e := h.phi
 subst e
 have hxl : x.length = ps.length := hlen log x hp
 have hy := run_yield (P := E.P) (args := xs) h.rc (by rw [hrc]; have := hrep.1; simp; omega)
 simp only [cond_false, hrc] at hy
 refine ⟨_, _, _, _, hy, fun n => roundIn_of_wpIn trivial ?_⟩
 have htm : (ps.toArray.zip xs).foldl (fun tmps (t, a) => tmps.setIfInBounds t a) c.a.tmps = (ps.zip xs.toList).foldl (fun t p => t.setIfInBounds p.1 p.2) c.a.tmps := by
  rw [← Array.foldl_toList]; simp
 rw [htm]
 have R1 := A12 h htop hM hyok henv hps hrep
 have hT := hround (SB E (KK hh M) c.L (c.rc .ready none) (MM hh) w hh.φ) (SB E (KK hh M) c.L (c.rc .busy none) (MM hh) w hh.φ) ⟨A0i, A72⟩ ⟨A0i, A72⟩ log x t c.L (fun _ _ _ _ _ h => ⟨_, h.rc⟩) hp hI h.env hst
 refine hT ca ha n _ w _ R1 _ fun e t1 a1 w1 h1 k R1' ey1 => ?_
 cases e with
 | normal =>
   have hT2 : Tr (E.inner c (SB E (KK hh M) c.L (c.rc .busy none) (MM hh) w hh.φ) A0i) (some c.L) body _ t1 := k
   have B1 := R1'.1.sur
   have hbr := run_beginRound (P := E.P) B1.rc (by rw [hrc])
   have eb : ({ c.rc .ready none with state := .busy } : Loop) = c.rc .busy none := by rw [hrc, hrc]
   rw [eb] at hbr
   refine ⟨_, hbr, ?_⟩
   have R2 : (E.inner c (SB E (KK hh M) c.L (c.rc .busy none) (MM hh) w hh.φ) A0i).rel t1 a1 (w1.putObj c.L (.loop (c.rc .busy none))) h1 := by
    refine ⟨R1'.1.pokeS B1.rc (by intro _ _ _ e; cases e) (by intro _ _ _ e; cases e) (by intro _ _ e; cases e) (by intro _ _ e; cases e) rfl (R1'.1.marks.congr fun r hr hd => ⟨hr, (World.putObj_heap_other fun e => ?_).trans hd⟩) (A57 B1), fun l hl => have hl' := hyok.1 l (by rw [ey1] at hl; exact hl); ⟨Vn hl'.1, hl'.2⟩, R1'.2.2⟩
    subst e
    rw [B1.rc] at hd; cases hd
   refine hT2 cb hb n _ _ _ R2 _ fun e t2 a2 w2 h2 k2 R2' ey2 => ?_
   have jump : ∀ (j : Option Code) (t3 : St) (h3 : Gh) (w3 : World) (a3 : Act), Rel E.nt (SB E (KK hh M) c.L (c.rc .busy none) (MM hh) w hh.φ) t3.log t3.stp t3.fs a3 w3 h3 → h3.y = (Nl c hh).y →
     (j = none → c.Inv (log ++ [x]) { t3 with env := c.s.env } ∧ t3.stp = c.s.stp) → (∀ jc, j = some jc → ∃ e, c.Ix e { t3 with env := c.s.env } ∧ Rs e = some jc) →
     ∃ v w', (Instr.endRound c.L j).run E.P w3 = .ok v w' ∧ ∃ b φ', (Ending.returned v) = .returned (.bool b) ∧ SI E c (log ++ [x]) (!b) M w' φ' ∧ Ext w hh.φ w' φ' ∧ (∀ k, M k → w'.heap[k]? = w.heap[k]? ∧ φ' k = hh.φ k) ∧ w.heap.size ≤ w'.heap.size ∧ (∀ b, w'.heap.size ≤ b → φ' b = 0) ∧ w'.os = w.os ∧ w'.tape = w.tape ∧ w'.output = w.output := by
    intro j t3 h3 w3 a3 R3 ey3 hn hs
    have her := run_endRound (P := E.P) j R3.sur.rc
    have ee : ({ c.rc .busy none with state := if j.isNone then .ready else .done, pending := j } : Loop) = c.rc (bif (!j.isNone) then .done else .ready) j := by
     rw [hrc, hrc]; cases j <;> rfl
    rw [ee] at her
    obtain ⟨hh4, hs4, q⟩ := A11 (stp' := !j.isNone) (pend' := j) (log' := log ++ [x]) h hM hyok hpin henv R3 ey3 (fun e => by
      cases j with
      | none => exact ⟨(hn rfl).1, (hn rfl).2, rfl⟩
      | some jc => simp at e) (fun e => by
      cases j with
      | none => simp at e
      | some jc => obtain ⟨e', g1, g2⟩ := hs jc rfl; exact ⟨e', jc, g1, rfl, g2⟩)
    exact ⟨_, _, her, j.isNone, h3.φ, rfl, ⟨_, hh4, j, hs4⟩, q⟩
   cases e with
   | normal =>
     obtain ⟨t', hw, hI', hst'⟩ := k2
     obtain ⟨h3, R3, e3⟩ := hw a2 w2 h2 R2'
     exact jump none t' h3 w2 a2 R3.1 (e3.trans (ey2.trans ey1)) (fun _ => ⟨hI', hst'⟩) (fun _ e => (by cases e))
   | ret =>
     obtain ⟨t', hw, hI'⟩ := k2
     obtain ⟨h3, R3, e3⟩ := hw a2 w2 h2 R2'
     exact jump (some .ret) t' h3 w2 a2 R3.1 (e3.trans (ey2.trans ey1)) (fun e => (by cases e)) (fun jc e => by cases e; exact ⟨_, hI', rfl⟩)
   | exit i =>
     obtain ⟨t', hw, hI'⟩ := k2
     obtain ⟨h3, R3, e3⟩ := hw a2 w2 h2 R2'
     exact jump (some (.exit i)) t' h3 w2 a2 R3.1 (e3.trans (ey2.trans ey1)) (fun e => (by cases e)) (fun jc e => by cases e; exact ⟨_, hI', rfl⟩)
   | goto i =>
     obtain ⟨t', hw, hI'⟩ := k2
     obtain ⟨h3, R3, e3⟩ := hw a2 w2 h2 R2'
     exact jump (some (.goto i)) t' h3 w2 a2 R3.1 (e3.trans (ey2.trans ey1)) (fun e => (by cases e)) (fun jc e => by cases e; exact ⟨_, hI', rfl⟩)
   | panic _ => exact k2.elim
   | outgrown => exact k2.elim
 | _ => exact k.elim
theorem A91 {E : Env} {s : St} {Q : Exit → St → Prop} {z : X} {ps : List Nat} {asg body : IC} {f : FuncId} {cap us : List V} {ys dn : YL} (hz : evX s.fs z = some (.func (.func f) [] cap)) (hd : toDs s.fs.b cap = some (us, [])) (hit : Adg E.P f us ys dn)
  (hpin : E.pin.all (Bi s.bx) = true) (henv : s.env.all (fun p => B6 (Bi s.bx) (fun _ => none) 6 p.2) = true) (hps : ps.all (fun p => decide (p < E.nt)) = true) (hlen : ∀ pre x, ys (pre ++ [x]) → x.length = ps.length)
  (Inv : List (List V) → St → Prop) (Ix : Exit → St → Prop) (h0 : Inv [] s) (hround : ∀ (a : Act) (L : Nat) (rc : LoopState → Option Code → Loop) (h0 : Gh), A33 E { s := s, a := a, L := L, rc := rc, h0 := h0, Inv := Inv, Ix := Ix } ys ps asg body)
  (hdone : ∀ t log, dn log → t.env = s.env → t.stp = s.stp → Inv log t → Q .normal t) (hstop : ∀ e t, t.env = s.env → Ix e t → Q e t) : Tr E none (.range z ps asg body) Q s := fun c hc n a w h R Q' hq => by
 obtain ⟨p, ca, cb, rfl, e0, e1, e2⟩ := Bk hc
 have okz := R.1.opd e0 hz
 obtain ⟨f', c', ef, hf', hc', _, hcr⟩ := Ja okz
 have hf0 : f' = #[] := by
  have : f'.size = 0 := by simpa using hf'.symm
  exact Array.eq_empty_of_size_eq_zero this
 subst hf0
 have hcallable := hit.1
 refine wpIn_rangeFunc fun fn hfn => ?_
 have hw1 : ∃ w1, (w.alloc (.deferred (some []))).alloc (.loop { state := .ready, pending := none, fn := fn, tmps := a.tmps, params := ps.toArray, assign := ca, body := cb, defers := w.heap.size }) = w1 := ⟨_, rfl⟩
 obtain ⟨w1, hw1⟩ := hw1
 have hl1 : w1.heap[w.heap.size + 1]? = some (.loop { state := .ready, pending := none, fn := fn, tmps := a.tmps, params := ps.toArray, assign := ca, body := cb, defers := w.heap.size }) := by
  rw [← hw1]; have := World.alloc_heap_new (w.alloc (.deferred (some []))) (.loop { state := .ready, pending := none, fn := fn, tmps := a.tmps, params := ps.toArray, assign := ca, body := cb, defers := w.heap.size }); rwa [World.size_alloc] at this
 have hk1 : w1.heap[w.heap.size]? = some (.deferred (some [])) := by
  rw [← hw1]; exact (Below.heap_alloc _ _ _ (by simp)).trans (World.alloc_heap_new w _)
 have R1 := (R.1.alloc E.ok (.deferred (some []))).alloc E.ok (.loop { state := .ready, pending := none, fn := fn, tmps := a.tmps, params := ps.toArray, assign := ca, body := cb, defers := w.heap.size })
 rw [hw1] at R1
 obtain ⟨h1, hh1⟩ : ∃ h1 : Gh, { h with M := fun b => (h.M b ∨ b = w.heap.size) ∨ b = (w.alloc (.deferred (some []))).heap.size } = h1 := ⟨_, rfl⟩
 have R1 : Rel E.nt E.S s.log s.stp s.fs a w1 h1 := by rw [← hh1]; exact R1
 have q1 : h1.φ = h.φ := by rw [← hh1]
 have q2 : h1.y = h.y := by rw [← hh1]
 have qD : h1.M w.heap.size := by rw [← hh1]; exact .inl (.inr rfl)
 have qL : h1.M (w.heap.size + 1) := by rw [← hh1]; exact .inr (by simp)
 obtain ⟨a', ha'⟩ : ∃ a' : Act, { a with defers := [{ target := .collected w.heap.size, args := #[] }] ++ a.defers } = a' := ⟨_, rfl⟩
 have ht' : a'.tmps = a.tmps := by rw [← ha']
 have R2 : Rel E.nt E.S s.log s.stp s.fs a' w1 h1 := by
  refine { R1 with size := by rw [ht']; exact R1.size, env := fun t v hv => by rw [ht']; exact R1.env t v hv, marks := ?_ }
  rw [← ha']
  refine ⟨⟨w.heap.size, rfl, qD, hk1, fun d hd e => ?_⟩, R1.marks⟩
  have : ∀ ds : List Deferred, Marks h.M w ds → ∀ d ∈ ds, d ≠ { target := .collected w.heap.size, args := #[] } := by
   intro ds
   induction ds with
   | nil => intro _ d hd; cases hd
   | cons d0 ds ih =>
     rintro ⟨⟨r, er, hMr, _, _⟩, hs⟩ d hd e
     rcases List.mem_cons.1 hd with rfl | hd
     ·rw [er] at e
      simp only [Deferred.mk.injEq, Target.collected.injEq, and_true] at e
      have := R.1.mine r hMr
      omega
     ·exact ih hs d hd e
  exact this a.defers R.1.marks d hd e
 let lc : LC := { s := s, a := a', L := w.heap.size + 1, rc := fun st p => { state := st, pending := p, fn := fn, tmps := a.tmps, params := ps.toArray, assign := ca, body := cb, defers := w.heap.size }, h0 := h1, Inv := Inv, Ix := Ix }
 have hpin' : ∀ i ∈ E.pin, Bi s.bx i = true := by rw [List.all_eq_true] at hpin; exact hpin
 have hps' : ∀ p ∈ ps, p < E.nt := fun p hp => by rw [List.all_eq_true] at hps; simpa using hps p hp
 have hY : Em E.P (SI E lc) ys (w.heap.size + 1) := Rm (c := lc) (D := w.heap.size) (fn := fn) (fun st p => by rw [show lc.a.tmps = a.tmps from ht']) e1 e2 (by show E.yok h1.y; rw [q2]; exact R.2) hpin' henv hps' hlen (hround _ _ _ _)
 have hSI : SI E lc [] false (fun _ => False) w1 h1.φ := ⟨s, h1, none, {
  env := rfl
  phi := rfl
  y := rfl
  rel := R2.toTop
  sur := E.ok _ _ _ _ _ _ _ _ R2.sur ⟨Ext.refl _ _, fun _ _ _ => ⟨rfl, rfl⟩, Nat.le_refl _, rfl, rfl, rfl, fun b hb => .inl (hb.elim id fun h => h.elim), R2.top⟩
  dis := fun _ _ h => h
  hL := qL
  rc := hl1
  keys := fun _ _ _ e => e
  go := fun _ => ⟨h0, rfl, rfl⟩
  stop := fun e => (by cases e) }⟩
 have hrepc : RepL w1 h1.φ us c' := by
  have hcr1 : ∀ (i : Nat) v x, cap[i]? = some v → c'[i]? = some x → Rep w1 h1.φ h1.β h1.y.l v x := fun i v x g1 g2 => by
   have ext : Ext w h.φ w1 h1.φ := by
    have e1 : Ext w h.φ w1 h.φ := fun b o ho => by
     have hlt : b < w.heap.size := by
      rcases Nat.lt_or_ge b w.heap.size with h1 | h1
      ·exact h1
      ·rw [R.1.top b h1] at ho; omega
     have hbk : w1.heap[b]? = w.heap[b]? := by
      rw [← hw1, Below.heap_alloc _ _ _ (by simp; omega), Below.heap_alloc _ _ _ hlt]
     exact ⟨ho, World.cell?_of_block hbk, B5 hbk⟩
    rw [q1]; exact e1
   have := (hcr i v x g1 g2).mono ext (β' := h1.β) (fun _ _ e => by rw [← hh1]; exact e)
   rw [q2]; exact this
  have hd' : toDl s.fs.b 6 cap = some (us, []) := hd
  obtain ⟨g1, g2⟩ := Fw hd'
  refine ⟨by omega, fun i u x hu hx => ?_⟩
  have hlt : i < cap.length := by have := (List.getElem?_eq_some_iff.1 hu).1; omega
  obtain ⟨js, h5, h6⟩ := g2 i _ u (List.getElem?_eq_getElem hlt) hu
  exact (I5 R1 6 _ u x js h5 (fun i hi => (by cases h6 i hi)) (hcr1 i _ x (List.getElem?_eq_getElem hlt) hx)).1
 obtain ⟨hcall, hcon⟩ := hit
 have hC := hcon (SI E lc) SI_ok (w.heap.size + 1) w1 h1.φ c' R1.top hrepc hY hSI
 refine ⟨w.heap.size + 1, [{ target := .collected w.heap.size, args := #[] }], w1, { target := .fn (.func f) c', args := #[.func (.yield (w.heap.size + 1)) #[] #[]] }, w1, f,
  #[.func (.yield (w.heap.size + 1)) #[] #[]] ++ c', w1, ?_, ?_, fun _ _ => trivial, ?_, fun e => by simp [Co, Fence.wide] at e, ?_⟩
 ·rw [← hw1]; exact run_enterLoop_outer _ _ _ _ _
 ·simp only [resolve, ef]
  simp [go_sem]
 ·unfold Bn at hcall
  cases hf : E.P.funcs[f]? with
  | none => simp [hf] at hcall
  | some fn =>
    simp only [hf, Bool.and_eq_true, bne_iff_ne, ne_eq] at hcall
    have hb : fn.body.isNone = false := by cases h : fn.body <;> simp [h] at hcall ⊢
    have hnm : (fn.name == "runtime.NumGoroutine") = false := by simpa using hcall.1
    simp only [invoke, callFunc, Sem.run_bind, run_program, Result.andThen_ok, hf, hnm, hb]
    simp
 ·refine (Bv hC).mono ?_
  rintro e w5 ⟨log, stp, φ5, x, rfl, ⟨t, hh, pend, h5⟩, ht5, hend⟩
  have e5 := h5.phi
  subst e5
  have hrun := run_endLoop (P := E.P) h5.rc (by cases stp <;> simp [lc])
  refine ⟨_, _, hrun, ?_⟩
  have hQ : E.rel t a' (w5.putObj (w.heap.size + 1) (.loop { lc.rc (bif stp then .done else .ready) pend with state := .exhausted })) hh := by
   have ext := Jk (φ := hh.φ) (o := .loop { lc.rc (bif stp then .done else .ready) pend with state := .exhausted }) h5.rc (by intro _ _ _ e; cases e) (by intro _ _ _ e; cases e) (by intro _ _ e; cases e) (by intro _ _ e; cases e)
   refine ⟨h5.rel.pokeS h5.rc (by intro _ _ _ e; cases e) (by intro _ _ _ e; cases e) (by intro _ _ e; cases e) (by intro _ _ e; cases e) rfl (h5.rel.marks.congr fun r hr hd => ⟨hr, (World.putObj_heap_other fun e => ?_).trans hd⟩)
    (E.ok _ _ _ _ _ _ _ _ h5.sur ⟨ext, fun b hb hn => ⟨World.putObj_heap_other fun e => hn (.inl (e ▸ h5.hL)), rfl⟩, by rw [World.putObj_size]; exact Nat.le_refl _, rfl, rfl, rfl, fun b hb => .inl (.inl hb), fun b hb => ht5 b (by rwa [World.putObj_size] at hb)⟩), ?_⟩
   ·subst e
    rw [h5.rc] at hd; cases hd
   ·have hyy : hh.y = h.y := h5.y.trans q2
    rw [hyy]; exact R.2
  have hyy : hh.y = h.y := h5.y.trans q2
  cases stp with
  | false =>
    obtain ⟨g1, g2, g3⟩ := h5.go rfl
    have hlog : dn log := hend.resolve_left (by simp)
    subst g3
    exact hq .normal t _ _ hh (hdone t log hlog h5.env g2 g1) (by rw [← ha'] at hQ; exact hQ) hyy
  | true =>
    obtain ⟨e, j, g1, g2, g3⟩ := h5.stop rfl
    subst g2
    have hQe := hq e t _ _ hh (hstop e t h5.env g1) (by rw [← ha'] at hQ; exact hQ) hyy
    show Code.wpIn _ _ _ j _ _ _
    cases e <;> simp only [Rs, Option.some.injEq] at g3 <;> (try (cases g3; done)) <;> subst g3
    ·exact wpIn_exit hQe
    ·exact wpIn_goto hQe
    ·exact wpIn_ret hQe
theorem Add {E : Env} {s : St} {Q : Exit → St → Prop} {z : X} {ps : List Nat} {asg body : IC} {f : FuncId} {cap us : List V} {ys : List (List V)} (hz : evX s.fs z = some (.func (.func f) [] cap)) (hd : toDs s.fs.b cap = some (us, [])) (hit : Iter E.P f us ys)
  (hpin : E.pin.all (Bi s.bx) = true) (henv : s.env.all (fun p => B6 (Bi s.bx) (fun _ => none) 6 p.2) = true) (hps : ps.all (fun p => decide (p < E.nt)) = true) (hlen : ∀ x ∈ ys, x.length = ps.length)
  (Inv : List (List V) → St → Prop) (Ix : Exit → St → Prop) (h0 : Inv [] s) (hround : ∀ (a : Act) (L : Nat) (rc : LoopState → Option Code → Loop) (h0 : Gh), A33 E { s := s, a := a, L := L, rc := rc, h0 := h0, Inv := Inv, Ix := Ix } (Oz ys) ps asg body)
  (hdone : ∀ t, t.env = s.env → t.stp = s.stp → Inv ys t → Q .normal t) (hstop : ∀ e t, t.env = s.env → Ix e t → Q e t) : Tr E none (.range z ps asg body) Q s :=
 A91 hz hd hit hpin henv hps (fun pre x hp => hlen x (List.IsPrefix.subset hp (by simp))) Inv Ix h0 hround (fun t log hl e1 e2 hI => hdone t e1 e2 (hl ▸ hI)) hstop
theorem A92 {E : Env} {lo : Nat} (hlo : ∀ log stp M w φ, E.S log stp M w φ → ∃ r, w.heap[lo]? = some (.loop r)) {s : St} {Q : Exit → St → Prop} {z : X} {ps : List Nat} {asg body : IC} {f : FuncId} {cap us : List V} {ys dn : YL} (hz : evX s.fs z = some (.func (.func f) [] cap)) (hd : toDs s.fs.b cap = some (us, [])) (hit : Adg E.P f us ys dn)
  (hpin : E.pin.all (Bi s.bx) = true) (henv : s.env.all (fun p => B6 (Bi s.bx) (fun _ => none) 6 p.2) = true) (hps : ps.all (fun p => decide (p < E.nt)) = true) (hlen : ∀ pre x, ys (pre ++ [x]) → x.length = ps.length)
  (Inv : List (List V) → St → Prop) (Ix : Exit → St → Prop) (h0 : Inv [] s) (hround : ∀ (a : Act) (L : Nat) (rc : LoopState → Option Code → Loop) (h0 : Gh), A33 E { s := s, a := a, L := L, rc := rc, h0 := h0, Inv := Inv, Ix := Ix } ys ps asg body)
  (hdone : ∀ t log, dn log → t.env = s.env → t.stp = s.stp → Inv log t → Q .normal t) (hstop : ∀ e t, t.env = s.env → Ix e t → Q e t) : Tr E (some lo) (.range z ps asg body) Q s := fun c hc n a w h R Q' hq => by
 obtain ⟨p, ca, cb, rfl, e0, e1, e2⟩ := Bk hc
 have okz := R.1.opd e0 hz
 obtain ⟨f', c', ef, hf', hc', _, hcr⟩ := Ja okz
 have hf0 : f' = #[] := by
  have : f'.size = 0 := by simpa using hf'.symm
  exact Array.eq_empty_of_size_eq_zero this
 subst hf0
 have hcallable := hit.1
 refine wpIn_rangeFunc fun fn hfn => ?_
 obtain ⟨r0, hr0⟩ := hlo _ _ _ _ _ R.1.sur
 have hw1 : ∃ w1, w.alloc (.loop { state := .ready, pending := none, fn := fn, tmps := a.tmps, params := ps.toArray, assign := ca, body := cb, defers := r0.defers }) = w1 := ⟨_, rfl⟩
 obtain ⟨w1, hw1⟩ := hw1
 have hl1 : w1.heap[w.heap.size]? = some (.loop { state := .ready, pending := none, fn := fn, tmps := a.tmps, params := ps.toArray, assign := ca, body := cb, defers := r0.defers }) := by
  rw [← hw1]; exact World.alloc_heap_new w _
 have R1 := R.1.alloc E.ok (.loop { state := .ready, pending := none, fn := fn, tmps := a.tmps, params := ps.toArray, assign := ca, body := cb, defers := r0.defers })
 rw [hw1] at R1
 obtain ⟨h1, hh1⟩ : ∃ h1 : Gh, { h with M := fun b => h.M b ∨ b = w.heap.size } = h1 := ⟨_, rfl⟩
 have R1 : Rel E.nt E.S s.log s.stp s.fs a w1 h1 := by rw [← hh1]; exact R1
 have q1 : h1.φ = h.φ := by rw [← hh1]
 have q2 : h1.y = h.y := by rw [← hh1]
 have qL : h1.M w.heap.size := by rw [← hh1]; exact .inr rfl
 have R2 := R1
 let lc : LC := { s := s, a := a, L := w.heap.size, rc := fun st p => { state := st, pending := p, fn := fn, tmps := a.tmps, params := ps.toArray, assign := ca, body := cb, defers := r0.defers }, h0 := h1, Inv := Inv, Ix := Ix }
 have hpin' : ∀ i ∈ E.pin, Bi s.bx i = true := by rw [List.all_eq_true] at hpin; exact hpin
 have hps' : ∀ p ∈ ps, p < E.nt := fun p hp => by rw [List.all_eq_true] at hps; simpa using hps p hp
 have hY : Em E.P (SI E lc) ys w.heap.size := Rm (c := lc) (D := r0.defers) (fn := fn) (fun st p => rfl) e1 e2 (by show E.yok h1.y; rw [q2]; exact R.2) hpin' henv hps' hlen (hround _ _ _ _)
 have hSI : SI E lc [] false (fun _ => False) w1 h1.φ := ⟨s, h1, none, {
  env := rfl
  phi := rfl
  y := rfl
  rel := R2.toTop
  sur := E.ok _ _ _ _ _ _ _ _ R2.sur ⟨Ext.refl _ _, fun _ _ _ => ⟨rfl, rfl⟩, Nat.le_refl _, rfl, rfl, rfl, fun b hb => .inl (hb.elim id fun h => h.elim), R2.top⟩
  dis := fun _ _ h => h
  hL := qL
  rc := hl1
  keys := fun _ _ _ e => e
  go := fun _ => ⟨h0, rfl, rfl⟩
  stop := fun e => (by cases e) }⟩
 have hrepc : RepL w1 h1.φ us c' := by
  have hcr1 : ∀ (i : Nat) v x, cap[i]? = some v → c'[i]? = some x → Rep w1 h1.φ h1.β h1.y.l v x := fun i v x g1 g2 => by
   have ext : Ext w h.φ w1 h1.φ := by
    have e1 : Ext w h.φ w1 h.φ := fun b o ho => by
     have hlt : b < w.heap.size := by
      rcases Nat.lt_or_ge b w.heap.size with h1 | h1
      ·exact h1
      ·rw [R.1.top b h1] at ho; omega
     have hbk : w1.heap[b]? = w.heap[b]? := by
      rw [← hw1, Below.heap_alloc _ _ _ hlt]
     exact ⟨ho, World.cell?_of_block hbk, B5 hbk⟩
    rw [q1]; exact e1
   have := (hcr i v x g1 g2).mono ext (β' := h1.β) (fun _ _ e => by rw [← hh1]; exact e)
   rw [q2]; exact this
  have hd' : toDl s.fs.b 6 cap = some (us, []) := hd
  obtain ⟨g1, g2⟩ := Fw hd'
  refine ⟨by omega, fun i u x hu hx => ?_⟩
  have hlt : i < cap.length := by have := (List.getElem?_eq_some_iff.1 hu).1; omega
  obtain ⟨js, h5, h6⟩ := g2 i _ u (List.getElem?_eq_getElem hlt) hu
  exact (I5 R1 6 _ u x js h5 (fun i hi => (by cases h6 i hi)) (hcr1 i _ x (List.getElem?_eq_getElem hlt) hx)).1
 obtain ⟨hcall, hcon⟩ := hit
 have hC := hcon (SI E lc) SI_ok w.heap.size w1 h1.φ c' R1.top hrepc hY hSI
 refine ⟨w.heap.size, [], w1, { target := .fn (.func f) c', args := #[.func (.yield w.heap.size) #[] #[]] }, w1, f,
  #[.func (.yield w.heap.size) #[] #[]] ++ c', w1, ?_, ?_, fun _ _ => trivial, ?_, fun e => by simp [Co, Fence.wide] at e, ?_⟩
 ·rw [← hw1]; exact run_enterLoop_inner hr0 _ _ _ _ _
 ·simp only [resolve, ef]
  simp [go_sem]
 ·unfold Bn at hcall
  cases hf : E.P.funcs[f]? with
  | none => simp [hf] at hcall
  | some fn =>
    simp only [hf, Bool.and_eq_true, bne_iff_ne, ne_eq] at hcall
    have hb : fn.body.isNone = false := by cases h : fn.body <;> simp [h] at hcall ⊢
    have hnm : (fn.name == "runtime.NumGoroutine") = false := by simpa using hcall.1
    simp only [invoke, callFunc, Sem.run_bind, run_program, Result.andThen_ok, hf, hnm, hb]
    simp
 ·refine (Bv hC).mono ?_
  rintro e w5 ⟨log, stp, φ5, x, rfl, ⟨t, hh, pend, h5⟩, ht5, hend⟩
  have e5 := h5.phi
  subst e5
  have hrun := run_endLoop (P := E.P) h5.rc (by cases stp <;> simp [lc])
  refine ⟨_, _, hrun, ?_⟩
  have hQ : E.rel t a (w5.putObj w.heap.size (.loop { lc.rc (bif stp then .done else .ready) pend with state := .exhausted })) hh := by
   have ext := Jk (φ := hh.φ) (o := .loop { lc.rc (bif stp then .done else .ready) pend with state := .exhausted }) h5.rc (by intro _ _ _ e; cases e) (by intro _ _ _ e; cases e) (by intro _ _ e; cases e) (by intro _ _ e; cases e)
   refine ⟨h5.rel.pokeS h5.rc (by intro _ _ _ e; cases e) (by intro _ _ _ e; cases e) (by intro _ _ e; cases e) (by intro _ _ e; cases e) rfl (h5.rel.marks.congr fun r hr hd => ⟨hr, (World.putObj_heap_other fun e => ?_).trans hd⟩)
    (E.ok _ _ _ _ _ _ _ _ h5.sur ⟨ext, fun b hb hn => ⟨World.putObj_heap_other fun e => hn (.inl (e ▸ h5.hL)), rfl⟩, by rw [World.putObj_size]; exact Nat.le_refl _, rfl, rfl, rfl, fun b hb => .inl (.inl hb), fun b hb => ht5 b (by rwa [World.putObj_size] at hb)⟩), ?_⟩
   ·subst e
    rw [h5.rc] at hd; cases hd
   ·have hyy : hh.y = h.y := h5.y.trans q2
    rw [hyy]; exact R.2
  have hyy : hh.y = h.y := h5.y.trans q2
  cases stp with
  | false =>
    obtain ⟨g1, g2, g3⟩ := h5.go rfl
    have hlog : dn log := hend.resolve_left (by simp)
    subst g3
    exact hq .normal t _ _ hh (hdone t log hlog h5.env g2 g1) hQ hyy
  | true =>
    obtain ⟨e, j, g1, g2, g3⟩ := h5.stop rfl
    subst g2
    have hQe := hq e t _ _ hh (hstop e t h5.env g1) hQ hyy
    show Code.wpIn _ _ _ j _ _ _
    cases e <;> simp only [Rs, Option.some.injEq] at g3 <;> (try (cases g3; done)) <;> subst g3
    ·exact wpIn_exit hQe
    ·exact wpIn_goto hQe
    ·exact wpIn_ret hQe
theorem Adc {E : Env} {lo : Nat} (hlo : ∀ log stp M w φ, E.S log stp M w φ → ∃ r, w.heap[lo]? = some (.loop r)) {s : St} {Q : Exit → St → Prop} {z : X} {ps : List Nat} {asg body : IC} {f : FuncId} {cap us : List V} {ys : List (List V)} (hz : evX s.fs z = some (.func (.func f) [] cap)) (hd : toDs s.fs.b cap = some (us, [])) (hit : Iter E.P f us ys)
  (hpin : E.pin.all (Bi s.bx) = true) (henv : s.env.all (fun p => B6 (Bi s.bx) (fun _ => none) 6 p.2) = true) (hps : ps.all (fun p => decide (p < E.nt)) = true) (hlen : ∀ x ∈ ys, x.length = ps.length)
  (Inv : List (List V) → St → Prop) (Ix : Exit → St → Prop) (h0 : Inv [] s) (hround : ∀ (a : Act) (L : Nat) (rc : LoopState → Option Code → Loop) (h0 : Gh), A33 E { s := s, a := a, L := L, rc := rc, h0 := h0, Inv := Inv, Ix := Ix } (Oz ys) ps asg body)
  (hdone : ∀ t, t.env = s.env → t.stp = s.stp → Inv ys t → Q .normal t) (hstop : ∀ e t, t.env = s.env → Ix e t → Q e t) : Tr E (some lo) (.range z ps asg body) Q s :=
 A92 hlo hz hd hit hpin henv hps (fun pre x hp => hlen x (List.IsPrefix.subset hp (by simp))) Inv Ix h0 hround (fun t log hl e1 e2 hI => hdone t e1 e2 (hl ▸ hI)) hstop
end
section
open Go.RowKit
inductive Ob where
 | cells (cs : List V)
 | raw (o : Obj)
 | mapd (ks : List (Int × Int)) (vs : List V)
def Sk : Nat × Ob → V
 | (b, .cells cs) => .agg (.rptr b 0 :: cs)
 | (b, .raw o) => .tuple [.rptr b 0, .obj o]
 | (b, .mapd ks vs) => .tuple [.rptr b 0, .mpd ks vs]
theorem Abu : ∀ {p q : Nat × Ob}, Sk p = Sk q → p = q
 | (b, .cells cs), (c, .cells ds), h => by simp [Sk] at h; simp [h]
 | (b, .raw o), (c, .raw u), h => by simp [Sk] at h; simp [h]
 | (b, .cells cs), (c, .raw u), h => by simp [Sk] at h
 | (b, .raw o), (c, .cells ds), h => by simp [Sk] at h
 | (b, .mapd ks vs), (c, .mapd ks' vs'), h => by simp [Sk] at h; simp [h]
 | (b, .mapd ks vs), (c, .cells ds), h => by simp [Sk] at h
 | (b, .mapd ks vs), (c, .raw o), h => by simp [Sk] at h
 | (b, .cells cs), (c, .mapd ks vs), h => by simp [Sk] at h
 | (b, .raw o), (c, .mapd ks vs), h => by simp [Sk] at h
abbrev Arena := List (Nat × Ob)
def encA (A : Arena) : List (List V) := [A.map Sk]
theorem C3 {A B : Arena} (h : encA A = encA B) : A = B := by
 simp only [encA, List.cons.injEq, and_true] at h
 revert B
 induction A with
 | nil => intro B h; cases B with
   | nil => rfl
   | cons => simp at h
 | cons p A ih => intro B h; cases B with
   | nil => simp at h
   | cons q B =>
     simp only [List.map_cons, List.cons.injEq] at h
     rw [Abu h.1, ih h.2]
def ObOk (w : World) (φ : Nat → Nat) (b : Nat) : Ob → Prop
 | .cells cs => ∃ vs e, w.heap[b]? = some (.cells vs e (0, 0)) ∧ cs.length ≤ vs.size ∧ ∀ (j : Nat) v x, cs[j]? = some v → vs[j]? = some x → RepD w φ v x ∧ Aa v = true
 | .raw o => w.heap[b]? = some o
 | .mapd ks vs => ∃ xs : List Value, vs.length = ks.length ∧ xs.length = ks.length ∧ w.heap[b]? = some (.map (mesD 0 ks xs).toArray ks.length) ∧ ∀ (i : Nat) v x, vs[i]? = some v → xs[i]? = some x → RepD w φ v x
theorem ObOk.mono {w w' : World} {φ φ' : Nat → Nat} {b : Nat} {o : Ob} (h : ObOk w φ b o) (hb : w'.heap[b]? = w.heap[b]?) (e : Ext w φ w' φ') : ObOk w' φ' b o := by
 cases o with
 | cells cs =>
   obtain ⟨vs, et, h1, h2, h3⟩ := h
   exact ⟨vs, et, hb.trans h1, h2, fun j v x hv hx => ⟨(h3 j v x hv hx).1.mono e, (h3 j v x hv hx).2⟩⟩
 | raw o => exact hb.trans h
 | mapd ks vs =>
   obtain ⟨xs, h1, h2, h3, h4⟩ := h
   exact ⟨xs, h1, h2, hb.trans h3, fun i v x hv hx => (h4 i v x hv hx).mono e⟩
structure Ar (w : World) (φ : Nat → Nat) (M : Nat → Prop) (A : Arena) : Prop where
 nd : (A.map (·.1)).Nodup
 ok : ∀ p ∈ A, ObOk w φ p.1 p.2
 fr : ∀ p ∈ A, ¬ M p.1
 lt : ∀ p ∈ A, p.1 < w.heap.size
 z : ∀ p ∈ A, φ p.1 = 0
def SA (S0 : Sur) (l0 : List (List V)) (s0 : Bool) : Sur := fun log stp M w φ =>
 ∃ A, log = encA A ∧ stp = s0 ∧ Ar w φ M A ∧ S0 l0 s0 (fun b => M b ∨ b ∈ A.map (·.1)) w φ
theorem Jo {S0 : Sur} (h0 : S0.ok) (l0 : List (List V)) (s0 : Bool) : (SA S0 l0 s0).ok := by
 refine ⟨?_, fun _ _ _ _ _ ⟨_, _, _, _, h4⟩ => h0.gl _ _ _ _ _ h4⟩
 intro log s M w φ M' w' φ' ⟨A, h1, h2, h3, h4⟩ mv
 have old : ∀ p ∈ A, w'.heap[p.1]? = w.heap[p.1]? ∧ φ' p.1 = φ p.1 := fun p hp => mv.old _ (h3.lt p hp) (h3.fr p hp)
 refine ⟨A, h1, h2, ⟨h3.nd, fun p hp => (h3.ok p hp).mono (old p hp).1 mv.ext, fun p hp hM => ?_, fun p hp => Nat.lt_of_lt_of_le (h3.lt p hp) mv.size, fun p hp => (old p hp).2.trans (h3.z p hp)⟩, h0 _ _ _ _ _ _ _ _ h4 ⟨mv.ext, fun b hb hn => mv.old b hb fun hM => hn (.inl hM), mv.size, mv.os, mv.tape, mv.output, fun b hb => ?_, mv.top⟩⟩
 ·rcases mv.mine _ hM with h | h
  ·exact h3.fr p hp h
  ·have := h3.lt p hp; omega
 ·rcases hb with hb | hb
  ·exact (mv.mine b hb).imp .inl id
  ·exact .inl (.inr hb)
theorem Rel.grow {nt : Nat} {S S' : Sur} {log log' : List (List V)} {stp stp' : Bool} {σ : FSt} {a : Act} {w : World} {h : Gh} (R : Rel nt S log stp σ a w h) (M' : Nat → Prop) (hM : ∀ b, h.M b → M' b) (hlt : ∀ b, M' b → b < w.heap.size) (sur : S' log' stp' M' w h.φ) : Rel nt S' log' stp' σ a w { h with M := M' } where
 size := R.size
 env := fun t v hv => R.env t v hv
 bx := fun i bo hb => by
  obtain ⟨blk, cs, e, h1, h2, h3, h4, h5, h6⟩ := R.bx i bo hb
  exact ⟨blk, cs, e, h1, hM _ h2, h3, h4, h5, h6⟩
 dom := R.dom
 inj := R.inj
 rows := fun r n sz et hr => by
  rcases R.rows r n sz et hr with ⟨e, e'⟩ | ⟨b, cs, hb', hMb, hh, hp, hn⟩
  ·exact .inl ⟨e, e'⟩
  ·exact .inr ⟨b, cs, hb', hM _ hMb, hh, hp, hn⟩
 rdom := R.rdom
 rinj := R.rinj
 apart := R.apart
 pins := R.pins
 mine := hlt
 top := R.top
 marks := R.marks.congr fun r hMr hh => ⟨hM _ hMr, hh⟩
 sur := sur
abbrev Env.withA (E : Env) (l0 : List (List V)) (s0 : Bool) : Env := { E with S := SA E.S l0 s0, ys := noYs, ok := Jo E.ok l0 s0, lk := fun _ => True }
theorem A0f {E : Env} {ro : Option Nat} {ic : IC} {Q : Exit → St → Prop} {s : St} (hys : E.ys = noYs) (hlk : E.lk = fun _ => True)
  (h : Tr (E.withA s.log s.stp) ro ic (fun e t => Q e { t with log := s.log, stp := s.stp }) { s with log := encA [] }) : Tr E ro ic Q s := fun c hc n a w g R Q' hq => by
 have R1 : (E.withA s.log s.stp).rel { s with log := encA [] } a w g := by
  refine ⟨?_, ?_⟩
  ·have e : (fun b => g.M b ∨ b ∈ (([] : Arena).map (·.1))) = g.M := by funext b; simp
   exact { R.1 with sur := ⟨[], rfl, rfl, ⟨by simp, by simp, by simp, by simp, by simp⟩, by rw [e]; exact R.1.sur⟩ }
  ·refine ⟨fun l hl => ⟨?_, trivial⟩, R.2.2⟩
   intro log x M w φ xs hp
   exact False.elim hp
 refine h c hc n a w g R1 Q' fun e t a' w' h' hQ R' hy => ?_
 obtain ⟨A, h1, h2, h3, h4⟩ := R'.1.sur
 refine hq e _ a' w' { h' with M := fun b => h'.M b ∨ b ∈ A.map (·.1) } hQ ⟨?_, ?_⟩ hy
 ·exact R'.1.grow _ (fun b hb => .inl hb) (fun b hb => by
   rcases hb with hb | hb
   ·exact R'.1.mine b hb
   ·obtain ⟨p, hp, rfl⟩ := List.mem_map.1 hb
    exact h3.lt p hp) h4
 ·refine ⟨fun l hl => ⟨?_, by rw [hlk]; trivial⟩, R'.2.2⟩
  intro log x M w φ xs hp
  rw [hys] at hp
  exact False.elim hp
structure InA (E : Env) (S0 : Sur) (l0 : List (List V)) (s0 : Bool) : Prop where
 sub : Sub E.S (SA S0 l0 s0)
 ok : S0.ok
theorem A0j {E : Env} (l0 : List (List V)) (s0 : Bool) : InA (E.withA l0 s0) E.S l0 s0 := ⟨Sub.refl _, E.ok⟩
section
variable {E : Env} {S0 : Sur} {l0 : List (List V)} {s0 : Bool} {A : Arena} {stp : Bool} {σ : FSt} {a : Act} {w : World} {h : Gh}
theorem InA.ar (hE : InA E S0 l0 s0) (R : E.relF (encA A) stp σ a w h) : Ar w h.φ h.M A := by
 obtain ⟨M1, hM1, hlt, ⟨A0, e, hs, hA, hS⟩, back⟩ := hE.sub _ _ _ _ _ R.1.sur R.1.mine
 obtain rfl := C3 e
 exact ⟨hA.nd, hA.ok, fun p hp hM => hA.fr p hp (hM1 _ hM), hA.lt, hA.z⟩
theorem InA.step (hE : InA E S0 l0 s0) (R : E.relF (encA A) stp σ a w h) {w' : World} {B : Arena} (hold : ∀ b, b < w.heap.size → b ∉ A.map (·.1) → w'.heap[b]? = w.heap[b]?) (hsz : w.heap.size ≤ w'.heap.size) (hos : w'.os = w.os) (htp : w'.tape = w.tape) (hou : w'.output = w.output)
  (hnew : ∀ p ∈ B, p.1 ∈ A.map (·.1) ∨ w.heap.size ≤ p.1) (hkeep : ∀ p ∈ A, p.1 ∈ B.map (·.1)) (hnd : (B.map (·.1)).Nodup) (hok : Ext w h.φ w' h.φ → ∀ p ∈ B, ObOk w' h.φ p.1 p.2) (hlt : ∀ p ∈ B, p.1 < w'.heap.size) : E.relF (encA B) stp σ a w' h := by
 obtain ⟨M1, hM1, hlt1, ⟨A0, e, hs, hA, hS⟩, back⟩ := hE.sub _ _ _ _ _ R.1.sur R.1.mine
 obtain rfl := C3 e
 have notA : ∀ b o, o < h.φ b → b < w.heap.size ∧ b ∉ A.map (·.1) := fun b o ho => by
  refine ⟨?_, fun hb => ?_⟩
  ·rcases Nat.lt_or_ge b w.heap.size with h1 | h1
   ·exact h1
   ·rw [R.1.top b h1] at ho; omega
  ·obtain ⟨p, hp, rfl⟩ := List.mem_map.1 hb
   rw [hA.z p hp] at ho; omega
 have ext : Ext w h.φ w' h.φ := fun b o ho => by
  obtain ⟨h1, h2⟩ := notA b o ho
  exact ⟨ho, World.cell?_of_block (hold b h1 h2), B5 (hold b h1 h2)⟩
 have top' : ∀ b, w'.heap.size ≤ b → h.φ b = 0 := fun b hb => R.1.top b (by omega)
 have own : ∀ b, M1 b → w'.heap[b]? = w.heap[b]? ∧ h.φ b = h.φ b := fun b hb => ⟨hold b (hlt1 b hb) fun hm => by
  obtain ⟨p, hp, rfl⟩ := List.mem_map.1 hm
  exact hA.fr p hp hb, rfl⟩
 have sa : SA S0 l0 s0 (encA B) stp M1 w' h.φ := by
  refine ⟨B, rfl, hs, ⟨hnd, hok ext, fun p hp hM => ?_, hlt, fun p hp => ?_⟩, hE.ok _ _ _ _ _ _ _ _ hS ⟨ext, fun b hb hn => ⟨hold b hb fun hm => hn (.inr hm), rfl⟩, hsz, hos, htp, hou, fun b hb => ?_, top'⟩⟩
  ·rcases hnew p hp with h1 | h1
   ·obtain ⟨q, hq, e⟩ := List.mem_map.1 h1
    exact hA.fr q hq (e ▸ hM)
   ·have := hlt1 _ hM; omega
  ·rcases hnew p hp with h1 | h1
   ·obtain ⟨q, hq, e⟩ := List.mem_map.1 h1
    rw [← e]; exact hA.z q hq
   ·exact R.1.top _ h1
  ·rcases hb with hb | hb
   ·exact .inl (.inl hb)
   ·obtain ⟨p, hp, rfl⟩ := List.mem_map.1 hb
    exact (hnew p hp).imp .inr id
 have sur' := back (encA B) stp w' h.φ sa ext own hsz top' hos htp hou
 exact ⟨H1 R.1 ext (fun b hb => own b (hM1 b hb)) hsz top' sur', R.2⟩
end
def setA (A : Arena) (b : Nat) (o : Ob) : Arena := A.map fun p => if p.1 = b then (b, o) else p
theorem Ba (A : Arena) (b : Nat) (o : Ob) : (setA A b o).map (·.1) = A.map (·.1) := by
 unfold setA
 rw [List.map_map]
 congr 1
 funext p
 simp only [Function.comp]
 split
 ·rename_i h; exact h.symm
 ·rfl
theorem Lt {A : Arena} {b : Nat} {o : Ob} {p : Nat × Ob} (h : p ∈ setA A b o) : (p.1 = b ∧ p.2 = o) ∨ (p.1 ≠ b ∧ p ∈ A) := by
 obtain ⟨q, hq, e⟩ := List.mem_map.1 h
 split at e
 ·subst e; exact .inl ⟨rfl, rfl⟩
 ·subst e; rename_i h1; exact .inr ⟨h1, hq⟩
section
variable {E : Env} {S0 : Sur} {l0 : List (List V)} {s0 : Bool} {A : Arena}
theorem Aar {P : Program} {o : Oper} {os : List Operand} (hk : opK P o.op = some (.load 1 false, os)) : ∃ t p d, o.op = .load t p ∧ szOf P t = some 1 ∧ P.underlying t = some d ∧ aggB P t = false ∧ os = [p] := by
 replace hk := Dv hk (by simp [D7])
 cases ho : o.op <;> rw [ho] at hk <;> simp only [opK0] at hk <;> (try (cases hk; done)) <;> (try (repeat' (split at hk <;> (try (cases hk; done)))))
 all_goals first
  | (simp only [Option.map_eq_some_iff, Prod.mk.injEq] at hk; obtain ⟨_, _, h1, _⟩ := hk; cases h1; done)
  | (simp only [Ed] at hk; repeat' (split at hk <;> (try (cases hk; done))))
  | (rename_i h1 h2 h3 h4; subst h4; cases hk; exact ⟨_, _, _, rfl, by assumption, by assumption, Bool.eq_false_iff.2 h3, rfl⟩)
theorem Ig {P : Program} {o : Oper} {os : List Operand} {n : Nat} (hk : opK P o.op = some (.store n, os)) : ∃ t p q, o.op = .store t p q ∧ szOf P t = some n ∧ os = [p, q] := by
 replace hk := Dv hk (by simp [D7])
 cases ho : o.op <;> rw [ho] at hk <;> simp only [opK0] at hk <;> (try (cases hk; done)) <;> (try (repeat' (split at hk <;> (try (cases hk; done)))))
 all_goals first
  | (simp only [Option.map_eq_some_iff, Prod.mk.injEq, K.store.injEq] at hk; obtain ⟨m, hm, rfl, rfl⟩ := hk; exact ⟨_, _, _, rfl, hm, rfl⟩)
  | (simp only [Option.map_eq_some_iff, Prod.mk.injEq] at hk; obtain ⟨_, _, h1, _⟩ := hk; cases h1; done)
  | (simp only [Ed] at hk; repeat' (split at hk <;> (try (cases hk; done))))
theorem H4 {σ : FSt} {h : Gh} {w : World} {blk off : Nat} {x : Value} (o : Ok σ h w (.rptr blk off) x) : x = .pointer (some ⟨blk, off, none⟩) := by
 obtain ⟨r, _⟩ := o
 cases r with
 | data r => cases r; rfl
theorem No {σ : FSt} {h : Gh} {w : World} {blk off len cap : Nat} {x : Value} (o : Ok σ h w (.sref blk off len cap) x) : x = .slice (some ⟨blk, off, none⟩) len cap := by
 obtain ⟨r, _⟩ := o
 cases r with
 | data r => cases r; rfl
theorem Al {slots : List (Option Nat)} {P : Program} {nt : Nat} {o : Oper} {ins : Ins} {os : List Operand} (cc : Comp P nt slots o ins os) (hg : ins.g = none) : o.guard = none := by
 rcases cc.guard with ⟨_, e⟩ | ⟨j, want, t, _, _, e⟩
 ·exact e
 ·rw [hg] at e; cases e
theorem Bf (hE : InA E S0 l0 s0) {K : St → Prop} {s : St} {d : Nat} {x : X} {rest : List Ins} {blk off : Nat} {cs : List V} {v : V} (hx : evXs s.env [x] = some [.rptr blk off]) (hl : s.log = encA A) (hA : (blk, .cells cs) ∈ A) (hv : cs[off]? = some v)
  (hk : Steps E rest K (s.put (some d) v)) : Steps E (⟨some d, .load 1 false, [x], none⟩ :: rest) K s := by
 refine Step1.raw fun slots ops o i ro n a w h hc hs hi R Q next hn => ?_
 obtain ⟨os, cc⟩ := Aw hc
 have hgo := Al cc rfl
 have hdf := Ah cc.op
 obtain ⟨t, p, dd, e1, e2, e3, e4, rfl⟩ := Aar cc.op
 obtain ⟨u, hu, o1⟩ := (Au R.1 cc.xs (Ai hx)).one
 simp only [List.cons.injEq, and_true] at hu
 subst hu
 have ep := H4 o1
 have R' : E.relF (encA A) s.stp s.fs a w h := by rw [← hl]; exact R
 obtain ⟨vs, et, h1, h2, h3⟩ := (hE.ar R').ok _ hA
 have hlt : off < vs.size := by have := (List.getElem?_eq_some_iff.1 hv).1; omega
 obtain ⟨r, sc⟩ := h3 off v _ hv (Array.getElem?_eq_getElem hlt)
 have hcell : w.cell? ⟨blk, off, none⟩ = some vs[off] := by rw [cell_of_row w blk off vs et (0, 0) h1]; simp [hlt]
 have hex : (execOp a.eval o).run E.P w = .ok (.value vs[off]) w := by
  simp only [execOp, e1, ep, Sem.run_bind]
  rw [F1 (cs := [vs[off]]) e2 e3 rfl (fun j v hv => by
   cases j with
   | zero => cases hv; exact hcell
   | succ j => cases hv) (by rw [e4]; rfl)]
  rfl
 refine Aq hi (Ad hgo) hdf (.inl hex) (hn _ _ _ h hk ?_ rfl)
 have ok : Ok s.fs h w v vs[off] := ⟨.data r, Ac r⟩
 show E.relF _ _ _ _ _ _
 rw [(Bt _ _ _).1, (Bt _ _ _).2, Dy]
 exact Bh (eff := { v := _ }) cc R R.1 ok rfl
theorem Be (hE : InA E S0 l0 s0) {K : St → Prop} {s : St} {x y : X} {rest : List Ins} {blk off : Nat} {cs : List V} {v : V} (hx : evXs s.env [x, y] = some [.rptr blk off, v]) (hl : s.log = encA A) (hA : (blk, .cells cs) ∈ A) (hoff : off < cs.length) (hv : isD v = true) (hsc : Aa v = true)
  (hk : Steps E rest K { s with log := encA (setA A blk (.cells (cs.set off v))) }) : Steps E (⟨none, .store 1, [x, y], none⟩ :: rest) K s := by
 refine Step1.raw fun slots ops o i ro n a w h hc hs hi R Q next hn => ?_
 obtain ⟨os, cc⟩ := Aw hc
 have hgo := Al cc rfl
 have hdf := Ah cc.op
 obtain ⟨t, p, q, e1, e2, rfl⟩ := Ig cc.op
 obtain ⟨u, u', hu, o1, o2⟩ := (Au R.1 cc.xs (Ai hx)).two
 simp only [List.cons.injEq, and_true] at hu
 obtain ⟨hu1, rfl⟩ := hu
 subst hu1
 have ep := H4 o1
 have R' : E.relF (encA A) s.stp s.fs a w h := by rw [← hl]; exact R
 have hAr := hE.ar R'
 obtain ⟨vs, et, h1, h2, h3⟩ := hAr.ok _ hA
 have rv : RepD w h.φ v (a.eval q) := Nm hv o2.1
 have hc1 : (a.eval q).cells = #[a.eval q] := (By o2.1 hsc).2
 have hone : ∀ z ∈ [a.eval q], z.oneCell' = true := fun z hz => by
  obtain rfl : z = a.eval q := by simpa using hz
  exact (By o2.1 hsc).1
 have hrun := run_storeCells_at E.P blk off et [a.eval q] 0 vs w h1 (by simp; omega) hone
 simp only [Nat.add_zero] at hrun
 have R2 := hE.step R' (B := setA A blk (.cells (cs.set off v)))
  (fun b hb hn => setRow_other w blk b (vs.toList.take off ++ [a.eval q] ++ vs.toList.drop (off + [a.eval q].length)).toArray (fun e => hn (e ▸ List.mem_map.2 ⟨_, hA, rfl⟩))) (by simp) rfl rfl rfl
  (fun p hp => .inl (by rw [← Ba A blk (.cells (cs.set off v))]; exact List.mem_map.2 ⟨p, hp, rfl⟩)) (fun p hp => by rw [Ba]; exact List.mem_map.2 ⟨p, hp, rfl⟩) (by rw [Ba]; exact hAr.nd)
  (fun ext p hp => by
    rcases Lt hp with ⟨e, e'⟩ | ⟨hne, hp⟩
    ·rw [e, e']
     refine ⟨_, et, setRow_heap w blk vs _ et (0, 0) h1, by simp; omega, fun j u z hu hz => ?_⟩
     rw [List.getElem?_toArray, F0 (by simp; omega)] at hz
     by_cases ej : j = off
     ·subst ej
      rw [List.getElem?_set_self hoff] at hu
      rw [if_neg (by omega), if_pos (by simp)] at hz
      cases hu
      simp at hz
      subst hz
      exact ⟨rv.mono ext, hsc⟩
     ·rw [List.getElem?_set_ne (fun h => ej h.symm)] at hu
      have hz' : vs[j]? = some z := by
       by_cases h5 : j < off
       ·rw [if_pos h5] at hz; simpa using hz
       ·rw [if_neg h5, if_neg (by simp; omega)] at hz; simpa using hz
      exact ⟨(h3 j u z hu hz').1.mono ext, (h3 j u z hu hz').2⟩
    ·exact (hAr.ok p hp).mono (setRow_other w blk p.1 _ hne) ext) (fun p hp => by
    have hk : p.1 ∈ A.map (·.1) := by rw [← Ba A blk (.cells (cs.set off v))]; exact List.mem_map.2 ⟨p, hp, rfl⟩
    obtain ⟨q', hq', e⟩ := List.mem_map.1 hk
    have := hAr.lt q' hq'
    rw [← e]; simpa using this)
 have hd : o.dst = none := cc.d.symm
 have R3 : E.rel { s with log := encA (setA A blk (.cells (cs.set off v))) } (a.put o.dst undef) (w.setRow blk (vs.toList.take off ++ [a.eval q] ++ vs.toList.drop (off + [a.eval q].length)).toArray) h := by rw [hd]; exact R2
 refine Aq (x := undef) hi (Ad hgo) hdf (.inr ⟨?_, rfl⟩) (hn _ _ _ h hk R3 rfl)
 simp only [execOp, e1, ep, Instr.storeAt, Instr.sureAddr, Sem.run_bind, Sem.run_pure, Result.andThen_ok, storeVar, Cl e2]
 rw [if_neg (by rw [hc1]; simp), hc1]
 rw [hrun]
 rfl
end
end
section
open Go.RowKit
theorem A0w {P : Program} {kt e : TypeId} (hm : A3n P kt e = true) : Maps.Keyed P kt ∧ P.underlying e = some .bool ∧
  ∀ a b : Int, (-9223372036854775808 ≤ a ∧ a < 9223372036854775808) → (-9223372036854775808 ≤ b ∧ b < 9223372036854775808) → ∃ l, keyOf P kt (.agg #[.int .i64 a, .int .i64 b]) = some l := by
 unfold A3n at hm
 simp only [Bool.and_eq_true, decide_eq_true_eq, beq_iff_eq] at hm
 obtain ⟨⟨⟨⟨⟨⟨⟨h1, h2⟩, h3⟩, h4⟩, h5⟩, h6⟩, h7⟩, h8⟩ := hm
 have i64 : ∀ {t : TypeId}, Zb P t = true → P.underlying t = some (.int .i64) := by
  intro t h
  unfold Zb at h
  split at h
  ·assumption
  ·cases h
 refine ⟨Maps.Keyed.of_law (deep_law_laid h1 (m := 2) (by omega) h2 h3 ?_), ?_, ?_⟩
 ·split at h8
  ·rename_i fs hfs; rw [hfs]
  ·cases h8
 ·split at h5
  ·assumption
  ·cases h5
 ·intro a b ha hb
  split at h8
  ·rename_i fs hfs
   split at h8
   ·rename_i f g hfg
    simp only [Bool.and_eq_true, beq_iff_eq, bne_iff_ne, ne_eq] at h8
    obtain ⟨⟨⟨⟨⟨⟨⟨g1, g2⟩, g3⟩, g4⟩, g5⟩, g6⟩, g7⟩, g8⟩ := h8
    have wf : ∀ n : Int, (-9223372036854775808 ≤ n ∧ n < 9223372036854775808) → (Lit.int .i64 n).wf = true := fun n hn => WalkArith.wf_i64 ⟨hn.1, by omega⟩
    obtain ⟨n, hn⟩ : ∃ n, P.types.size = n + 1 := by
     cases hs : P.types.size with
     | zero => rw [hs] at h2; exact absurd h2 (Nat.not_lt_zero _)
     | succ n => exact ⟨n, rfl⟩
    have hall : fs.all (fun f => f.name != "_") = true := by
     rw [← Array.all_toList, hfg]; simp [g1, g2]
    refine ⟨_, by
     unfold keyOf
     rw [hfs]
     simp only [h4, Value.formed, hfs, h7, Bool.true_and]
     rw [if_pos (by simp)]
     rw [hn]
     simp only [Program.keyLits, hfs, Value.cells]
     rw [if_pos ⟨by simp [h7], hall⟩, hfg]
     simp [g3, g4, g7, g8, i64 g5, i64 g6, wf a ha, wf b hb]
     rfl⟩
   ·cases h8
  ·cases h8
theorem A9w {w : World} {b : Nat} {x : Obj} (h : w.heap[b]? = some x) (o : Obj) : (ChangeMaps.setBlock w b o).heap[b]? = some o := by
 have := (Array.getElem?_eq_some_iff.1 h).1
 simp [ChangeMaps.setBlock, this]
theorem A79 {w : World} {b k : Nat} (o : Obj) (h : k ≠ b) : (ChangeMaps.setBlock w b o).heap[k]? = w.heap[k]? := by
 simp only [ChangeMaps.setBlock]
 rw [Array.getElem?_setIfInBounds_ne (fun e => h e.symm)]
theorem keyV_inj {a b : Int × Int} (h : keyV a = keyV b) : a = b := by
 unfold keyV at h
 simp only [Value.agg.injEq, Array.mk.injEq, List.cons.injEq, Value.int.injEq, true_and, and_true] at h
 exact Prod.ext h.1 h.2
structure SetIs (es : Array MapEntry) (clock : Nat) (ks : List (Int × Int)) : Prop where
 st : MapKept.Stamped es clock
 max : es.size ≤ 100000
 ent : ∀ e ∈ es.toList, ∃ k ∈ ks, e.key = keyV k ∧ e.val = .bool true
 all : ∀ k ∈ ks, (inI k.1 ∧ inI k.2) ∧ ∃ e ∈ es.toList, e.key = keyV k
 nd : es.toList.Pairwise fun x y => x.key ≠ y.key
theorem SetIs.made : SetIs #[] 0 [] := ⟨MapKept.stamped_empty 0, by simp, by simp, by simp, by simp⟩
theorem SetIs.fit {P : Program} {kt e : TypeId} {es : Array MapEntry} {clock : Nat} {ks : List (Int × Int)} (hm : A3n P kt e = true) (h : SetIs es clock ks) : WideElems.Fit (H := Unit) P kt (Go.plainElem P e) es clock := by
 obtain ⟨K, hu, hkey⟩ := A0w hm
 refine ⟨by have := h.max; unfold maxLen; omega, h.st, fun x hx => ?_⟩
 obtain ⟨k, hk, k1, k2⟩ := h.ent x hx
 obtain ⟨⟨i1, i2⟩, _⟩ := h.all k hk
 obtain ⟨kl, hkl⟩ := hkey k.1 k.2 i1 i2
 unfold WideElems.rd
 rw [k1, keyV, hkl, k2, Go.plainElem_bool hu]
 exact ⟨_, rfl⟩
theorem SetIs.put {P : Program} {t kt e : TypeId} {w : World} {mb : Nat} {es : Array MapEntry} {clock : Nat} {ks : List (Int × Int)} (hm : A3n P kt e = true) (ht : P.underlying t = some (.map kt e)) (hb : w.heap[mb]? = some (.map es clock)) (h : SetIs es clock ks) {k : Int × Int} (hk : inI k.1 ∧ inI k.2) (hroom : es.size < 100000) :
  ∃ es' clock', (Instr.mapUpdate t (.map (some mb)) (keyV k) (.bool true)).run P w = .ok () (ChangeMaps.setBlock w mb (.map es' clock')) ∧ SetIs es' clock' (ks ++ [k]) ∧ es'.size ≤ es.size + 1 := by
 obtain ⟨K, hu, hkey⟩ := A0w hm
 obtain ⟨kl, hkl⟩ := hkey k.1 k.2 hk.1 hk.2
 have F := h.fit hm
 obtain ⟨es', clock', hrun, F', hput, _, _, hall⟩ := Maps.fit_store (R' := Go.plainElem (H := Unit) P e) K ht hb F (by have := h.max; unfold maxLen; omega) (fun _ _ _ _ hz => hz) hkl (Go.plainElem_bool hu true)
 have hsz : es'.size ≤ es.size + 1 := by
  have e1 : es'.size = ((es'.toList.map (WideElems.rg P kt (Go.plainElem (H := Unit) P e))).foldr DataW.insert []).length := by rw [Go.length_sorted]; simp
  rw [e1, hput]
  unfold ChangeMaps.putKey
  rw [Go.length_insert]
  have e2 := List.length_filter_le (ChangeMaps.notKey kl) ((es.toList.map (WideElems.rg P kt (Go.plainElem (H := Unit) P e))).foldr DataW.insert [])
  rw [Go.length_sorted] at e2
  simp at e2
  omega
 have hnd' : es'.toList.Pairwise fun x y => x.key ≠ y.key := by
  have key1 : ∀ x ∈ es.toList, keyOf P kt x.key = some (WideElems.rg P kt (Go.plainElem (H := Unit) P e) x).1 := fun x hx => by
   obtain ⟨y, hy⟩ := F.reads x hx
   rw [WideElems.rg_of hy]; exact WideElems.rd_key hy
  have key2 : ∀ x ∈ es'.toList, keyOf P kt x.key = some (WideElems.rg P kt (Go.plainElem (H := Unit) P e) x).1 := fun x hx => by
   obtain ⟨y, hy⟩ := F'.reads x hx
   rw [WideElems.rg_of hy]; exact WideElems.rd_key hy
  have n1 : ((es.toList.map (WideElems.rg P kt (Go.plainElem (H := Unit) P e))).map (·.1)).Nodup := by
   rw [List.map_map]
   unfold List.Nodup
   rw [List.pairwise_map]
   refine h.nd.imp_of_mem fun {x y} hx hy hne e => hne ?_
   exact K.inj (key1 x hx) (by rw [key1 y hy]; exact congrArg some e.symm)
  have n2 : (((es.toList.map (WideElems.rg P kt (Go.plainElem (H := Unit) P e))).foldr DataW.insert []).map (·.1)).Nodup := (((WideShapes.sorted_perm _).map _).nodup_iff).2 n1
  have n3 : (((es'.toList.map (WideElems.rg P kt (Go.plainElem (H := Unit) P e))).foldr DataW.insert []).map (·.1)).Nodup := by
   rw [hput]
   unfold ChangeMaps.putKey
   refine (((WideShapes.insert_perm _ _).map _).nodup_iff).2 ?_
   rw [List.map_cons, List.nodup_cons]
   refine ⟨fun hm => ?_, n2.sublist (List.Sublist.map _ List.filter_sublist)⟩
   obtain ⟨q, hq, e⟩ := List.mem_map.1 hm
   exact (Maps.notKey_iff (K.key hkl)).1 (List.mem_filter.1 hq).2 e
  have n4 : ((es'.toList.map (WideElems.rg P kt (Go.plainElem (H := Unit) P e))).map (·.1)).Nodup := (((WideShapes.sorted_perm _).map _).nodup_iff).1 n3
  rw [List.map_map] at n4
  unfold List.Nodup at n4
  rw [List.pairwise_map] at n4
  refine n4.imp_of_mem fun {x y} hx hy hne e => hne ?_
  have e1 := key2 x hx
  rw [e, key2 y hy] at e1
  exact (Option.some.inj e1).symm
 refine ⟨es', clock', hrun, ⟨F'.stamped, by omega, fun x hx => ?_, fun j hj => ?_, hnd'⟩, hsz⟩
 ·rcases hall x hx with ⟨hx1, _⟩ | ⟨hx1, hx2⟩
  ·obtain ⟨j, hj, j1, j2⟩ := h.ent x hx1
   exact ⟨j, by simp [hj], j1, j2⟩
  ·exact ⟨k, by simp, hx1, hx2⟩
 ·have hmem : ∀ q, q ∈ es'.toList.map (WideElems.rg P kt (Go.plainElem (H := Unit) P e)) ↔ q ∈ ChangeMaps.putKey kl (.lit (.bool true)) ((es.toList.map (WideElems.rg P kt (Go.plainElem (H := Unit) P e))).foldr DataW.insert []) := fun q => by
   rw [← hput, (WideShapes.sorted_perm _).mem_iff]
  have key_of : ∀ x ∈ es'.toList, ∀ l d, WideElems.rg P kt (Go.plainElem (H := Unit) P e) x = (l, d) → keyOf P kt x.key = some l := fun x hx l d hxe => by
   obtain ⟨y, hy⟩ := F'.reads x hx
   have := WideElems.rd_key hy
   rw [WideElems.rg_of hy] at hxe
   rw [this, hxe]
  have last : ∃ x ∈ es'.toList, x.key = keyV k := by
   have : (kl, DataW.lit (.bool true)) ∈ es'.toList.map (WideElems.rg P kt (Go.plainElem (H := Unit) P e)) := by
    rw [hmem]; unfold ChangeMaps.putKey; rw [ChangeMaps.mem_insert_iff]; exact .inl rfl
   obtain ⟨x, hx, hxe⟩ := List.mem_map.1 this
   exact ⟨x, hx, K.inj (key_of x hx _ _ hxe) hkl⟩
  rcases List.mem_append.1 hj with hj | hj
  ·obtain ⟨hi, x0, hx0, hk0⟩ := h.all j hj
   refine ⟨hi, ?_⟩
   by_cases ejk : j = k
   ·subst ejk; exact last
   obtain ⟨y0, hy0⟩ := F.reads x0 hx0
   have hk1 := WideElems.rd_key hy0
   have hne : y0.1 ≠ kl := fun he => by
    rw [he] at hk1
    have := K.inj hk1 hkl
    rw [hk0] at this
    exact ejk (keyV_inj this)
   have : y0 ∈ es'.toList.map (WideElems.rg P kt (Go.plainElem (H := Unit) P e)) := by
    rw [hmem]; unfold ChangeMaps.putKey; rw [ChangeMaps.mem_insert_iff]
    refine .inr (List.mem_filter.2 ⟨?_, ?_⟩)
    ·rw [(WideShapes.sorted_perm _).mem_iff]
     exact List.mem_map.2 ⟨x0, hx0, WideElems.rg_of hy0⟩
    ·exact (Maps.notKey_iff (K.key hkl)).2 hne
   obtain ⟨x1, hx1, hxe⟩ := List.mem_map.1 this
   refine ⟨x1, hx1, ?_⟩
   have := K.inj (key_of x1 hx1 y0.1 y0.2 hxe) hk1
   rw [this, hk0]
  ·obtain rfl : j = k := by simpa using hj
   exact ⟨hk, last⟩
section
variable {E : Env} {S0 : Sur} {l0 : List (List V)} {s0 : Bool} {A : Arena}
theorem A3y {σ : FSt} {h : Gh} {w : World} {blk : Nat} {x : Value} (o : Ok σ h w (.rmap blk) x) : x = .map (some blk) := by
 obtain ⟨r, _⟩ := o
 cases r with
 | data r => cases r; rfl
theorem Hs {B : Arena} {s : St} {a : Act} {w' : World} {h : Gh} {o : Oper} {os : List Operand} {slots : List (Option Nat)} {ins : Ins} {v : V} {x : Value} (cc : Comp E.P E.nt slots o ins os) (R2 : E.relF (encA B) s.stp s.fs a w' h) (ok : Ok s.fs h w' v x) {d : Nat} (hd : ins.d = some d) : E.rel { s.put (some d) v with log := encA B } (a.put o.dst x) w' h := by
 have R3 := Bh (eff := { v := v }) cc R2 R2.1 ok rfl
 rw [hd] at R3
 show E.relF (encA B) s.stp (s.put (some d) v).fs _ _ _
 rw [Dy]
 exact R3
theorem InA.fresh (hE : InA E S0 l0 s0) {stp : Bool} {σ : FSt} {a : Act} {w : World} {h : Gh} (R : E.relF (encA A) stp σ a w h) (ob : Obj) (o : Ob) (ho : Ext w h.φ (w.alloc ob) h.φ → ObOk (w.alloc ob) h.φ w.heap.size o) : E.relF (encA ((w.heap.size, o) :: A)) stp σ a (w.alloc ob) h ∧ w.heap.size ∉ A.map (·.1) := by
 have hAr := hE.ar R
 have hn : w.heap.size ∉ A.map (·.1) := fun hm => by
  obtain ⟨p, hp, e⟩ := List.mem_map.1 hm
  have := hAr.lt p hp; omega
 have hsz : (w.alloc ob).heap.size = w.heap.size + 1 := by
  show (w.heap.push ob).size = _
  rw [Array.size_push]
 refine ⟨hE.step R (fun b hb _ => heap_alloc_old w ob hb) (by omega) rfl rfl rfl (fun p hp => ?_) (fun p hp => by simp; exact .inr ⟨p.2, hp⟩) (by simp only [List.map_cons, List.nodup_cons]; exact ⟨hn, hAr.nd⟩) (fun ext p hp => ?_) (fun p hp => ?_), hn⟩
 ·rcases List.mem_cons.1 hp with rfl | hp
  ·exact .inr (Nat.le_refl _)
  ·exact .inl (List.mem_map.2 ⟨p, hp, rfl⟩)
 ·rcases List.mem_cons.1 hp with rfl | hp
  ·exact ho ext
  ·exact (hAr.ok p hp).mono (heap_alloc_old w ob (hAr.lt p hp)) ext
 ·rcases List.mem_cons.1 hp with rfl | hp
  ·simp only; omega
  ·have := hAr.lt p hp; omega
theorem InA.turn (hE : InA E S0 l0 s0) {stp : Bool} {σ : FSt} {a : Act} {w w' : World} {h : Gh} (R : E.relF (encA A) stp σ a w h) {b : Nat} {o1 : Ob} (hA : (b, o1) ∈ A) (o : Ob) (hold : ∀ k, k ≠ b → w'.heap[k]? = w.heap[k]?) (hsz : w'.heap.size = w.heap.size) (hos : w'.os = w.os) (htp : w'.tape = w.tape) (hou : w'.output = w.output)
  (ho : Ext w h.φ w' h.φ → ObOk w' h.φ b o) : E.relF (encA (setA A b o)) stp σ a w' h := by
 have hAr := hE.ar R
 have key : ∀ p ∈ setA A b o, p.1 ∈ A.map (·.1) := fun p hp => by rw [← Ba A b o]; exact List.mem_map.2 ⟨p, hp, rfl⟩
 refine hE.step R (fun k hk hn => hold k fun e => hn (e ▸ List.mem_map.2 ⟨_, hA, rfl⟩)) (by omega) hos htp hou (fun p hp => .inl (key p hp)) (fun p hp => by rw [Ba]; exact List.mem_map.2 ⟨p, hp, rfl⟩) (by rw [Ba]; exact hAr.nd) (fun ext p hp => ?_) (fun p hp => ?_)
 ·rcases Lt hp with ⟨e, e'⟩ | ⟨hne, hp⟩
  ·rw [e, e']; exact ho ext
  ·exact (hAr.ok p hp).mono (hold _ hne) ext
 ·obtain ⟨q, hq, e⟩ := List.mem_map.1 (key p hp)
  have := hAr.lt q hq
  rw [← e]; omega
theorem Ts {σ : FSt} {a : Act} {w : World} {h : Gh} (R : E.relF l0 s0 σ a w h) : E.relF l0 s0 σ a w.drew h := ⟨R.1.drew E.ok, R.2⟩
end
end
section
open Go.RowKit
theorem Yy {P : Program} {o : Oper} {os : List Operand} {t : Nat} (hk : opK P o.op = some (.raw 8 0 t, os)) : ∃ p q u e, o.op = .binOp .eql t p q u ∧ P.underlying t = some (.slice e) ∧ os = [p, q] := by
 replace hk := Dv hk (by simp [D7])
 cases ho : o.op <;> rw [ho] at hk <;> simp only [opK0] at hk <;> (try (cases hk; done)) <;> (try (repeat' (split at hk <;> (try (cases hk; done)))))
 all_goals first
  | (simp only [Option.map_eq_some_iff, Prod.mk.injEq] at hk; obtain ⟨_, _, h1, _⟩ := hk; cases h1; done)
  | (simp only [Ed] at hk
     split at hk <;> (try (cases hk; done)) <;> (try (split at hk <;> (try (cases hk; done)))) <;> (try (cases hk; done))
     all_goals first
      | (simp at hk; done)
      | (simp at hk
         obtain ⟨rfl, rfl⟩ := hk
         exact ⟨_, _, _, _, rfl, by assumption, rfl⟩))
section
variable {E : Env}
theorem Mc {s : St} {K : St → Prop} {d t r sz : Nat} {x y : X} {xs : List V} {rest : List Ins} (hx : evXs s.env [x, y] = some [.slice r sz xs, .nils]) (hk : ∀ b, (xs ≠ [] → b = false) → Steps E rest K (s.put (some d) (.bool b))) : Steps E (⟨some d, .raw 8 0 t, [x, y], none⟩ :: rest) K s := by
 refine Step1.raw fun slots ops o i ro n a w h hc hs hi R Q next hn => ?_
 obtain ⟨os, cc⟩ := Aw hc
 have hgo : o.guard = none := by
  rcases cc.guard with ⟨_, e⟩ | ⟨j, want, t, _, _, e⟩
  ·exact e
  ·cases e
 obtain ⟨p, q, u, e, e1, e2, rfl⟩ := Yy cc.op
 obtain ⟨v1, v2, hu, o1, o2⟩ := (Au R.1 cc.xs (Ai hx)).two
 simp only [List.cons.injEq, and_true] at hu
 obtain ⟨hu1, hu2⟩ := hu
 subst hu1 hu2
 have hq := J9 o2
 have key : ∃ (ad : Option Addr) (m c : Nat), a.eval p = .slice ad m c ∧ (xs ≠ [] → ad.isSome = true) := by
  have r := Fx o1
  generalize a.eval p = z at r
  rcases F5 r with ⟨⟨ad, cap, rfl⟩, e0⟩ | ⟨blk, off, cap, cv, rfl, _⟩
  ·exact ⟨ad, 0, cap, rfl, fun h => absurd e0 h⟩
  ·exact ⟨_, _, _, rfl, fun _ => rfl⟩
 obtain ⟨ad, m, c, ep, had⟩ := key
 have hex : (execOp a.eval o).run E.P w = .ok (.value (.bool ad.isNone)) w := by
  have g1 : (eqGuard .eql t p q (.slice ad m c) (.slice none 0 0)).run E.P w = .ok () w := by
   cases ad <;> rfl
  have g2 : (binOp .eql t (.slice ad m c) (.slice none 0 0)).run E.P w = .ok (.bool ad.isNone) w := Lib.run_eql_slice_nil w t e ad m c 0 0 e2
  simp only [execOp, e1, ep, hq, Sem.run_bind, g1, g2, Result.andThen_ok, Sem.run_pure]
 refine Aq (x := .bool ad.isNone) (w' := w) hi (Ad hgo) (Ah cc.op) (.inl hex) (hn _ _ w h (hk ad.isNone fun hne => by have := had hne; cases ad <;> simp_all) ?_ rfl)
 show E.relF _ _ _ _ _ _
 rw [(Bt _ _ _).1, (Bt _ _ _).2, Dy]
 exact Bh (eff := { v := .bool ad.isNone }) cc R R.1 (.data (.bool _)) rfl
end
section
variable {P : Program} {nt : Nat} {S : Sur} {log : List (List V)} {stp : Bool} {σ : FSt} {a : Act} {w : World} {h : Gh} {o : Oper}
theorem Ro {os : List Operand} {sz e : Nat} (hk : opK P o.op = some (.mkslice sz e, os)) : ∃ t len parts ie z, o.op = .buildSlice t len parts ∧ P.underlying t = some (.slice e) ∧ P.info? e = some ie ∧ ie.zero = some z ∧ z.cells.size = ie.size ∧ ie.size = sz ∧ parts.toList.map (·.1) = List.range len ∧ os = parts.toList.map (·.2) := by
 replace hk := Dv hk (by simp [D7])
 cases ho : o.op <;> rw [ho] at hk <;> simp only [opK0] at hk <;> (try (cases hk; done)) <;> (try (repeat' (split at hk <;> (try (cases hk; done)))))
 all_goals first
  | (simp only [Option.map_eq_some_iff, Prod.mk.injEq] at hk; obtain ⟨_, _, h1, _⟩ := hk; cases h1; done)
  | (rename_i hz hc; rw [hz] at hc; simp at hc; done)
  | (rename_i t len parts x5 e' ht x4 ie hi x3 z hz hc
     cases hk
     simp only [hz, Option.isSome_some, Bool.true_and, Bool.and_eq_true, beq_iff_eq] at hc
     exact ⟨t, len, parts, ie, z, rfl, ht, hi, hz, hc.1, rfl, hc.2, rfl⟩)
  | (exfalso; simp only [Ed] at hk; repeat' (split at hk <;> (try (cases hk; done))))
end
section
variable {E : Env}
theorem A2y {s : St} {K : St → Prop} {d sz e : Nat} {rest : List Ins} (hd : get s.bx d = none)
  (hk : ∀ blk, Steps E rest K ((s.setB d ⟨[], false⟩).put (some d) (.sref blk 0 0 0))) : Steps E (⟨some d, .mkslice sz e, [], none⟩ :: rest) K s := by
 refine Step1.raw fun slots ops o i ro n a w h hc hs hi R Q next hn => ?_
 obtain ⟨os, cc⟩ := Aw hc
 have hgo := Al cc rfl
 obtain ⟨t, len, parts, ie, z, ho, ht, hie, hz, hzs, hsz, hidx, rfl⟩ := Ro cc.op
 have hO := Au R.1 cc.xs (vs := []) rfl
 have hlen : len = 0 := by
  have h1 := hO.get.1
  have h2 := congrArg List.length hidx
  simp at h1 h2
  omega
 subst hlen
 have hp : parts = #[] := by
  have h1 := hO.get.1
  simp at h1
  exact Array.size_eq_zero_iff.1 h1.symm
 have hrun : (Instr.buildSlice t 0 (parts.map fun (i, x) => (i, a.eval x))).run E.P w = .ok (.slice (some ⟨w.heap.size, 0, none⟩) 0 0) (w.alloc (.cells #[] e)) := by
  subst hp
  have hr0 : Array.range 0 = #[] := rfl
  simp [Instr.buildSlice, run_underlying ht, sizeOf, typeInfo, zeroValue, hie, hz, newRow, Instr.fill, hr0]
 have R1 := R.1.newBox (e := e) (cs := #[]) (zs := []) (d := d) E.ok (by rw [fs_b]; exact hd) (by simp) (fun j v x hv hx => by simp at hv)
 have hex : (execOp a.eval o).run E.P w = .ok (.value (.slice (some ⟨w.heap.size, 0, none⟩) 0 0)) (w.alloc (.cells #[] e)) := by
  simp only [execOp, ho, Sem.run_bind, hrun]; rfl
 have key := Bh (eff := { v := .sref w.heap.size 0 0 0, wb := [(d, ⟨[], false⟩)] }) cc R R1 ⟨.data (.sref _ _ _ _), Ac (w0 := w) (φ0 := h.φ) (.sref _ _ _ _)⟩ rfl
 refine Aq hi (Ad hgo) (Ah cc.op) (.inl hex) (hn _ _ _ { h with M := fun b => h.M b ∨ b = w.heap.size, β := fun i => if i = d then some w.heap.size else h.β i } (hk w.heap.size) ?_ rfl)
 show E.relF _ _ _ _ _ _
 rw [(Bt _ _ _).1, (Bt _ _ _).2, Dy, Zt]
 exact key
end
end
section
open Go.RowKit
def Kons (w : World) (φ : Nat → Nat) (K : List (Nat × List V)) : Prop := ∀ p ∈ K, ObOk w φ p.1 (.cells p.2) ∧ p.1 < w.heap.size
def CA (P : Program) (f : FuncId) (A : Arena) (K : List (Nat × List V)) (args : List V) (r : V) (B : Arena) : Prop :=
 Bn P f = true ∧ ∀ (w : World) (φ : Nat → Nat) (xs : Array Value), (∀ b, w.heap.size ≤ b → φ b = 0) → Gl w φ → Ar w φ (fun _ => False) A → Kons w φ K → (∀ p ∈ K, p.1 ∉ A.map (·.1)) → RepL w φ args xs →
  Calls P f xs w fun e w' => ∃ φ' x, e = .returned x ∧ RepR w' φ' r x ∧ Ar w' φ' (fun _ => False) B ∧ Moved (fun b => b ∈ A.map (·.1)) w φ (fun b => b ∈ B.map (·.1)) w' φ'
def SQ (w0 : World) (φ0 : Nat → Nat) (A : Arena) : Sur := fun _ _ M w φ => Moved (fun b => b ∈ A.map (·.1)) w0 φ0 M w φ
theorem A95 (w0 : World) (φ0 : Nat → Nat) (A : Arena) (hg : Gl w0 φ0) : (SQ w0 φ0 A).ok := ⟨fun _ _ _ _ _ _ _ _ h k => Moved.trans h k, fun _ _ _ _ _ h => hg.mono h.ext⟩
def SQ1 (w0 : World) (φ0 : Nat → Nat) (A : Arena) : Sur := fun log stp M w φ =>
 ∃ B, (log = [] ∧ B = A ∨ log = encA B) ∧ stp = false ∧ Ar w φ M B ∧ SQ w0 φ0 A [] false (fun b => M b ∨ b ∈ B.map (·.1)) w φ
theorem Rz (w0 : World) (φ0 : Nat → Nat) (A : Arena) (hg : Gl w0 φ0) : (SQ1 w0 φ0 A).ok := by
 refine ⟨?_, fun _ _ _ _ _ ⟨_, _, _, _, h4⟩ => (A95 w0 φ0 A hg).gl _ _ _ _ _ h4⟩
 intro log s M w φ M' w' φ' ⟨B, h1, h2, h3, h4⟩ mv
 have := (Jo (A95 w0 φ0 A hg) [] false).move (encA B) s M w φ M' w' φ' ⟨B, rfl, h2, h3, h4⟩ mv
 obtain ⟨B', e1, e2, e3, e4⟩ := this
 obtain rfl := C3 e1
 exact ⟨B, h1, e2, e3, e4⟩
def InK (E : Env) (K : List (Nat × List V)) : Prop := ∀ log stp M w φ, E.S log stp M w φ → Kons w φ K
theorem L3 (A : Arena) : encA A ≠ [] := by simp [encA]
theorem CA_of {P : Program} {f nt : Nat} {ic : IC} {rs : List ResultVar} (hmix : P.follows .mixedOrders = true) (hch : chkF P f = some (nt, ic, rs)) {A B : Arena} {K : List (Nat × List V)} {args : List V} {r : V} (hlen : args.length ≤ nt)
  (hT : ∀ (S : Sur) (ok : S.ok) (S1 : Sur), InA (env0 P hmix nt S ok) S1 [] false → InK (env0 P hmix nt S ok) K → Tr (env0 P hmix nt S ok) none ic (qRet P rs r fun s => s.log = encA B) { entry args with log := encA A }) : CA P f A K args r B := by
 obtain ⟨fn, c, hf, hb, hnt, hc, rfl, hcall⟩ := L5 hch
 refine ⟨hcall, fun w φ xs htop hgl hA hK hKA hrep => ?_⟩
 have okI := A95 w φ A hgl
 have hInK : InK (env0 P hmix nt (SA (SQ w φ A) [] false) (Jo okI [] false)) K := by
  rintro log stp M w' φ' ⟨B', _, _, _, hm⟩ p hp
  obtain ⟨h1, h2⟩ := hK p hp
  have := hm.old p.1 h2 (hKA p hp)
  exact ⟨h1.mono this.1 hm.ext, Nat.lt_of_lt_of_le h2 hm.size⟩
 have hT1 := hT (SA (SQ w φ A) [] false) (Jo okI [] false) (SQ w φ A) (⟨Sub.refl _, okI⟩) hInK
 have e0 : (fun b => False ∨ b ∈ A.map (·.1)) = fun b => b ∈ A.map (·.1) := by funext b; simp
 have hT2 : Tr (env0 P hmix nt (SQ1 w φ A) (Rz w φ A hgl)) none ic (qRet P fn.results.toList r fun s => s.log = encA B) (entry args) := by
  intro c hc n a w1 g R Q' hq
  obtain ⟨B0, h1, h2, h3, h4⟩ := R.1.sur
  have hB0 : B0 = A := by
   rcases h1 with ⟨_, h⟩ | h
   ·exact h
   ·exact absurd h.symm (L3 _)
  subst hB0
  have R1 : (env0 P hmix nt (SA (SQ w φ B0) [] false) (Jo okI [] false)).rel { entry args with log := encA B0 } a w1 g := by
   refine ⟨{ R.1 with sur := ⟨B0, rfl, rfl, h3, h4⟩ }, fun l hl => ⟨?_, trivial⟩, R.2.2⟩
   intro log x M w φ xs hp
   exact False.elim hp
  refine hT1 c hc n a w1 g R1 Q' fun e t a' w' h' hQ R' hy => ?_
  refine hq e t a' w' h' hQ ?_ hy
  obtain ⟨B', k1, k2, k3, k4⟩ := R'.1.sur
  refine ⟨{ R'.1 with sur := ⟨B', .inr k1, k2, k3, k4⟩ }, fun l hl => ⟨?_, trivial⟩, R'.2.2⟩
  intro log x M w φ xs hp
  exact False.elim hp
 refine (Rc (E := env0 P hmix nt (SQ1 w φ A) (Rz w φ A hgl)) (φ := φ) (y := none) hf hb hc hnt hlen hrep.1 (fun i v x h1 h2 => ⟨.data (hrep.2 i v x h1 h2), fun σ h => Ac (hrep.2 i v x h1 h2)⟩)
  ⟨A, .inl ⟨rfl, rfl⟩, rfl, hA, by rw [e0]; exact Moved.refl _ htop⟩ htop (fun _ h => ((by cases h))) hT2).mono ?_
 rintro e w' ⟨s', h', x, rfl, hr, ⟨B', k1, k2, k3, k4⟩, ht, hk⟩
 have hB : B' = B := by
  rw [hk] at k1
  rcases k1 with ⟨h, _⟩ | h
  ·exact absurd h (L3 _)
  ·exact (C3 h).symm
 subst hB
 exact ⟨h'.φ, x, rfl, hr, ⟨k3.nd, k3.ok, fun _ _ h => h, k3.lt, k3.z⟩, ⟨k4.ext, k4.old, k4.size, k4.os, k4.tape, k4.output, fun b hb => k4.mine b (.inr hb), k4.top⟩⟩
section
variable {E : Env} {S0 : Sur} {l0 : List (List V)} {s0 : Bool} {A : Arena} {stp : Bool} {σ : FSt} {a : Act} {w : World} {h : Gh}
theorem InA.moved {F A1 B : Arena} (hE : InA E S0 l0 s0) (R : E.relF (encA (F ++ A1)) stp σ a w h) {w' : World} {φ' : Nat → Nat} (m : Moved (fun b => b ∈ A1.map (·.1)) w h.φ (fun b => b ∈ B.map (·.1)) w' φ') (hB : Ar w' φ' (fun _ => False) B) : E.relF (encA (F ++ B)) stp σ a w' { h with φ := φ' } := by
 obtain ⟨M1, hM1, hlt1, ⟨A0, e, hs, hA, hS⟩, back⟩ := hE.sub _ _ _ _ _ R.1.sur R.1.mine
 obtain rfl := C3 e
 have hnd := hA.nd
 rw [List.map_append, List.nodup_append] at hnd
 have inA1 : ∀ b, b ∈ A1.map (·.1) → b ∈ (F ++ A1).map (·.1) := fun b hb => by rw [List.map_append]; exact List.mem_append.2 (.inr hb)
 have own : ∀ b, M1 b → w'.heap[b]? = w.heap[b]? ∧ φ' b = h.φ b := fun b hb => m.old b (hlt1 b hb) fun hm => by
  obtain ⟨p, hp, rfl⟩ := List.mem_map.1 (inA1 _ hm)
  exact hA.fr p hp hb
 have oldF : ∀ p ∈ F, p.1 < w.heap.size ∧ p.1 ∉ A1.map (·.1) ∧ (w'.heap[p.1]? = w.heap[p.1]? ∧ φ' p.1 = h.φ p.1) := fun p hp => by
  have h1 := hA.lt p (List.mem_append.2 (.inl hp))
  have h2 : p.1 ∉ A1.map (·.1) := fun h => hnd.2.2 _ (List.mem_map.2 ⟨p, hp, rfl⟩) _ h rfl
  exact ⟨h1, h2, m.old _ h1 h2⟩
 have ar : Ar w' φ' M1 (F ++ B) := by
  refine ⟨?_, fun p hp => ?_, fun p hp hM => ?_, fun p hp => ?_, fun p hp => ?_⟩
  ·rw [List.map_append, List.nodup_append]
   refine ⟨hnd.1, hB.nd, fun x hx y hy e => ?_⟩
   subst e
   obtain ⟨p, hp, rfl⟩ := List.mem_map.1 hx
   obtain ⟨h1, h2, _⟩ := oldF p hp
   rcases m.mine _ hy with h3 | h3
   ·exact h2 h3
   ·omega
  ·rcases List.mem_append.1 hp with hp | hp
   ·exact (hA.ok p (List.mem_append.2 (.inl hp))).mono (oldF p hp).2.2.1 m.ext
   ·exact hB.ok p hp
  ·rcases List.mem_append.1 hp with hp | hp
   ·exact hA.fr p (List.mem_append.2 (.inl hp)) hM
   ·rcases m.mine p.1 (List.mem_map.2 ⟨p, hp, rfl⟩) with h3 | h3
    ·obtain ⟨q, hq, e⟩ := List.mem_map.1 (inA1 _ h3)
     exact hA.fr q hq (e ▸ hM)
    ·have := hlt1 _ hM; omega
  ·rcases List.mem_append.1 hp with hp | hp
   ·exact Nat.lt_of_lt_of_le (oldF p hp).1 m.size
   ·exact hB.lt p hp
  ·rcases List.mem_append.1 hp with hp | hp
   ·exact (oldF p hp).2.2.2.trans (hA.z p (List.mem_append.2 (.inl hp)))
   ·exact hB.z p hp
 have sa : SA S0 l0 s0 (encA (F ++ B)) stp M1 w' φ' := by
  refine ⟨F ++ B, rfl, hs, ar, hE.ok _ _ _ _ _ _ _ _ hS ⟨m.ext, fun b hb hn => m.old b hb fun hm => hn (.inr (inA1 b hm)), m.size, m.os, m.tape, m.output, fun b hb => ?_, m.top⟩⟩
  rcases hb with hb | hb
  ·exact .inl (.inl hb)
  ·rw [List.map_append] at hb
   rcases List.mem_append.1 hb with hb | hb
   ·exact .inl (.inr (by rw [List.map_append]; exact List.mem_append.2 (.inl hb)))
   ·rcases m.mine b hb with h3 | h3
    ·exact .inl (.inr (inA1 b h3))
    ·exact .inr h3
 have sur' := back (encA (F ++ B)) stp w' φ' sa m.ext own m.size m.top m.os m.tape m.output
 exact ⟨H1 R.1 m.ext (fun b hb => own b (hM1 b hb)) m.size m.top sur', R.2⟩
theorem wp_callA (hE : InA E S0 l0 s0) {F A1 B : Arena} {K : List (Nat × List V)} {ro : Option Nat} {n i : Nat} {ops : Array Oper} {slots : List (Option Nat)} {o : Oper} {ins : Ins} (R : E.relF (encA (F ++ A1)) stp σ a w h) {f : FuncId} {vs us : List V} {ids : List Nat} {r : V} {os : List Operand} (cc : Comp E.P E.nt slots o ins os) (hd : toDs σ.b vs = some (us, ids)) (hC : CA E.P f A1 K us r B)
  (hK : ∀ h', E.relF (encA (F ++ A1)) stp ((freeze σ.b ids).foldl (fun τ p => τ.set (.bx p.1) (.b p.2)) σ) a w h' → Kons w h'.φ K) (hKA : ∀ p ∈ K, p.1 ∉ A1.map (·.1)) (xs : Array Value) (hl : vs.length = xs.size)
  (hr : ∀ (i : Nat) v x, vs[i]? = some v → xs[i]? = some x → Rep w h.φ h.β h.y.l v x) (hi : ops[i]? = some o) (hw : Region.wanted o (yielded ops a.tmps) = true) (hrun : (execOp a.eval o).run E.P w = .ok (.enter f xs) w)
  {Q : Exit → Act → World → Prop} {next : Act → World → Prop} (hn : ∀ a' w' h', E.relF (encA (F ++ B)) stp ((σ.eff { v := r, wb := freeze σ.b ids }).put ins.d r) a' w' h' → h'.y = h.y → next a' w') : wpOpIn (Co ro) n E.P ops Q i next a w := by
 unfold wpOpIn
 simp only [hi, hw, if_true, Oper.wpIn]
 refine ⟨fun _ _ => trivial, ?_⟩
 rw [Oper.semAt_eq _ _ _ (Ah cc.op), hrun]
 simp only [Oper.uponIn]
 refine ⟨fun e => by simp [Co, Fence.wide] at e, ?_⟩
 obtain ⟨h1, R1, ext1, q1, q2, q3, hrep⟩ := Ck R.1 hd
 have R1' : E.relF (encA (F ++ A1)) stp ((freeze σ.b ids).foldl (fun τ p => τ.set (.bx p.1) (.b p.2)) σ) a w h1 := ⟨R1, by rw [q3]; exact R.2⟩
 have hAr := hE.ar R1'
 have hnd := hAr.nd
 rw [List.map_append, List.nodup_append] at hnd
 have arA : Ar w h1.φ (fun _ => False) A1 := ⟨hnd.2.1, fun p hp => hAr.ok p (List.mem_append.2 (.inr hp)), fun _ _ h => h, fun p hp => hAr.lt p (List.mem_append.2 (.inr hp)), fun p hp => hAr.z p (List.mem_append.2 (.inr hp))⟩
 refine (Bv (hC.2 w h1.φ xs R1.top (E.ok.gl _ _ _ _ _ R1.sur) arA (hK h1 R1') hKA (hrep xs hl hr))).mono ?_
 rintro e w' ⟨φ', x, rfl, hres, hB, hm⟩
 have R2 := hE.moved R1' hm hB
 have hx : Rep w' φ' h1.β h1.y.l r x ∧ ∀ σ h w0, GrowV σ h w0 r x := by
  cases hres with
  | data hh => exact ⟨.data hh, fun σ h w0 => Ac hh⟩
  | tuple vs xs hl hh =>
    refine ⟨.tuple vs xs hl hh, fun σ h w0 j u z hu hz => ?_⟩
    cases j with
    | zero => simp [cells] at hu; subst hu; intro r' sz xs' e; cases e
    | succ j => simp [cells] at hu
 have fin : Ok (σ.eff { v := r, wb := freeze σ.b ids }) { h1 with φ := φ' } w' r x := ⟨hx.1, hx.2 _ _ _⟩
 have R0 : E.relF (encA (F ++ B)) stp σ a w h → True := fun _ => trivial
 refine hn _ _ { h1 with φ := φ' } ⟨?_, ?_⟩ (by simpa using q3)
 ·rw [cc.d]
  cases hd : o.dst with
  | none => exact R2.1
  | some d => exact R2.1.put (cc.dst d hd) fin.1 fin.2
 ·exact R2.2
theorem A30 (hE : InA E S0 l0 s0) {K : St → Prop} {Ks : List (Nat × List V)} {s : St} {d : Option Nat} {f : FuncId} {xs : List X} {rest : List Ins} {vs first cap us : List V} {ids : List Nat} {r : V} {F A1 B : Arena} (hx : evXs s.env xs = some (.func (.func f) first cap :: vs)) (hd : toDs s.fs.b (first ++ vs ++ cap) = some (us, ids)) (hl : s.log = encA (F ++ A1))
  (hC : CA E.P f A1 Ks us r B) (hKs : (∀ p ∈ Ks, (p.1, Ob.cells p.2) ∈ F) ∨ InK E Ks ∧ ∀ p ∈ Ks, p.1 ∉ A1.map (·.1))
  (hk : Steps E rest K { (s.eff { v := r, wb := freeze s.fs.b ids }).put d r with log := encA (F ++ B) }) : Steps E (⟨d, .callv, xs, none⟩ :: rest) K s := by
 refine Step1.raw fun slots ops o i ro n a w h hc hs hi R Q next hn => ?_
 obtain ⟨os, cc⟩ := Aw hc
 have hgo := Al cc rfl
 obtain ⟨c, t, e1, e2, rfl⟩ := H3 cc.op
 have hO := Au R.1 cc.xs (Ai hx)
 have R' : E.relF (encA (F ++ A1)) s.stp s.fs a w h := by rw [← hl]; exact R
 have hAr := hE.ar R'
 have hnd := hAr.nd
 rw [List.map_append, List.nodup_append] at hnd
 cases hO with
 | cons o1 o2 =>
   obtain ⟨f', c', ef, hf, hc', h1, h2⟩ := Ja o1
   obtain ⟨l1, l2⟩ := D0 o2
   obtain ⟨m1, m2⟩ := arr3 hf hc' l1 h1 h2 l2
   refine wp_callA hE R' cc hd hC (fun h' R1 => ?_) (fun p hp => ?_) _ m1 m2 hi (Ad hgo) (Ki hC.1 e2 e1 ef) fun a' w' h' R2 hy => hn _ a' w' h' hk ?_ hy
   ·rcases hKs with hKs | hKs
    ·intro p hp
     have := (hE.ar R1)
     exact ⟨this.ok _ (List.mem_append.2 (.inl (hKs p hp))), this.lt _ (List.mem_append.2 (.inl (hKs p hp)))⟩
    ·exact hKs.1 _ _ _ _ _ R1.1.sur
   ·rcases hKs with hKs | hKs
    ·exact fun h => hnd.2.2 _ (List.mem_map.2 ⟨_, hKs p hp, rfl⟩) _ h rfl
    ·exact hKs.2 p hp
   ·show E.relF _ _ _ _ _ _
    have e : ({ (s.eff { v := r, wb := freeze s.fs.b ids }).put d r with log := encA (F ++ B) } : St).fs = ((s.fs.eff { v := r, wb := freeze s.fs.b ids }).put d r) := by
     cases d with
     | none => exact G2 s _
     | some d => show ((s.eff _).put (some d) r).fs = _; rw [Dy, G2]; rfl
    have e2 : ({ (s.eff { v := r, wb := freeze s.fs.b ids }).put d r with log := encA (F ++ B) } : St).stp = s.stp := by
     show ((s.eff _).put d r).stp = _
     rw [(Bt _ _ _).2, (Fo _ _).2]
    rw [e, e2]
    exact R2
end
end
section
open Go.RowKit
theorem Aat {P : Program} {o : Oper} {os : List Operand} {zs : List V} (hk : opK P o.op = some (.alloc zs, os)) : ∃ e i z, o.op = .alloc e ∧ P.info? e = some i ∧ i.zero = some z ∧ Ii z.cells.toList = some zs ∧ os = [] := by
 replace hk := Dv hk (by simp [D7])
 cases ho : o.op <;> rw [ho] at hk <;> simp only [opK0] at hk <;> (try (cases hk; done)) <;> (try (repeat' (split at hk <;> (try (cases hk; done)))))
 all_goals first
  | (simp only [Option.map_eq_some_iff, Prod.mk.injEq, K.alloc.injEq] at hk; obtain ⟨m, hm, rfl, rfl⟩ := hk; exact ⟨_, _, _, rfl, by assumption, by assumption, hm, rfl⟩)
  | (simp only [Option.map_eq_some_iff, Prod.mk.injEq] at hk; obtain ⟨_, _, h1, _⟩ := hk; cases h1; done)
  | (simp only [Ed] at hk; repeat' (split at hk <;> (try (cases hk; done))))
section
variable {E : Env} {S0 : Sur} {l0 : List (List V)} {s0 : Bool} {A : Arena}
theorem Cu (hE : InA E S0 l0 s0) {K : St → Prop} {s : St} {d : Nat} {zs : List V} {rest : List Ins} (hl : s.log = encA A)
  (hk : ∀ b, b ∉ A.map (·.1) → Steps E rest K { s.put (some d) (.rptr b 0) with log := encA ((b, .cells zs) :: A) }) : Steps E (⟨some d, .alloc zs, [], none⟩ :: rest) K s := by
 refine Step1.raw fun slots ops o i ro n a w h hc hs hi R Q next hn => ?_
 obtain ⟨os, cc⟩ := Aw hc
 obtain ⟨e, ie, z, ho, hie, hz, hzs, rfl⟩ := Aat cc.op
 have R' : E.relF (encA A) s.stp s.fs a w h := by rw [← hl]; exact R
 have hq : ∀ φ, zs.length = z.cells.toList.length ∧ ∀ (j : Nat) v x, zs[j]? = some v → z.cells.toList[j]? = some x → RepD (w.alloc (.cells z.cells e)) φ v x ∧ Aa v = true := fun φ => Ek hzs
 obtain ⟨R2, hnm⟩ := hE.fresh R' (.cells z.cells e) (.cells zs) (fun _ => ⟨z.cells, e, heap_alloc_new w _, by have := (hq h.φ).1; simp at this; omega, fun j v x hv hx => (hq h.φ).2 j v x hv (by simpa using hx)⟩)
 refine Aq hi (Ad (Al cc rfl)) (Ah cc.op) (.inl ?_) (hn _ _ _ h (hk _ hnm) (Hs cc R2 (.data (.rptr _ _)) rfl) rfl)
 simp [execOp, ho, Instr.alloc, zeroValue, typeInfo, hie, hz, newVar, newRow]
theorem Gw (hE : InA E S0 l0 s0) {K : St → Prop} {s : St} {x y : X} {rest : List Ins} {blk off : Nat} {cs : List V} {v : V} (hx : evXs s.env [x, y] = some [.rptr blk off, v]) (hl : s.log = encA A) (hA : (blk, .cells cs) ∈ A) (hoff : off < cs.length) (hv : toD s.fs.b 6 v = some (v, [])) (hsc : Aa v = true)
  (hk : Steps E rest K { s with log := encA (setA A blk (.cells (cs.set off v))) }) : Steps E (⟨none, .store 1, [x, y], none⟩ :: rest) K s := by
 refine Step1.raw fun slots ops o i ro n a w h hc hs hi R Q next hn => ?_
 obtain ⟨os, cc⟩ := Aw hc
 have hgo := Al cc rfl
 have hdf := Ah cc.op
 obtain ⟨t, p, q, e1, e2, rfl⟩ := Ig cc.op
 obtain ⟨u, u', hu, o1, o2⟩ := (Au R.1 cc.xs (Ai hx)).two
 simp only [List.cons.injEq, and_true] at hu
 obtain ⟨hu1, rfl⟩ := hu
 subst hu1
 have ep := H4 o1
 have R' : E.relF (encA A) s.stp s.fs a w h := by rw [← hl]; exact R
 have hAr := hE.ar R'
 obtain ⟨vs, et, h1, h2, h3⟩ := hAr.ok _ hA
 have rv : RepD w h.φ v (a.eval q) := (I5 R.1 6 _ v _ [] hv (fun i hi => by cases hi) o2.1).1
 have hc1 : (a.eval q).cells = #[a.eval q] := (By o2.1 hsc).2
 have hone : ∀ z ∈ [a.eval q], z.oneCell' = true := fun z hz => by
  obtain rfl : z = a.eval q := by simpa using hz
  exact (By o2.1 hsc).1
 have hrun := run_storeCells_at E.P blk off et [a.eval q] 0 vs w h1 (by simp; omega) hone
 simp only [Nat.add_zero] at hrun
 have R2 := hE.step R' (B := setA A blk (.cells (cs.set off v)))
  (fun b hb hn => setRow_other w blk b (vs.toList.take off ++ [a.eval q] ++ vs.toList.drop (off + [a.eval q].length)).toArray (fun e => hn (e ▸ List.mem_map.2 ⟨_, hA, rfl⟩))) (by simp) rfl rfl rfl
  (fun p hp => .inl (by rw [← Ba A blk (.cells (cs.set off v))]; exact List.mem_map.2 ⟨p, hp, rfl⟩)) (fun p hp => by rw [Ba]; exact List.mem_map.2 ⟨p, hp, rfl⟩) (by rw [Ba]; exact hAr.nd)
  (fun ext p hp => by
    rcases Lt hp with ⟨e, e'⟩ | ⟨hne, hp⟩
    ·rw [e, e']
     refine ⟨_, et, setRow_heap w blk vs _ et (0, 0) h1, by simp; omega, fun j u z hu hz => ?_⟩
     rw [List.getElem?_toArray, F0 (by simp; omega)] at hz
     by_cases ej : j = off
     ·subst ej
      rw [List.getElem?_set_self hoff] at hu
      rw [if_neg (by omega), if_pos (by simp)] at hz
      cases hu
      simp at hz
      subst hz
      exact ⟨rv.mono ext, hsc⟩
     ·rw [List.getElem?_set_ne (fun h => ej h.symm)] at hu
      have hz' : vs[j]? = some z := by
       by_cases h5 : j < off
       ·rw [if_pos h5] at hz; simpa using hz
       ·rw [if_neg h5, if_neg (by simp; omega)] at hz; simpa using hz
      exact ⟨(h3 j u z hu hz').1.mono ext, (h3 j u z hu hz').2⟩
    ·exact (hAr.ok p hp).mono (setRow_other w blk p.1 _ hne) ext) (fun p hp => by
    have hk : p.1 ∈ A.map (·.1) := by rw [← Ba A blk (.cells (cs.set off v))]; exact List.mem_map.2 ⟨p, hp, rfl⟩
    obtain ⟨q', hq', e⟩ := List.mem_map.1 hk
    have := hAr.lt q' hq'
    rw [← e]; simpa using this)
 have hd : o.dst = none := cc.d.symm
 have R3 : E.rel { s with log := encA (setA A blk (.cells (cs.set off v))) } (a.put o.dst undef) (w.setRow blk (vs.toList.take off ++ [a.eval q] ++ vs.toList.drop (off + [a.eval q].length)).toArray) h := by rw [hd]; exact R2
 refine Aq (x := undef) hi (Ad hgo) hdf (.inr ⟨?_, rfl⟩) (hn _ _ _ h hk R3 rfl)
 simp only [execOp, e1, ep, Instr.storeAt, Instr.sureAddr, Sem.run_bind, Sem.run_pure, Result.andThen_ok, storeVar, Cl e2]
 rw [if_neg (by rw [hc1]; simp), hc1]
 rw [hrun]
 rfl
end
section
variable {E : Env} {K : List (Nat × List V)}
end
end
end Go.Am
namespace Go
section
theorem Ez {P : Program} {b : Frame} {a : Act} {k : List Item} {cs : List Frame} {w : World} {c : Code} : step P (lone (b.atR a (.code (.scope c) :: k)) cs w) = .next (lone (b.atR a (.code c :: .inScope c :: k)) cs w) :=
 step_lone_go (by simp [stepG, stepG.exec, Frame.atR])
theorem Vy {P : Program} {b : Frame} {a : Act} {k : List Item} {cs : List Frame} {w : World} {c : Code} : step P (lone (b.atR a (.inScope c :: k)) cs w) = .next (lone (b.atR a k) cs w) :=
 step_lone_go (by simp [stepG, stepG.exec, Frame.atR])
theorem Ni {F : Fence} {n : Nat} {P : Program} {Q : Exit → Act → World → Prop} {a : Act} {w : World} {c : Code} (h : c.wpIn F n P (Exit.noGoto Q) a w) : (Code.scope c).wpIn F n P Q a w := by
 intro b k cs hro hb hr
 have h0 : (lone (b.atR a (.code (.scope c) :: k)) cs w).fenced P F := fenced_calm hb hr rfl
 obtain ⟨e, a₁, w₁, hq, harr⟩ := h b (.inScope c :: k) cs hro hb hr
 cases e with
 | normal => exact ⟨.normal, a₁, w₁, hq, .head h0 Ez (StepsIn.trans harr (.one (fenced_calm hb hr rfl) Vy))⟩
 | exit id =>
   have hx : exitTo id (.inScope c :: k) = exitTo id k := by simp [exitTo]
   exact ⟨.exit id, a₁, w₁, hq, fun k' hk => .head h0 Ez (harr.1 k' (by rw [hx]; exact hk)),
    fun hr' hk => let ⟨k₁, h1, h2⟩ := harr.2 hr' (by rw [hx]; exact hk); ⟨k₁, h1, .head h0 Ez h2⟩⟩
 | goto l => exact hq.elim
 | ret => exact ⟨_, a₁, w₁, hq, .of_steps (.one h0 Ez) harr⟩
 | panic ch => exact ⟨_, a₁, w₁, hq, .of_steps (.one h0 Ez) harr⟩
 | outgrown => exact ⟨_, a₁, w₁, hq, .of_steps (.one h0 Ez) harr⟩
end
end Go
namespace Go.Am
section
def qScope (Q : Exit → St → Prop) : Exit → St → Prop
 | .goto _, _ => False
 | e, s => Q e s
theorem Tr.scope {E : Env} {ro : Option Nat} {Q : Exit → St → Prop} {s : St} {x : IC} (h : Tr E ro x (qScope Q) s) : Tr E ro (.scope x) Q s := fun c hc n a w g R Q' hq => by
 obtain ⟨ca, rfl, h1⟩ := Bk hc
 refine Ni (h ca h1 n a w g R _ fun e s' a' w' h' k R' ey => ?_)
 cases e with
 | goto l => exact k.elim
 | _ => exact hq _ s' a' w' h' k R' ey
end
end Go.Am
namespace Go.Proofs.YtabedohjkillfaaGreat
section
open Go.Am
attribute [local simp] cells Aa mkv Ag Ap under dem dem1 eB A7 B8
theorem c_down {a b : Int} (hb : 0 < b) (ha : -1000000000000 ≤ a ∧ a ≤ 1000000000000) : C Tryz.prog Jq [I a, I b] (I (a / b)) := by
 have hq := A9q hb ha
 have e := A6f (a := a) hb
 have ew : IntKind.wrap .i64 (a.tdiv b) = a.tdiv b := w64 (by omega) (by omega)
 refine C_of mixed Va (by simp) fun S ok => ?_
 refine A2 rfl (by simp) (A2 rfl (by simp; omega) ?_)
 refine Tr.seq (A2 rfl (by simp; omega) (Tr.cond rfl rfl (fun h => A9 rfl (by simp) ?_) (fun h => Tr.skip ?_)))
 ·have h : a.tmod b < 0 := by simpa using h
  rw [if_pos h] at e
  refine A2 rfl (by simp) (A5 rfl rfl rfl ?_ trivial)
  rw [← e]
  show I (a.tdiv b - 1) = I (IntKind.wrap .i64 (IntKind.wrap .i64 (a.tdiv b) - 1))
  rw [ew, w64 (by omega) (by omega)]
 ·have h : ¬ a.tmod b < 0 := by simpa using h
  rw [if_neg h] at e
  refine A2 rfl (by simp) (A5 rfl rfl rfl ?_ trivial)
  rw [← e]
  show I (a.tdiv b) = I (IntKind.wrap .i64 (a.tdiv b))
  rw [ew]
theorem A4j {a b : Int} (hb : 0 < b) {K : Int} (hK : 0 ≤ K) (h : -K ≤ a ∧ a ≤ K) : -K - 1 ≤ a / b ∧ a / b ≤ K := by
 have e := A6f (a := a) hb
 have hq := A9q hb h
 split at e <;> omega
theorem c_up {a b : Int} (hb : 0 < b) (ha : -100000000000 ≤ a ∧ a ≤ 100000000000) : C Tryz.prog A5c [I a, I b] (I (-(-a / b))) := by
 have k : C Tryz.prog Jq [I (w (0 - a)), I b] (I (-a / b)) := by
  have e : w (0 - a) = -a := by rw [w, w64 (by omega) (by omega)]; omega
  rw [e]; exact c_down hb (by omega)
 have hq := A4j (a := -a) hb (K := 100000000000) (by omega) (by omega)
 refine C_of mixed A00 (by simp) fun S ok => ?_
 refine A2 rfl (by simp) (A3 rfl (by simp) (Steps.call rfl rfl k (Steps.fin rfl (by simp) (A5 rfl rfl rfl ?_ trivial))))
 show I (-(-a / b)) = I (w (0 - -a / b))
 rw [w, w64 (by omega) (by omega)]
 simp
def A2b (x : Int) (lh : Int × Int) (q : (Int × Int) × (Int × Int)) : Option (Int × Int) :=
 if 0 < q.2.1 - q.1.1 then some (max lh.1 (-(-((q.2.1 - q.1.1) * q.1.2 + (q.2.2 - q.1.2) * (x - q.1.1)) / (q.2.1 - q.1.1))), lh.2)
 else if q.2.1 - q.1.1 < 0 then some (lh.1, min lh.2 (-((q.2.1 - q.1.1) * q.1.2 + (q.2.2 - q.1.2) * (x - q.1.1)) / -(q.2.1 - q.1.1)))
 else if 0 < (q.2.1 - q.1.1) * q.1.2 + (q.2.2 - q.1.2) * (x - q.1.1) then none else some lh
def Wj (x : Int) : List ((Int × Int) × (Int × Int)) → Int × Int → Option (Int × Int)
 | [], lh => some lh
 | q :: l, lh => match A2b x lh q with
   | none => none
   | some lh' => Wj x l lh'
def Jv (f : List (Int × Int)) (r : Int × Int × Int) : Option (Int × Int) := match Wj r.1 (Ci f) (r.2.1, r.2.2) with
 | none => none
 | some lh => if lh.1 ≤ lh.2 then some (r.1, lh.1) else none
def O5 (f : List (Int × Int)) (g : Fr) : Option (Int × Int) := (Bc g).findSome? (Jv f)
theorem Ack {x : Int} {f : List (Int × Int)} {m : Nat} (h : m < f.length) (lh : Int × Int) : Wj x ((Ci f).drop m) lh = match A2b x lh (Fd f m) with
  | none => none
  | some lh' => Wj x ((Ci f).drop (m + 1)) lh' := by
 have hm : m < (Ci f).length := by rw [Fk]; exact h
 rw [List.drop_eq_getElem_cons hm]
 have e : (Ci f)[m] = Fd f m := Option.some.inj ((List.getElem?_eq_getElem hm).symm.trans (Fl h))
 rw [e]; rfl
theorem Acl {x : Int} {lh : Int × Int} {q : (Int × Int) × (Int × Int)} {y : Int} (h : 0 ≤ Nq q.1 q.2 (x, y)) (h1 : lh.1 ≤ y ∧ y ≤ lh.2) : ∃ lh', A2b x lh q = some lh' ∧ lh'.1 ≤ y ∧ y ≤ lh'.2 := by
 obtain ⟨n, hn⟩ : ∃ n, (q.2.1 - q.1.1) * q.1.2 + (q.2.2 - q.1.2) * (x - q.1.1) = n := ⟨_, rfl⟩
 obtain ⟨k, hk⟩ : ∃ k, q.2.1 - q.1.1 = k := ⟨_, rfl⟩
 have h2 : n ≤ k * y := by
  unfold Nq at h
  simp only at h
  rw [hk] at h hn
  rw [Int.mul_sub] at h
  omega
 unfold A2b
 rw [hn, hk]
 by_cases h3 : 0 < k
 ·rw [if_pos h3]
  refine ⟨_, rfl, ?_, h1.2⟩
  have h4 : -y ≤ -n / k := (Int.le_ediv_iff_mul_le h3).2 (by rw [Int.neg_mul, Int.mul_comm]; omega)
  simp only; omega
 ·rw [if_neg h3]
  by_cases h4 : k < 0
  ·rw [if_pos h4]
   refine ⟨_, rfl, h1.1, ?_⟩
   have h5 : y ≤ -n / -k := (Int.le_ediv_iff_mul_le (by omega)).2 (by rw [Int.mul_neg, Int.mul_comm]; omega)
   simp only; omega
  ·rw [if_neg h4]
   have h5 : k = 0 := by omega
   subst h5
   rw [if_neg (by rw [Int.zero_mul] at h2; omega)]
   exact ⟨_, rfl, h1.1, h1.2⟩
theorem A2a {x y : Int} : ∀ {l : List ((Int × Int) × (Int × Int))} {lh : Int × Int}, (∀ q ∈ l, 0 ≤ Nq q.1 q.2 (x, y)) → lh.1 ≤ y ∧ y ≤ lh.2 → ∃ lh', Wj x l lh = some lh' ∧ lh'.1 ≤ y ∧ y ≤ lh'.2
 | [], lh, _, h => ⟨lh, rfl, h.1, h.2⟩
 | q :: l, lh, h, h1 => by
   obtain ⟨lh', e, h2⟩ := Acl (h q (by simp)) h1
   obtain ⟨lh2, e2, h3⟩ := A2a (l := l) (lh := lh') (fun q' hq => h q' (by simp [hq])) h2
   exact ⟨lh2, by unfold Wj; rw [e]; exact e2, h3⟩
theorem hits_has {f : List (Int × Int)} {g : Fr} {p : Int × Int} (h : inF f p = true) (hp : inR g p) : (O5 f g).isSome = true := by
 obtain ⟨_, a, b⟩ := Pd hp
 have hr : (p.1, lowY g p.1, Dm g p.1) ∈ Bc g := Kk hp.1.1 (by have := hp.1.2; omega) (by omega)
 unfold inF at h
 rw [List.all_eq_true] at h
 obtain ⟨lh, e, h1, h2⟩ := A2a (x := p.1) (y := p.2) (l := Ci f) (lh := (lowY g p.1, Dm g p.1)) (fun q hq => by simpa using h q hq) ⟨a, b⟩
 unfold O5
 rw [List.findSome?_isSome_iff]
 refine ⟨_, hr, ?_⟩
 unfold Jv
 simp only
 rw [e]
 simp only
 rw [if_pos (by omega)]; rfl
def clBd (lh : Int × Int) : Prop := (-100000000000 ≤ lh.1 ∧ lh.1 ≤ 100000000000) ∧ -100000000000 ≤ lh.2 ∧ lh.2 ≤ 100000000000
theorem clip_n {x : Int} {a b : Int × Int} (hx : -32768 ≤ x ∧ x ≤ 32768) (ha : An a = true) (hb : An b = true) : -10000000000 ≤ (b.1 - a.1) * a.2 + (b.2 - a.2) * (x - a.1) ∧ (b.1 - a.1) * a.2 + (b.2 - a.2) * (x - a.1) ≤ 10000000000 := by
 have pa := Bd ha
 have pb := Bd hb
 have q1 := Dl (x := b.1 - a.1) (y := a.2) (B := 65536) (C := 32768) (by omega) (by omega) (by omega) (by omega)
 have q2 := Dl (x := b.2 - a.2) (y := x - a.1) (B := 65536) (C := 65536) (by omega) (by omega) (by omega) (by omega)
 omega
theorem clip1_bd {x : Int} {lh lh' : Int × Int} {a b : Int × Int} (hx : -32768 ≤ x ∧ x ≤ 32768) (ha : An a = true) (hb : An b = true) (h : clBd lh) (e : A2b x lh (a, b) = some lh') : clBd lh' := by
 have hn := clip_n hx ha hb
 unfold A2b at e
 simp only at e
 generalize (b.1 - a.1) * a.2 + (b.2 - a.2) * (x - a.1) = n at hn e
 generalize b.1 - a.1 = k at e
 unfold clBd at h ⊢
 split at e
 ·rename_i h1
  have := A4j (a := -n) h1 (K := 10000000000) (by omega) (by omega)
  cases e
  simp only; omega
 ·split at e
  ·rename_i h1
   have := A4j (a := -n) (b := -k) (by omega) (K := 10000000000) (by omega) (by omega)
   cases e
   simp only; omega
  ·split at e
   ·cases e
   ·cases e; exact h
end
section
open Go.Am
attribute [local simp] cells Aa mkv Ag Ap under dem dem1 eB A7 B8
theorem c_Hits {f : List (Int × Int)} {g : Fr} (hf : E0 f = true) (hg : Av g = true) : C Tryz.prog A0n [sB f, .agg (A7 g)] (.tuple [eB ((O5 f g).getD (0, 0)), I (if (O5 f g).isSome then 0 else 4)]) := by
 have h := hf
 unfold E0 at h
 simp only [Bool.and_eq_true] at h
 have hl := (Ca _ _ _).1 h.1.1
 have hfp := h.1.2
 have hl6 : f.length ≤ 1000000 := by omega
 have kf := Lh (f := f) (by omega)
 rw [if_pos hf] at kf
 have kc := Dd g
 rw [if_pos hg] at kc
 refine C_of mixed Vc (by simp) fun S ok => ?_
 refine A2 rfl (by simp [sB]) (Tr.scope (Tr.seq (Tr.seq ?_)))
 refine A8 (TraceK.run rfl (by simp [sB]) (TraceK.call rfl rfl kf (TraceK.run rfl (by simp) (TraceK.call rfl rfl kc (TraceK.run rfl (by simp) (TraceK.call rfl rfl (Fy 0 0) ?_))))))
 refine TraceK.run rfl (by simp) (.done ⟨by kernel_rfl, by kernel_rfl, ?_⟩)
 refine A2 rfl (by simp) (A4 rfl (Tr.skip ?_))
 refine Tr.seq (Tr.label ?_)
 refine Tr.seq (A3 rfl (by simp) (Steps.call rfl rfl (Cs g) (Steps.call rfl rfl (Acz g) (Steps.fin rfl (by simp) (Tr.block ?_)))))
 refine Tr.weak (s' := ⟨[(24, .func (.func Cc) [] [.vptr (A7 g) 0]), (2, .ptr 2 0), (3, .ptr 3 0), (4, .ptr 4 0), (5, .ptr 5 0)], [(2, ⟨[sB f], false⟩), (3, ⟨A7 g, false⟩), (4, ⟨[I 0, I 0], false⟩), (5, ⟨[I 0], false⟩)], [], [], false⟩)
  (Ab (.k rfl (.k rfl (.k rfl (.k rfl (.k rfl .nil))))) (.k rfl (.k rfl (.k rfl (.k rfl .nil)))) .nil rfl rfl) ?_
 refine Add rfl ((J7 g).d _) (Abc (Ju hg)) rfl rfl rfl (by intro x hx; obtain ⟨b, _, rfl⟩ := List.mem_map.1 hx; rfl)
  (fun pre t => ∃ m, (m ≤ (Bc g).length ∧ ((Bc g).take m).findSome? (Jv f) = none) ∧ pre = ((Bc g).take m).map eRow ∧ t.bx = [(2, ⟨[sB f], false⟩), (3, ⟨A7 g, false⟩), (4, ⟨[I 0, I 0], false⟩), (5, ⟨[I 0], false⟩)] ∧ t.rw = [] ∧ t.log = [])
  (fun e t => e = .ret ∧ ∃ z, O5 f g = some z ∧ t.bx = [(2, ⟨[sB f], false⟩), (3, ⟨A7 g, false⟩), (4, ⟨[I z.1, I z.2], false⟩), (5, ⟨[I 0], false⟩)] ∧ t.rw = [] ∧ t.log = [] ∧ t.stp = false) ⟨0, ⟨by omega, rfl⟩, rfl, rfl, rfl, rfl⟩ ?_ ?_ ?_
 ·rintro a0 L0 rc0 h0 S1 S2 ok1 ok2 pre q t lp hlp hpre ⟨m, ⟨hm, hnone⟩, rfl, hbx, hrw, hlog⟩ henv hstp
  obtain ⟨env, bx, rw, log, stp⟩ := t
  simp only at hbx hrw hlog henv hstp
  subst hbx hrw hlog henv hstp
  have hmx : m < (Bc g).length ∧ ∃ b, (Bc g)[m]? = some b ∧ q = eRow b := by
   have h1 : (((Bc g).take m).map eRow).length = m := by simp; omega
   have h2 := hpre.length_le
   simp at h2
   have hml : m < (Bc g).length := by omega
   refine ⟨hml, _, List.getElem?_eq_getElem hml, ?_⟩
   have h3 := List.IsPrefix.getElem hpre (i := m) (by simp; omega)
   simp only [List.getElem_map] at h3
   rw [List.getElem_append_right (by omega)] at h3
   simpa using h3
  obtain ⟨hml, ⟨x, lo, hi⟩, hb, rfl⟩ := hmx
  obtain ⟨b1, b2, b3⟩ := Xl hg (List.mem_of_getElem? hb)
  simp only at b1 b2 b3
  have hsome : ∀ z, Jv f (x, lo, hi) = some z → O5 f g = some z := fun z hz => by
   unfold O5
   have e : Bc g = (Bc g).take m ++ ((x, lo, hi) :: (Bc g).drop (m + 1)) := by
    have hr : (Bc g)[m] = (x, lo, hi) := (List.getElem?_eq_some_iff.1 hb).2
    rw [← hr, ← List.drop_eq_getElem_cons hml, List.take_append_drop]
   rw [e, List.findSome?_append, hnone, List.findSome?_cons, hz]; rfl
  have Gu : Jv f (x, lo, hi) = none → ((Bc g).take (m + 1)).findSome? (Jv f) = none := fun hz => by
   rw [List.take_add_one, hb, List.findSome?_append, hnone]
   simp [hz]
  have hnext : ((Bc g).take (m + 1)).map eRow = ((Bc g).take m).map eRow ++ [eRow (x, lo, hi)] := by
   rw [List.take_add_one, hb]; simp
  refine A9 rfl (by simp) ?_
  refine Tr.weak (s' := ⟨[(2, .ptr 2 0), (3, .ptr 3 0), (4, .ptr 4 0), (5, .ptr 5 0), (7, .ptr 7 0)], [(2, ⟨[sB f], false⟩), (3, ⟨A7 g, false⟩), (4, ⟨[I 0, I 0], false⟩), (5, ⟨[I 0], false⟩), (7, ⟨[I x, I lo, I hi], false⟩)], [], [], false⟩)
   (Ab (.k rfl (.k rfl (.k rfl (.k rfl (.k rfl .nil))))) (.k rfl (.k rfl (.k rfl (.k rfl (.k rfl .nil))))) .nil rfl rfl) ?_
  refine Tr.block (Tr.seq (A3 rfl (by simp [sB]) (Steps.call rfl rfl (Acx f) (Steps.fin rfl (by simp) (Tr.block ?_)))))
  refine Tr.weak (s' := ⟨[(27, .func (.func Eo) [] [.vptr [sB f] 0]), (2, .ptr 2 0), (3, .ptr 3 0), (4, .ptr 4 0), (5, .ptr 5 0), (7, .ptr 7 0)], [(2, ⟨[sB f], false⟩), (3, ⟨A7 g, false⟩), (4, ⟨[I 0, I 0], false⟩), (5, ⟨[I 0], false⟩), (7, ⟨[I x, I lo, I hi], false⟩)], [], [], false⟩)
   (Ab (.k rfl (.k rfl (.k rfl (.k rfl (.k rfl (.k rfl .nil)))))) (.k rfl (.k rfl (.k rfl (.k rfl (.k rfl .nil))))) .nil rfl rfl) ?_
  refine Adc hlp rfl ((Tv f).d _) (Aba hl6) rfl rfl rfl (by intro x hx; obtain ⟨b, _, rfl⟩ := List.mem_map.1 hx; rfl)
   (fun pre t => ∃ k lh, (k ≤ f.length ∧ clBd lh ∧ Wj x ((Ci f).drop k) lh = Wj x (Ci f) (lo, hi)) ∧ pre = ((Ci f).take k).map Jm ∧ t.bx = [(2, ⟨[sB f], false⟩), (3, ⟨A7 g, false⟩), (4, ⟨[I 0, I 0], false⟩), (5, ⟨[I 0], false⟩), (7, ⟨[I x, I lh.1, I lh.2], false⟩)] ∧ t.rw = [] ∧ t.log = [])
   (fun e t => e = .exit 1 ∧ Wj x (Ci f) (lo, hi) = none ∧ ∃ u v, t.bx = [(2, ⟨[sB f], false⟩), (3, ⟨A7 g, false⟩), (4, ⟨[I 0, I 0], false⟩), (5, ⟨[I 0], false⟩), (7, ⟨[I x, I u, I v], false⟩)] ∧ t.rw = [] ∧ t.log = [] ∧ t.stp = false) ⟨0, (lo, hi), ⟨by omega, by unfold clBd; simp only; omega, rfl⟩, rfl, rfl, rfl, rfl⟩ ?_ ?_ ?_
  ·rintro a1 L1 rc1 h1 T1 T2 okT1 okT2 pre q t lq hlq hpre ⟨k, lh, ⟨hk, hbd, hclip⟩, rfl, hbx, hrw, hlog⟩ henv hstp
   obtain ⟨env, bx, rw, log, stp⟩ := t
   simp only at hbx hrw hlog henv hstp
   subst hbx hrw hlog henv hstp
   have hmx : k < f.length ∧ q = Jm (Fd f k) := by
    have hsl := Fk f
    have h1 : (((Ci f).take k).map Jm).length = k := by simp; omega
    have h2 := hpre.length_le
    simp at h2
    have hml : k < f.length := by omega
    refine ⟨hml, ?_⟩
    have h3 := List.IsPrefix.getElem hpre (i := k) (by simp; omega)
    rw [List.getElem_append_right (by omega)] at h3
    have h4 := Fl hml
    have h5 : (Ci f)[k] = Fd f k := Option.some.inj ((List.getElem?_eq_getElem (by omega)).symm.trans h4)
    simp only [List.getElem_map, h5] at h3
    simpa using h3
   obtain ⟨hkl, rfl⟩ := hmx
   obtain ⟨pl1, pl2⟩ := A9u hfp hkl
   have hstep2 := Ack (x := x) hkl lh
   rw [hclip] at hstep2
   have hnx : ((Ci f).take (k + 1)).map Jm = ((Ci f).take k).map Jm ++ [Jm (Fd f k)] := by
    rw [List.take_add_one, Fl hkl]; simp
   obtain ⟨⟨a, b⟩, hab⟩ : ∃ q, Fd f k = q := ⟨_, rfl⟩
   rw [hab] at pl1 pl2 hstep2 hnx ⊢
   simp only at pl1 pl2
   have hbd2 := fun lh' e => clip1_bd (lh := lh) (lh' := lh') b1 pl1 pl2 hbd e
   have hcn := clip_n b1 pl1 pl2
   have pa := Bd pl1
   have pb := Bd pl2
   obtain ⟨lh1, lh2⟩ := lh
   unfold clBd at hbd
   simp only at hbd
   refine A2 rfl (by simp) (A9 rfl (by simp) ?_)
   refine Tr.weak (s' := ⟨[(2, .ptr 2 0), (3, .ptr 3 0), (4, .ptr 4 0), (5, .ptr 5 0), (7, .ptr 7 0), (8, .ptr 8 0), (9, .ptr 9 0)], [(2, ⟨[sB f], false⟩), (3, ⟨A7 g, false⟩), (4, ⟨[I 0, I 0], false⟩), (5, ⟨[I 0], false⟩), (7, ⟨[I x, I lh1, I lh2], false⟩), (8, ⟨[I a.1, I a.2], false⟩), (9, ⟨[I b.1, I b.2], false⟩)], [], [], false⟩)
    (Ab (.k rfl (.k rfl (.k rfl (.k rfl (.k rfl (.k rfl (.k rfl .nil))))))) (.k rfl (.k rfl (.k rfl (.k rfl (.k rfl (.k rfl (.k rfl .nil))))))) .nil rfl rfl) ?_
   have q1 := Dl (x := b.1 - a.1) (y := a.2) (B := 65536) (C := 32768) (by omega) (by omega) (by omega) (by omega)
   have q2 := Dl (x := b.2 - a.2) (y := x - a.1) (B := 65536) (C := 65536) (by omega) (by omega) (by omega) (by omega)
   obtain ⟨kk, hkk⟩ : ∃ kk, b.1 - a.1 = kk := ⟨_, rfl⟩
   obtain ⟨nn, hnn⟩ : ∃ nn, (b.1 - a.1) * a.2 + (b.2 - a.2) * (x - a.1) = nn := ⟨_, rfl⟩
   have hc1 : A2b x (lh1, lh2) (a, b) = if 0 < kk then some (max lh1 (-(-nn / kk)), lh2) else if kk < 0 then some (lh1, min lh2 (-nn / -kk)) else if 0 < nn then none else some (lh1, lh2) := by
    unfold A2b; simp only; rw [hnn, hkk]
   rw [hc1] at hstep2 hbd2
   rw [hnn] at hcn
   refine Tr.block (A2 rfl (by simp) (A2 rfl (by simp) ?_))
   refine Tr.weak (s' := ⟨[(2, .ptr 2 0), (3, .ptr 3 0), (4, .ptr 4 0), (5, .ptr 5 0), (7, .ptr 7 0), (10, I kk), (11, I nn)], [(2, ⟨[sB f], false⟩), (3, ⟨A7 g, false⟩), (4, ⟨[I 0, I 0], false⟩), (5, ⟨[I 0], false⟩), (7, ⟨[I x, I lh1, I lh2], false⟩)], [], [], false⟩)
    (Ab (.k rfl (.k rfl (.k rfl (.k rfl (.k rfl (.cons rfl (VLe.i ?_) (.cons rfl (VLe.i ?_) .nil))))))) (.k rfl (.k rfl (.k rfl (.k rfl (.k rfl .nil))))) .nil rfl rfl) ?_
   ·rw [← hkk]; exact w64 (by omega) (by omega)
   ·rw [← hnn]; simp (disch := omega) only [w64]
   clear hnn q1 q2 hc1
   have pk : -65536 ≤ kk ∧ kk ≤ 65536 := by omega
   refine Tr.block (A2 rfl (by simp) (Tr.cond rfl rfl (fun h2 => ?_) (fun h2 => ?_)))
   ·have h2 : 0 < kk := by have : decide (kk > 0) = true := h2; exact of_decide_eq_true this
    rw [if_pos h2] at hstep2 hbd2
    simp only at hstep2
    have ku := c_up (a := nn) h2 (by omega)
    refine A8 (TraceK.run rfl (by simp) (TraceK.call rfl rfl ku (TraceK.run rfl (by simp) (.done ⟨by kernel_rfl, by kernel_rfl, ?_⟩))))
    refine ⟨⟨[], [(2, ⟨[sB f], false⟩), (3, ⟨A7 g, false⟩), (4, ⟨[I 0, I 0], false⟩), (5, ⟨[I 0], false⟩), (7, ⟨[I x, I (max lh1 (-(-nn / kk))), I lh2], false⟩)], [], [], false⟩, Ab .nil (.k rfl (.k rfl (.k rfl (.k rfl (.cons rfl (.cons (.refl _) (.cons (VLe.i ?_) (.cons (.refl _) .nil))) .nil))))) .nil rfl rfl, ⟨k + 1, _, ⟨hkl, hbd2 _ rfl, hstep2.symm⟩, hnx.symm, rfl, rfl, rfl⟩, rfl⟩
    simp only [cond_true, cond_false, H7]
   have h2 : ¬ 0 < kk := by have : decide (kk > 0) = false := h2; exact of_decide_eq_false this
   rw [if_neg h2] at hstep2 hbd2
   refine A2 rfl (by simp) (Tr.cond rfl rfl (fun h3 => ?_) (fun h3 => ?_))
   ·have h3 : kk < 0 := by have : decide (kk < 0) = true := h3; exact of_decide_eq_true this
    rw [if_pos h3] at hstep2 hbd2
    simp only at hstep2
    have ku : C Tryz.prog Jq [I (w (0 - nn)), I (w (0 - kk))] (I (-nn / -kk)) := by
     have e1 : w (0 - nn) = -nn := by rw [w, w64 (by omega) (by omega)]; omega
     have e2 : w (0 - kk) = -kk := by rw [w, w64 (by omega) (by omega)]; omega
     rw [e1, e2]; exact c_down (by omega) (by omega)
    refine A8 (TraceK.run rfl (by simp) (TraceK.call rfl rfl ku (TraceK.run rfl (by simp) (.done ⟨by kernel_rfl, by kernel_rfl, ?_⟩))))
    refine ⟨⟨[], [(2, ⟨[sB f], false⟩), (3, ⟨A7 g, false⟩), (4, ⟨[I 0, I 0], false⟩), (5, ⟨[I 0], false⟩), (7, ⟨[I x, I lh1, I (min lh2 (-nn / -kk))], false⟩)], [], [], false⟩, Ab .nil (.k rfl (.k rfl (.k rfl (.k rfl (.cons rfl (.cons (.refl _) (.cons (.refl _) (.cons (VLe.i ?_) .nil))) .nil))))) .nil rfl rfl, ⟨k + 1, _, ⟨hkl, hbd2 _ rfl, hstep2.symm⟩, hnx.symm, rfl, rfl, rfl⟩, rfl⟩
    simp only [cond_true, cond_false, Jc]
   have h3 : ¬ kk < 0 := by have : decide (kk < 0) = false := h3; exact of_decide_eq_false this
   rw [if_neg h3] at hstep2 hbd2
   refine A2 rfl (by simp) (Tr.cond rfl rfl (fun h4 => ?_) (fun h4 => ?_))
   ·have h4 : 0 < nn := by have : decide (nn > 0) = true := h4; exact of_decide_eq_true this
    rw [if_pos h4] at hstep2
    refine Tr.exit ?_
    exact ⟨⟨[], [(2, ⟨[sB f], false⟩), (3, ⟨A7 g, false⟩), (4, ⟨[I 0, I 0], false⟩), (5, ⟨[I 0], false⟩), (7, ⟨[I x, I lh1, I lh2], false⟩)], [], [], false⟩, Ab .nil (.k rfl (.k rfl (.k rfl (.k rfl (.k rfl .nil))))) .nil rfl rfl, rfl, hstep2, lh1, lh2, rfl, rfl, rfl, rfl⟩
   ·have h4 : ¬ 0 < nn := by have : decide (nn > 0) = false := h4; exact of_decide_eq_false this
    rw [if_neg h4] at hstep2 hbd2
    simp only at hstep2
    refine Tr.skip ?_
    exact ⟨⟨[], [(2, ⟨[sB f], false⟩), (3, ⟨A7 g, false⟩), (4, ⟨[I 0, I 0], false⟩), (5, ⟨[I 0], false⟩), (7, ⟨[I x, I lh1, I lh2], false⟩)], [], [], false⟩, Ab .nil (.k rfl (.k rfl (.k rfl (.k rfl (.k rfl .nil))))) .nil rfl rfl, ⟨k + 1, _, ⟨hkl, hbd2 _ rfl, hstep2.symm⟩, hnx.symm, rfl, rfl, rfl⟩, rfl⟩
  ·rintro ⟨env, bx, rw, log, stp⟩ henv hstp ⟨k, ⟨u, v⟩, ⟨hk, hbd, hclip⟩, hpre, hbx, hrw, hlog⟩
   simp only at hbx hrw hlog henv hstp
   subst hbx hrw hlog henv hstp
   have hkl : k = f.length := by
    have := congrArg List.length hpre
    have hsl := Fk f
    simp at this; omega
   subst hkl
   rw [← Fk f, List.drop_length] at hclip
   have hclip : some (u, v) = Wj x (Ci f) (lo, hi) := hclip
   refine A2 rfl (by simp) (Tr.cond rfl rfl (fun h2 => ?_) (fun h2 => ?_))
   ·have h2 : u ≤ v := by have : decide (u ≤ v) = true := h2; exact of_decide_eq_true this
    have hz : Jv f (x, lo, hi) = some (x, u) := by
     unfold Jv
     simp only
     rw [← hclip]
     simp only
     rw [if_pos h2]
    refine A2 rfl (by simp) (Tr.ret ?_)
    exact ⟨⟨[], [(2, ⟨[sB f], false⟩), (3, ⟨A7 g, false⟩), (4, ⟨[I x, I u], false⟩), (5, ⟨[I 0], false⟩)], [], [], false⟩, Ab .nil (.k rfl (.k rfl (.k rfl (.k rfl .nil)))) .nil rfl rfl, rfl, (x, u), hsome _ hz, rfl, rfl, rfl, rfl⟩
   ·have h2 : ¬ u ≤ v := by have : decide (u ≤ v) = false := h2; exact of_decide_eq_false this
    have hz : Jv f (x, lo, hi) = none := by
     unfold Jv
     simp only
     rw [← hclip]
     simp only
     rw [if_neg h2]
    refine Tr.skip ?_
    exact ⟨⟨[], [(2, ⟨[sB f], false⟩), (3, ⟨A7 g, false⟩), (4, ⟨[I 0, I 0], false⟩), (5, ⟨[I 0], false⟩)], [], [], false⟩, Ab .nil (.k rfl (.k rfl (.k rfl (.k rfl .nil)))) .nil rfl rfl, ⟨m + 1, ⟨hml, Gu hz⟩, hnext.symm, rfl, rfl, rfl⟩, rfl⟩
  ·rintro e ⟨env, bx, rw, log, stp⟩ henv ⟨rfl, hno, u, v, hbx, hrw, hlog, hst⟩
   simp only at hbx hrw hlog henv hst
   subst hbx hrw hlog henv hst
   have hz : Jv f (x, lo, hi) = none := by
    unfold Jv
    simp only
    rw [hno]
   exact ⟨⟨[], [(2, ⟨[sB f], false⟩), (3, ⟨A7 g, false⟩), (4, ⟨[I 0, I 0], false⟩), (5, ⟨[I 0], false⟩)], [], [], false⟩, Ab .nil (.k rfl (.k rfl (.k rfl (.k rfl .nil)))) .nil rfl rfl, ⟨m + 1, ⟨hml, Gu hz⟩, hnext.symm, rfl, rfl, rfl⟩, rfl⟩
 ·rintro ⟨env, bx, rw, log, stp⟩ henv hstp ⟨m, ⟨hm, hnone⟩, hpre, hbx, hrw, hlog⟩
  simp only at hbx hrw hlog henv hstp
  subst hbx hrw hlog henv hstp
  have hml : m = (Bc g).length := by
   have := congrArg List.length hpre
   simp at this; omega
  subst hml
  rw [List.take_length] at hnone
  have e : O5 f g = none := hnone
  rw [e]
  exact A2 rfl (by simp) (A5 rfl rfl rfl rfl trivial)
 ·rintro e ⟨env, bx, rw, log, stp⟩ henv ⟨rfl, z, hz, hbx, hrw, hlog, hst⟩
  simp only at hbx hrw hlog henv hst
  subst hbx hrw hlog henv hst
  refine ⟨trivial, _, _, _, C2 rfl, rfl, ?_⟩
  rw [hz]; rfl
end
section
open Go.Am
theorem c_indexB {l : List (Int × Int)} {p : Int × Int → Bool} {f : FuncId} (hl : l.length ≤ 9223372036854775807) (hp : ∀ b ∈ l, C Tryz.prog f [eB b] (.bool (p b))) :
  C Tryz.prog Eb [sB l, .func (.func f) [] []] (I (Fg p l 0)) := by
 refine C_of mixed Du (by simp) fun S ok => ?_
 refine A2 rfl (by simp) ?_
 refine Tr.seq (A2 rfl (by simp) (Tr.block ?_))
 refine Tr.loop (fun k s => (k ≤ l.length ∧ Fg p l 0 = Fg p (l.drop k) k) ∧ s = ⟨[(0, sB l), (1, .func (.func f) [] []), (7, I l.length), (8, I k)], [], [], [], false⟩) (fun k => l.length - k) 0
  (Ab (.k rfl (.k rfl (.cons rfl (VLe.i (by simp)) (.k rfl .nil)))) .nil .nil rfl rfl) ⟨⟨by omega, by simp⟩, rfl⟩ ?_
 rintro k s ⟨⟨hk, hf⟩, rfl⟩
 refine A2 rfl (by simp) (Ei rfl (fun h1 => ?_) (fun h1 => ?_))
 ·have h1 : k < l.length := by simpa using h1
  refine Cm (Tr.seq (Tr.block (A2 rfl (by simp) (A3 rfl ?_ ?_))))
  ·rw [Ao h1]; simp [eB, cells]; omega
  ·rw [Ao h1]
   refine Steps.callv rfl rfl (hp l[k] (List.getElem_mem h1)) (Steps.fin rfl (by simp) ?_)
   refine Tr.cond rfl rfl (fun h2 => ?_) (fun h2 => ?_)
   ·refine A2 rfl (by simp) (Tr.ret ?_)
    refine ⟨trivial, _, _, _, C2 rfl, rfl, ?_⟩
    rw [hf, Dz p l h1, if_pos h2]; rfl
   ·refine Tr.skip (A9 rfl (by simp) ?_)
    refine ⟨k + 1, _, ?_, ⟨⟨by omega, ?_⟩, rfl⟩, by omega⟩
    ·exact Ab (.k rfl (.k rfl (.k rfl (.cons rfl (VLe.i (w64 (by omega) (by omega))) .nil)))) .nil .nil rfl rfl
    ·rw [hf, Dz p l h1, if_neg (by simp [h2])]
 ·have h1 : k = l.length := by simp at h1; omega
  subst h1
  refine Tr.exit (A2 rfl (by simp) (Bb rfl rfl ?_ trivial))
  rw [hf, List.drop_length]; rfl
theorem A4w {l : List (Int × Int)} {p : Int × Int → Bool} {f : FuncId} (hl : l.length ≤ 9223372036854775807) (hp : ∀ b ∈ l, C Tryz.prog f [eB b] (.bool (p b))) :
  C Tryz.prog Do [sB l, .func (.func f) [] []] (.bool (l.any p)) := by
 refine C_of mixed Dc (by simp) fun S ok => ?_
 refine A2 rfl (by simp) ?_
 refine A3 rfl (by simp) (Steps.call rfl rfl (c_indexB hl hp) (Steps.fin rfl (by simp) (Bb rfl rfl ?_ trivial)))
 rw [← Ky p l 0]; rfl
def As (l : List (List (Int × Int))) : V := .slice 0 1 (l.map sB)
theorem c_indexF {l : List (List (Int × Int))} {p : List (Int × Int) → Bool} {f : FuncId} {us : List V} (hpl : Plain us) (hl : l.length ≤ 9223372036854775807) (hp : ∀ b ∈ l, C Tryz.prog f (sB b :: us) (.bool (p b))) :
  C Tryz.prog Ea [As l, .func (.func f) [] us] (I (Fg p l 0)) := by
 refine C_of mixed Dt (by simp) fun S ok => ?_
 refine A2 rfl (by simp) ?_
 refine Tr.seq (A2 rfl (by simp) (Tr.block ?_))
 refine Tr.loop (fun k s => (k ≤ l.length ∧ Fg p l 0 = Fg p (l.drop k) k) ∧ s = ⟨[(0, As l), (1, .func (.func f) [] us), (7, I l.length), (8, I k)], [], [], [], false⟩) (fun k => l.length - k) 0
  (Ab (.k rfl (.k rfl (.cons rfl (VLe.i (by simp)) (.k rfl .nil)))) .nil .nil (by simp only [Ec, List.all_cons, Bq hpl]; rfl) rfl) ⟨⟨by omega, by simp⟩, rfl⟩ ?_
 rintro k s ⟨⟨hk, hf⟩, rfl⟩
 refine A2 rfl (by simp) (Ei rfl (fun h1 => ?_) (fun h1 => ?_))
 ·have h1 : k < l.length := by simpa using h1
  refine Cm (Tr.seq (Tr.block (A2 rfl (by simp) (A3 rfl ?_ ?_))))
  ·rw [Ao h1]; simp [sB, cells]; omega
  ·rw [Ao h1]
   refine Steps.callv (us := sB l[k] :: us) (ids := []) rfl (by show In _ (toDs _ us) = _; rw [hpl.d]; rfl) (hp l[k] (List.getElem_mem h1)) (Steps.fin rfl (by simp) ?_)
   refine Tr.cond rfl rfl (fun h2 => ?_) (fun h2 => ?_)
   ·refine A2 rfl (by simp) (Tr.ret ?_)
    refine ⟨trivial, _, _, _, C2 rfl, rfl, ?_⟩
    rw [hf, Dz p l h1, if_pos h2]; rfl
   ·refine Tr.skip (A9 rfl (by simp) ?_)
    refine ⟨k + 1, _, ?_, ⟨⟨by omega, ?_⟩, rfl⟩, by omega⟩
    ·exact Ab (.k rfl (.k rfl (.k rfl (.cons rfl (VLe.i (w64 (by omega) (by omega))) .nil)))) .nil .nil (by simp only [Ec, List.all_cons, Bq hpl]; rfl) rfl
    ·rw [hf, Dz p l h1, if_neg (by simp [h2])]
 ·have h1 : k = l.length := by simp at h1; omega
  subst h1
  refine Tr.exit (A2 rfl (by simp) (Bb rfl rfl ?_ trivial))
  rw [hf, List.drop_length]; rfl
theorem Vi {l : List (List (Int × Int))} {p : List (Int × Int) → Bool} {f : FuncId} {us : List V} (hpl : Plain us) (hd2 : ∀ b, toDs b [V.func (.func f) [] us] = some ([V.func (.func f) [] us], [])) (hl : l.length ≤ 9223372036854775807) (hp : ∀ b ∈ l, C Tryz.prog f (sB b :: us) (.bool (p b))) :
  C Tryz.prog Dn [As l, .func (.func f) [] us] (.bool (l.any p)) := by
 refine C_of mixed Db (by simp) fun S ok => ?_
 refine A2 rfl (by simp) ?_
 refine A3 rfl (by simp) (Steps.call (us := [As l, .func (.func f) [] us]) (ids := []) rfl (by show In _ (toDs _ [V.func (.func f) [] us]) = _; rw [hd2]; rfl) (c_indexF hpl hl hp) (Steps.fin rfl (by simp) (Bb rfl rfl ?_ trivial)))
 rw [← Ky p l 0]; rfl
theorem Ad2 {l : List (Int × Int)} {p : Int × Int → Bool} {f : FuncId} (hl : l.length ≤ 9223372036854775807) (hp : ∀ b ∈ l, C Tryz.prog f [eB b] (.bool (p b))) :
  C Tryz.prog Di [sB l, .func (.func f) [] []] (I (Fg p l 0)) := by
 refine C_of mixed D6 (by simp) fun S ok => ?_
 refine A2 rfl (by simp) ?_
 refine Tr.seq (A2 rfl (by simp) (Tr.block ?_))
 refine Tr.loop (fun k s => (k ≤ l.length ∧ Fg p l 0 = Fg p (l.drop k) k) ∧ s = ⟨[(0, sB l), (1, .func (.func f) [] []), (7, I l.length), (8, I k)], [], [], [], false⟩) (fun k => l.length - k) 0
  (Ab (.k rfl (.k rfl (.cons rfl (VLe.i (by simp)) (.k rfl .nil)))) .nil .nil rfl rfl) ⟨⟨by omega, by simp⟩, rfl⟩ ?_
 rintro k s ⟨⟨hk, hf⟩, rfl⟩
 refine A2 rfl (by simp) (Ei rfl (fun h1 => ?_) (fun h1 => ?_))
 ·have h1 : k < l.length := by simpa using h1
  refine Cm (Tr.seq (Tr.block (A2 rfl (by simp) (A3 rfl ?_ ?_))))
  ·rw [Ao h1]; simp [eB, cells]; omega
  ·rw [Ao h1]
   refine Steps.callv rfl rfl (hp l[k] (List.getElem_mem h1)) (Steps.fin rfl (by simp) ?_)
   refine Tr.cond rfl rfl (fun h2 => ?_) (fun h2 => ?_)
   ·refine A2 rfl (by simp) (Tr.ret ?_)
    refine ⟨trivial, _, _, _, C2 rfl, rfl, ?_⟩
    rw [hf, Dz p l h1, if_pos h2]; rfl
   ·refine Tr.skip (A9 rfl (by simp) ?_)
    refine ⟨k + 1, _, ?_, ⟨⟨by omega, ?_⟩, rfl⟩, by omega⟩
    ·exact Ab (.k rfl (.k rfl (.k rfl (.cons rfl (VLe.i (w64 (by omega) (by omega))) .nil)))) .nil .nil rfl rfl
    ·rw [hf, Dz p l h1, if_neg (by simp [h2])]
 ·have h1 : k = l.length := by simp at h1; omega
  subst h1
  refine Tr.exit (A2 rfl (by simp) (Bb rfl rfl ?_ trivial))
  rw [hf, List.drop_length]; rfl
theorem A2m {l : List (Int × Int)} {p : Int × Int → Bool} {f : FuncId} (hl : l.length ≤ 9223372036854775807) (hp : ∀ b ∈ l, C Tryz.prog f [eB b] (.bool (p b))) :
  C Tryz.prog D3 [sB l, .func (.func f) [] []] (.bool (l.any p)) := by
 refine C_of mixed Cx (by simp) fun S ok => ?_
 refine A2 rfl (by simp) ?_
 refine A3 rfl (by simp) (Steps.call rfl rfl (Ad2 hl hp) (Steps.fin rfl (by simp) (Bb rfl rfl ?_ trivial)))
 rw [← Ky p l 0]; rfl
end
section
open Go.Am
attribute [local simp] cells Aa mkv Ag Ap under dem dem1 eB A7 B8
theorem D2 (n lo hi : Int) : C Tryz.prog I0 [I n, I lo, I hi] (.bool (btw n lo hi)) := by
 refine C_of mixed Wl (by simp) fun S ok => ?_
 refine A2 rfl (by simp) ?_
 refine A2 rfl (by simp) ?_
 refine Bb rfl rfl ?_ trivial
 simp [Cp, btw]
theorem Td {l : Int} (b : Int × Int) (hl : 0 ≤ l ∧ l ≤ 65536) : C Tryz.prog A5b [eB b, I l] (.bool (E8 l b)) := by
 refine C_of mixed Zy (by simp) fun S ok => ?_
 have e : IntKind.wrap .i64 (0 - l) = -l := by rw [w64 (by omega) (by omega)]; omega
 refine A2 rfl (by simp) (A3 rfl (by simp) ?_)
 rw [e]
 refine Steps.call rfl rfl (D2 _ _ _) (Steps.fin rfl (by simp) (Bb rfl rfl ?_ trivial))
 show V.bool (E8 l b) = .bool (bif btw b.1 (-l) b.2 then decide (b.2 ≤ l) else false)
 congr 1
 unfold E8 btw
 rw [Bool.cond_false_right]
theorem A8t (b : Int × Int) : C Tryz.prog Oj [eB b] (.bool (!E8 16384 b)) := by
 refine C_of mixed L6 (by simp) fun S ok => ?_
 refine A2 rfl (by simp) (A3 rfl (by simp) (Steps.call rfl rfl (Td b (by omega)) (Steps.fin rfl (by simp) (Bb rfl rfl rfl trivial))))
theorem c_still (n : Int) : C Tryz.prog A59 [I n] (eB (n, n)) := by
 refine C_of mixed Zw (by simp) fun S ok => ?_
 exact A2 rfl (by simp) (A2 rfl (by simp) (Bb rfl rfl rfl trivial))
structure Sec where
 len : Int
 fol : Int
 bird : Int
 drag : Int
 cap : Int
structure Strm where
 head : Int
 secs : List Sec
 lane : Int × Int
 bend : Int
def secC (x : Sec) : List V := [I x.len, I x.fol, I x.bird, I x.drag, I x.cap]
def eSec (x : Sec) : V := .agg (secC x)
def Bp (l : List Sec) : V := .slice 0 5 (l.map eSec)
def strC (s : Strm) : List V := [I s.head, Bp s.secs, I s.lane.1, I s.lane.2, I s.bend]
def eStr (s : Strm) : V := .agg (strC s)
def strZ : List V := [I 0, .nils, I 0, I 0, I 0]
def A0y (x : Sec) : Bool := btw x.len 1 1000 && btw x.fol 0 64 && btw x.bird 0 1000 && btw x.drag 0 1000 && btw x.cap 0 1073741824
def A6b (s : Strm) : Bool := btw s.head (-2000) 2000 && btw s.secs.length 1 8 && E8 4000 s.lane && btw s.bend 0 1000
def Qi (s : Strm) : Bool := A6b s && s.secs.all A0y
theorem A6x {s : Strm} (hl : s.secs.length ≤ 9223372036854775807) : C Tryz.prog Vp [eStr s] (I (if Qi s then 0 else 30)) := by
 obtain ⟨hd, ss, ln, bd⟩ := s
 have hlm : (ss.map eSec).length = ss.length := List.length_map _
 simp only at hl
 obtain ⟨g1, hg1⟩ : ∃ g, btw hd (-2000) 2000 = g := ⟨_, rfl⟩
 obtain ⟨g2, hg2⟩ : ∃ g, btw (ss.length : Int) 1 8 = g := ⟨_, rfl⟩
 obtain ⟨g3, hg3⟩ : ∃ g, E8 4000 ln = g := ⟨_, rfl⟩
 obtain ⟨g4, hg4⟩ : ∃ g, btw bd 0 1000 = g := ⟨_, rfl⟩
 have hh : A6b ⟨hd, ss, ln, bd⟩ = (g1 && g2 && g3 && g4) := by unfold A6b; simp only; rw [hg1, hg2, hg3, hg4]
 have k1 := D2 hd (-2000) 2000
 have k2 := D2 (ss.length : Int) 1 8
 have k3 := Td (l := 4000) ln (by omega)
 have k4 := D2 bd 0 1000
 rw [hg1] at k1
 rw [hg2] at k2
 rw [hg3] at k3
 rw [hg4] at k4
 refine C_of mixed Zz (by simp) fun S ok => ?_
 refine A2 rfl (by simp [eStr, strC, Bp]) (Tr.seq (A3 rfl (by simp [eStr, strC, Bp]) (Steps.call rfl rfl k1 (Steps.run rfl (by cases g1 <;> simp [eStr, strC, Bp]) ?_))))
 rw [hlm]
 refine Steps.gcall (r := .bool g2) rfl rfl rfl rfl (by cases g1 <;> simp) (fun _ => k2) (Steps.run rfl (by cases g1 <;> cases g2 <;> simp [eStr, strC, Bp]) ?_)
 refine Steps.gcall (r := .bool g3) rfl rfl rfl rfl (by cases g1 <;> cases g2 <;> simp) (fun _ => k3) (Steps.run rfl (by cases g1 <;> cases g2 <;> cases g3 <;> simp [eStr, strC, Bp]) ?_)
 refine Steps.gcall (r := .bool g4) rfl rfl rfl rfl (by cases g1 <;> cases g2 <;> cases g3 <;> simp) (fun _ => k4) (Steps.fin rfl (by cases g1 <;> cases g2 <;> cases g3 <;> cases g4 <;> simp) ?_)
 refine Tr.cond rfl rfl (fun h => ?_) (fun h => ?_)
 ·have h : (g1 && g2 && g3 && g4) = false := by revert h; cases g1 <;> cases g2 <;> cases g3 <;> cases g4 <;> simp
  refine A2 rfl (by simp) (A5 rfl rfl rfl ?_ trivial)
  simp [Cp, Qi, hh, h]
 have h : (g1 && g2 && g3 && g4) = true := by revert h; cases g1 <;> cases g2 <;> cases g3 <;> cases g4 <;> simp
 have h8 : g2 = true := by simp only [Bool.and_eq_true] at h; exact h.1.1.2
 rw [h8, Ca] at hg2
 clear hg1 hg3 hg4 k1 k2 k3 k4 h8
 refine Tr.skip ?_
 refine Tr.weak (s' := ⟨[(1, .ptr 1 0)], [(1, ⟨[I hd, Bp ss, I ln.1, I ln.2, I bd], false⟩)], [], [], false⟩)
  (Ab (.k rfl .nil) (.k rfl .nil) .nil rfl rfl) ?_
 refine Tr.seq (A2 rfl (by simp [Bp]) (Tr.block ?_))
 refine Tr.loop (fun (k : Nat) st => (k ≤ ss.length ∧ (ss.take k).all A0y = true) ∧ st = ⟨[(29, Bp ss), (30, I (ss.length : Nat)), (31, I (k : Nat))], [], [], [], false⟩) (fun k => ss.length - k) 0
  (Ab (.k rfl (.cons rfl (VLe.i (by simp [Bp])) (.cons rfl (VLe.i rfl) .nil))) .nil .nil rfl rfl) ⟨⟨by omega, by simp⟩, rfl⟩ ?_
 rintro k st ⟨⟨hk, hf⟩, rfl⟩
 refine A2 rfl (by simp) (Ei rfl (fun h2 => ?_) (fun h2 => ?_))
 ·have h2 : k < ss.length := by simpa using h2
  refine Cm (Tr.seq (Tr.block (A2 rfl ?_ ?_)))
  ·rw [Ao h2]; simp [eSec, secC]; omega
  rw [Ao h2]
  obtain ⟨x, hx⟩ : ∃ x, ss[k] = x := ⟨_, rfl⟩
  rw [hx]
  have k1 := D2 x.len 1 1000
  have k2 := D2 x.fol 0 64
  have k3 := D2 x.bird 0 1000
  have k4 := D2 x.drag 0 1000
  have k5 := D2 x.cap 0 1073741824
  obtain ⟨g1, hg1⟩ : ∃ g, btw x.len 1 1000 = g := ⟨_, rfl⟩
  obtain ⟨g2, hg2⟩ : ∃ g, btw x.fol 0 64 = g := ⟨_, rfl⟩
  obtain ⟨g3, hg3⟩ : ∃ g, btw x.bird 0 1000 = g := ⟨_, rfl⟩
  obtain ⟨g4, hg4⟩ : ∃ g, btw x.drag 0 1000 = g := ⟨_, rfl⟩
  obtain ⟨g5, hg5⟩ : ∃ g, btw x.cap 0 1073741824 = g := ⟨_, rfl⟩
  have hs : A0y x = (g1 && g2 && g3 && g4 && g5) := by unfold A0y; rw [hg1, hg2, hg3, hg4, hg5]
  rw [hg1] at k1
  rw [hg2] at k2
  rw [hg3] at k3
  rw [hg4] at k4
  rw [hg5] at k5
  refine A3 rfl (by simp [eSec, secC]) (Steps.call rfl rfl k1 (Steps.run rfl (by cases g1 <;> simp [eSec, secC]) ?_))
  refine Steps.gcall (r := .bool g2) rfl rfl rfl rfl (by cases g1 <;> simp) (fun _ => k2) (Steps.run rfl (by cases g1 <;> cases g2 <;> simp [eSec, secC]) ?_)
  refine Steps.gcall (r := .bool g3) rfl rfl rfl rfl (by cases g1 <;> cases g2 <;> simp) (fun _ => k3) (Steps.run rfl (by cases g1 <;> cases g2 <;> cases g3 <;> simp [eSec, secC]) ?_)
  refine Steps.gcall (r := .bool g4) rfl rfl rfl rfl (by cases g1 <;> cases g2 <;> cases g3 <;> simp) (fun _ => k4) (Steps.run rfl (by cases g1 <;> cases g2 <;> cases g3 <;> cases g4 <;> simp [eSec, secC]) ?_)
  refine Steps.gcall (r := .bool g5) rfl rfl rfl rfl (by cases g1 <;> cases g2 <;> cases g3 <;> cases g4 <;> simp) (fun _ => k5) (Steps.fin rfl (by cases g1 <;> cases g2 <;> cases g3 <;> cases g4 <;> cases g5 <;> simp) ?_)
  refine Tr.cond rfl rfl (fun h3 => ?_) (fun h3 => ?_)
  ·have h3 : A0y x = false := by rw [hs]; revert h3; cases g1 <;> cases g2 <;> cases g3 <;> cases g4 <;> cases g5 <;> simp
   refine A2 rfl (by simp) (A5 rfl rfl rfl ?_ trivial)
   have : ss.all A0y = false := by
    rw [List.all_eq_false]; exact ⟨ss[k], List.getElem_mem h2, by rw [hx, h3]; simp⟩
   simp [Cp, Qi, this]
  ·have h3 : A0y x = true := by rw [hs]; revert h3; cases g1 <;> cases g2 <;> cases g3 <;> cases g4 <;> cases g5 <;> simp
   refine Tr.skip (A9 rfl (by simp) ?_)
   refine ⟨k + 1, _, Ab (.k rfl (.k rfl (.cons rfl (VLe.i (w64 (by omega) (by omega))) .nil))) .nil .nil rfl rfl, ⟨⟨h2, ?_⟩, rfl⟩, by omega⟩
   rw [List.take_add_one, List.all_append, hf, List.getElem?_eq_getElem h2, hx]
   simp [h3]
 ·have h2 : k = ss.length := by simp at h2; omega
  subst h2
  rw [List.take_length] at hf
  refine Tr.exit (A2 rfl (by simp) (A5 rfl rfl rfl ?_ trivial))
  simp [Cp, Qi, hh, h, hf]
def Jt (s : Strm) (b : List (Int × Int)) : Bool := (b.length == s.secs.length) && b.all (E8 16384)
theorem Acs {s : Strm} {b : List (Int × Int)} (hl : s.secs.length ≤ 9223372036854775807) (hb : b.length ≤ 9223372036854775807) : C Tryz.prog Rh [eStr s, sB b] (.bool (Jt s b)) := by
 have kc := A4w (l := b) (p := fun b => !E8 16384 b) hb (fun x _ => A8t x)
 obtain ⟨g1, hg1⟩ : ∃ g, (b.length == s.secs.length) = g := ⟨_, rfl⟩
 obtain ⟨g2, hg2⟩ : ∃ g, b.any (fun b => !E8 16384 b) = g := ⟨_, rfl⟩
 rw [hg2] at kc
 have e : Jt s b = (g1 && !g2) := by
  unfold Jt; rw [hg1, ← hg2]
  congr 1
  rw [List.all_eq_not_any_not]
 refine C_of mixed O6 (by simp) fun S ok => ?_
 refine A2 rfl (by simp [eStr, strC, Bp]) (A3 rfl (by simp [eStr, strC, Bp, sB]) ?_)
 rw [List.length_map, List.length_map, show ((b.length : Int) == (s.secs.length : Int)) = g1 by rw [← hg1]; exact Bool.not_inj (neB _ _)]
 refine Steps.gcall (r := .bool g2) rfl rfl rfl rfl (by cases g1 <;> simp) (fun _ => kc) (Steps.fin rfl (by cases g1 <;> simp) (A5 rfl rfl rfl ?_ trivial))
 rw [e]; cases g1 <;> rfl
theorem Ad7 {s : Strm} {b : List (Int × Int)} (hl : s.secs.length ≤ 9223372036854775807) (hb : b.length ≤ 9223372036854775807) :
  ((Qi s && Jt s b) = true → C Tryz.prog Q0 [eStr s, sB b] (.tuple [eStr s, I 0])) ∧ ((Qi s && Jt s b) = false → ∃ e : Int, e ≠ 0 ∧ C Tryz.prog Q0 [eStr s, sB b] (.tuple [.agg strZ, I e])) := by
 have kc := A6x (s := s) hl
 have kb := Acs hl hb
 refine ⟨fun h => ?_, fun h => ?_⟩
 ·rw [Bool.and_eq_true] at h
  rw [h.1, if_pos rfl] at kc
  rw [h.2] at kb
  refine C_of mixed Hc (by simp) fun S ok => ?_
  refine A2 rfl (by simp [eStr, strC, Bp]) (Tr.seq (A3 rfl (by simp [eStr, strC, Bp]) (Steps.call rfl rfl kc (Steps.fin rfl (by simp) (A2 rfl (by simp) (A4 rfl (Tr.skip ?_)))))))
  refine Tr.seq (A2 rfl (by simp [eStr, strC, Bp]) (A3 rfl (by simp [eStr, strC, Bp]) (Steps.call rfl rfl kb (Steps.fin rfl (by simp) (A6 rfl ?_)))))
  exact A2 rfl (by simp [eStr, strC, Bp]) (A5 rfl rfl rfl rfl trivial)
 ·cases h1 : Qi s with
  | false =>
    rw [h1, if_neg (by simp)] at kc
    refine ⟨30, by decide, C_of mixed Hc (by simp) fun S ok => ?_⟩
    refine A2 rfl (by simp [eStr, strC, Bp]) (Tr.seq (A3 rfl (by simp [eStr, strC, Bp]) (Steps.call rfl rfl kc (Steps.fin rfl (by simp) (A2 rfl (by simp) (A6 rfl ?_))))))
    exact A2 rfl (by simp) (A5 rfl rfl rfl rfl trivial)
  | true =>
    rw [h1, if_pos rfl] at kc
    have h2 : Jt s b = false := by rw [h1] at h; simpa using h
    rw [h2] at kb
    refine ⟨31, by decide, C_of mixed Hc (by simp) fun S ok => ?_⟩
    refine A2 rfl (by simp [eStr, strC, Bp]) (Tr.seq (A3 rfl (by simp [eStr, strC, Bp]) (Steps.call rfl rfl kc (Steps.fin rfl (by simp) (A2 rfl (by simp) (A4 rfl (Tr.skip ?_)))))))
    refine Tr.seq (A2 rfl (by simp [eStr, strC, Bp]) (A3 rfl (by simp [eStr, strC, Bp]) (Steps.call rfl rfl kb (Steps.fin rfl (by simp) (A4 rfl (Tr.skip ?_))))))
    exact A2 rfl (by simp) (A5 rfl rfl rfl rfl trivial)
end
section
open Go.Am
attribute [local simp] cells Aa mkv Ag Ap under dem dem1 eB A7 B8 sB
def F3 (L : List (Int × Int)) : List V := L.flatMap fun a => [I a.1, I a.2]
theorem A1w (L : List (Int × Int)) : (F3 L).length = 2 * L.length := by
 unfold F3
 induction L with
 | nil => rfl
 | cons a L ih => rw [List.flatMap_cons, List.length_append, ih]; simp; omega
theorem Y1 : ∀ (L : List (Int × Int)) (k : Nat), List.drop (2 * k) (F3 L) = F3 (L.drop k)
 | L, 0 => by simp
 | [], k + 1 => by simp [F3]
 | a :: L, k + 1 => by
   have e : F3 (a :: L) = I a.1 :: I a.2 :: F3 L := rfl
   rw [e, show 2 * (k + 1) = 2 * k + 1 + 1 by omega, List.drop_succ_cons, List.drop_succ_cons, List.drop_succ_cons, Y1 L k]
theorem Y0 : ∀ (L : List (Int × Int)) (k : Nat), List.take (2 * k) (F3 L) = F3 (L.take k)
 | L, 0 => by simp [F3]
 | [], k + 1 => by simp [F3]
 | a :: L, k + 1 => by
   have e : F3 (a :: L) = I a.1 :: I a.2 :: F3 L := rfl
   rw [e, show 2 * (k + 1) = 2 * k + 1 + 1 by omega, List.take_succ_cons, List.take_succ_cons, List.take_succ_cons, Y0 L k]
   rfl
theorem Abn (L M : List (Int × Int)) : F3 (L ++ M) = F3 L ++ F3 M := by
 unfold F3; rw [List.flatMap_append]
theorem Abm (L : List (Int × Int)) (k : Nat) (hk : k < L.length) (c : Int × Int) : List.take (2 * k) (F3 L) ++ [I c.1, I c.2] ++ List.drop (2 * k + 2) (F3 L) = F3 (L.take k ++ c :: L.drop (k + 1)) := by
 rw [Y0, show 2 * k + 2 = 2 * (k + 1) by omega, Y1, Abn, List.append_assoc]
 rfl
theorem A84 (L : List (Int × Int)) (B : Nat → Bool) (R : Nat → Option (Nat × Nat × Nat)) : (F3 L).all (B6 B R 6) = true := by
 rw [List.all_eq_true]
 intro x hx
 obtain ⟨a, _, h⟩ := List.mem_flatMap.1 hx
 rcases List.mem_cons.1 h with rfl | h
 ·rfl
 ·rw [List.mem_singleton] at h; subst h; rfl
theorem A83 (n : Nat) : (List.replicate n [I 0, I 0]).flatten = F3 (List.replicate n (0, 0)) := by
 induction n with
 | zero => rfl
 | succ n ih => rw [List.replicate_succ, List.flatten_cons, ih]; rfl
theorem okF {k : Nat} {L : List (Int × Int)} {env : List (Nat × V)} {bx : List (Nat × Box)} {rw : List (Nat × Nat × Nat × Nat)} (h : Ec env ((k, ⟨[], false⟩) :: bx) rw = true) : Ec env ((k, ⟨F3 L, false⟩) :: bx) rw = true := by
 have e : Bi ((k, (⟨F3 L, false⟩ : Box)) :: bx) = Bi ((k, (⟨[], false⟩ : Box)) :: bx) := rfl
 unfold Ec at h ⊢
 rw [e]
 rw [Bool.and_eq_true] at h ⊢
 refine ⟨h.1, ?_⟩
 have h2 := h.2
 rw [List.all_cons, Bool.and_eq_true] at h2 ⊢
 exact ⟨A84 _ _ _, h2.2⟩
theorem A80 (L : List (Int × Int)) : Holds (F3 L) 0 2 L.length (L.map eB) := by
 refine ⟨by omega, by simp, fun x hx => ?_, ?_, fun x hx => ?_⟩
 ·obtain ⟨c, _, rfl⟩ := List.mem_map.1 hx; rfl
 ·rw [List.drop_zero, List.take_of_length_le (by rw [A1w]; omega)]
  unfold F3
  rw [List.flatMap_map]
  rfl
 ·obtain ⟨c, _, rfl⟩ := List.mem_map.1 hx; rfl
def A1z (g : Int × Int → Int × Int → Int × Int) : Int × Int → List (Int × Int) → List (Int × Int)
 | _, [] => []
 | h, own :: r => g own h :: A1z g own r
def Qm (h : Int × Int) (l : List (Int × Int)) : Nat → Int × Int
 | 0 => h
 | k + 1 => l.getD k (0, 0)
theorem Uv (g : Int × Int → Int × Int → Int × Int) : ∀ (h : Int × Int) (l : List (Int × Int)), (A1z g h l).length = l.length
 | _, [] => rfl
 | h, own :: r => by rw [A1z, List.length_cons, Uv g own r, List.length_cons]
theorem Uw (g : Int × Int → Int × Int → Int × Int) : ∀ (h : Int × Int) (l : List (Int × Int)) (k : Nat) (hk : k < l.length), (A1z g h l)[k]? = some (g l[k] (Qm h l k))
 | h, own :: r, 0, _ => rfl
 | h, own :: r, k + 1, hk => by
   rw [A1z, List.getElem?_cons_succ, Uw g own r k (by simpa using hk)]
   cases k with
   | zero => rfl
   | succ k => rfl
theorem c_eachB {l : List (Int × Int)} {hd : Int × Int} {f : FuncId} {g : Int × Int → Int × Int → Int × Int} (hl : l.length ≤ 1000000) (hf : ∀ (k : Nat) (hk : k < l.length), C Tryz.prog f [I k, eB l[k], eB (Qm hd l k)] (eB (g l[k] (Qm hd l k)))) :
  C Tryz.prog N5 [sB l, eB hd, .func (.func f) [] []] (sB (A1z g hd l)) := by
 refine C_of mixed K4 (by simp) fun S ok => ?_
 refine A2 rfl (by simp) (A2 rfl (by simp; omega) (A2 rfl (by simp) (Tr.seq (A2 rfl (by simp) (Tr.block ?_)))))
 have hel := Uv g hd l
 obtain ⟨E, hE⟩ : ∃ E, A1z g hd l = E := ⟨_, rfl⟩
 have heg := Uw g hd l
 rw [hE] at hel heg ⊢
 refine Tr.loop (fun (k : Nat) st => k ≤ l.length ∧ st = ⟨[(2, .func (.func f) [] []), (7, .bsl 13 0 2 l.length), (8, .ptr 8 0), (15, sB l), (16, I l.length), (17, I k)], [(13, ⟨F3 (E.take k ++ (List.replicate l.length (0, 0)).drop k), false⟩), (8, ⟨[I (Qm hd l k).1, I (Qm hd l k).2], false⟩)], [], [], false⟩) (fun k => l.length - k) 0
  (Ab (.k rfl (.cons rfl (.of_eq (by simp)) (.k rfl (.k rfl (.cons rfl (VLe.i (by simp)) (.k rfl .nil)))))) (.cons rfl ?_ (.k rfl .nil)) .nil (okF rfl) rfl) ⟨by omega, rfl⟩ ?_
 ·rw [List.take_zero, List.nil_append, List.drop_zero, ← A83]; simp; exact LLe.refl _
 rintro k st ⟨hk, rfl⟩
 refine A2 rfl (by simp) (Ei rfl (fun h2 => ?_) (fun h2 => ?_))
 rotate_left
 ·have h2 : k = l.length := by simp at h2; omega
  subst h2
  have e1 : E.take l.length ++ (List.replicate l.length ((0 : Int), (0 : Int))).drop l.length = E := by
   rw [List.take_of_length_le (by omega), List.drop_eq_nil_of_le (by simp), List.append_nil]
  rw [e1]
  refine Tr.exit ?_
  refine Tr.weak (Wk.bsl (t := 7) rfl rfl (by have h := A80 E; rw [hel] at h; exact h)) ?_
  exact A2 rfl (by simp) (A5 rfl rfl rfl rfl trivial)
 have h2 : k < l.length := by simpa using h2
 obtain ⟨c, hc⟩ : ∃ c, g l[k] (Qm hd l k) = c := ⟨_, rfl⟩
 have hfk := hf k h2
 have hget := heg k h2
 rw [hc] at hfk hget
 have hEk : k < E.length := by omega
 have hEc : E[k] = c := by rw [List.getElem?_eq_getElem hEk] at hget; exact Option.some.inj hget
 have h2k : 0 + (k : Int).toNat * 2 = 2 * k := by omega
 obtain ⟨R, hR⟩ : ∃ R, E.take k ++ (List.replicate l.length ((0 : Int), (0 : Int))).drop k = R := ⟨_, rfl⟩
 have hRl : R.length = l.length := by rw [← hR]; simp; omega
 have hfl := A1w R
 have hR2 : R.take k ++ c :: R.drop (k + 1) = E.take (k + 1) ++ (List.replicate l.length ((0 : Int), (0 : Int))).drop (k + 1) := by
  have ht : (E.take k).length = k := by rw [List.length_take]; omega
  have hd0 : (E.take k).drop (k + 1) = [] := List.drop_eq_nil_of_le (by omega)
  rw [← hR, List.take_append_of_le_length (by omega), List.take_take, Nat.min_self, List.take_add_one, List.getElem?_eq_getElem hEk, hEc, List.drop_append, ht, hd0, List.drop_drop]
  simp
 have hnew : List.take (2 * k) (F3 R) ++ [I c.1, I c.2] ++ List.drop (2 * k + 2) (F3 R) = F3 (E.take (k + 1) ++ (List.replicate l.length ((0 : Int), (0 : Int))).drop (k + 1)) := by
  rw [Abm _ _ (by omega), hR2]
 rw [hR]
 refine Cm (Tr.seq (Tr.block (A2 rfl ?_ ?_)))
 ·rw [Ao h2]; simp; omega
 rw [Ao h2]
 refine A3 rfl (by simp) (Steps.callv rfl rfl hfk (Steps.runN 1 rfl (by simp; omega) ?_))
 rw [h2k]
 refine Steps.fin rfl (by simp; omega) (A9 rfl (by simp) (A9 rfl (by simp) ?_))
 refine ⟨k + 1, _, Ab (.k rfl (.k rfl (.k rfl (.k rfl (.k rfl (.cons rfl (VLe.i (w64 (by omega) (by omega))) .nil))))))
  (.cons rfl ?_ (.cons rfl ?_ .nil)) .nil (okF rfl) rfl, ⟨h2, rfl⟩, by omega⟩
 ·rw [← hnew]; simp; exact LLe.refl _
 ·rw [Qm, List.getD_eq_getElem?_getD, List.getElem?_eq_getElem h2]; exact LLe.refl _
def offB (b : Int × Int) : Prop := -20000 ≤ b.1 ∧ b.1 ≤ b.2 ∧ b.2 ≤ 20000
def A2s (own bef : Int × Int) : Int × Int := (max (max 0 (own.1 - bef.2)) (bef.1 - own.2), max (own.2 - bef.1) (bef.2 - own.1))
theorem c_bends1 {k : Int} {own bef : Int × Int} (h1 : offB own) (h2 : offB bef) : C Tryz.prog I1 [I k, eB own, eB bef] (eB (A2s own bef)) := by
 unfold offB at h1 h2
 refine C_of mixed Mw (by simp) fun S ok => ?_
 refine A2 rfl (by simp) (A2 rfl (by simp) ?_)
 have e1 := w64 (n := own.1 - bef.2) (by omega) (by omega)
 have e2 := w64 (n := bef.1 - own.2) (by omega) (by omega)
 have e3 := w64 (n := own.2 - bef.1) (by omega) (by omega)
 have e4 := w64 (n := bef.2 - own.1) (by omega) (by omega)
 rw [e1, e2, e3, e4]
 refine A5 rfl rfl rfl ?_ trivial
 simp only [Cp, A2s, eB, cond_true, H7]
theorem Aab {hd : Int × Int} {l : List (Int × Int)} (h1 : offB hd) (h2 : ∀ b ∈ l, offB b) : ∀ k, k < l.length → offB (Qm hd l k)
 | 0, _ => h1
 | k + 1, hk => by
   rw [Qm, List.getD_eq_getElem?_getD, List.getElem?_eq_getElem (by omega)]
   exact h2 _ (List.getElem_mem _)
def Rv (s : Strm) (b : List (Int × Int)) : List (Int × Int) := A1z A2s (s.head, s.head) b
theorem c_bends {s : Strm} {b : List (Int × Int)} (hl : b.length ≤ 1000000) (h1 : offB (s.head, s.head)) (h2 : ∀ x ∈ b, offB x) : C Tryz.prog Sy [eStr s, sB b] (sB (Rv s b)) := by
 refine C_of mixed Pl (by simp) fun S ok => ?_
 have ke := c_eachB (l := b) (hd := (s.head, s.head)) (f := I1) (g := A2s) hl (fun k hk => c_bends1 (h2 _ (List.getElem_mem hk)) (Aab h1 h2 k hk))
 refine A2 rfl (by simp [eStr, strC, Bp]) (A3 rfl (by simp [eStr, strC, Bp]) (Steps.call rfl rfl (c_still _) (Steps.run rfl (by simp) (Steps.call rfl rfl ke (Steps.fin rfl (by simp) (A5 rfl rfl rfl rfl trivial))))))
def Rn (n m : Int) : Int := isq (n * n - min m n * min m n)
theorem A8u {n m : Int} (hn : 1 ≤ n ∧ n ≤ 1000) (hm : 0 ≤ m ∧ m ≤ 100000) : C Tryz.prog X3 [I n, I m] (I (Rn n m)) := by
 have q1 : 0 ≤ min m n ∧ min m n ≤ 1000 := by omega
 have q2 := Int.mul_le_mul q1.2 q1.2 q1.1 (by omega)
 have q3 := Int.mul_le_mul hn.2 hn.2 (by omega) (by omega)
 have q4 : min m n * min m n ≤ n * n := Int.mul_le_mul (by omega) (by omega) q1.1 (by omega)
 have q5 := Int.mul_nonneg q1.1 q1.1
 have kr := A6y (n * n - min m n * min m n)
 unfold A3r at kr
 rw [(Ca _ _ _).2 (by omega), if_pos rfl] at kr
 refine C_of mixed Sl (by simp) fun S ok => ?_
 refine A2 rfl (by simp) (A2 rfl (by simp) ?_)
 refine Tr.weak (s' := ⟨[(0, I n), (1, I (min m n))], [], [], [], false⟩) (Ab (.k rfl (.cons rfl (VLe.i (by simp only [cond_false, Jc])) .nil)) .nil .nil rfl rfl) ?_
 refine A3 rfl (by simp) ?_
 rw [w64 (n := n * n) (by omega) (by omega), w64 (n := min m n * min m n) (by omega) (by omega), w64 (n := n * n - min m n * min m n) (by omega) (by omega)]
 exact Steps.call rfl rfl kr (Steps.fin rfl (by simp) (A2 rfl (by simp) (A5 rfl rfl rfl rfl trivial)))
end
section
open Go.Am
attribute [local simp] cells Aa mkv Ag Ap under dem dem1 eB A7 B8 sB
inductive Ax : Int → Int → Prop
 | e : Ax 1 0
 | n : Ax 0 1
 | w : Ax (-1) 0
 | s : Ax 0 (-1)
def eHd (p q : Int) : V := .agg [I p, I q, I 1]
theorem Ax.bd {p q : Int} (h : Ax p q) : (-1 ≤ p ∧ p ≤ 1) ∧ (-1 ≤ q ∧ q ≤ 1) ∧ p * p + q * q = 1 ∧ p * q = 0 := by
 cases h <;> decide
theorem Ww {p q : Int} (h : Ax p q) : C Tryz.prog Q2 [eHd p q] (I 0) := by
 have hb := h.bd
 have k1 : C Tryz.prog I0 [I 1, I 1, I 1000] (.bool true) := D2 _ _ _
 have k2 : C Tryz.prog I0 [I p, I (-1), I 1] (.bool true) := by
  have := D2 p (-1) 1
  rw [(Ca _ _ _).2 hb.1] at this; exact this
 have k3 : C Tryz.prog I0 [I q, I (-1), I 1] (.bool true) := by
  have := D2 q (-1) 1
  rw [(Ca _ _ _).2 hb.2.1] at this; exact this
 refine C_of mixed Mx (by simp) fun S ok => ?_
 refine A2 rfl (by simp [eHd]) (Tr.seq (A3 rfl (by simp [eHd]) (Steps.call rfl rfl k1 (Steps.run rfl (by simp [eHd]) ?_))))
 refine Steps.gcall (r := .bool true) rfl rfl rfl rfl (by simp) (fun _ => k2) (Steps.run rfl (by simp [eHd]) ?_)
 refine Steps.gcall (r := .bool true) rfl rfl rfl rfl (by simp) (fun _ => k3) (Steps.fin rfl (by simp [eHd]) ?_)
 refine Tr.cond rfl rfl (fun h1 => ?_) (fun h1 => Tr.skip (A2 rfl (by simp) (A5 rfl rfl rfl rfl trivial)))
 exfalso
 revert h1
 cases h <;> decide
theorem tdiv1 (a : Int) : a.tdiv 1 = a := Int.tdiv_one a
theorem tmod1 (a : Int) : a.tmod 1 = 0 := Int.tmod_one a
theorem Pt {a : Int} (h : -1000000000 ≤ a ∧ a ≤ 1000000000) : C Tryz.prog A5a [I a, I 1] (I a) := by
 refine C_of mixed Zx (by simp) fun S ok => ?_
 refine A2 rfl (by simp) (A2 rfl (by simp) ?_)
 refine Tr.weak (s' := ⟨[(0, I a), (1, I 1), (5, I a)], [], [], [], false⟩) (Ab (.k rfl (.k rfl (.cons rfl (VLe.i (by rw [tdiv1, w64 (by omega) (by omega)])) .nil))) .nil .nil rfl rfl) ?_
 refine Tr.seq (A2 rfl (by simp) (Tr.cond rfl rfl (fun h1 => ?_) (fun h1 => Tr.skip (A2 rfl (by simp) (A5 rfl rfl rfl rfl trivial)))))
 exfalso
 have h1 : decide (a.tmod 1 < 0) = true := h1
 rw [tmod1] at h1
 exact absurd h1 (by decide)
theorem A0b {a : Int} (h : -1000000000 ≤ a ∧ a ≤ 1000000000) : C Tryz.prog A99 [I a, I 1] (I a) := by
 refine C_of mixed A2e (by simp) fun S ok => ?_
 refine A2 rfl (by simp) (A3 rfl (by simp) ?_)
 rw [w64 (n := 0 - a) (by omega) (by omega)]
 refine Steps.call rfl rfl (Pt (by omega)) (Steps.fin rfl (by simp) (A5 rfl rfl rfl ?_ trivial))
 show I a = I (IntKind.i64.wrap (0 - (0 - a)))
 rw [w64 (by omega) (by omega)]
 congr 1; omega
def To (f : Fr) (p q : Int) : Fr := ⟨exF f p (-q), exF f q p, exF f (p + q) (p - q), exF f (p - q) (-q - p)⟩
def Kf (f : Fr) (p q : Int) : Bool := E8 32768 (To f p q).x && E8 32768 (To f p q).y
theorem A6j {f : Fr} (hf : Av f = true) {p q : Int} (hp : -2000 ≤ p ∧ p ≤ 2000) (hq : -2000 ≤ q ∧ q ≤ 2000) : (-1000000000 ≤ (exF f p q).1 ∧ (exF f p q).1 ≤ 1000000000) ∧ -1000000000 ≤ (exF f p q).2 ∧ (exF f p q).2 ≤ 1000000000 := by
 have := exL_bd hf hp hq
 unfold exBd at this
 unfold exF
 omega
theorem c_turned {f : Fr} (hf : Av f = true) {p q : Int} (h : Ax p q) : C Tryz.prog A36 [.agg (A7 f), eHd p q] (.tuple [.agg (A7 (To f p q)), .bool (Kf f p q)]) := by
 have hb := h.bd
 have k1 := Ma (f := f) (p := p) (q := -q) hf (by omega) (by omega)
 have k2 := Ma (f := f) (p := q) (q := p) hf (by omega) (by omega)
 have k3 := Ma (f := f) (p := p + q) (q := p - q) hf (by omega) (by omega)
 have k4 := Ma (f := f) (p := p - q) (q := -q - p) hf (by omega) (by omega)
 have b1 := A6j (f := f) (p := p) (q := -q) hf (by omega) (by omega)
 have b2 := A6j (f := f) (p := q) (q := p) hf (by omega) (by omega)
 have b3 := A6j (f := f) (p := p + q) (q := p - q) hf (by omega) (by omega)
 have b4 := A6j (f := f) (p := p - q) (q := -q - p) hf (by omega) (by omega)
 have eT : To f p q = ⟨exF f p (-q), exF f q p, exF f (p + q) (p - q), exF f (p - q) (-q - p)⟩ := rfl
 unfold Kf
 rw [eT]
 simp only
 generalize exF f p (-q) = T1 at k1 b1
 generalize exF f q p = T2 at k2 b2
 generalize exF f (p + q) (p - q) = T3 at k3 b3
 generalize exF f (p - q) (-q - p) = T4 at k4 b4
 refine C_of mixed Wm (by simp) fun S ok => ?_
 refine A2 rfl (by simp [eHd]) (A2 rfl (by simp) (Tr.seq (A2 rfl (by simp [eHd]) (Tr.block ?_))))
 have e1 := w64 (n := 0 - q) (by omega) (by omega)
 have e2 := w64 (n := p + q) (by omega) (by omega)
 have e3 := w64 (n := p - q) (by omega) (by omega)
 have e4 := w64 (n := 0 - q - p) (by omega) (by omega)
 refine Az 5 (TrN.succ ?_)
 refine Tr.weak (s' := ⟨[(2, .ptr 2 0), (3, .ptr 3 0), (4, .ptr 4 0), (6, .ptr 6 0), (44, .agg [I p, I (-q), I q, I p, I (p + q), I (p - q), I (p - q), I (-q - p)]), (45, I 0)], [(2, ⟨A7 f, false⟩), (3, ⟨[I p, I q, I 1], false⟩), (4, ⟨A7 ⟨(0, 0), (0, 0), (0, 0), (0, 0)⟩, false⟩), (6, ⟨[I 0, I 0, I 0, I 0, I 0, I 0, I 0, I 0], false⟩)], [], [], false⟩)
  (Ab (.k rfl (.k rfl (.k rfl (.k rfl (.cons rfl (.of_eq ?_) (.cons rfl (VLe.i rfl) .nil)))))) (.k rfl (.k rfl (.k rfl (.k rfl .nil)))) .nil rfl rfl) ?_
 ·show V.agg [I p, I (IntKind.i64.wrap (0 - q)), I q, I p, I (IntKind.i64.wrap (p + q)), I (IntKind.i64.wrap (p - q)), I (IntKind.i64.wrap (p - q)), I (IntKind.i64.wrap (IntKind.i64.wrap (0 - q) - p))] = _
  rw [e1, e2, e3, e4, Int.zero_sub]
 refine A2 rfl (by simp) (Tr.seq (A6 rfl (Tr.skip (Tr.seq (Tr.block (A2 rfl (by simp) (A3 rfl (by simp) (Steps.call rfl rfl k1 (Steps.fin rfl (by simp) ?_)))))))))
 refine A8 (TraceK.run rfl (by simp) (TraceK.call rfl rfl (Pt b1.1) (TraceK.run rfl (by simp) (TraceK.call rfl rfl (A0b b1.2) (TraceK.run rfl (by simp) (.done ⟨by kernel_rfl, by kernel_rfl, ?_⟩))))))
 refine A9 rfl (by simp) (TrN.succ ?_)
 refine Tr.weak (s' := ⟨[(2, .ptr 2 0), (3, .ptr 3 0), (4, .ptr 4 0), (6, .ptr 6 0), (44, .agg [I p, I (-q), I q, I p, I (p + q), I (p - q), I (p - q), I (-q - p)]), (45, I 1)], [(2, ⟨A7 f, false⟩), (3, ⟨[I p, I q, I 1], false⟩), (4, ⟨A7 ⟨(0, 0), (0, 0), (0, 0), (0, 0)⟩, false⟩), (6, ⟨[I T1.1, I T1.2, I 0, I 0, I 0, I 0, I 0, I 0], false⟩)], [], [], false⟩)
  (Ab (.k rfl (.k rfl (.k rfl (.k rfl (.k rfl (.cons rfl (VLe.i rfl) .nil)))))) (.k rfl (.k rfl (.k rfl (.k rfl .nil)))) .nil rfl rfl) ?_
 refine A2 rfl (by simp) (Tr.seq (A6 rfl (Tr.skip (Tr.seq (Tr.block (A2 rfl (by simp) (A3 rfl (by simp) (Steps.call rfl rfl k2 (Steps.fin rfl (by simp) ?_)))))))))
 refine A8 (TraceK.run rfl (by simp) (TraceK.call rfl rfl (Pt b2.1) (TraceK.run rfl (by simp) (TraceK.call rfl rfl (A0b b2.2) (TraceK.run rfl (by simp) (.done ⟨by kernel_rfl, by kernel_rfl, ?_⟩))))))
 refine A9 rfl (by simp) (TrN.succ ?_)
 refine Tr.weak (s' := ⟨[(2, .ptr 2 0), (3, .ptr 3 0), (4, .ptr 4 0), (6, .ptr 6 0), (44, .agg [I p, I (-q), I q, I p, I (p + q), I (p - q), I (p - q), I (-q - p)]), (45, I 2)], [(2, ⟨A7 f, false⟩), (3, ⟨[I p, I q, I 1], false⟩), (4, ⟨A7 ⟨(0, 0), (0, 0), (0, 0), (0, 0)⟩, false⟩), (6, ⟨[I T1.1, I T1.2, I T2.1, I T2.2, I 0, I 0, I 0, I 0], false⟩)], [], [], false⟩)
  (Ab (.k rfl (.k rfl (.k rfl (.k rfl (.k rfl (.cons rfl (VLe.i rfl) .nil)))))) (.k rfl (.k rfl (.k rfl (.k rfl .nil)))) .nil rfl rfl) ?_
 refine A2 rfl (by simp) (Tr.seq (A6 rfl (Tr.skip (Tr.seq (Tr.block (A2 rfl (by simp) (A3 rfl (by simp) (Steps.call rfl rfl k3 (Steps.fin rfl (by simp) ?_)))))))))
 refine A8 (TraceK.run rfl (by simp) (TraceK.call rfl rfl (Pt b3.1) (TraceK.run rfl (by simp) (TraceK.call rfl rfl (A0b b3.2) (TraceK.run rfl (by simp) (.done ⟨by kernel_rfl, by kernel_rfl, ?_⟩))))))
 refine A9 rfl (by simp) (TrN.succ ?_)
 refine Tr.weak (s' := ⟨[(2, .ptr 2 0), (3, .ptr 3 0), (4, .ptr 4 0), (6, .ptr 6 0), (44, .agg [I p, I (-q), I q, I p, I (p + q), I (p - q), I (p - q), I (-q - p)]), (45, I 3)], [(2, ⟨A7 f, false⟩), (3, ⟨[I p, I q, I 1], false⟩), (4, ⟨A7 ⟨(0, 0), (0, 0), (0, 0), (0, 0)⟩, false⟩), (6, ⟨[I T1.1, I T1.2, I T2.1, I T2.2, I T3.1, I T3.2, I 0, I 0], false⟩)], [], [], false⟩)
  (Ab (.k rfl (.k rfl (.k rfl (.k rfl (.k rfl (.cons rfl (VLe.i rfl) .nil)))))) (.k rfl (.k rfl (.k rfl (.k rfl .nil)))) .nil rfl rfl) ?_
 refine A2 rfl (by simp) (Tr.seq (A6 rfl (Tr.skip (Tr.seq (Tr.block (A2 rfl (by simp) (A3 rfl (by simp) (Steps.call rfl rfl k4 (Steps.fin rfl (by simp) ?_)))))))))
 refine A8 (TraceK.run rfl (by simp) (TraceK.call rfl rfl (Pt b4.1) (TraceK.run rfl (by simp) (TraceK.call rfl rfl (A0b b4.2) (TraceK.run rfl (by simp) (.done ⟨by kernel_rfl, by kernel_rfl, ?_⟩))))))
 refine A9 rfl (by simp) (TrN.succ ?_)
 refine Tr.weak (s' := ⟨[(2, .ptr 2 0), (3, .ptr 3 0), (4, .ptr 4 0), (6, .ptr 6 0), (44, .agg [I p, I (-q), I q, I p, I (p + q), I (p - q), I (p - q), I (-q - p)]), (45, I 4)], [(2, ⟨A7 f, false⟩), (3, ⟨[I p, I q, I 1], false⟩), (4, ⟨A7 ⟨(0, 0), (0, 0), (0, 0), (0, 0)⟩, false⟩), (6, ⟨[I T1.1, I T1.2, I T2.1, I T2.2, I T3.1, I T3.2, I T4.1, I T4.2], false⟩)], [], [], false⟩)
  (Ab (.k rfl (.k rfl (.k rfl (.k rfl (.k rfl (.cons rfl (VLe.i rfl) .nil)))))) (.k rfl (.k rfl (.k rfl (.k rfl .nil)))) .nil rfl rfl) ?_
 refine A2 rfl (by simp) (Tr.seq (A4 rfl (Tr.exit ?_)))
 have c1 := Td (l := 32768) T1 (by omega)
 have c2 := Td (l := 32768) T2 (by omega)
 generalize E8 32768 T1 = g1 at c1 ⊢
 generalize E8 32768 T2 = g2 at c2 ⊢
 refine Tr.seq (A8 (TraceK.run rfl (by simp) (TraceK.call rfl rfl c1 (TraceK.run rfl (by cases g1 <;> simp) ?_))))
 refine TraceK.gcall (r := .bool g2) rfl rfl rfl rfl (by cases g1 <;> simp) (fun _ => c2) (TraceK.run rfl (by cases g1 <;> simp) (.done ⟨by kernel_rfl, by kernel_rfl, ?_⟩))
 refine A5 rfl rfl rfl ?_ trivial
 cases g1 <;> cases g2 <;> rfl
end
end Go.Proofs.YtabedohjkillfaaGreat
