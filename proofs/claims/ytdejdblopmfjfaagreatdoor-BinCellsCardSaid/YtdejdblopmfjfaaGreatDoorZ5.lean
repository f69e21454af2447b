/-
  Parts of the proof, 5: the abstract machine, the compiled code, contracts of the functions, plain laws.
-/
import Derived.Test.YtdejdblopmfjfaaGreatDoorZ4
import Derived.Shelf.SlSortCmp.WholeK


/-! Contracts: the bound of a proof. -/
set_option linter.unusedVariables false
set_option linter.unusedSimpArgs false
set_option maxRecDepth 40000
set_option maxHeartbeats 4000000
namespace Go.Proofs.YtdejdblopmfjfaaGreatDoor
open Go.Am
attribute [local simp] cells scalar mkv splice under2 under dem dem1 eB eQ nfC intsV
structure Ct where
  split : Int
  prices : List Int

def eC (c : Ct) : V := .agg [I c.split, intsV c.prices]
def cutsV (p : List Ct) : V := .slice 0 2 (p.map eC)
attribute [local simp] eC cutsV
structure Rd where
  ok : Bool
  at_ : Nat
  some : Bool
  least : Int

def pricesOk (x : Nf) (l : List Int) : Bool := decide (l.length = x.lacks.length) && l.all (btw · 0 1000000)
def splitOk (x : Nf) (k : Ct) (d : Nat) : Bool := btw k.split 0 ((x.passes.length : Int) - 1) && !d.testBit k.split.toNat && decide (k.prices.length = 0)

def readN (x : Nf) (pf : List Ct) : Nat → Nat → Nat → Rd → Rd
  | 0, _, _, s => { s with ok := false }
  | n + 1, c, d, s =>
    if h : s.ok = true ∧ s.at_ < pf.length then
      let k := pf[s.at_]
      let s1 := { s with at_ := s.at_ + 1 }
      if k.split ≠ -1 then
        if splitOk x k d then readN x pf n c (d ||| 2 ^ k.split.toNat) (readN x pf n (c ||| 2 ^ k.split.toNat) (d ||| 2 ^ k.split.toNat) { s1 with ok := true })
        else { s1 with ok := false }
      else if pricesOk x k.prices then
        (if (!s.some || decide (leafN x k.prices c d < s.least)) then { s1 with ok := true, least := leafN x k.prices c d, some := true } else { s1 with ok := true })
      else { s1 with ok := false }
    else { s with ok := false }

theorem readN_at (x : Nf) (pf : List Ct) : ∀ (n c d : Nat) (s : Rd), s.at_ ≤ pf.length → s.at_ ≤ (readN x pf n c d s).at_ ∧ (readN x pf n c d s).at_ ≤ pf.length
  | 0, c, d, s, h => ⟨Nat.le_refl _, h⟩
  | n + 1, c, d, s, h => by
    simp only [readN]
    split
    · rename_i h1
      split
      · split
        · have i1 := readN_at x pf n (c ||| 2 ^ (pf[s.at_]'h1.2).split.toNat) (d ||| 2 ^ (pf[s.at_]'h1.2).split.toNat) { s with at_ := s.at_ + 1, ok := true } (by simp only; omega)
          have i2 := readN_at x pf n c (d ||| 2 ^ (pf[s.at_]'h1.2).split.toNat) (readN x pf n (c ||| 2 ^ (pf[s.at_]'h1.2).split.toNat) (d ||| 2 ^ (pf[s.at_]'h1.2).split.toNat) { s with at_ := s.at_ + 1, ok := true }) i1.2
          simp only at i1
          exact ⟨by omega, i2.2⟩
        · exact ⟨by simp only; omega, by simp only; omega⟩
      · split
        · split
          · exact ⟨by simp only; omega, by simp only; omega⟩
          · exact ⟨by simp only; omega, by simp only; omega⟩
        · exact ⟨by simp only; omega, by simp only; omega⟩
    · exact ⟨Nat.le_refl _, h⟩

/-- The variables of the reading. -/
def rdA (b9 b10 b8 b7 : Nat) (s : Rd) : Arena := [(b10, .cells [I (s.at_ : Nat)]), (b9, .cells [.bool s.ok]), (b8, .cells [.bool s.some]), (b7, .cells [I s.least])]
def readV (x : Nf) (pf : List Ct) (b9 b10 b11 b8 b7 : Nat) : V := .func (.func F.bin_Bound_1) [] [.rptr b9 0, .rptr b10 0, .vptr [cutsV pf] 0, .vptr (nfC x) 0, .rptr b11 0, .rptr b8 0, .rptr b7 0]

theorem setA_at {b9 b10 b8 b7 : Nat} (hn : [b10, b9, b8, b7].Nodup) (s : Rd) (n : Nat) : setA (rdA b9 b10 b8 b7 s) b10 (.cells [I (n : Nat)]) = rdA b9 b10 b8 b7 { s with at_ := n } := by
  simp only [List.nodup_cons, List.mem_cons, List.not_mem_nil, or_false, not_or] at hn
  obtain ⟨⟨h1, h2, h3⟩, ⟨h4, h5⟩, h6, _⟩ := hn
  simp [setA, rdA, h1, h2, h3, h4, h5, h6, Ne.symm h1, Ne.symm h2, Ne.symm h3, Ne.symm h4, Ne.symm h5, Ne.symm h6]

theorem setA_ok {b9 b10 b8 b7 : Nat} (hn : [b10, b9, b8, b7].Nodup) (s : Rd) (n : Bool) : setA (rdA b9 b10 b8 b7 s) b9 (.cells [.bool n]) = rdA b9 b10 b8 b7 { s with ok := n } := by
  simp only [List.nodup_cons, List.mem_cons, List.not_mem_nil, or_false, not_or] at hn
  obtain ⟨⟨h1, h2, h3⟩, ⟨h4, h5⟩, h6, _⟩ := hn
  simp [setA, rdA, h1, h2, h3, h4, h5, h6, Ne.symm h1, Ne.symm h2, Ne.symm h3, Ne.symm h4, Ne.symm h5, Ne.symm h6]

theorem setA_some {b9 b10 b8 b7 : Nat} (hn : [b10, b9, b8, b7].Nodup) (s : Rd) (n : Bool) : setA (rdA b9 b10 b8 b7 s) b8 (.cells [.bool n]) = rdA b9 b10 b8 b7 { s with some := n } := by
  simp only [List.nodup_cons, List.mem_cons, List.not_mem_nil, or_false, not_or] at hn
  obtain ⟨⟨h1, h2, h3⟩, ⟨h4, h5⟩, h6, _⟩ := hn
  simp [setA, rdA, h1, h2, h3, h4, h5, h6, Ne.symm h1, Ne.symm h2, Ne.symm h3, Ne.symm h4, Ne.symm h5, Ne.symm h6]

theorem setA_least {b9 b10 b8 b7 : Nat} (hn : [b10, b9, b8, b7].Nodup) (s : Rd) (n : Int) : setA (rdA b9 b10 b8 b7 s) b7 (.cells [I n]) = rdA b9 b10 b8 b7 { s with least := n } := by
  simp only [List.nodup_cons, List.mem_cons, List.not_mem_nil, or_false, not_or] at hn
  obtain ⟨⟨h1, h2, h3⟩, ⟨h4, h5⟩, h6, _⟩ := hn
  simp [setA, rdA, h1, h2, h3, h4, h5, h6, Ne.symm h1, Ne.symm h2, Ne.symm h3, Ne.symm h4, Ne.symm h5, Ne.symm h6]

section
variable {E : Env} {S1 : Sur} {l0 : List (List V)} {s0 : Bool} {b9 b10 b8 b7 : Nat} {K : St → Prop} {s : St} {rest : List Ins} {x y : X} {d : Nat} {r : Rd}

theorem ld_ok (hA : InA E S1 l0 s0) (hl : s.log = encA (rdA b9 b10 b8 b7 r)) (hx : evXs s.env [x] = some [.rptr b9 0]) (hk : Go.Am.Steps E rest K (s.put (some d) (.bool r.ok))) : Go.Am.Steps E (⟨some d, .load 1 false, [x], none⟩ :: rest) K s :=
  Steps.aload (blk := b9) (off := 0) (cs := [.bool r.ok]) hA hx hl (by simp [rdA]) rfl hk
theorem ld_at (hA : InA E S1 l0 s0) (hl : s.log = encA (rdA b9 b10 b8 b7 r)) (hx : evXs s.env [x] = some [.rptr b10 0]) (hk : Go.Am.Steps E rest K (s.put (some d) (I (r.at_ : Nat)))) : Go.Am.Steps E (⟨some d, .load 1 false, [x], none⟩ :: rest) K s :=
  Steps.aload (blk := b10) (off := 0) (cs := [I (r.at_ : Nat)]) hA hx hl (by simp [rdA]) rfl hk
theorem ld_some (hA : InA E S1 l0 s0) (hl : s.log = encA (rdA b9 b10 b8 b7 r)) (hx : evXs s.env [x] = some [.rptr b8 0]) (hk : Go.Am.Steps E rest K (s.put (some d) (.bool r.some))) : Go.Am.Steps E (⟨some d, .load 1 false, [x], none⟩ :: rest) K s :=
  Steps.aload (blk := b8) (off := 0) (cs := [.bool r.some]) hA hx hl (by simp [rdA]) rfl hk
theorem ld_least (hA : InA E S1 l0 s0) (hl : s.log = encA (rdA b9 b10 b8 b7 r)) (hx : evXs s.env [x] = some [.rptr b7 0]) (hk : Go.Am.Steps E rest K (s.put (some d) (I r.least))) : Go.Am.Steps E (⟨some d, .load 1 false, [x], none⟩ :: rest) K s :=
  Steps.aload (blk := b7) (off := 0) (cs := [I r.least]) hA hx hl (by simp [rdA]) rfl hk
theorem gld_at {t : Nat} {want : Bool} {gv : V} (hA : InA E S1 l0 s0) (hl : s.log = encA (rdA b9 b10 b8 b7 r)) (hgv : get s.env t = some gv) (hgb : guardOf want gv = some true) (hx : evXs s.env [x] = some [.rptr b10 0]) (hk : Go.Am.Steps E rest K (s.put (some d) (.cond true (I (r.at_ : Nat))))) : Go.Am.Steps E (⟨some d, .load 1 false, [x], some (t, want)⟩ :: rest) K s :=
  Steps.gaload (blk := b10) (off := 0) (cs := [I (r.at_ : Nat)]) hA hgv hgb hx hl (by simp [rdA]) rfl hk
theorem gld_least {t : Nat} {want : Bool} {gv : V} (hA : InA E S1 l0 s0) (hl : s.log = encA (rdA b9 b10 b8 b7 r)) (hgv : get s.env t = some gv) (hgb : guardOf want gv = some true) (hx : evXs s.env [x] = some [.rptr b7 0]) (hk : Go.Am.Steps E rest K (s.put (some d) (.cond true (I r.least)))) : Go.Am.Steps E (⟨some d, .load 1 false, [x], some (t, want)⟩ :: rest) K s :=
  Steps.gaload (blk := b7) (off := 0) (cs := [I r.least]) hA hgv hgb hx hl (by simp [rdA]) rfl hk
theorem st_ok (hn : [b10, b9, b8, b7].Nodup) (hA : InA E S1 l0 s0) (hl : s.log = encA (rdA b9 b10 b8 b7 r)) {v : Bool} (hx : evXs s.env [x, y] = some [.rptr b9 0, .bool v]) (hk : Go.Am.Steps E rest K { s with log := encA (rdA b9 b10 b8 b7 { r with ok := v }) }) : Go.Am.Steps E (⟨none, .store 1, [x, y], none⟩ :: rest) K s :=
  Steps.astore (blk := b9) (off := 0) (cs := [.bool r.ok]) hA hx hl (by simp [rdA]) (by simp) rfl rfl (by rw [← setA_ok hn] at hk; exact hk)
theorem st_at (hn : [b10, b9, b8, b7].Nodup) (hA : InA E S1 l0 s0) (hl : s.log = encA (rdA b9 b10 b8 b7 r)) {v : Int} {n : Nat} (hv : v = (n : Int)) (hx : evXs s.env [x, y] = some [.rptr b10 0, I v]) (hk : Go.Am.Steps E rest K { s with log := encA (rdA b9 b10 b8 b7 { r with at_ := n }) }) : Go.Am.Steps E (⟨none, .store 1, [x, y], none⟩ :: rest) K s := by
  subst hv
  exact Steps.astore (blk := b10) (off := 0) (cs := [I (r.at_ : Nat)]) hA hx hl (by simp [rdA]) (by simp) rfl rfl (by rw [← setA_at hn] at hk; exact hk)
theorem st_some (hn : [b10, b9, b8, b7].Nodup) (hA : InA E S1 l0 s0) (hl : s.log = encA (rdA b9 b10 b8 b7 r)) {v : Bool} (hx : evXs s.env [x, y] = some [.rptr b8 0, .bool v]) (hk : Go.Am.Steps E rest K { s with log := encA (rdA b9 b10 b8 b7 { r with some := v }) }) : Go.Am.Steps E (⟨none, .store 1, [x, y], none⟩ :: rest) K s :=
  Steps.astore (blk := b8) (off := 0) (cs := [.bool r.some]) hA hx hl (by simp [rdA]) (by simp) rfl rfl (by rw [← setA_some hn] at hk; exact hk)
theorem st_least (hn : [b10, b9, b8, b7].Nodup) (hA : InA E S1 l0 s0) (hl : s.log = encA (rdA b9 b10 b8 b7 r)) {v : Int} (hx : evXs s.env [x, y] = some [.rptr b7 0, I v]) (hk : Go.Am.Steps E rest K { s with log := encA (rdA b9 b10 b8 b7 { r with least := v }) }) : Go.Am.Steps E (⟨none, .store 1, [x, y], none⟩ :: rest) K s :=
  Steps.astore (blk := b7) (off := 0) (cs := [I r.least]) hA hx hl (by simp [rdA]) (by simp) rfl rfl (by rw [← setA_least hn] at hk; exact hk)
end

theorem c_stop {x : Nf} {pf : List Ct} (hpf : pf.length ≤ 2048) {b9 b10 b11 b8 b7 : Nat} (hn : [b10, b9, b8, b7].Nodup) (c d : Nat) (s : Rd) (hs : ¬ (s.ok = true ∧ s.at_ < pf.length)) :
    CA Tryz.prog F.bin_Bound_1 (rdA b9 b10 b8 b7 s) [(b11, [readV x pf b9 b10 b11 b8 b7])] [I (c : Nat), I (d : Nat), .rptr b9 0, .rptr b10 0, .vptr [cutsV pf] 0, .vptr (nfC x) 0, .rptr b11 0, .rptr b8 0, .rptr b7 0] (.tuple []) (rdA b9 b10 b8 b7 { s with ok := false }) := by
  refine CA_of mixed chk.bin_Bound_1 (by simp) fun S ok S1 hA hK => ?_
  refine Tr.scope (Tr.seq (Tr.seq (Tr.reg ?_)))
  refine ld_ok (r := s) hA rfl rfl ?_
  by_cases hok : s.ok = true
  · have hat : pf.length ≤ s.at_ := by
      rcases Nat.lt_or_ge s.at_ pf.length with h | h
      · exact absurd ⟨hok, h⟩ hs
      · exact h
    rw [hok]
    refine Steps.run rfl (by simp) (gld_at (r := s) hA rfl rfl rfl rfl (Steps.fin rfl (by simp) (Tr.cond rfl rfl (fun h => ?_) (fun h => ?_))))
    · refine Tr.seq (Tr.reg (st_ok hn (r := s) (v := false) hA rfl rfl ?_))
      exact Steps.fin rfl (by simp) (Tr.retX rfl rfl rfl rfl rfl)
    · exfalso
      have h : (decide ((s.at_ : Int) ≥ ((pf.map eC).length : Int))) = false := h
      simp at h; omega
  · have hok : s.ok = false := by simpa using hok
    rw [hok]
    refine Steps.run rfl (by simp) (Steps.off (want := false) (I 0) rfl rfl rfl (Steps.fin rfl (by simp) (Tr.condT rfl ?_)))
    refine Tr.seq (Tr.reg (st_ok hn (r := s) (v := false) hA rfl rfl ?_))
    exact Steps.fin rfl (by simp) (Tr.retX rfl rfl rfl rfl rfl)

theorem pricesOk_spec {x : Nf} {l : List Int} (h : pricesOk x l = true) : l.length = x.lacks.length ∧ ∀ m ∈ l, 0 ≤ m ∧ m ≤ 1000000 := by
  simp only [pricesOk, Bool.and_eq_true, decide_eq_true_eq, List.all_eq_true, btw_iff] at h
  exact h

theorem c_read {x : Nf} (hx : nfOk x = true) {pf : List Ct} (hpf : pf.length ≤ 2048) (hpl : ∀ k ∈ pf, k.prices.length ≤ 9223372036854775807) {b9 b10 b11 b8 b7 : Nat} (hn : [b10, b9, b8, b7].Nodup) (h11 : b11 ∉ [b10, b9, b8, b7]) : ∀ (n c d : Nat) (s : Rd), c < 2 ^ x.passes.length → d < 2 ^ x.passes.length → s.at_ ≤ pf.length → pf.length - s.at_ ≤ n →
    CA Tryz.prog F.bin_Bound_1 (rdA b9 b10 b8 b7 s) [(b11, [readV x pf b9 b10 b11 b8 b7])] [I (c : Nat), I (d : Nat), .rptr b9 0, .rptr b10 0, .vptr [cutsV pf] 0, .vptr (nfC x) 0, .rptr b11 0, .rptr b8 0, .rptr b7 0] (.tuple []) (rdA b9 b10 b8 b7 (readN x pf n c d s)) := by
  have hm := (nfOk_spec hx).1.2
  have hm2 : 2 ^ x.passes.length ≤ 1024 := Nat.pow_le_pow_right (n := 2) (by omega) hm
  intro n
  induction n with
  | zero =>
    intro c d s hc hd ha hl
    exact c_stop hpf hn c d s (by omega)
  | succ n ih =>
    intro c d s hc hd ha hl
    by_cases hs : s.ok = true ∧ s.at_ < pf.length
    rotate_left
    · have := c_stop (x := x) (b11 := b11) hpf hn c d s hs
      simp only [readN, dif_neg hs]
      exact this
    simp only [readN, dif_pos hs]
    obtain ⟨hok, hat⟩ := hs
    obtain ⟨k, ek⟩ : ∃ k, pf[s.at_] = k := ⟨_, rfl⟩
    have hpk : k.prices.length ≤ 9223372036854775807 := hpl k (ek ▸ List.getElem_mem hat)
    rw [ek]
    refine CA_of mixed chk.bin_Bound_1 (by simp) fun S ok S1 hA hK => ?_
    refine Tr.scope (Tr.seq (Tr.seq (Tr.reg ?_)))
    refine ld_ok (r := s) hA rfl rfl ?_
    rw [hok]
    refine Steps.run rfl (by simp) (gld_at (r := s) hA rfl rfl rfl rfl (Steps.fin rfl (by simp) (Tr.cond rfl rfl (fun h => ?_) (fun h => Tr.skip ?_))))
    · exfalso
      have h : (decide ((s.at_ : Int) ≥ ((pf.map eC).length : Int))) = true := h
      simp at h; omega
    refine Tr.seq (Tr.reg (Steps.run rfl (by simp) (ld_at (r := s) hA rfl rfl (Steps.runN 1 rfl (by simp; omega) ?_))))
    rw [getD_map hat, ek]
    refine Steps.fin rfl (by simp) ?_
    refine Tr.seq (Tr.reg (ld_at (r := s) hA rfl rfl (Steps.run rfl (by simp) ?_)))
    refine st_at hn (r := s) (n := s.at_ + 1) hA rfl (w64 (n := (s.at_ : Int) + 1) (by omega) (by omega)) rfl ?_
    refine Steps.fin rfl (by simp) ?_
    obtain ⟨s1, hs1⟩ : ∃ s1 : Rd, { s with at_ := s.at_ + 1 } = s1 := ⟨_, rfl⟩
    rw [hs1]
    have e1 : s1.at_ = s.at_ + 1 := by rw [← hs1]
    have e2 : s1.some = s.some := by rw [← hs1]
    have e3 : s1.least = s.least := by rw [← hs1]
    rw [← e1, ← e2, ← e3]
    refine Tr.weak (s' := { env := [(0, I (c : Nat)), (1, I (d : Nat)), (2, .rptr b9 0), (3, .rptr b10 0), (4, .vptr [cutsV pf] 0), (5, .vptr (nfC x) 0), (6, .rptr b11 0), (7, .rptr b8 0), (8, .rptr b7 0), (11, .ptr 11 0)], bx := [(11, ⟨[I k.split, intsV k.prices], false⟩)], rw := [], log := encA (rdA b9 b10 b8 b7 s1), stp := false })
      (Wk.le (.cons rfl (.refl _) (.cons rfl (.refl _) (.cons rfl (.refl _) (.cons rfl (.refl _) (.cons rfl (.refl _) (.cons rfl (.refl _) (.cons rfl (.refl _) (.cons rfl (.refl _) (.cons rfl (.refl _) (.cons rfl (.refl _) .nil)))))))))) (.cons rfl (LLe.refl _) .nil) .nil rfl rfl) ?_
    refine Tr.seq (Tr.seqR rfl (by simp) (Tr.cond rfl rfl (fun hsp => ?_) (fun hsp => Tr.skip ?_)))
    · have hsp : (k.split != -1) = true := hsp
      have hsp : k.split ≠ -1 := by simpa using hsp
      rw [if_pos hsp]
      have hw1 : IntKind.wrap .i64 (((x.passes.map eQ).length : Int) - 1) = (x.passes.length : Int) - 1 := by rw [List.length_map, w64 (by omega) (by omega)]
      have kw := c_within k.split 0 (IntKind.wrap .i64 (((x.passes.map eQ).length : Int) - 1))
      rw [hw1] at kw
      have kw' : C Tryz.prog F.bin_within [I k.split, I 0, I (IntKind.wrap .i64 (((x.passes.map eQ).length : Int) - 1))] (.bool (btw k.split 0 ((x.passes.length : Int) - 1))) := by rw [hw1]; exact kw
      by_cases hw : btw k.split 0 ((x.passes.length : Int) - 1) = true
      rotate_left
      · have hw : btw k.split 0 ((x.passes.length : Int) - 1) = false := by simpa using hw
        rw [hw] at kw'
        have : splitOk x k d = false := by simp [splitOk, hw]
        rw [if_neg (by simp [this])]
        refine Tr.seq (Tr.seq (Tr.reg (Steps.run rfl (by simp) (Steps.call rfl rfl kw' (Steps.run rfl (by simp) ?_)))))
        refine st_ok hn (r := s1) (v := false) hA rfl rfl (Steps.fin rfl (by simp) ?_)
        refine Tr.seq (Tr.reg (ld_ok (r := { s1 with ok := false }) hA rfl rfl (Steps.fin rfl (by simp) (Tr.condF rfl (Tr.skip ?_)))))
        exact Tr.retX rfl rfl rfl rfl rfl
      rw [hw] at kw'
      rw [btw_iff] at hw
      obtain ⟨i, hi⟩ : ∃ i : Nat, k.split = (i : Int) := ⟨k.split.toNat, by omega⟩
      have hi' : k.split.toNat = i := by omega
      have him : i < x.passes.length := by omega
      have hbit := bit_shr d i (by omega)
      have hso : splitOk x k d = (!d.testBit i && decide (k.prices.length = 0)) := by
        unfold splitOk
        rw [(btw_iff _ _ _).2 hw, hi']; rfl
      have hval : (bif (((((d : Int).fdiv (2 ^ (min (k.split).toNat 64))).tmod 2) == 0)) then (((k.prices.map I).length : Int) == 0) else false) = splitOk x k d := by
        rw [hso, hi, hbit, List.length_map]
        by_cases h : d.testBit i = true
        · simp [h]
        · by_cases h5 : k.prices.length = 0
          · rw [h5]; simp [h]
          · have h6 : k.prices ≠ [] := fun h6 => h5 (by rw [h6]; rfl)
            simp [h, h6]
      refine Tr.seq (Tr.seq (Tr.reg (Steps.run rfl (by simp) (Steps.call rfl rfl kw' (Steps.run rfl (by simp; omega) ?_)))))
      refine st_ok hn (r := s1) (v := splitOk x k d) hA rfl ?_ (Steps.fin rfl (by simp) ?_)
      · rw [← hval]; rfl
      refine Tr.seq (Tr.reg (ld_ok (r := { s1 with ok := splitOk x k d }) hA rfl rfl (Steps.fin rfl (by simp) (Tr.cond rfl rfl (fun h3 => ?_) (fun h3 => Tr.skip ?_)))))
      rotate_left
      · have h3 : splitOk x k d = false := h3
        rw [if_neg (by simp [h3]), h3]
        exact Tr.retX rfl rfl rfl rfl rfl
      have h3 : splitOk x k d = true := h3
      rw [if_pos h3, h3, hi']
      have hp : 2 ^ i < 2 ^ x.passes.length := Nat.pow_lt_pow_right (by omega) him
      have hc2 : c ||| 2 ^ i < 2 ^ x.passes.length := Nat.or_lt_two_pow hc hp
      have hd2 : d ||| 2 ^ i < 2 ^ x.passes.length := Nat.or_lt_two_pow hd hp
      have hsh := bit_shl i (by omega)
      have hor : ∀ e : Nat, e < 2 ^ x.passes.length → bitsV .or .i64 (e : Int) (IntKind.wrap .i64 (1 * 2 ^ (min (k.split).toNat 64))) = ((e ||| 2 ^ i : Nat) : Int) := fun e he => by
        rw [hi, hsh]
        exact bits_or e (2 ^ i) (by omega) (by omega)
      have k1 := ih (c ||| 2 ^ i) (d ||| 2 ^ i) { s1 with ok := true } hc2 hd2 (by simp only; omega) (by simp only; omega)
      have hat2 := readN_at x pf n (c ||| 2 ^ i) (d ||| 2 ^ i) { s1 with ok := true } (by simp only; omega)
      simp only at hat2
      obtain ⟨s2, es2⟩ : ∃ s2, readN x pf n (c ||| 2 ^ i) (d ||| 2 ^ i) { s1 with ok := true } = s2 := ⟨_, rfl⟩
      rw [es2] at k1 hat2 ⊢
      have k2 := ih c (d ||| 2 ^ i) s2 hc hd2 hat2.2 (by omega)
      refine Tr.seq (Tr.drawK (TraceK.kload hK (cs := [readV x pf b9 b10 b11 b8 b7]) rfl (by simp) rfl (TraceK.runN 10 rfl (by simp; omega) ?_)))
      have hkd : ∀ r : Rd, ∀ p ∈ [(b11, [readV x pf b9 b10 b11 b8 b7])], p.1 ∉ (rdA b9 b10 b8 b7 r).map (·.1) := fun r p hp => by
        obtain rfl := List.mem_singleton.1 hp
        exact h11
      rw [← hor c hc, ← hor d hd] at k1
      refine .done ⟨by kernel_rfl, by kernel_rfl, ?_⟩
      refine Steps.callvA (F := []) hA rfl rfl rfl k1 (.inr ⟨hK, hkd _⟩) (Steps.fin rfl (by simp) ?_)
      rw [← hor d hd] at k2
      refine Tr.drawK (TraceK.kload hK (cs := [readV x pf b9 b10 b11 b8 b7]) rfl (by simp) rfl (TraceK.runN 6 rfl (by simp; omega) (.done ⟨by kernel_rfl, by kernel_rfl, ?_⟩)))
      refine Steps.callvA (F := []) hA rfl rfl rfl k2 (.inr ⟨hK, hkd _⟩) (Steps.fin rfl (by simp) ?_)
      exact Tr.retX rfl rfl rfl rfl rfl
    have hsp : (k.split != -1) = false := hsp
    have hsp : ¬ k.split ≠ -1 := by simpa using hsp
    rw [if_neg hsp]
    have hlen : ((((k.prices.map I).length : Int)) == (((x.lacks.map I).length : Int))) = decide (k.prices.length = x.lacks.length) := by
      rw [List.length_map, List.length_map]
      by_cases h : k.prices.length = x.lacks.length
      · rw [h]; simp
      · have : ¬ ((k.prices.length : Int) = (x.lacks.length : Int)) := by omega
        simp [h, this]
    refine Tr.seq (Tr.reg (Steps.run rfl (by simp) ?_))
    have hlen0 : ((((k.prices.map I).length : Int)) == (((x.lacks.map I).length : Int))) = (decide (k.prices.length = x.lacks.length) && (k.prices.take 0).all (btw · 0 1000000)) := by rw [hlen]; simp
    refine st_ok hn (r := s1) (v := decide (k.prices.length = x.lacks.length) && (k.prices.take 0).all (btw · 0 1000000)) hA rfl ?_ (Steps.fin rfl (by simp) ?_)
    · rw [← hlen0]; rfl
    refine Tr.seq (Tr.label ?_)
    refine Tr.meet { env := [(0, I (c : Nat)), (1, I (d : Nat)), (2, .rptr b9 0), (5, .vptr (nfC x) 0), (7, .rptr b8 0), (8, .rptr b7 0), (11, .ptr 11 0)], bx := [(11, ⟨[I k.split, intsV k.prices], false⟩)], rw := [], log := encA (rdA b9 b10 b8 b7 { s1 with ok := pricesOk x k.prices }), stp := false } (Tr.seqR rfl (by simp) (Tr.block ?_)) ?_
    · refine Tr.loop (fun (j : Nat) st => (j ≤ k.prices.length) ∧ st = { env := [(0, I (c : Nat)), (1, I (d : Nat)), (2, .rptr b9 0), (5, .vptr (nfC x) 0), (7, .rptr b8 0), (8, .rptr b7 0), (11, .ptr 11 0), (82, intsV k.prices), (83, I (k.prices.length : Nat)), (84, I (j : Nat))], bx := [(11, ⟨[I k.split, intsV k.prices], false⟩)], rw := [], log := encA (rdA b9 b10 b8 b7 { s1 with ok := decide (k.prices.length = x.lacks.length) && (k.prices.take j).all (btw · 0 1000000) }), stp := false }) (fun j => k.prices.length - j) 0
        (Wk.le (.cons rfl (.refl _) (.cons rfl (.refl _) (.cons rfl (.refl _) (.cons rfl (.refl _) (.cons rfl (.refl _) (.cons rfl (.refl _) (.cons rfl (.refl _) (.cons rfl (.refl _) (.cons rfl (VLe.i ?_) (.cons rfl (.refl _) .nil)))))))))) (.cons rfl (LLe.refl _) .nil) .nil rfl rfl) ⟨Nat.zero_le _, rfl⟩ ?_
      · show ((k.prices.map I).length : Int) = _
        rw [List.length_map]
      rintro j st ⟨hj, rfl⟩
      refine Tr.seqR rfl (by simp) (Tr.seqI rfl (fun h1 => ?_) (fun h1 => ?_))
      rotate_left
      · have h1 : j = k.prices.length := by simp at h1; omega
        subst h1
        rw [List.take_length]
        exact Tr.exit (Wk.le (.cons rfl (.refl _) (.cons rfl (.refl _) (.cons rfl (.refl _) (.cons rfl (.refl _) (.cons rfl (.refl _) (.cons rfl (.refl _) (.cons rfl (.refl _) .nil))))))) (.cons rfl (LLe.refl _) .nil) .nil rfl rfl)
      have h1 : j < k.prices.length := by simpa using h1
      have hnx : (decide (k.prices.length = x.lacks.length) && (k.prices.take (j + 1)).all (btw · 0 1000000)) = ((decide (k.prices.length = x.lacks.length) && (k.prices.take j).all (btw · 0 1000000)) && btw k.prices[j] 0 1000000) := by
        rw [all_take_succ h1, Bool.and_assoc]
      have hfa : (decide (k.prices.length = x.lacks.length) && (k.prices.take (j + 1)).all (btw · 0 1000000)) = false → pricesOk x k.prices = false := fun h => by
        unfold pricesOk
        rw [Bool.and_eq_false_iff] at h ⊢
        rcases h with h | h
        · exact .inl h
        · refine .inr ?_
          rw [List.all_eq_false] at h ⊢
          obtain ⟨m, hm, h⟩ := h
          exact ⟨m, List.mem_of_mem_take hm, h⟩
      generalize hB0 : (decide (k.prices.length = x.lacks.length) && (k.prices.take j).all (btw · 0 1000000)) = B0 at hnx ⊢
      refine Tr.skipT (Tr.seq (Tr.block (Tr.seq (Tr.reg (Steps.runN 1 rfl (by simp; omega) ?_)))))
      rw [getD_map h1]
      refine Steps.fin rfl (by simp) (Tr.seq (Tr.reg (ld_ok (r := { s1 with ok := B0 }) hA rfl rfl (Steps.run rfl (by simp) ?_))))
      refine Steps.gcall rfl rfl rfl rfl (by simp) (fun _ => c_within k.prices[j] 0 1000000) ?_
      refine Steps.runN 1 rfl (by cases B0 <;> simp) ?_
      refine st_ok hn (r := { s1 with ok := B0 }) (v := B0 && btw k.prices[j] 0 1000000) hA rfl ?_ (Steps.fin rfl (by simp) ?_)
      · show some [V.rptr b9 0, .bool (bif B0 then btw k.prices[j] 0 1000000 else false)] = _
        cases B0 <;> rfl
      rw [← hnx]
      refine Tr.seq (Tr.reg (ld_ok (r := { s1 with ok := _ }) hA rfl rfl (Steps.fin rfl (by simp) (Tr.cond rfl rfl (fun h2 => ?_) (fun h2 => Tr.skip ?_)))))
      · have h2 : (!(decide (k.prices.length = x.lacks.length) && (k.prices.take (j + 1)).all (btw · 0 1000000))) = true := h2
        have h2 : (decide (k.prices.length = x.lacks.length) && (k.prices.take (j + 1)).all (btw · 0 1000000)) = false := by
          revert h2
          generalize (decide (k.prices.length = x.lacks.length) && (k.prices.take (j + 1)).all (btw · 0 1000000)) = B
          cases B <;> simp
        rw [h2, hfa h2]
        exact Tr.exit (Wk.le (.cons rfl (.refl _) (.cons rfl (.refl _) (.cons rfl (.refl _) (.cons rfl (.refl _) (.cons rfl (.refl _) (.cons rfl (.refl _) (.cons rfl (.refl _) .nil))))))) (.cons rfl (LLe.refl _) .nil) .nil rfl rfl)
      · refine Tr.regR rfl (by simp) ?_
        exact ⟨j + 1, _, Wk.le (.cons rfl (.refl _) (.cons rfl (.refl _) (.cons rfl (.refl _) (.cons rfl (.refl _) (.cons rfl (.refl _) (.cons rfl (.refl _) (.cons rfl (.refl _) (.cons rfl (.refl _) (.cons rfl (.refl _) (.cons rfl (VLe.i (w64 (by omega) (by omega))) .nil)))))))))) (.cons rfl (LLe.refl _) .nil) .nil rfl rfl, ⟨h1, rfl⟩, by omega⟩
    refine Tr.seq (Tr.reg (ld_ok (r := { s1 with ok := pricesOk x k.prices }) hA rfl rfl (Steps.fin rfl (by simp) (Tr.cond rfl rfl (fun h2 => ?_) (fun h2 => Tr.skip ?_)))))
    rotate_left
    · have h2 : pricesOk x k.prices = false := h2
      rw [if_neg (by simp [h2]), h2]
      exact ⟨rfl, [], [], [], rfl, rfl, rfl⟩
    have h2 : pricesOk x k.prices = true := h2
    rw [if_pos h2, h2]
    obtain ⟨hp1, hp2⟩ := pricesOk_spec h2
    refine Tr.seq (Tr.reg (Steps.run rfl (by simp) (Steps.call rfl rfl (c_leaf hx hp2 hp1 hc) (Steps.fin rfl (by simp) ?_))))
    refine Tr.seq (Tr.reg (ld_some (r := { s1 with ok := true }) hA rfl rfl ?_))
    have e5 : ({ s1 with ok := true } : Rd).some = s1.some := rfl
    rw [e5]
    cases hsm : s1.some with
    | true =>
      refine Steps.run rfl (by simp) ?_
      refine gld_least (r := { s1 with ok := true, some := true }) hA rfl rfl rfl rfl ?_
      refine Steps.fin rfl (by simp) (Tr.cond rfl rfl (fun h3 => ?_) (fun h3 => Tr.skip ?_))
      · have h3 : decide (leafN x k.prices c d < s1.least) = true := h3
        rw [if_pos (by rw [h3]; rfl)]
        refine Tr.reg (Steps.run rfl (by simp) ?_)
        refine st_least hn (r := { s1 with ok := true, some := true }) (v := leafN x k.prices c d) hA rfl rfl ?_
        refine st_some hn (r := { s1 with ok := true, some := true, least := leafN x k.prices c d }) (v := true) hA rfl rfl (Steps.fin rfl (by simp) ?_)
        exact ⟨rfl, [], [], [], rfl, rfl, rfl⟩
      · have h3 : decide (leafN x k.prices c d < s1.least) = false := h3
        rw [if_neg (by rw [h3]; simp)]
        refine ⟨?_, [], [], [], rfl, rfl, rfl⟩
        rfl
    | false =>
      refine Steps.run rfl (by simp) (Steps.off (want := false) (I 0) rfl rfl rfl ?_)
      refine Steps.fin rfl (by simp) (Tr.condT rfl ?_)
      rw [if_pos (by simp)]
      refine Tr.reg (Steps.run rfl (by simp) ?_)
      refine st_least hn (r := { s1 with ok := true, some := false }) (v := leafN x k.prices c d) hA rfl rfl ?_
      refine st_some hn (r := { s1 with ok := true, some := false, least := leafN x k.prices c d }) (v := true) hA rfl rfl (Steps.fin rfl (by simp) ?_)
      exact ⟨rfl, [], [], [], rfl, rfl, rfl⟩

end Go.Proofs.YtdejdblopmfjfaaGreatDoor


/-! Contracts: Bound. -/
set_option linter.unusedVariables false
set_option linter.unusedSimpArgs false
set_option maxRecDepth 40000
set_option maxHeartbeats 4000000
namespace Go.Proofs.YtdejdblopmfjfaaGreatDoor
open Go.Am
attribute [local simp] cells scalar mkv splice under2 under dem dem1 eB eQ nfC intsV eC cutsV
def boundN (x : Nf) (pf : List Ct) : Rd := readN x pf pf.length 0 0 ⟨true, 0, false, 0⟩
def BoundR (x : Nf) (pf : List Ct) : V := if nfOk x then (if pf.length ≤ 2048 then (if (boundN x pf).ok && decide ((boundN x pf).at_ = pf.length) then .tuple [I (boundN x pf).least, I 0] else .tuple [I 0, I 76]) else .tuple [I 0, I 76]) else .tuple [I 0, I 74]

theorem setA_head {A : Arena} {b : Nat} (h : b ∉ A.map (·.1)) (o o' : Ob) : setA ((b, o) :: A) b o' = (b, o') :: A := by
  unfold setA
  rw [List.map_cons, if_pos rfl]
  congr 1
  conv => rhs; rw [← List.map_id A]
  refine List.map_congr_left fun p hp => ?_
  rw [if_neg (fun e => h (List.mem_map.2 ⟨p, hp, e⟩))]; rfl

theorem c_Bound {x : Nf} (hx : ∀ p ∈ x.passes, p.adds.length ≤ 9223372036854775807) {pf : List Ct} (hpl : ∀ k ∈ pf, k.prices.length ≤ 9223372036854775807) : C Tryz.prog F.bin_Bound [.agg (nfC x), cutsV pf] (BoundR x pf) := by
  have kc := c_CheckInfill hx
  unfold BoundR
  refine C_of mixed chk.bin_Bound (by simp) fun S ok => ?_
  refine Tr.seqR rfl (by simp) ?_
  by_cases hk : nfOk x = true
  rotate_left
  · rw [if_neg hk] at kc ⊢
    refine Tr.seq (Tr.seqC rfl (by simp) (Steps.call rfl rfl kc (Steps.fin rfl (by simp) (Tr.seqR rfl (by simp) (Tr.condT rfl (Tr.seqR rfl (by simp) ?_))))))
    exact Tr.retX rfl rfl rfl rfl trivial
  rw [if_pos hk] at kc ⊢
  refine Tr.seq (Tr.seqC rfl (by simp) (Steps.call rfl rfl kc (Steps.fin rfl (by simp) (Tr.seqR rfl (by simp) (Tr.condF rfl (Tr.skip ?_))))))
  refine Tr.seq (Tr.seqR rfl (by simp) (Tr.cond rfl rfl (fun h => ?_) (fun h => Tr.skip ?_)))
  · have h : decide (((pf.map eC).length : Int) > 2048) = true := h
    have h : ¬ pf.length ≤ 2048 := by simp at h; omega
    rw [if_neg h]
    exact Tr.seqR rfl (by simp) (Tr.retX rfl rfl rfl rfl trivial)
  have h : decide (((pf.map eC).length : Int) > 2048) = false := h
  have hp : pf.length ≤ 2048 := by simp at h; omega
  rw [if_pos hp]
  refine Tr.weak (s' := { env := [(2, .ptr 2 0), (3, .ptr 3 0)], bx := [(2, ⟨nfC x, false⟩), (3, ⟨[cutsV pf], false⟩)], rw := [], log := [], stp := false }) (Wk.le (.cons rfl (.refl _) (.cons rfl (.refl _) .nil)) (.cons rfl (LLe.refl _) (.cons rfl (LLe.refl _) .nil)) .nil rfl rfl) ?_
  refine Tr.weak (wkData (t := 2) (u := .vptr (nfC x) 0) (ids := [2]) rfl rfl) ?_
  refine Tr.weak (wkData (t := 3) (u := .vptr [cutsV pf] 0) (ids := [3]) rfl rfl) ?_
  refine Tr.weak (s' := { env := [(2, .vptr (nfC x) 0), (3, .vptr [cutsV pf] 0)], bx := [], rw := [], log := [], stp := false }) (Wk.le (.cons rfl (.refl _) (.cons rfl (.refl _) .nil)) .nil .nil rfl rfl) ?_
  refine Tr.arena rfl rfl ?_
  have hA := InA.main (E := env0 Tryz.prog mixed 32 S ok) [] false
  refine Tr.seq (Tr.reg ?_)
  refine Steps.aalloc hA rfl fun b7 n7 => ?_
  refine Steps.aalloc hA rfl fun b8 n8 => ?_
  refine Steps.aalloc hA rfl fun b9 n9 => ?_
  refine Steps.aalloc hA rfl fun b10 n10 => ?_
  have hn : [b10, b9, b8, b7].Nodup := by
    simp only [List.map_cons, List.map_nil, List.mem_cons, List.not_mem_nil, or_false, not_or] at n7 n8 n9 n10
    simp only [List.nodup_cons, List.mem_cons, List.not_mem_nil, or_false, not_or]
    exact ⟨⟨n10.1, n10.2.1, n10.2.2⟩, ⟨n9.1, n9.2⟩, n8, fun h => h, List.nodup_nil⟩
  refine st_least hn (r := ⟨false, 0, false, 0⟩) (v := 0) hA rfl rfl ?_
  refine st_some hn (r := ⟨false, 0, false, 0⟩) (v := false) hA rfl rfl ?_
  refine st_ok hn (r := ⟨false, 0, false, 0⟩) (v := true) hA rfl rfl ?_
  refine st_at hn (r := ⟨true, 0, false, 0⟩) (v := 0) (n := 0) hA rfl rfl rfl (Steps.fin rfl (by simp) ?_)
  refine Tr.seq (Tr.reg (Steps.aalloc hA rfl fun b11 n11 => Steps.fin rfl (by simp) ?_))
  have h11 : b11 ∉ [b10, b9, b8, b7] := n11
  have ka := c_read hk hp hpl (b11 := b11) hn h11 pf.length 0 0 ⟨true, 0, false, 0⟩ (Nat.two_pow_pos _) (Nat.two_pow_pos _) (Nat.zero_le _) (by simp)
  refine Tr.seq (Tr.reg (Steps.run rfl (by simp) ?_))
  refine Steps.astoreD (blk := b11) (off := 0) (cs := [.nilf]) (v := readV x pf b9 b10 b11 b8 b7) hA rfl rfl (by simp) (by simp) rfl rfl ?_
  rw [setA_head h11]
  refine Steps.fin rfl (by simp) ?_
  refine Tr.seq (Tr.reg (Steps.aload (blk := b11) (off := 0) (cs := [readV x pf b9 b10 b11 b8 b7]) hA rfl rfl (by simp) rfl ?_))
  refine Steps.callvA (F := [(b11, .cells [readV x pf b9 b10 b11 b8 b7])]) hA rfl rfl rfl ka (.inl (by simp)) (Steps.fin rfl (by simp) ?_)
  have hr : boundN x pf = readN x pf pf.length 0 0 ⟨true, 0, false, 0⟩ := rfl
  rw [← hr]
  generalize boundN x pf = r
  obtain ⟨rok, rat, rsome, rleast⟩ := r
  refine Tr.seq (Tr.seq (Tr.reg (Steps.aload (blk := b9) (off := 0) (cs := [.bool rok]) hA rfl rfl (by simp [rdA]) rfl ?_)))
  cases rok with
  | false =>
    rw [if_neg (by simp)]
    refine Steps.run rfl (by simp) (Steps.off (want := false) (I 0) rfl rfl rfl (Steps.fin rfl (by simp) (Tr.condT rfl ?_)))
    refine Tr.seqR rfl (by simp) ?_
    exact Tr.ret ⟨trivial, _, _, _, resVs_ok rfl, rfl, rfl⟩
  | true =>
    refine Steps.run rfl (by simp) (Steps.gaload (blk := b10) (off := 0) (cs := [I (rat : Nat)]) hA rfl rfl rfl rfl (by simp [rdA]) rfl (Steps.fin rfl (by simp) (Tr.cond rfl rfl (fun h => ?_) (fun h => Tr.skip ?_))))
    · have h : ((rat : Int) != ((pf.map eC).length : Int)) = true := h
      have hne : rat ≠ pf.length := by
        rintro rfl
        simp at h
      rw [if_neg (by simp [hne])]
      refine Tr.seqR rfl (by simp) ?_
      exact Tr.ret ⟨trivial, _, _, _, resVs_ok rfl, rfl, rfl⟩
    · have h : ((rat : Int) != ((pf.map eC).length : Int)) = false := h
      have he : rat = pf.length := by simp at h; omega
      rw [if_pos (by simp [he])]
      refine Tr.seq (Tr.reg (Steps.aload (blk := b7) (off := 0) (cs := [I rleast]) hA rfl rfl (by simp [rdA]) rfl (Steps.fin rfl (by simp) ?_)))
      exact Tr.ret ⟨trivial, _, _, _, resVs_ok rfl, rfl, rfl⟩

end Go.Proofs.YtdejdblopmfjfaaGreatDoor


/-! Contracts: a fold as a text. -/
set_option linter.unusedVariables false
set_option linter.unusedSimpArgs false
set_option maxRecDepth 40000
set_option maxHeartbeats 4000000
namespace Go.Proofs.YtdejdblopmfjfaaGreatDoor
open Go.Am
attribute [local simp] cells scalar mkv splice under2 under dem dem1 eB gridC sB intsV
def foldV (f : List (List Int)) : V := .slice 0 1 (f.map intsV)
attribute [local simp] foldV
def rowOk (g : Gd) (l : List Int) : Bool := decide (l.length = g.cls.length) && !(l.any fun n => decide (n < 0))
def mapOk (g : Gd) (f : List (List Int)) : Bool := decide ((f.length : Int) = g.a * g.d) && f.all (rowOk g)
def charB (n : Int) : UInt8 := if n = 0 then 46 else if n ≤ 9 then UInt8.ofNat (48 + n).toNat else 43
def at2 (f : List (List Int)) (i k : Nat) : Int := (f.getD i []).getD k 0
def rowB (g : Gd) (f : List (List Int)) (k r : Nat) : List UInt8 := (List.range g.a.toNat).map fun c => charB (at2 f (r * g.a.toNat + c) k)
def mapB (g : Gd) (f : List (List Int)) (k : Nat) : List UInt8 := (List.range g.d.toNat).flatMap fun i => rowB g f k (g.d.toNat - 1 - i) ++ [10]

theorem c_Map1 (n : Int) : C Tryz.prog F.bin_Map_1 [I n] (.bool (decide (n < 0))) := by
  refine C_of mixed chk.bin_Map_1 (by simp) fun S ok => ?_
  exact Tr.seqR rfl (by simp) (Tr.seqR rfl (by simp) (Tr.retX rfl rfl rfl rfl trivial))

def MapR (g : Gd) (f : List (List Int)) (k : Int) : V :=
  if gridOk g then (if mapOk g f then (if btw k 0 ((g.cls.length : Int) - 1) then .tuple [.str ⟨(mapB g f k.toNat).toArray⟩, I 0] else .tuple [.str ⟨#[]⟩, I 72]) else .tuple [.str ⟨#[]⟩, I 73]) else .tuple [.str ⟨#[]⟩, I 70]

theorem gridOk_sp {g : Gd} (h : gridOk g = true) : planeB g.o = true ∧ (1 ≤ g.size ∧ g.size ≤ 1000) ∧ (1 ≤ g.a ∧ g.a ≤ 16) ∧ (1 ≤ g.d ∧ g.d ≤ 16) ∧ (1 ≤ g.cls.length ∧ g.cls.length ≤ 4) ∧ clsOk (-1) g.cls = true := by
  simp only [gridOk, Bool.and_eq_true, btw_iff] at h
  obtain ⟨⟨⟨⟨⟨h1, h2⟩, h3⟩, h4⟩, h5⟩, h6⟩ := h
  exact ⟨h1, h2, h3, h4, by omega, h6⟩

theorem c_Map {g : Gd} (hl : g.cls.length ≤ 9223372036854775807) {f : List (List Int)} (hf : ∀ l ∈ f, l.length ≤ 9223372036854775807) (hf2 : f.length ≤ 9223372036854775807) (k : Int) : C Tryz.prog F.bin_Map [.agg (gridC g), foldV f, I k] (MapR g f k) := by
  have kg := c_CheckGrid (g := g) hl
  unfold MapR
  refine C_of mixed chk.bin_Map (by simp) fun S ok => ?_
  refine Tr.seqR rfl (by simp) ?_
  by_cases hg : gridOk g = true
  rotate_left
  · rw [if_neg hg] at kg ⊢
    refine Tr.seq (Tr.seqC rfl (by simp) (Steps.call rfl rfl kg (Steps.fin rfl (by simp) (Tr.seqR rfl (by simp) (Tr.condT rfl (Tr.seqR rfl (by simp) ?_))))))
    exact Tr.retX rfl rfl rfl rfl trivial
  rw [if_pos hg] at kg ⊢
  obtain ⟨_, _, ha, hd, hc, _⟩ := gridOk_sp hg
  have had : 0 ≤ g.a * g.d ∧ g.a * g.d ≤ 256 := ⟨Int.mul_nonneg (by omega) (by omega), by have := Int.mul_le_mul ha.2 hd.2 (by omega) (by omega); omega⟩
  refine Tr.seq (Tr.seqC rfl (by simp) (Steps.call rfl rfl kg (Steps.fin rfl (by simp) (Tr.seqR rfl (by simp) (Tr.condF rfl (Tr.skip ?_))))))
  refine Tr.seqR rfl (by simp) ?_
  have hok0 : (((f.map intsV).length : Int) == IntKind.wrap .i64 (g.a * g.d)) = decide ((f.length : Int) = g.a * g.d) := by
    rw [List.length_map, w64 (by omega) (by omega)]
    by_cases h : (f.length : Int) = g.a * g.d
    · rw [h]; simp
    · simp [h]
  refine Tr.seq (Tr.seqR rfl (by simp) (Tr.block ?_))
  refine Tr.loop (fun (j : Nat) st => j ≤ f.length ∧ st = { env := [(1, foldV f), (2, I k), (3, .ptr 3 0), (9, .bool (decide ((f.length : Int) = g.a * g.d) && (f.take j).all (rowOk g))), (29, foldV f), (30, I (f.length : Nat)), (31, I (j : Nat))], bx := [(3, ⟨gridC g, false⟩)], rw := [], log := [], stp := false }) (fun j => f.length - j) 0
    (Wk.le (.cons rfl (.refl _) (.cons rfl (.refl _) (.cons rfl (.refl _) (.cons rfl (.of_eq ?_) (.cons rfl (.refl _) (.cons rfl (VLe.i (by simp)) (.cons rfl (.refl _) .nil))))))) (.cons rfl (LLe.refl _) .nil) .nil rfl rfl) ⟨Nat.zero_le _, rfl⟩ ?_
  · rw [List.take_zero, List.all_nil, Bool.and_true, ← hok0]
  rintro j st ⟨hj, rfl⟩
  refine Tr.seqR rfl (by simp) (Tr.seqI rfl (fun h1 => ?_) (fun h1 => ?_))
  · have h1 : j < f.length := by simpa using h1
    have hnx : (decide ((f.length : Int) = g.a * g.d) && (f.take (j + 1)).all (rowOk g)) = ((decide ((f.length : Int) = g.a * g.d) && (f.take j).all (rowOk g)) && rowOk g f[j]) := by
      rw [all_take_succ h1, Bool.and_assoc]
    generalize (decide ((f.length : Int) = g.a * g.d) && (f.take j).all (rowOk g)) = B0 at hnx ⊢
    refine Tr.skipT (Tr.seq (Tr.block (Tr.seq (Tr.reg (Steps.runN 1 rfl (by simp; omega) ?_)))))
    rw [getD_map h1]
    refine Steps.fin rfl (by simp) (Tr.reg (Steps.run rfl (by simp) ?_))
    refine Steps.gcall rfl rfl rfl rfl (by simp) (fun _ => c_containsI (hf _ (List.getElem_mem h1)) fun n _ => c_Map1 n) ?_
    refine Steps.fin rfl (by simp) (Tr.regR rfl (by simp) ?_)
    refine ⟨j + 1, _, Wk.le (.cons rfl (.refl _) (.cons rfl (.refl _) (.cons rfl (.refl _) (.cons rfl (.of_eq ?_) (.cons rfl (.refl _) (.cons rfl (.refl _) (.cons rfl (VLe.i (w64 (by omega) (by omega))) .nil))))))) (.cons rfl (LLe.refl _) .nil) .nil rfl rfl, ⟨h1, rfl⟩, by omega⟩
    rw [hnx]
    have e1 : (((f[j].map I).length : Int) == ((g.cls.map eB).length : Int)) = decide (f[j].length = g.cls.length) := by
      rw [List.length_map, List.length_map]
      by_cases h : f[j].length = g.cls.length
      · rw [h]; simp
      · have : ¬ ((f[j].length : Int) = (g.cls.length : Int)) := by omega
        simp [h, this]
    show V.bool (bif (bif B0 then (((f[j].map I).length : Int) == ((g.cls.map eB).length : Int)) else false) then !(f[j].any fun n => decide (n < 0)) else false) = _
    rw [e1]
    unfold rowOk
    cases B0 <;> cases decide (f[j].length = g.cls.length) <;> rfl
  have h1 : j = f.length := by simp at h1; omega
  subst h1
  rw [List.take_length]
  have hmo : (decide ((f.length : Int) = g.a * g.d) && f.all (rowOk g)) = mapOk g f := rfl
  rw [hmo]
  refine Tr.exit (Tr.seq (Tr.seqR rfl (by simp) (Tr.cond rfl rfl (fun h2 => ?_) (fun h2 => Tr.skip ?_))))
  · have h2 : (!mapOk g f) = true := h2
    rw [if_neg (by simpa using h2)]
    exact Tr.seqR rfl (by simp) (Tr.retX rfl rfl rfl rfl trivial)
  have h2 : (!mapOk g f) = false := h2
  have h2 : mapOk g f = true := by simpa using h2
  rw [if_pos h2]
  have kw := c_within k 0 (IntKind.wrap .i64 (((g.cls.map eB).length : Int) - 1))
  have hw1 : IntKind.wrap .i64 (((g.cls.map eB).length : Int) - 1) = (g.cls.length : Int) - 1 := by rw [List.length_map, w64 (by omega) (by omega)]
  refine Tr.seq (Tr.seqC rfl (by simp) (Steps.call rfl rfl kw (Steps.fin rfl (by simp) (Tr.cond rfl rfl (fun h3 => ?_) (fun h3 => Tr.skip ?_)))))
  · have h3 : (!btw k 0 (IntKind.wrap .i64 (((g.cls.map eB).length : Int) - 1))) = true := h3
    rw [hw1] at h3
    rw [if_neg (by simpa using h3)]
    exact Tr.seqR rfl (by simp) (Tr.retX rfl rfl rfl rfl trivial)
  have h3 : (!btw k 0 (IntKind.wrap .i64 (((g.cls.map eB).length : Int) - 1))) = false := h3
  rw [hw1] at h3
  have h3 : btw k 0 ((g.cls.length : Int) - 1) = true := by simpa using h3
  rw [if_pos h3]
  rw [btw_iff] at h3
  obtain ⟨q, rfl⟩ : ∃ q : Nat, k = (q : Int) := ⟨k.toNat, by omega⟩
  have eq2 : ((q : Int)).toNat = q := by omega
  rw [eq2]
  have hqc : q < g.cls.length := by omega
  simp only [mapOk, rowOk, Bool.and_eq_true, decide_eq_true_eq, List.all_eq_true, Bool.not_eq_true', List.any_eq_false, decide_eq_false_iff_not, Bool.not_eq_true, Int.not_lt] at h2
  obtain ⟨hfl, hrow⟩ := h2
  obtain ⟨na, hna⟩ : ∃ n : Nat, g.a = (n : Int) := ⟨g.a.toNat, by omega⟩
  obtain ⟨nd, hnd⟩ : ∃ n : Nat, g.d = (n : Int) := ⟨g.d.toNat, by omega⟩
  have ena : g.a.toNat = na := by omega
  have end' : g.d.toNat = nd := by omega
  have hfl2 : f.length = na * nd := by rw [hna, hnd] at hfl; exact_mod_cast hfl
  refine Tr.seqR rfl (by simp) (Tr.seq (Tr.seqR rfl (by simp) (Tr.block ?_)))
  have hlenB : ∀ j, j ≤ nd → ((List.range j).flatMap fun i => rowB g f q (g.d.toNat - 1 - i) ++ [10]).length = j * (na + 1) := fun j _ => by
    induction j with
    | zero => simp
    | succ j ih => rw [List.range_succ, List.flatMap_append, List.length_append, ih (by omega)]; simp [rowB, ena, Nat.add_mul]
  refine Tr.loop (fun (j : Nat) st => j ≤ nd ∧ st = { env := [(1, foldV f), (2, I (q : Nat)), (3, .ptr 3 0), (12, .slice 92 1 (((List.range j).flatMap fun i => rowB g f q (g.d.toNat - 1 - i) ++ [10]).map byteV)), (13, I ((nd : Int) - 1 - j))], bx := [(3, ⟨gridC g, false⟩)], rw := [(91, ((List.range j).flatMap fun i => rowB g f q (g.d.toNat - 1 - i) ++ [10]).length, 1, 5)], log := [], stp := false }) (fun j => nd - j) 0
    (Wk.le (.cons rfl (.refl _) (.cons rfl (.refl _) (.cons rfl (.refl _) (.cons rfl (.nil 92 1) (.cons rfl (VLe.i ?_) .nil))))) (.cons rfl (LLe.refl _) .nil) (.new rfl .nil) rfl rfl) ⟨Nat.zero_le _, rfl⟩ ?_
  · show IntKind.wrap .i64 (g.d - 1) = _
    rw [w64 (by omega) (by omega), hnd]; simp
  rintro j st ⟨hj, rfl⟩
  have hlj := hlenB j hj
  have hsz : j * (na + 1) ≤ 1000 := by
    have : j * (na + 1) ≤ 16 * 17 := Nat.mul_le_mul (by omega) (by omega)
    omega
  have hnx : ((List.range (j + 1)).flatMap fun i => rowB g f q (g.d.toNat - 1 - i) ++ [10]) = ((List.range j).flatMap fun i => rowB g f q (g.d.toNat - 1 - i) ++ [10]) ++ (rowB g f q (g.d.toNat - 1 - j) ++ [10]) := by
    rw [List.range_succ, List.flatMap_append]; simp
  generalize hpre : ((List.range j).flatMap fun i => rowB g f q (g.d.toNat - 1 - i) ++ [10]) = pre at hlj hnx ⊢
  refine Tr.seq (Tr.seqR rfl (by simp) (Tr.cond rfl rfl (fun h4 => Tr.skip ?_) (fun h4 => Tr.exit ?_)))
  rotate_left
  · have h4 : decide ((nd : Int) - 1 - j ≥ 0) = false := h4
    have h4 : j = nd := by simp at h4; omega
    subst h4
    have hm : mapB g f q = pre := by unfold mapB; rw [← hpre, end']
    rw [hm]
    refine Tr.seq (Tr.reg (Steps.run rfl (by simp) ?_))
    refine Steps.toStr (E := env0 Tryz.prog mixed 107 S ok) (t := 183) (u := 9) (e := 5) (r := 92) (bs := pre) (by kernel_rfl) (by kernel_rfl) (by kernel_rfl) rfl ?_
    exact Steps.fin rfl (by simp) (Tr.retX rfl rfl rfl rfl trivial)
  have h4 : decide ((nd : Int) - 1 - j ≥ 0) = true := h4
  have h4 : j < nd := by simp at h4; omega
  obtain ⟨rr, hrr⟩ : ∃ rr : Nat, rr = nd - 1 - j := ⟨_, rfl⟩
  have hrI : (nd : Int) - 1 - j = (rr : Int) := by omega
  rw [end', ← hrr] at hnx
  rw [hrI]
  refine Tr.seq (Tr.block (Tr.seq (Tr.seqR rfl (by simp) (Tr.block ?_))))
  refine Tr.loop (fun (c : Nat) st => c ≤ na ∧ st = { env := [(1, foldV f), (2, I (q : Nat)), (3, .ptr 3 0), (12, .slice 92 1 ((pre ++ (rowB g f q rr).take c).map byteV)), (13, I (rr : Nat)), (67, I (na : Nat)), (68, I (c : Nat))], bx := [(3, ⟨gridC g, false⟩)], rw := [(91, (pre ++ (rowB g f q rr).take c).length, 1, 5)], log := [], stp := false }) (fun c => na - c) 0
    (Wk.le (.cons rfl (.refl _) (.cons rfl (.refl _) (.cons rfl (.refl _) (.cons rfl (.of_eq ?_) (.cons rfl (.refl _) (.cons rfl (VLe.i hna) (.cons rfl (.refl _) .nil))))))) (.cons rfl (LLe.refl _) .nil) (.cons ?_ .nil) rfl rfl) ⟨Nat.zero_le _, rfl⟩ ?_
  · simp
  · show some _ = some _
    simp
  rintro c st ⟨hc4, rfl⟩
  have hrl : (rowB g f q rr).length = na := by simp [rowB, ena]
  refine Tr.seqR rfl (by simp) (Tr.seqI rfl (fun h5 => ?_) (fun h5 => ?_))
  rotate_left
  · have h5 : c = na := by
      have h5 : decide ((c : Int) < (na : Int)) = false := h5
      simp at h5; omega
    subst h5
    rw [List.take_of_length_le (by omega)]
    refine Tr.exit (Tr.regR rfl (by simp; omega) (Tr.regR rfl (by simp) ?_))
    refine ⟨j + 1, _, Wk.le (.cons rfl (.refl _) (.cons rfl (.refl _) (.cons rfl (.refl _) (.cons rfl (.of_eq ?_) (.cons rfl (VLe.i ?_) .nil))))) (.cons rfl (LLe.refl _) .nil) (.cons ?_ .nil) rfl rfl, ⟨h4, rfl⟩, by omega⟩
    · rw [end', hnx]
      simp [byteV]
    · show IntKind.wrap .i64 ((rr : Int) - 1) = _
      rw [w64 (by omega) (by omega)]; omega
    · show some _ = some _
      rw [end', hnx]
      simp
      omega
  have h5 : c < na := by
    have h5 : decide ((c : Int) < (na : Int)) = true := h5
    simpa using h5
  have hix : rr * na + c < f.length := by
    rw [hfl2]
    have : rr * na + na ≤ na * nd := by
      have : (rr + 1) * na ≤ nd * na := Nat.mul_le_mul_right _ (by omega)
      rw [Nat.mul_comm na nd, ← Nat.succ_mul]; exact this
    omega
  have hbig : rr * na + c ≤ 256 := by
    have h6 : f.length ≤ 256 := by omega
    omega
  have hidx : IntKind.wrap .i64 (IntKind.wrap .i64 ((rr : Int) * g.a) + c) = ((rr * na + c : Nat) : Int) := by
    have e1 : (rr : Int) * g.a = ((rr * na : Nat) : Int) := by rw [hna]; push_cast; rfl
    rw [e1, w64 (n := ((rr * na : Nat) : Int)) (by omega) (by omega), w64 (by omega) (by omega)]; push_cast; rfl
  have hql : q < f[rr * na + c].length := by
    have := (hrow _ (List.getElem_mem hix)).1
    omega
  have hv0 := (hrow _ (List.getElem_mem hix)).2 _ (List.getElem_mem hql)
  have hat : at2 f (rr * na + c) q = f[rr * na + c][q] := by simp [at2, hix, hql]
  have hch : (rowB g f q rr)[c]'(by omega) = charB f[rr * na + c][q] := by simp [rowB, ena, hat]
  have hst : pre ++ (rowB g f q rr).take (c + 1) = (pre ++ (rowB g f q rr).take c) ++ [charB f[rr * na + c][q]] := by
    rw [List.take_add_one, List.getElem?_eq_getElem (by omega), hch]; simp
  have hpl : (pre ++ (rowB g f q rr).take c).length ≤ 1100 := by
    rw [List.length_append, List.length_take]; omega
  generalize pre ++ (rowB g f q rr).take c = P at hst hpl ⊢
  obtain ⟨v, hv⟩ : ∃ v, f[rr * na + c][q] = v := ⟨_, rfl⟩
  refine Tr.skipT (Tr.meet { env := [(1, foldV f), (2, I (q : Nat)), (3, .ptr 3 0), (12, .slice 92 1 ((P ++ [charB v]).map byteV)), (13, I (rr : Nat)), (67, I (na : Nat)), (68, I (c : Nat))], bx := [(3, ⟨gridC g, false⟩)], rw := [(91, (P ++ [charB v]).length, 1, 5)], log := [], stp := false } (Tr.block (Tr.seqR rfl (by simp) ?_)) (Tr.regR rfl (by simp) ?_))
  rotate_left
  · refine ⟨c + 1, _, Wk.le (.cons rfl (.refl _) (.cons rfl (.refl _) (.cons rfl (.refl _) (.cons rfl (.of_eq (by rw [hst, hv])) (.cons rfl (.refl _) (.cons rfl (.refl _) (.cons rfl (VLe.i (w64 (by omega) (by omega))) .nil))))))) (.cons rfl (LLe.refl _) .nil) (.cons (by rw [hst, hv]; rfl) .nil) rfl rfl, ⟨h5, rfl⟩, by omega⟩
  have hcv : ∀ z : Int, P.length + 1 ≤ 2 ^ 47 → (charB v).toNat = z → (P ++ [charB v]).map byteV = P.map byteV ++ [.int .u8 z] := fun z _ h => by
    rw [List.map_append]
    congr 1
    show [V.int .u8 ((charB v).toNat : Int)] = _
    rw [h]
  refine Tr.seq (Tr.reg (Steps.runN 8 rfl (by simp [hidx]; omega) ?_))
  rw [hidx, getD_map hix]
  refine Steps.runN 3 rfl (by simp; omega) ?_
  rw [getD_map hql, hv]
  refine Steps.fin rfl (by simp) (Tr.block ?_)
  rw [hv] at hv0
  refine Tr.seqR rfl (by simp) (Tr.cond rfl rfl (fun h6 => ?_) (fun h6 => ?_))
  · have h6 : (v == 0) = true := h6
    have h6 : v = 0 := by simpa using h6
    refine Tr.regR rfl (by simp; omega) ?_
    refine Wk.le (.cons rfl (.refl _) (.cons rfl (.refl _) (.cons rfl (.refl _) (.cons rfl (.of_eq ?_) (.cons rfl (.refl _) (.cons rfl (.refl _) (.cons rfl (.refl _) .nil))))))) (.cons rfl (LLe.refl _) .nil) (.cons ?_ .nil) rfl rfl
    · rw [hcv 46 (by omega) (by rw [h6]; rfl)]
    · show some _ = some _
      simp
  have h6 : (v == 0) = false := h6
  have h6 : v ≠ 0 := by simpa using h6
  refine Tr.seqR rfl (by simp) (Tr.cond rfl rfl (fun h7 => ?_) (fun h7 => ?_))
  · have h7 : decide (v ≤ 9) = true := h7
    have h7 : v ≤ 9 := by simpa using h7
    refine Tr.regR rfl (by simp; omega) ?_
    refine Wk.le (.cons rfl (.refl _) (.cons rfl (.refl _) (.cons rfl (.refl _) (.cons rfl (.of_eq ?_) (.cons rfl (.refl _) (.cons rfl (.refl _) (.cons rfl (.refl _) .nil))))))) (.cons rfl (LLe.refl _) .nil) (.cons ?_ .nil) rfl rfl
    · rw [hcv (IntKind.wrap .u8 (IntKind.wrap .i64 (48 + v))) (by omega) (by
        have h8 : v = 1 ∨ v = 2 ∨ v = 3 ∨ v = 4 ∨ v = 5 ∨ v = 6 ∨ v = 7 ∨ v = 8 ∨ v = 9 := by omega
        rcases h8 with rfl | rfl | rfl | rfl | rfl | rfl | rfl | rfl | rfl <;> rfl)]
    · show some _ = some _
      simp
  · have h7 : decide (v ≤ 9) = false := h7
    have h7 : ¬ v ≤ 9 := by simpa using h7
    refine Tr.regR rfl (by simp; omega) ?_
    refine Wk.le (.cons rfl (.refl _) (.cons rfl (.refl _) (.cons rfl (.refl _) (.cons rfl (.of_eq ?_) (.cons rfl (.refl _) (.cons rfl (.refl _) (.cons rfl (.refl _) .nil))))))) (.cons rfl (LLe.refl _) .nil) (.cons ?_ .nil) rfl rfl
    · rw [hcv 43 (by omega) (by unfold charB; rw [if_neg h6, if_neg h7]; rfl)]
    · show some _ = some _
      simp

end Go.Proofs.YtdejdblopmfjfaaGreatDoor


/-! Contracts of the specification: CheckPoint, CheckGrid, Digits. -/
set_option linter.unusedVariables false
set_option linter.unusedSimpArgs false
set_option maxRecDepth 40000
set_option maxHeartbeats 4000000
namespace Go.Proofs.YtdejdblopmfjfaaGreatDoor
open Go.Am
attribute [local simp] cells scalar mkv splice under2 under dem dem1 eB gridC sB
theorem c_place01 (p : Int × Int) : C Tryz.prog F.ref01_place [eB p] (.bool (planeB p)) := by
  refine C_of mixed chk.ref01_place (by simp) fun S ok => ?_
  refine Tr.seqR rfl (by simp) (Tr.seqC rfl (by simp) (Steps.call rfl rfl (c_between p.1 (-32768) 32768) (Steps.run rfl (by simp) ?_)))
  refine Steps.gcall rfl rfl rfl rfl (by simp) (fun _ => c_between p.2 (-32768) 32768) (Steps.fin rfl (by simp) (Tr.retX rfl rfl rfl ?_ trivial))
  unfold planeB
  cases btw p.1 (-32768) 32768 <;> rfl

theorem c_CheckPoint01 (p : Int × Int) : C Tryz.prog F.ref01_CheckPoint [eB p] (I (if planeB p then 0 else 10)) := by
  refine C_of mixed chk.ref01_CheckPoint (by simp) fun S ok => ?_
  refine Tr.seqR rfl (by simp) (Tr.seq (Tr.seqC rfl (by simp) (Steps.call rfl rfl (c_place01 p) (Steps.fin rfl (by simp) (Tr.cond rfl rfl (fun h1 => ?_) (fun h1 => Tr.skip ?_))))))
  · have h1 : (!planeB p) = true := h1
    have h1 : planeB p = false := by simpa using h1
    refine Tr.seqR rfl (by simp) (Tr.retX rfl rfl rfl ?_ trivial)
    rw [h1]; rfl
  · have h1 : (!planeB p) = false := h1
    have h1 : planeB p = true := by simpa using h1
    refine Tr.seqR rfl (by simp) (Tr.retX rfl rfl rfl ?_ trivial)
    rw [h1]; rfl

theorem c_CheckGrid07 {g : Gd} (hl : g.cls.length ≤ 9223372036854775807) : C Tryz.prog F.ref07_CheckGrid [.agg (gridC g)] (I (if gridOk g then 0 else 70)) := by
  refine C_of mixed chk.ref07_CheckGrid (by simp) fun S ok => ?_
  refine Tr.seqR rfl (by simp) ?_
  refine Tr.seqC rfl (by simp) (Steps.call rfl rfl (c_CheckPoint01 g.o) (Steps.run rfl (by simp) ?_))
  refine Steps.gcall rfl rfl rfl rfl (by simp) (fun _ => c_between g.size 1 1000) (Steps.run rfl (by simp) ?_)
  refine Steps.gcall rfl rfl rfl rfl (by simp) (fun _ => c_between g.a 1 16) (Steps.run rfl (by simp) ?_)
  refine Steps.gcall rfl rfl rfl rfl (by simp) (fun _ => c_between g.d 1 16) (Steps.run rfl (by simp) ?_)
  refine Steps.gcall rfl rfl rfl rfl (by simp) (fun _ => c_between ((g.cls.map eB).length : Int) 1 4) (Steps.fin rfl (by simp) ?_)
  have hlen : (((g.cls.map eB).length : Int)) = (g.cls.length : Int) := by simp
  obtain ⟨B0, hB0⟩ : ∃ B, (planeB g.o && btw g.size 1 1000 && btw g.a 1 16 && btw g.d 1 16 && btw g.cls.length 1 4) = B := ⟨_, rfl⟩
  have hok : gridOk g = (B0 && clsOk (-1) g.cls) := by unfold gridOk; rw [hB0]
  rw [hok]
  refine Tr.seq (Tr.seqR rfl (by simp) (Tr.block ?_))
  refine Tr.loop (α := Nat × Bool × Int) (fun p s => (p.1 ≤ g.cls.length ∧ (B0 && clsOk (-1) g.cls) = (p.2.1 && clsOk p.2.2 (g.cls.drop p.1)) ∧ (p.2.1 = true → -1 ≤ p.2.2) ∧ (p.1 = 0 → p.2.2 = -1) ∧ (0 < p.1 → p.2.2 = (g.cls.getD (p.1 - 1) (0, 0)).2)) ∧ s = { env := [(1, .ptr 1 0), (3, .bool p.2.1), (4, I (p.1 : Nat))], bx := [(1, ⟨gridC g, false⟩)], rw := [], log := [], stp := false }) (fun p => g.cls.length - p.1) (0, B0, -1)
    (Wk.le (.cons rfl (.refl _) (.cons rfl (.of_eq ?_) (.cons rfl (.refl _) .nil))) (.cons rfl (LLe.refl _) .nil) .nil rfl rfl) ⟨⟨by simp, by simp, by simp, by simp, by simp⟩, rfl⟩ ?_
  · rw [← hB0, ← hlen]
    cases planeB g.o <;> cases btw g.size 1 1000 <;> cases btw g.a 1 16 <;> cases btw g.d 1 16 <;> rfl
  rintro ⟨k, B, last⟩ s ⟨⟨hk, hf, hlast, hk0, hk1⟩, rfl⟩
  simp only at hk hf hlast hk0 hk1
  refine Tr.seq (Tr.seqR rfl (by simp) (Tr.cond rfl rfl (fun h2 => Tr.skip ?_) (fun h2 => Tr.exit ?_)))
  rotate_left
  · have h2 : k = g.cls.length := by simp at h2; omega
    subst h2
    rw [List.drop_length] at hf
    have hf : (B0 && clsOk (-1) g.cls) = B := by rw [hf]; simp [clsOk]
    rw [hf]
    refine Tr.seq (Tr.seqR rfl (by simp) (Tr.cond rfl rfl (fun h3 => ?_) (fun h3 => Tr.skip ?_)))
    · have h3 : (!B) = true := h3
      obtain rfl : B = false := by simpa using h3
      exact Tr.seqR rfl (by simp) (Tr.retX rfl rfl rfl rfl trivial)
    · have h3 : (!B) = false := h3
      obtain rfl : B = true := by simpa using h3
      exact Tr.seqR rfl (by simp) (Tr.retX rfl rfl rfl rfl trivial)
  have h2 : k < g.cls.length := by simpa using h2
  rw [cls_drop h2] at hf
  obtain ⟨j, hj⟩ : ∃ j, (IntKind.wrap .i64 ((k : Int) - 1)).toNat = j := ⟨_, rfl⟩
  have hj2 : j < g.cls.length ∧ (0 < k → j = k - 1 ∧ IntKind.wrap .i64 ((k : Int) - 1) = (k : Int) - 1) := by
    rw [← hj, w64 (by omega) (by omega)]
    constructor
    · omega
    · intro h; exact ⟨by omega, rfl⟩
  refine Tr.seq (Tr.block (Tr.seq (Tr.reg (Steps.runN 4 rfl (by simp; omega) ?_))))
  rw [getD_map h2]
  refine Steps.fin rfl (by simp) ?_
  refine Tr.drawK (TraceK.runN 29 rfl ?_ ?_)
  · simp
    intro m1 m2 m3 m4 m5
    have h9 := hj2.2 (by omega)
    exact ⟨by omega, ⟨⟨⟨m1, m2⟩, m3⟩, m4⟩, m5⟩
  rw [show (IntKind.wrap .i64 ((k : Int) - 1)).toNat = ((j : Nat) : Int).toNat by omega, getD_map hj2.1]
  refine TraceK.runN 3 rfl (by simp) ?_
  refine TraceK.gpick rfl rfl rfl (fun _ => rfl) rfl rfl ?_ ?_
  · simp
    exact fun a b c d => ⟨fun e => ⟨⟨⟨⟨a, b⟩, c⟩, d⟩, e⟩, ⟨⟨a, b⟩, c⟩, d⟩
  refine TraceK.run rfl (by simp) ?_
  refine .done ⟨by kernel_rfl, by kernel_rfl, ?_⟩
  refine Tr.regR rfl (by simp) ?_
  refine ⟨(k + 1, B && (decide (g.cls[k].1 ≥ 0) && decide (g.cls[k].1 ≤ g.cls[k].2) && decide (g.cls[k].2 ≤ 17179869184) && (decide (k = 0) || decide (g.cls[k].1 > g.cls[j].2))), g.cls[k].2), _, Wk.le (.cons rfl (.refl _) (.cons rfl (.of_eq ?_) (.cons rfl (VLe.i (w64 (by omega) (by omega))) .nil))) (.cons rfl (LLe.refl _) .nil) .nil rfl rfl, ⟨⟨h2, ?_, ?_, by simp, ?_⟩, rfl⟩, by simp; omega⟩
  · show V.bool (bif (bif (bif (bif B then decide (g.cls[k].1 ≥ 0) else false) then decide (g.cls[k].1 ≤ g.cls[k].2) else false) then decide (g.cls[k].2 ≤ 17179869184) else false) then (bif ((k : Int) == 0) then true else decide (g.cls[k].1 > g.cls[j].2)) else false) = _
    have e0 : ((k : Int) == 0) = decide (k = 0) := by
      by_cases h : k = 0
      · subst h; rfl
      · rw [decide_eq_false h]; simp; omega
    rw [e0]
    congr 1
    generalize decide (g.cls[k].1 ≥ 0) = a1
    generalize decide (g.cls[k].1 ≤ g.cls[k].2) = a2
    generalize decide (g.cls[k].2 ≤ 17179869184) = a3
    generalize decide (g.cls[k].1 > g.cls[j].2) = a4
    generalize decide (k = 0) = a5
    cases B <;> cases a1 <;> cases a2 <;> cases a3 <;> cases a5 <;> rfl
  · simp only
    rw [hf]
    cases B with
    | false => simp
    | true =>
      have h7 := hlast rfl
      have e1 : (decide (last < g.cls[k].1) && decide (g.cls[k].1 ≤ g.cls[k].2) && decide (g.cls[k].2 ≤ 17179869184)) = (decide (g.cls[k].1 ≥ 0) && decide (g.cls[k].1 ≤ g.cls[k].2) && decide (g.cls[k].2 ≤ 17179869184) && (decide (k = 0) || decide (g.cls[k].1 > g.cls[j].2))) := by
        by_cases h : k = 0
        · have := hk0 h
          subst this
          rw [decide_eq_true h, Bool.true_or, Bool.and_true]
          rfl
        · have h8 := hk1 (by omega)
          have h9 := (hj2.2 (by omega)).1
          have h10 : last = g.cls[j].2 := by
            rw [h8]; subst h9; simp [show k - 1 < g.cls.length by omega]
          rw [decide_eq_false h, Bool.false_or, ← h10]
          by_cases a : last < g.cls[k].1
          · rw [decide_eq_true a, decide_eq_true (show g.cls[k].1 ≥ 0 by omega)]; simp
          · rw [decide_eq_false a]; simp
      rw [Bool.true_and, Bool.true_and, ← e1]
  · simp only
    intro h
    simp only [Bool.and_eq_true, decide_eq_true_eq] at h
    omega
  · intro _
    simp [h2]

def digB (n : Int) : UInt8 := UInt8.ofNat (48 + n).toNat

end Go.Proofs.YtdejdblopmfjfaaGreatDoor


/-! Contracts of the specification: regions checked and counted, layouts checked. -/
set_option linter.unusedVariables false
set_option linter.unusedSimpArgs false
set_option maxRecDepth 40000
set_option maxHeartbeats 4000000
namespace Go.Proofs.YtdejdblopmfjfaaGreatDoor
open Go.Am
attribute [local simp] cells scalar mkv splice under2 under dem dem1 eB gridC sB fourC layC eF
theorem c_ends01 {l : Int} (b : Int × Int) (hl : 0 ≤ l ∧ l ≤ 65536) : C Tryz.prog F.ref01_ends [eB b, I l] (.bool (fitBB l b)) := by
  refine C_of mixed chk.ref01_ends (by simp) fun S ok => ?_
  refine Tr.seqR rfl (by simp) (Tr.seqR rfl (by simp) (Tr.retX rfl rfl rfl ?_ trivial))
  show V.bool (fitBB l b) = V.bool (bif (bif decide (b.1 ≥ IntKind.wrap .i64 (0 - l)) then decide (b.1 ≤ b.2) else false) then decide (b.2 ≤ l) else false)
  rw [w64 (by omega) (by omega), Int.zero_sub]
  unfold fitBB
  show _ = V.bool (bif (bif decide (-l ≤ b.1) then _ else _) then _ else _)
  cases decide (-l ≤ b.1) <;> cases decide (b.1 ≤ b.2) <;> rfl

theorem c_Check01 (f : Fr) : C Tryz.prog F.ref01_Check [.agg (fourC f)] (I (if fitFB f then 0 else 11)) := by
  refine C_of mixed chk.ref01_Check (by simp) fun S ok => ?_
  refine Tr.seqR rfl (by simp) ?_
  refine Tr.seq (Tr.seqC rfl (by simp) (Steps.call rfl rfl (c_ends01 (l := 32768) f.x (by omega)) (Steps.run rfl (by simp) ?_)))
  refine Steps.gcall rfl rfl rfl rfl (by simp) (fun _ => c_ends01 (l := 32768) f.y (by omega)) (Steps.run rfl (by simp) ?_)
  refine Steps.gcall rfl rfl rfl rfl (by simp) (fun _ => c_ends01 (l := 65536) f.s (by omega)) (Steps.run rfl (by simp) ?_)
  refine Steps.gcall rfl rfl rfl rfl (by simp) (fun _ => c_ends01 (l := 65536) f.d (by omega)) (Steps.fin rfl (by simp) ?_)
  have key : (bif (bif (bif !fitBB 32768 f.x then true else !fitBB 32768 f.y) then true else !fitBB 65536 f.s) then true else !fitBB 65536 f.d) = !fitFB f := by
    unfold fitFB
    cases fitBB 32768 f.x <;> cases fitBB 32768 f.y <;> cases fitBB 65536 f.s <;> cases fitBB 65536 f.d <;> rfl
  refine Tr.cond rfl rfl (fun h => ?_) (fun h => Tr.skip ?_)
  · have h := key.symm.trans h
    have h : fitFB f = false := by simpa using h
    rw [h]
    exact Tr.seqR rfl (by simp) (Tr.retX rfl rfl rfl rfl trivial)
  · have h := key.symm.trans h
    have h : fitFB f = true := by simpa using h
    rw [h]
    exact Tr.seqR rfl (by simp) (Tr.retX rfl rfl rfl rfl trivial)

theorem c_row01 {f : Fr} (hm : midF f) {x : Int} (hx : -2000000 ≤ x ∧ x ≤ 2000000) : C Tryz.prog F.ref01_row [.agg (fourC f), I x] (.agg [I x, I (lowY f x), I (highY f x)]) := by
  obtain ⟨⟨⟨hx1, hx2⟩, hx3, hx4⟩, ⟨⟨hy1, hy2⟩, hy3, hy4⟩, ⟨⟨hs1, hs2⟩, hs3, hs4⟩, ⟨hd1, hd2⟩, hd3, hd4⟩ := hm
  refine C_of mixed chk.ref01_row (by simp) fun S ok => ?_
  refine Tr.seqR rfl (by simp) (Tr.seqR rfl (by simp) (Tr.retX rfl rfl rfl ?_ trivial))
  simp (disch := omega) only [packR, cond_true, cond_false, ite_max, ite_min, w64, lowY, highY]

theorem row_mid {f : Fr} (hm : midF f) {x : Int} (hx : -2000000 ≤ x ∧ x ≤ 2000000) : -1000000 ≤ lowY f x ∧ lowY f x ≤ 3000000 ∧ -3000000 ≤ highY f x ∧ highY f x ≤ 1000000 := by
  obtain ⟨⟨⟨hx1, hx2⟩, hx3, hx4⟩, ⟨⟨hy1, hy2⟩, hy3, hy4⟩, ⟨⟨hs1, hs2⟩, hs3, hs4⟩, ⟨hd1, hd2⟩, hd3, hd4⟩ := hm
  unfold lowY highY
  omega

theorem count_step {f : Fr} {n : Nat} {x : Int} : ((rowsN f (n + 1) x).map rowM).foldl (· + ·) 0 = max 0 (highY f x - lowY f x + 1) + ((rowsN f n (x + 1)).map rowM).foldl (· + ·) 0 := by
  have fa : ∀ (l : List Int) (z : Int), l.foldl (· + ·) z = z + l.foldl (· + ·) 0 := by
    intro l
    induction l with
    | nil => intro z; simp
    | cons a l ih => intro z; rw [List.foldl_cons, List.foldl_cons, ih (z + a), ih (0 + a)]; omega
  rw [rowsN]
  split
  · rw [List.map_cons, List.foldl_cons, fa]
    have e : rowM (x, lowY f x, highY f x) = highY f x - lowY f x + 1 := rfl
    rw [e]; omega
  · have : max 0 (highY f x - lowY f x + 1) = 0 := by omega
    rw [this]; omega

theorem c_Count01 (f : Fr) : C Tryz.prog F.ref01_Count [.agg (fourC f)] (if fitFB f then .tuple [I (countN f), I 0] else .tuple [I 0, I 11]) := by
  have kc := c_Check01 f
  refine C_of mixed chk.ref01_Count (by simp) fun S ok => ?_
  refine Tr.seqR rfl (by simp) ?_
  by_cases hf : fitFB f = true
  rotate_left
  · rw [if_neg hf] at kc ⊢
    refine Tr.seq (Tr.seqC rfl (by simp) (Steps.call rfl rfl kc (Steps.fin rfl (by simp) (Tr.seqR rfl (by simp) (Tr.condT rfl ?_)))))
    exact Tr.seqR rfl (by simp) (Tr.retX rfl rfl rfl rfl trivial)
  rw [if_pos hf] at kc ⊢
  have hm := mid_of hf
  have hm' := hm
  obtain ⟨⟨⟨hx1, hx2⟩, hx3, hx4⟩, _⟩ := hm'
  refine Tr.seq (Tr.seqC rfl (by simp) (Steps.call rfl rfl kc (Steps.fin rfl (by simp) (Tr.seqR rfl (by simp) (Tr.condF rfl (Tr.skip ?_))))))
  refine Tr.seqR rfl (by simp) (Tr.seq (Tr.seqR rfl (by simp) (Tr.block ?_)))
  obtain ⟨N, hN⟩ : ∃ N, (f.x.2 + 1 - f.x.1).toNat = N := ⟨_, rfl⟩
  have hNb : N ≤ 2000001 := by omega
  have hcn : countN f = ((rowsN f N f.x.1).map rowM).foldl (· + ·) 0 := by unfold countN rowsL; rw [hN]
  refine Tr.loop (α := Nat × Int) (fun p st => (p.1 ≤ N ∧ (0 ≤ p.2 ∧ p.2 ≤ p.1 * 4000001) ∧ countN f = p.2 + ((rowsN f (N - p.1) (f.x.1 + p.1)).map rowM).foldl (· + ·) 0) ∧ st = { env := [(1, .ptr 1 0), (5, I p.2), (6, I (f.x.1 + p.1))], bx := [(1, ⟨fourC f, false⟩)], rw := [], log := [], stp := false }) (fun p => N - p.1) (0, 0)
    (Wk.le (.cons rfl (.refl _) (.cons rfl (.refl _) (.cons rfl (VLe.i (by simp)) .nil))) (.cons rfl (LLe.refl _) .nil) .nil rfl rfl) ⟨⟨by simp, by simp, by simp [hcn]⟩, rfl⟩ ?_
  rintro ⟨k, n⟩ st ⟨⟨hk, hn, hc⟩, rfl⟩
  simp only at hk hn hc
  obtain ⟨x, hx⟩ : ∃ x, f.x.1 + (k : Int) = x := ⟨_, rfl⟩
  rw [hx] at hc ⊢
  refine Tr.seq (Tr.seqR rfl (by simp) (Tr.cond rfl rfl (fun h1 => Tr.skip ?_) (fun h1 => Tr.exit ?_)))
  · have h1 : x ≤ f.x.2 := by simpa using h1
    obtain ⟨m, hm1⟩ : ∃ m, N - k = m + 1 := ⟨N - k - 1, by omega⟩
    have hm2 : N - (k + 1) = m := by omega
    rw [hm1, count_step] at hc
    have hr := row_mid hm (x := x) (by omega)
    refine Tr.seq (Tr.block (Tr.seqC rfl (by simp) (Steps.call rfl rfl (c_row01 hm (by omega)) (Steps.fin rfl (by simp) (Tr.regR rfl (by simp) (Tr.regR rfl (by simp) ?_))))))
    refine ⟨(k + 1, n + max 0 (highY f x - lowY f x + 1)), _, Wk.le (.cons rfl (.refl _) (.cons rfl (VLe.i ?_) (.cons rfl (VLe.i ?_) .nil))) (.cons rfl (LLe.refl _) .nil) .nil rfl rfl, ⟨⟨by simp only; omega, ⟨by simp only; omega, by simp only; push_cast; omega⟩, ?_⟩, rfl⟩, by simp only; omega⟩
    · simp (disch := omega) only [cond_true, cond_false, ite_max, ite_min, w64]
    · show IntKind.wrap .i64 (x + 1) = f.x.1 + ((k + 1 : Nat) : Int)
      rw [w64 (by omega) (by omega)]; omega
    · simp only
      rw [hm2, show f.x.1 + ((k + 1 : Nat) : Int) = x + 1 by omega, hc]
      omega
  · have h1 : ¬ x ≤ f.x.2 := by simpa using h1
    rw [show N - k = 0 by omega] at hc
    refine Tr.seqR rfl (by simp) (Tr.retX rfl rfl rfl ?_ trivial)
    rw [hc]
    simp [rowsN, packR]

theorem c_CheckLayout07 {s : Ly} (hn : s.nodes.length ≤ 9223372036854775807) (ht : s.traces.length ≤ 9223372036854775807) : C Tryz.prog F.ref07_CheckLayout [.agg (layC s)] (I (if layOk s then 0 else 71)) := by
  refine C_of mixed chk.ref07_CheckLayout (by simp) fun S ok => ?_
  refine Tr.seqR rfl (by simp) (Tr.seqR rfl (by simp) ?_)
  obtain ⟨B0, hB0⟩ : ∃ B, (decide (s.nodes.length ≤ 16) && decide (s.traces.length ≤ 64)) = B := ⟨_, rfl⟩
  have h0 : (bif decide (((s.nodes.map eF).length : Int) ≤ 16) then decide (((s.traces.map eB).length : Int) ≤ 64) else false) = B0 := by
    rw [← hB0, List.length_map, List.length_map]
    have e1 : decide ((s.nodes.length : Int) ≤ 16) = decide (s.nodes.length ≤ 16) := by simp only [decide_eq_decide]; omega
    have e2 : decide ((s.traces.length : Int) ≤ 64) = decide (s.traces.length ≤ 64) := by simp only [decide_eq_decide]; omega
    rw [e1, e2]; cases decide (s.nodes.length ≤ 16) <;> rfl
  have hok : layOk s = (B0 && s.nodes.all nodeOk && s.traces.all (traceOk s.nodes.length)) := by unfold layOk; rw [hB0]
  rw [hok]
  refine Tr.seq (Tr.seqR rfl (by simp) (Tr.block ?_))
  refine Tr.loop (fun (k : Nat) st => (k ≤ s.nodes.length) ∧ st = { env := [(1, .ptr 1 0), (3, .bool (B0 && (s.nodes.take k).all nodeOk)), (4, I (k : Nat))], bx := [(1, ⟨layC s, false⟩)], rw := [], log := [], stp := false }) (fun k => s.nodes.length - k) 0
    (Wk.le (.cons rfl (.refl _) (.cons rfl (.of_eq ?_) (.cons rfl (.refl _) .nil))) (.cons rfl (LLe.refl _) .nil) .nil rfl rfl) ⟨by omega, rfl⟩ ?_
  · rw [List.take_zero, List.all_nil, Bool.and_true, ← h0]
  rintro k st ⟨hk, rfl⟩
  obtain ⟨X, hX⟩ : ∃ X, (B0 && (s.nodes.take k).all nodeOk) = X := ⟨_, rfl⟩
  rw [hX]
  refine Tr.seq (Tr.seqR rfl (by simp) (Tr.cond rfl rfl (fun h1 => Tr.skip ?_) (fun h1 => Tr.exit ?_)))
  · have h1 : (bif X then decide ((k : Int) < ((s.nodes.map eF).length : Int)) else false) = true := h1
    rw [List.length_map] at h1
    obtain rfl : X = true := by cases X with | true => rfl | false => cases h1
    have h1 : decide ((k : Int) < (s.nodes.length : Int)) = true := h1
    have h1 : k < s.nodes.length := by have := of_decide_eq_true h1; omega
    have kc := c_Count01 s.nodes[k]
    refine Tr.seq (Tr.block (Tr.seqN 4 rfl (by simp; omega) ?_))
    rw [getD_map h1]
    by_cases hf : fitFB s.nodes[k] = true
    · rw [if_pos hf] at kc
      refine Steps.run rfl (by simp) (Steps.call rfl rfl kc (Steps.fin rfl (by simp) ?_))
      refine Tr.reg (Steps.run rfl (by simp) (Steps.gcall rfl rfl rfl rfl (by simp) (fun _ => c_between (countN s.nodes[k]) 1 64) (Steps.fin rfl (by simp) ?_)))
      refine Tr.regR rfl (by simp) ?_
      refine ⟨k + 1, _, Wk.le (.cons rfl (.refl _) (.cons rfl (.of_eq ?_) (.cons rfl (VLe.i (w64 (by omega) (by omega))) .nil))) (.cons rfl (LLe.refl _) .nil) .nil rfl rfl, ⟨h1, rfl⟩, by omega⟩
      rw [all_take_succ h1, ← Bool.and_assoc, hX]
      simp [nodeOk, hf]
    · rw [if_neg hf] at kc
      refine Steps.run rfl (by simp) (Steps.call rfl rfl kc (Steps.fin rfl (by simp) ?_))
      refine Tr.reg (Steps.run rfl (by simp) (Steps.off (want := true) (.bool true) rfl rfl rfl (Steps.fin rfl (by simp) ?_)))
      refine Tr.regR rfl (by simp) ?_
      refine ⟨k + 1, _, Wk.le (.cons rfl (.refl _) (.cons rfl (.of_eq ?_) (.cons rfl (VLe.i (w64 (by omega) (by omega))) .nil))) (.cons rfl (LLe.refl _) .nil) .nil rfl rfl, ⟨h1, rfl⟩, by omega⟩
      rw [all_take_succ h1, ← Bool.and_assoc, hX]
      have : nodeOk s.nodes[k] = false := by simp [nodeOk, hf]
      rw [this]; rfl
  have hdone : (B0 && s.nodes.all nodeOk) = X := by
    have h1 : (bif X then decide ((k : Int) < ((s.nodes.map eF).length : Int)) else false) = false := h1
    rw [List.length_map] at h1
    cases X with
    | true =>
      have h1 : decide ((k : Int) < (s.nodes.length : Int)) = false := h1
      have h1 := of_decide_eq_false h1
      rw [← hX, List.take_of_length_le (by omega)]
    | false =>
      rw [Bool.and_eq_false_iff] at hX ⊢
      rcases hX with h | h
      · exact .inl h
      · refine .inr ?_
        rw [← List.take_append_drop k s.nodes, List.all_append, h]; rfl
  rw [hdone]
  have hst : ∃ kk : Int, I (k : Nat) = I kk := ⟨_, rfl⟩
  refine Tr.weak (s' := { env := [(1, .ptr 1 0), (3, .bool X)], bx := [(1, ⟨layC s, false⟩)], rw := [], log := [], stp := false }) (Wk.le (.cons rfl (.refl _) (.cons rfl (.refl _) .nil)) (.cons rfl (LLe.refl _) .nil) .nil rfl rfl) ?_
  have hX2 : X = true → s.nodes.length ≤ 16 ∧ s.traces.length ≤ 64 := fun h => by
    rw [h, Bool.and_eq_true] at hdone
    rw [hdone.1, Bool.and_eq_true, decide_eq_true_eq, decide_eq_true_eq] at hB0
    exact hB0
  refine Tr.seq (Tr.seqR rfl (by simp) (Tr.block ?_))
  refine Tr.loop (fun (k : Nat) st => (k ≤ s.traces.length) ∧ st = { env := [(1, .ptr 1 0), (3, .bool (X && (s.traces.take k).all (traceOk s.nodes.length))), (7, I (k : Nat))], bx := [(1, ⟨layC s, false⟩)], rw := [], log := [], stp := false }) (fun k => s.traces.length - k) 0
    (Wk.le (.cons rfl (.refl _) (.cons rfl (.of_eq (by simp)) (.cons rfl (.refl _) .nil))) (.cons rfl (LLe.refl _) .nil) .nil rfl rfl) ⟨by omega, rfl⟩ ?_
  rintro k st ⟨hk, rfl⟩
  refine Tr.seq (Tr.seqR rfl (by simp) (Tr.cond rfl rfl (fun h1 => Tr.skip ?_) (fun h1 => Tr.exit ?_)))
  · have h1 : k < s.traces.length := by simpa using h1
    have hall := all_take_succ (p := traceOk s.nodes.length) h1
    obtain ⟨t, ht⟩ : ∃ t, s.traces[k] = t := ⟨_, rfl⟩
    rw [ht] at hall
    have hst := hall
    obtain ⟨Y, hY⟩ : ∃ Y, (X && (s.traces.take k).all (traceOk s.nodes.length)) = Y := ⟨_, rfl⟩
    have hnx : (X && (s.traces.take (k + 1)).all (traceOk s.nodes.length)) = (Y && traceOk s.nodes.length t) := by rw [hall, ← Bool.and_assoc, hY]
    rw [hY]
    have hY2 : Y = true → s.nodes.length ≤ 16 := fun h => by
      rw [h, Bool.and_eq_true] at hY
      exact (hX2 hY.1).1
    refine Tr.seq (Tr.block (Tr.seqN 4 rfl (by simp; omega) ?_))
    rw [getD_map h1, ht]
    refine Steps.fin rfl (by simp) ?_
    have hw1 : IntKind.wrap .i64 (((s.nodes.map eF).length : Int) - 1) = IntKind.wrap .i64 ((s.nodes.length : Int) - 1) := by rw [List.length_map]
    refine Tr.reg (Steps.run rfl (by simp) (Steps.gcall rfl rfl rfl rfl (by simp) (fun _ => c_between t.1 0 (IntKind.wrap .i64 (((s.nodes.map eF).length : Int) - 1))) (Steps.run rfl (by simp) ?_)))
    refine Steps.gcall rfl rfl rfl rfl (by simp) (fun _ => c_between t.2 0 (IntKind.wrap .i64 (((s.nodes.map eF).length : Int) - 1))) (Steps.fin rfl (by simp) ?_)
    refine Tr.regR rfl (by simp) ?_
    refine ⟨k + 1, _, Wk.le (.cons rfl (.refl _) (.cons rfl (.of_eq ?_) (.cons rfl (VLe.i (w64 (by omega) (by omega))) .nil))) (.cons rfl (LLe.refl _) .nil) .nil rfl rfl, ⟨h1, rfl⟩, by omega⟩
    rw [hnx, hw1]
    cases Y with
    | false => rfl
    | true =>
      have := hY2 rfl
      rw [w64 (by omega) (by omega)]
      show V.bool (bif (bif (bif true then btw t.1 0 ((s.nodes.length : Int) - 1) else false) then btw t.2 0 ((s.nodes.length : Int) - 1) else false) then (t.1 != t.2) else false) = _
      unfold traceOk
      cases btw t.1 0 ((s.nodes.length : Int) - 1) <;> cases btw t.2 0 ((s.nodes.length : Int) - 1) <;> rfl
  have h1 : k = s.traces.length := by simp at h1; omega
  subst h1
  rw [List.take_length]
  obtain ⟨Z, hZ⟩ : ∃ Z, (X && s.traces.all (traceOk s.nodes.length)) = Z := ⟨_, rfl⟩
  rw [hZ]
  refine Tr.seq (Tr.seqR rfl (by simp) (Tr.cond rfl rfl (fun h3 => ?_) (fun h3 => Tr.skip ?_)))
  · have h3 : (!Z) = true := h3
    obtain rfl : Z = false := by simpa using h3
    exact Tr.seqR rfl (by simp) (Tr.retX rfl rfl rfl rfl trivial)
  · have h3 : (!Z) = false := h3
    obtain rfl : Z = true := by simpa using h3
    exact Tr.seqR rfl (by simp) (Tr.retX rfl rfl rfl rfl trivial)

/-- The error of a grid and a layout. -/
def bothE (g : Gd) (s : Ly) : Int := if gridOk g then (if layOk s then 0 else 71) else 70

theorem c_both07 {g : Gd} {s : Ly} (hl : g.cls.length ≤ 9223372036854775807) (hn : s.nodes.length ≤ 9223372036854775807) (ht : s.traces.length ≤ 9223372036854775807) : C Tryz.prog F.ref07_both [.agg (gridC g), .agg (layC s)] (I (bothE g s)) := by
  have k1 := c_CheckGrid07 (g := g) hl
  have k2 := c_CheckLayout07 (s := s) hn ht
  unfold bothE
  refine C_of mixed chk.ref07_both (by simp) fun S ok => ?_
  refine Tr.seqR rfl (by simp) ?_
  by_cases hg : gridOk g = true
  · rw [if_pos hg] at k1 ⊢
    refine Tr.seq (Tr.seqC rfl (by simp) (Steps.call rfl rfl k1 (Steps.fin rfl (by simp) (Tr.seqR rfl (by simp) (Tr.condF rfl (Tr.skip ?_))))))
    exact Tr.seqC rfl (by simp) (Steps.call rfl rfl k2 (Steps.fin rfl (by simp) (Tr.retX rfl rfl rfl rfl trivial)))
  · rw [if_neg hg] at k1 ⊢
    refine Tr.seq (Tr.seqC rfl (by simp) (Steps.call rfl rfl k1 (Steps.fin rfl (by simp) (Tr.seqR rfl (by simp) (Tr.condT rfl (Tr.seqR rfl (by simp) ?_))))))
    exact Tr.retX rfl rfl rfl rfl trivial

end Go.Proofs.YtdejdblopmfjfaaGreatDoor


/-! Contracts of the specification: cells. -/
set_option linter.unusedVariables false
set_option linter.unusedSimpArgs false
set_option maxRecDepth 40000
set_option maxHeartbeats 4000000
namespace Go.Proofs.YtdejdblopmfjfaaGreatDoor
open Go.Am
attribute [local simp] cells scalar mkv splice under2 under dem dem1 eB gridC sB fourC layC eF
theorem c_Down {a b : Int} (hb : 0 < b) (ha : -1000000000000 ≤ a ∧ a ≤ 1000000000000) : C Tryz.prog F.ref00_Down [I a, I b] (I (a / b)) := by
  have hq := tdiv_bd hb ha
  have e := floor_eq (a := a) hb
  have ew : IntKind.wrap .i64 (a.tdiv b) = a.tdiv b := w64 (by omega) (by omega)
  have hneg : a.tmod b < 0 ↔ (a.tmod b ≠ 0 ∧ a < 0) := by
    constructor
    · intro h
      refine ⟨by omega, ?_⟩
      rcases (show a < 0 ∨ 0 ≤ a by omega) with h2 | h2
      · exact h2
      · have := Int.tmod_nonneg b h2; omega
    · rintro ⟨h1, h2⟩
      rcases Int.lt_trichotomy (a.tmod b) 0 with h | h | h
      · exact h
      · exact absurd h h1
      · exfalso
        have h3 := Int.tmod_nonneg b (a := -a) (by omega)
        rw [Int.neg_tmod] at h3
        omega
  refine C_of mixed chk.ref00_Down (by simp) fun S ok => ?_
  refine Tr.seqR rfl (by simp) (Tr.seqR rfl (by simp; omega) ?_)
  refine Tr.seq (Tr.seqR rfl (by simp; omega) (Tr.cond rfl rfl (fun h => Tr.regR rfl (by simp) ?_) (fun h => Tr.skip ?_)))
  · have h : (bif (a.tmod b != 0) then (decide (a < 0) != decide (b < 0)) else false) = true := h
    have h : a.tmod b < 0 := by
      rw [hneg]
      rw [decide_eq_false (p := b < 0) (by omega)] at h
      by_cases h1 : a.tmod b = 0
      · simp [h1] at h
      · refine ⟨h1, ?_⟩
        simpa [h1] using h
    rw [if_pos h] at e
    refine Tr.seqR rfl (by simp) (Tr.retX rfl rfl rfl ?_ trivial)
    rw [← e]
    show I (a.tdiv b - 1) = I (IntKind.wrap .i64 (IntKind.wrap .i64 (a.tdiv b) - 1))
    rw [ew, w64 (by omega) (by omega)]
  · have h : (bif (a.tmod b != 0) then (decide (a < 0) != decide (b < 0)) else false) = false := h
    have h : ¬ a.tmod b < 0 := by
      rw [hneg]
      rintro ⟨h1, h2⟩
      rw [decide_eq_false (p := b < 0) (by omega), decide_eq_true h2] at h
      simp [h1] at h
    rw [if_neg h] at e
    refine Tr.seqR rfl (by simp) (Tr.retX rfl rfl rfl ?_ trivial)
    rw [← e]
    show I (a.tdiv b) = I (IntKind.wrap .i64 (a.tdiv b))
    rw [ew]

theorem c_none07 : C Tryz.prog F.ref07_none [] (.agg [I (-1), I (-1)]) := by
  refine C_of mixed chk.ref07_none (by simp) fun S ok => ?_
  exact Tr.seqR rfl (by simp) (Tr.seqR rfl (by simp) (Tr.retX rfl rfl rfl rfl trivial))

theorem c_cell07 {g : Gd} (hg : gridOk g = true) {a b : Int × Int} (ha : planeB a = true) (hb : planeB b = true) : C Tryz.prog F.ref07_cell [.agg (gridC g), eB a, eB b] (eB (cellN g a b)) := by
  obtain ⟨ho, hsz, hga, hgd, hcl, _⟩ := gridOk_spec hg
  have ha' := planeB_spec ha
  have hb' := planeB_spec hb
  have k1 := c_Down (a := a.1 + b.1 - 2 * g.o.1) (b := 2 * g.size) (by omega) (by omega)
  have k2 := c_Down (a := a.2 + b.2 - 2 * g.o.2) (b := 2 * g.size) (by omega) (by omega)
  have e1 : IntKind.wrap .i64 (IntKind.wrap .i64 (a.1 + b.1) - IntKind.wrap .i64 (2 * g.o.1)) = a.1 + b.1 - 2 * g.o.1 := by
    rw [w64 (n := a.1 + b.1) (by omega) (by omega), w64 (n := 2 * g.o.1) (by omega) (by omega), w64 (by omega) (by omega)]
  have e2 : IntKind.wrap .i64 (IntKind.wrap .i64 (a.2 + b.2) - IntKind.wrap .i64 (2 * g.o.2)) = a.2 + b.2 - 2 * g.o.2 := by
    rw [w64 (n := a.2 + b.2) (by omega) (by omega), w64 (n := 2 * g.o.2) (by omega) (by omega), w64 (by omega) (by omega)]
  have e3 : IntKind.wrap .i64 (2 * g.size) = 2 * g.size := w64 (by omega) (by omega)
  rw [← e1, ← e3] at k1
  rw [← e2, ← e3] at k2
  refine C_of mixed chk.ref07_cell (by simp) fun S ok => ?_
  refine Tr.seqR rfl (by simp) ?_
  refine Tr.seq (Tr.drawK (TraceK.run rfl (by simp) (TraceK.call rfl rfl k1 (TraceK.run rfl (by simp) (TraceK.call rfl rfl k2 ?_)))))
  refine TraceK.run rfl (by simp) (.done ⟨by kernel_rfl, by kernel_rfl, ?_⟩)
  refine Tr.weak (s' := { env := [(3, .ptr 3 0), (4, .ptr 4 0), (5, .ptr 5 0), (6, .ptr 6 0), (7, I (colN g a b)), (8, I (rowN g a b))], bx := [(3, ⟨gridC g, false⟩), (4, ⟨[I a.1, I a.2], false⟩), (5, ⟨[I b.1, I b.2], false⟩), (6, ⟨[I 0, I 0], false⟩)], rw := [], log := [], stp := false })
    (Wk.le (.cons rfl (.refl _) (.cons rfl (.refl _) (.cons rfl (.refl _) (.cons rfl (.refl _) (.cons rfl (VLe.i ?_) (.cons rfl (VLe.i ?_) .nil)))))) (.cons rfl (LLe.refl _) (.cons rfl (LLe.refl _) (.cons rfl (LLe.refl _) (.cons rfl (LLe.refl _) .nil)))) .nil rfl rfl) ?_
  · rw [e1, e3]; rfl
  · rw [e2, e3]; rfl
  have hwa : IntKind.wrap .i64 (g.a - 1) = g.a - 1 := w64 (by omega) (by omega)
  have hwd : IntKind.wrap .i64 (g.d - 1) = g.d - 1 := w64 (by omega) (by omega)
  refine Tr.seq (Tr.seqC rfl (by simp) (Steps.call rfl rfl (c_between (colN g a b) 0 (IntKind.wrap .i64 (g.a - 1))) (Steps.run rfl (by simp) ?_)))
  refine Steps.gcall rfl rfl rfl rfl (by simp) (fun _ => c_between (rowN g a b) 0 (IntKind.wrap .i64 (g.d - 1))) (Steps.fin rfl (by simp) ?_)
  rw [hwa, hwd]
  refine Tr.cond rfl rfl (fun h1 => ?_) (fun h1 => Tr.skip ?_)
  · refine Tr.seq (Tr.reg (Steps.call rfl rfl c_none07 (Steps.fin rfl (by simp) (Tr.retX rfl rfl rfl ?_ trivial))))
    have : (btw (colN g a b) 0 (g.a - 1) && btw (rowN g a b) 0 (g.d - 1)) = false := by
      revert h1
      cases btw (colN g a b) 0 (g.a - 1) <;> cases btw (rowN g a b) 0 (g.d - 1) <;> first | (intro _; rfl) | (intro h; cases h)
    simp [packR, cellN, this]
  have hin : (btw (colN g a b) 0 (g.a - 1) && btw (rowN g a b) 0 (g.d - 1)) = true := by
    revert h1
    cases btw (colN g a b) 0 (g.a - 1) <;> cases btw (rowN g a b) 0 (g.d - 1) <;> first | (intro _; rfl) | (intro h; cases h)
  have hin2 := hin
  simp only [Bool.and_eq_true, btw_iff] at hin2
  have s1 := sq64 (x := a.1 - b.1) (by omega)
  have s2 := sq64 (x := a.2 - b.2) (by omega)
  have w1 : IntKind.wrap .i64 (a.1 - b.1) = a.1 - b.1 := w64 (by omega) (by omega)
  have w2 : IntKind.wrap .i64 (a.2 - b.2) = a.2 - b.2 := w64 (by omega) (by omega)
  have w5 : IntKind.wrap .i64 (IntKind.wrap .i64 (IntKind.wrap .i64 (a.1 - b.1) * IntKind.wrap .i64 (a.1 - b.1)) + IntKind.wrap .i64 (IntKind.wrap .i64 (a.2 - b.2) * IntKind.wrap .i64 (a.2 - b.2))) = sqN a b := by
    rw [w1, w2, w64 (n := (a.1 - b.1) * (a.1 - b.1)) (by omega) (by omega), w64 (n := (a.2 - b.2) * (a.2 - b.2)) (by omega) (by omega)]
    exact w64 (by omega) (by omega)
  refine Tr.seqR rfl (by simp) (Tr.seq (Tr.seqR rfl (by simp) (Tr.block ?_)))
  refine Tr.loop (fun (k : Nat) s => (k ≤ g.cls.length ∧ clsAt (sqN a b) g.cls 0 = clsAt (sqN a b) (g.cls.drop k) k) ∧ s = { env := [(3, .ptr 3 0), (6, .ptr 6 0), (7, I (colN g a b)), (8, I (rowN g a b)), (9, I (sqN a b)), (10, I (k : Nat))], bx := [(3, ⟨gridC g, false⟩), (6, ⟨[I 0, I 0], false⟩)], rw := [], log := [], stp := false }) (fun k => g.cls.length - k) 0
    (Wk.le (.cons rfl (.refl _) (.cons rfl (.refl _) (.cons rfl (.refl _) (.cons rfl (.refl _) (.cons rfl (VLe.i w5) (.cons rfl (.refl _) .nil)))))) (.cons rfl (LLe.refl _) (.cons rfl (LLe.refl _) .nil)) .nil rfl rfl) ⟨⟨by omega, by simp⟩, rfl⟩ ?_
  rintro k s ⟨⟨hk, hf⟩, rfl⟩
  refine Tr.seq (Tr.seqR rfl (by simp) (Tr.cond rfl rfl (fun h2 => Tr.skip ?_) (fun h2 => Tr.exit ?_)))
  · have h2 : k < g.cls.length := by simpa using h2
    rw [clsAt_drop h2] at hf
    refine Tr.seq (Tr.block (Tr.seq (Tr.drawK (TraceK.runN 5 rfl (by simp; omega) ?_))))
    rw [getD_map h2]
    refine TraceK.runN 6 rfl (by simp; omega) ?_
    rw [getD_map h2]
    refine TraceK.run rfl (by simp) (TraceK.call rfl rfl (c_between (sqN a b) g.cls[k].1 g.cls[k].2) (.done ⟨by kernel_rfl, by kernel_rfl, ?_⟩))
    refine Tr.cond rfl rfl (fun h3 => ?_) (fun h3 => Tr.skip (Tr.regR rfl (by simp) ?_))
    · have h3 : btw (sqN a b) g.cls[k].1 g.cls[k].2 = true := h3
      rw [h3, if_pos rfl] at hf
      have b1 : 0 ≤ rowN g a b * g.a := Int.mul_nonneg hin2.2.1 (by omega)
      have b2 : rowN g a b * g.a ≤ 15 * 16 := Int.mul_le_mul (by omega) (by omega) (by omega) (by omega)
      refine Tr.seqR rfl (by simp) (Tr.retX rfl rfl rfl ?_ trivial)
      show eB (cellN g a b) = .agg [I (IntKind.wrap .i64 (IntKind.wrap .i64 (rowN g a b * g.a) + colN g a b)), I (k : Nat)]
      rw [w64 (n := rowN g a b * g.a) (by omega) (by omega), w64 (by omega) (by omega)]
      unfold cellN
      rw [if_pos hin, hf]; rfl
    · have h3 : btw (sqN a b) g.cls[k].1 g.cls[k].2 = false := h3
      rw [h3] at hf
      exact ⟨k + 1, _, Wk.le (.cons rfl (.refl _) (.cons rfl (.refl _) (.cons rfl (.refl _) (.cons rfl (.refl _) (.cons rfl (.refl _) (.cons rfl (VLe.i (w64 (by omega) (by omega))) .nil)))))) (.cons rfl (LLe.refl _) (.cons rfl (LLe.refl _) .nil)) .nil rfl rfl, ⟨⟨h2, hf⟩, rfl⟩, by omega⟩
  · have h2 : k = g.cls.length := by simp at h2; omega
    subst h2
    rw [List.drop_length] at hf
    refine Tr.seq (Tr.reg (Steps.call rfl rfl c_none07 (Steps.fin rfl (by simp) (Tr.retX rfl rfl rfl ?_ trivial))))
    unfold cellN
    rw [if_pos hin, hf]; rfl

theorem c_Cell07 {g : Gd} (hl : g.cls.length ≤ 9223372036854775807) (a b : Int × Int) : C Tryz.prog F.ref07_Cell [.agg (gridC g), eB a, eB b] (if gridOk g then (if planeB a && planeB b then .tuple [eB (cellN g a b), I 0] else .tuple [.agg [I 0, I 0], I 10]) else .tuple [.agg [I 0, I 0], I 70]) := by
  have kg := c_CheckGrid07 (g := g) hl
  refine C_of mixed chk.ref07_Cell (by simp) fun S ok => ?_
  refine Tr.seqR rfl (by simp) ?_
  by_cases hg : gridOk g = true
  rotate_left
  · rw [if_neg hg] at kg
    refine Tr.seq (Tr.seqC rfl (by simp) (Steps.call rfl rfl kg (Steps.fin rfl (by simp) (Tr.seqR rfl (by simp) (Tr.condT rfl ?_)))))
    refine Tr.seqR rfl (by simp) (Tr.retX rfl rfl rfl ?_ trivial)
    rw [if_neg hg]; rfl
  rw [if_pos hg] at kg ⊢
  refine Tr.seq (Tr.seqC rfl (by simp) (Steps.call rfl rfl kg (Steps.fin rfl (by simp) (Tr.seqR rfl (by simp) (Tr.condF rfl (Tr.skip ?_))))))
  refine Tr.seq (Tr.seqC rfl (by simp) (Steps.call rfl rfl (c_CheckPoint01 a) (Steps.run rfl (by simp) (Steps.gcall rfl rfl rfl rfl (by simp) (fun _ => c_CheckPoint01 b) (Steps.fin rfl (by simp) ?_)))))
  refine Tr.cond rfl rfl (fun h1 => ?_) (fun h1 => Tr.skip ?_)
  · refine Tr.seqR rfl (by simp) (Tr.retX rfl rfl rfl ?_ trivial)
    have : (planeB a && planeB b) = false := by
      revert h1
      cases planeB a <;> cases planeB b <;> first | (intro _; rfl) | (intro h; cases h)
    rw [this]; rfl
  have hp : planeB a = true ∧ planeB b = true := by
    revert h1
    cases planeB a <;> cases planeB b <;> first | (intro _; exact ⟨rfl, rfl⟩) | (intro h; cases h)
  refine Tr.seqC rfl (by simp) (Steps.call rfl rfl (c_cell07 hg hp.1 hp.2) (Steps.fin rfl (by simp) (Tr.retX rfl rfl rfl ?_ trivial)))
  rw [hp.1, hp.2]; rfl

end Go.Proofs.YtdejdblopmfjfaaGreatDoor


/-! AM, part Zu: drawn regions that read an arena. -/
set_option linter.unusedVariables false
set_option linter.unusedSimpArgs false
namespace Go.Am
open Go.RowKit

/-- The surroundings while the arena is this one. -/
def pinS (S : Sur) (A : Arena) : Sur := fun log stp M w φ => log = encA A ∧ S log stp M w φ

theorem pinS_ok {S : Sur} (h : S.ok) (A : Arena) : (pinS S A).ok := ⟨fun _ _ _ _ _ _ _ _ h1 mv => ⟨h1.1, h.move _ _ _ _ _ _ _ _ h1.2 mv⟩, fun _ _ _ _ _ h1 => h.gl _ _ _ _ _ h1.2⟩

abbrev Env.pinA (E : Env) (A : Arena) : Env := { E with S := pinS E.S A, ok := pinS_ok E.ok A }

theorem to_pin {E : Env} (hys : E.ys = []) (hlk : E.lk = fun _ => True) {A : Arena} {log : List (List V)} {stp : Bool} {σ : FSt} {a : Act} {w : World} {h : Gh} (hl : log = encA A) (R : E.relF log stp σ a w h) : (E.pinA A).relF log stp σ a w h := by
  refine ⟨{ R.1 with sur := ⟨hl, R.1.sur⟩ }, fun l hl => ⟨?_, by show E.lk l; rw [hlk]; trivial⟩, R.2.2⟩
  intro log x M w φ xs hp
  have hp : List.IsPrefix _ E.ys := hp
  rw [hys] at hp
  exact absurd hp.length_le (by simp)

theorem of_pin {E : Env} (hys : E.ys = []) (hlk : E.lk = fun _ => True) {A : Arena} {log : List (List V)} {stp : Bool} {σ : FSt} {a : Act} {w : World} {h : Gh} (R : (E.pinA A).relF log stp σ a w h) : E.relF log stp σ a w h := by
  refine ⟨{ R.1 with sur := R.1.sur.2 }, fun l hl => ⟨?_, by rw [hlk]; trivial⟩, R.2.2⟩
  intro log x M w φ xs hp
  rw [hys] at hp
  exact absurd hp.length_le (by simp)

theorem opK_nilckZ {P : Program} {o : Oper} {os : List Operand} (hk : opK P o.op = some (.nilck, os)) : ∃ p, o.op = .nilCheck p ∧ os = [p] := by
  cases ho : o.op <;> rw [ho] at hk <;> simp only [opK] at hk <;> (try (cases hk; done)) <;> (try (repeat' (split at hk <;> (try (cases hk; done)))))
  all_goals first
    | (simp only [Option.map_eq_some_iff, Prod.mk.injEq] at hk; obtain ⟨_, _, h1, _⟩ := hk; cases h1; done)
    | (simp only [eqKind] at hk; repeat' (split at hk <;> (try (cases hk; done))))
    | (cases hk; exact ⟨_, rfl, rfl⟩)

theorem opK_faddrZ {P : Program} {o : Oper} {os : List Operand} {off : Nat} (hk : opK P o.op = some (.faddr off, os)) : ∃ t p f fs fd n, o.op = .fieldAddr t p f ∧ P.underlying t = some (.struct fs) ∧ fs[f]? = some fd ∧ szOf P fd.type = some n ∧ n ≠ 0 ∧ fd.offset = off ∧ os = [p] := by
  cases ho : o.op <;> rw [ho] at hk <;> simp only [opK] at hk <;> (try (cases hk; done)) <;> (try (repeat' (split at hk <;> (try (cases hk; done)))))
  all_goals first
    | (simp only [Option.map_eq_some_iff, Prod.mk.injEq] at hk; obtain ⟨_, _, h1, _⟩ := hk; cases h1; done)
    | (simp only [eqKind] at hk; repeat' (split at hk <;> (try (cases hk; done))))
    | (cases hk; exact ⟨_, _, _, _, _, _, rfl, by assumption, by assumption, by assumption, by assumption, rfl, rfl⟩)

section
variable {E : Env} {ro : Option Nat} {n : Nat} {ops : Array Oper}

theorem prefix_okP (hys : E.ys = []) (hlk : E.lk = fun _ => True) {A : Arena} {K : St → Prop} {il1 il2 : List Ins} {s s1 : St} {fp : List (List Loc × List Loc)} (hc : compR E.P E.nt ops = some (il1 ++ il2)) (hl : lexed ops = true) (t : Trace (E.pinA A) s il1 fp s1) (hlog : s.log = encA A)
    (hok : okPlan (befs ops) fp = true) (ht : totTail (befs ops) il1.length ops.size = true) (hst : Steps E il2 K s1) {Q : Exit → Act → World → Prop} (y : Pin)
    (hn : ∀ s' a' w' h', K s' → E.rel s' a' w' h' → h'.y = y → Q .normal a' w') :
    ∃ us : List FSt, ∀ (fuel : Nat) (listed : Array Bool) (a : Act) (w : World) (h : Gh), listed.toList.count false = fuel → listed.size = ops.size → Closed ops (fun i => listed.getD i false) → (∀ i, il1.length ≤ i → listed.getD i false = false) →
      E.relF s.log s.stp (FL us (fun i => listed.getD i false) s.fs il1.length) a w h → h.y = y → wpAnyIn (wideR ro) n E.P .any ops Q fuel listed a w := by
  obtain ⟨t1, t2, t3, us, t4, t5, t6⟩ := trace_spec t
  obtain ⟨hlen, hg⟩ := compR_spec hc
  have hle : il1.length ≤ ops.size := by simp at hlen; omega
  have tot : ∀ k i, il1.length ≤ k → k < ops.size → i < k → ((befs ops).getD k 0).testBit i = true := by
    intro k i h1 h2 h3
    unfold totTail at ht
    rw [List.all_eq_true] at ht
    have := ht (k - il1.length) (by simp; omega)
    rw [List.all_eq_true] at this
    have := this i (by simp; omega)
    rwa [show il1.length + (k - il1.length) = k by omega] at this
  have ap : ∀ i j, i < j → j < il1.length → ((befs ops).getD j 0).testBit i = false → apartFp (fp.getD i ([], [])) (fp.getD j ([], [])) = true := by
    intro i j h1 h2 h3
    unfold okPlan at hok
    rw [List.all_eq_true] at hok
    have := hok j (by simp; omega)
    rw [List.all_eq_true] at this
    have := this i (by simp; omega)
    rw [h3] at this
    simpa using this
  refine ⟨us, ?_⟩
  intro fuel
  induction fuel with
  | zero =>
    intro listed a w h hcn hs hcl hpre R hy
    have all : ∀ i, i < ops.size → listed.getD i false = true := by
      intro i hi
      cases hL : listed.getD i false with
      | true => rfl
      | false =>
        have : false ∈ listed.toList := by
          simp only [Array.getD_eq_getD_getElem?, Array.getElem?_eq_getElem (show i < listed.size by omega), Option.getD_some] at hL
          rw [← hL]; simp
        exact absurd this (List.count_eq_zero.1 hcn)
    have hm : il1.length = ops.size := by
      rcases Nat.lt_or_ge il1.length ops.size with h1 | h1
      · have := all il1.length h1
        rw [hpre il1.length (Nat.le_refl _)] at this; cases this
      · omega
    refine tail_ok hc hl ht y hn 0 ops.size listed s1 a w h (by omega) (by omega) hs hcl (fun i hi => by rw [all i hi]; simp [hi]) ?_ ?_ hy
    · rw [List.drop_append_of_le_length (by omega), List.drop_eq_nil_of_le (by omega)]; simpa using hst
    · show E.relF _ _ _ a w h
      rw [t2, t3, t5]
      have e : FL us (fun i => listed.getD i false) s.fs il1.length = FL us (fun _ => true) s.fs il1.length := by
        funext l
        refine FL_at (i := il1.length) (fun k hk hL => ?_) (fun k hk hL => ?_) _ (Nat.le_refl _)
        · rw [all k (by omega)] at hL; cases hL
        · rw [hpre k hk] at hL; cases hL
      rw [e] at R; exact R
  | succ fuel ih =>
    intro listed a w h hcn hs hcl hpre R hy
    by_cases hall : ∀ i, i < il1.length → listed.getD i false = true
    · have e : FL us (fun i => listed.getD i false) s.fs il1.length = FL us (fun _ => true) s.fs il1.length := by
        funext l
        refine FL_at (i := il1.length) (fun k hk hL => ?_) (fun k hk hL => ?_) _ (Nat.le_refl _)
        · rw [hall k hk] at hL; cases hL
        · rw [hpre k hk] at hL; cases hL
      rw [e] at R
      have hLk : ∀ i, i < ops.size → listed.getD i false = decide (i < il1.length) := fun i hi => by
        rcases Nat.lt_or_ge i il1.length with h1 | h1
        · rw [hall i h1]; simp [h1]
        · rw [hpre i h1]; simp; omega
      have hfuel : il1.length + (fuel + 1) = ops.size := by
        have e1 : listed.toList = List.replicate il1.length true ++ List.replicate (ops.size - il1.length) false := by
          apply List.ext_getElem?
          intro k
          have hk : listed.toList[k]? = if k < ops.size then some (listed.getD k false) else none := by
            by_cases h1 : k < ops.size
            · simp [h1, show k < listed.size by omega]
            · simp [h1, show listed.size ≤ k by omega]
          rw [hk, List.getElem?_append]
          simp only [List.length_replicate]
          by_cases h1 : k < il1.length
          · rw [if_pos h1, if_pos (by omega), hall k h1, List.getElem?_replicate, if_pos h1]
          · rw [if_neg h1, List.getElem?_replicate]
            by_cases h2 : k < ops.size
            · rw [if_pos h2, if_pos (by omega), hpre k (by omega)]
            · rw [if_neg h2, if_neg (by omega)]
        rw [e1] at hcn
        simp [List.count_append, List.count_replicate] at hcn
        omega
      refine tail_ok hc hl ht y hn (fuel + 1) il1.length listed s1 a w h hfuel (Nat.le_refl _) hs hcl hLk ?_ ?_ hy
      · simpa using hst
      · show E.relF _ _ _ a w h
        rw [t2, t3, t5]; exact R
    · obtain ⟨k0, hk0, hk0'⟩ : ∃ k, k < il1.length ∧ listed.getD k false = false := by
        apply Classical.byContradiction
        intro hno
        exact hall fun i hi => by
          cases hL : listed.getD i false with
          | true => rfl
          | false => exact absurd ⟨i, hi, hL⟩ hno
      refine ⟨fun hr => ?_, fun i hi => ?_⟩
      · have := ready_some hl hs hr k0 (by omega)
        rw [hk0'] at this; cases this
      · obtain ⟨h1, h2, o, ho, h3⟩ := (mem_ready hs).1 hi
        have him : i < il1.length := by
          rcases Nat.lt_or_ge i il1.length with h4 | h4
          · exact h4
          · have := befs_ok hcl ho h3 (tot i k0 h4 h1 (by omega))
            rw [hk0'] at this; cases this
        obtain ⟨ins, eff, rd, g1, g2, g3, g4⟩ := t6 i him
        obtain ⟨ins', e1, e2⟩ := hg i o ho
        rw [List.getElem?_append_left him, g1] at e1; cases e1
        -- what may not meet
        have below : ∀ k, k < i → listed.getD k false = false → ∀ l, (l ∈ rd ∨ l ∈ wrOf ins eff) → us.getD k nof l = none := by
          intro k hk hL l hlm
          obtain ⟨insk, effk, rdk, q1, q2, q3, q4⟩ := t6 k (by omega)
          have hb : ((befs ops).getD i 0).testBit k = false := by
            cases hb : ((befs ops).getD i 0).testBit k with
            | false => rfl
            | true => have := befs_ok hcl ho h3 hb; rw [hL] at this; cases this
          have := ap k i hk him hb
          simp only [List.getD_eq_getElem?_getD, q2, g2, Option.getD_some, apartFp, Bool.and_eq_true, Bool.not_eq_true'] at this
          rw [List.getD_eq_getElem?_getD, q3, Option.getD_some]
          refine wrF_out fun hm => ?_
          rcases hlm with h5 | h5
          · exact meets_false this.1.2 l hm h5
          · exact meets_false this.1.1 l hm h5
        have above : ∀ k, i < k → listed.getD k false = true → k < il1.length ∧ ∃ insk effk rdk, fp[k]? = some (wrOf insk effk, rdk) ∧ us[k]? = some (wrF insk effk nof) ∧ apartFp (wrOf ins eff, rd) (wrOf insk effk, rdk) = true := by
          intro k hk hL
          have hkm : k < il1.length := by
            rcases Nat.lt_or_ge k il1.length with h4 | h4
            · exact h4
            · rw [hpre k h4] at hL; cases hL
          obtain ⟨insk, effk, rdk, q1, q2, q3, q4⟩ := t6 k hkm
          have hks : k < ops.size := by omega
          have hb : ((befs ops).getD k 0).testBit i = false := by
            cases hb : ((befs ops).getD k 0).testBit i with
            | false => rfl
            | true =>
              have := befs_ok hcl (Array.getElem?_eq_getElem hks) (hcl k _ (Array.getElem?_eq_getElem hks) hL) hb
              rw [h2] at this; cases this
          have := ap i k hk hkm hb
          simp only [List.getD_eq_getElem?_getD, q2, g2, Option.getD_some] at this
          exact ⟨hkm, insk, effk, rdk, q2, q3, this⟩
        have at_i : ∀ l, (l ∈ rd ∨ l ∈ wrOf ins eff) → FL us (fun i => listed.getD i false) s.fs il1.length l = FL us (fun _ => true) s.fs i l := by
          intro l hlm
          refine FL_at (fun k hk hL => below k hk hL l hlm) (fun k hk hL => ?_) _ (by omega)
          rcases Nat.lt_or_ge i k with h5 | h5
          · obtain ⟨_, insk, effk, rdk, q2, q3, q4⟩ := above k h5 hL
            rw [List.getD_eq_getElem?_getD, q3, Option.getD_some]
            simp only [apartFp, Bool.and_eq_true, Bool.not_eq_true'] at q4
            refine wrF_out fun hm => ?_
            rcases hlm with h6 | h6
            · exact meets_false q4.2 l h6 hm
            · exact meets_false q4.1.1 l h6 hm
          · obtain rfl : k = i := by omega
            rw [h2] at hL; cases hL
        have hd := does_reads (τ := FL us (fun i => listed.getD i false) s.fs il1.length) g4 (fun l hl => at_i l (.inl hl))
        have R2 : (E.pinA A).relF s.log s.stp (FL us (fun i => listed.getD i false) s.fs il1.length) a w h := to_pin hys hlk hlog R
        refine does_ok (E := E.pinA A) e2 rfl ho hd R2 fun a' w' h' R' hy' => ih _ a' w' h' (count_step (by omega) h2 hcn) (by simpa using hs) ?_ ?_ ?_ (hy'.trans hy)
        · intro j o' ho' hj d hd
          simp only [getD_setD (show i < listed.size by omega), Bool.or_eq_true, beq_iff_eq] at hj ⊢
          rcases hj with hj | rfl
          · exact .inl (hcl j o' ho' hj d hd)
          · rw [ho] at ho'; cases ho'; exact .inl (h3 d hd)
        · intro j hj
          rw [getD_setD (show i < listed.size by omega), hpre j hj]
          have : (j == i) = false := by simpa using (show j ≠ i by omega)
          rw [this]; rfl
        · have e : (fun k => (listed.setIfInBounds i true).getD k false) = fun k => listed.getD k false || k == i := by
            funext k; exact getD_setD (by omega)
          rw [e, FL_add h2 (fun k hk hL l => ?_) _ him]
          · rw [List.getD_eq_getElem?_getD, g3, Option.getD_some, ← wrF_nof]; exact of_pin hys hlk R'
          · obtain ⟨_, insk, effk, rdk, q2, q3, q4⟩ := above k hk hL
            simp only [List.getD_eq_getElem?_getD, q3, g3, Option.getD_some]
            simp only [apartFp, Bool.and_eq_true, Bool.not_eq_true'] at q4
            by_cases hm : l ∈ wrOf insk effk
            · right
              exact wrF_out fun hm' => meets_false q4.1.1 l hm' hm
            · left
              exact wrF_out hm

theorem drawn_okP (hys : E.ys = []) (hlk : E.lk = fun _ => True) {A : Arena} {K : St → Prop} {il1 il2 : List Ins} {s s1 : St} {fp : List (List Loc × List Loc)} {id : Nat} {a : Act} {w : World} {h : Gh} (hc : compR E.P E.nt ops = some (il1 ++ il2)) (hl : lexed ops = true) (t : Trace (E.pinA A) s il1 fp s1) (hlog : s.log = encA A)
    (hok : okPlan (befs ops) fp = true) (ht : totTail (befs ops) il1.length ops.size = true) (hst : Steps E il2 K s1) (R : E.rel s a w h) {Q : Exit → Act → World → Prop}
    (hn : ∀ s' a' w' h', K s' → E.rel s' a' w' h' → h'.y = h.y → Q .normal a' w') : (Code.region id ops true).wpIn (wideR ro) n E.P Q a w := by
  obtain ⟨us, key⟩ := prefix_okP (ro := ro) (n := n) hys hlk hc hl t hlog hok ht hst h.y hn
  refine wpIn_region_any E.mixed ?_
  have e0 : ∀ i, (Array.replicate ops.size false).getD i false = false := fun i => by
    simp only [Array.getD_eq_getD_getElem?, Array.getElem?_replicate]
    by_cases h : i < ops.size <;> simp [h]
  refine key ops.size _ a _ h (by simp [List.count_replicate]) (by simp) ?_ (fun i _ => e0 i) ⟨?_, R.2⟩ rfl
  · intro j o ho hj
    have hj : (Array.replicate ops.size false).getD j false = true := hj
    rw [e0] at hj; cases hj
  · have : FL us (fun i => (Array.replicate ops.size false).getD i false) s.fs il1.length = s.fs := by
      have : ∀ m, FL us (fun i => (Array.replicate ops.size false).getD i false) s.fs m = s.fs := by
        intro m
        induction m with
        | zero => rfl
        | succ m ih =>
          have e : FL us (fun i => (Array.replicate ops.size false).getD i false) s.fs (m + 1) = if (Array.replicate ops.size false).getD m false then upF (us.getD m nof) (FL us (fun i => (Array.replicate ops.size false).getD i false) s.fs m) else FL us (fun i => (Array.replicate ops.size false).getD i false) s.fs m := rfl
          rw [e, e0 m, ih]; rfl
      exact this _
    rw [this]
    exact R.1.drew E.ok

end

/-- **A DRAWN REGION THAT READS AN ARENA**. -/
theorem Tr.drawP {E : Env} {ro : Option Nat} {Q : Exit → St → Prop} {s : St} {bef : List Nat} {il : List Ins} (hys : E.ys = []) (hlk : E.lk = fun _ => True) {A : Arena} (hlog : s.log = encA A)
    (t : TraceK (E.pinA A) s il fun fp s' r => okPlan bef fp = true ∧ totTail bef (il.length - r.length) il.length = true ∧ Steps E r (Q .normal) s') : Tr E ro (.draw bef il) Q s := by
  obtain ⟨il1, fp, s', il2, e, t', hok, ht, h⟩ := t.spec
  subst e
  intro c hc n a w g R Q' hq
  obtain ⟨id, ops, rfl, h1, hl, rfl⟩ := compC_inv hc
  have hlen := (compR_spec h1).1
  have ht : totTail (befs ops) il1.length (il1 ++ il2).length = true := by simpa using ht
  rw [hlen] at ht
  exact drawn_okP hys hlk h1 hl t' hlog hok ht h R fun s' a' w' h' k R' e => hq _ s' a' w' h' k R' e

section
variable {E : Env} {σ : FSt}

theorem does_rnil {d : Nat} {x : X} {blk off : Nat} (hx : [x].mapM (evX σ) = some [.rptr blk off]) : Does E σ ⟨some d, .nilck, [x], none⟩ { v := .rptr blk off } (xslots [x]) := by
  refine .sem fun τ hτ slots ops i o ro n log stp a w h hc hs hi R Q next hn => ?_
  have hx' : [x].mapM (evX τ) = some [.rptr blk off] := evX_reads hx fun l hl => hτ l hl
  obtain ⟨os, cc⟩ := comp_of hc
  obtain ⟨p, ho, rfl⟩ := opK_nilckZ cc.op
  obtain ⟨u, hu, o1⟩ := (opds_of R.1 cc.xs hx').one
  simp only [List.cons.injEq, and_true] at hu
  subst hu
  have ep := ok_rptr o1
  have hex : (execOp a.eval o).run E.P w = .ok (.value (.pointer (some ⟨blk, off, none⟩))) w := by simp [execOp, ho, ep]
  exact wpOp_done hi (wanted_none (guard_none cc rfl)) (opK_defer cc.op) (.inl hex) (hn _ _ h (rel_after (eff := { v := .rptr blk off }) cc R R.1 (.data (.rptr _ _)) rfl) rfl)

theorem does_rfaddr {d f : Nat} {x : X} {blk off : Nat} (hx : [x].mapM (evX σ) = some [.rptr blk off]) : Does E σ ⟨some d, .faddr f, [x], none⟩ { v := .rptr blk (off + f) } (xslots [x]) := by
  refine .sem fun τ hτ slots ops i o ro n log stp a w h hc hs hi R Q next hn => ?_
  have hx' : [x].mapM (evX τ) = some [.rptr blk off] := evX_reads hx fun l hl => hτ l hl
  obtain ⟨os, cc⟩ := comp_of hc
  obtain ⟨t, p, g, fs, fd, m, ho, h1, h2, h3, h4, rfl, rfl⟩ := opK_faddrZ cc.op
  obtain ⟨u, hu, o1⟩ := (opds_of R.1 cc.xs hx').one
  simp only [List.cons.injEq, and_true] at hu
  subst hu
  have ep := ok_rptr o1
  have hex : (execOp a.eval o).run E.P w = .ok (.value (.pointer (some ⟨blk, off + fd.offset, none⟩))) w := by
    simp only [execOp, ho, ep, Sem.run_bind, run_fieldAt h1 h2 h3 h4]; rfl
  exact wpOp_done hi (wanted_none (guard_none cc rfl)) (opK_defer cc.op) (.inl hex) (hn _ _ h (rel_after (eff := { v := .rptr blk (off + fd.offset) }) cc R R.1 (.data (.rptr _ _)) rfl) rfl)

theorem does_aload {S0 : Sur} {l0 : List (List V)} {s0 : Bool} {A : Arena} (hE : InA E S0 l0 s0) (hys : E.ys = []) (hlk : E.lk = fun _ => True) {d n : Nat} {agg : Bool} {x : X} {blk off : Nat} {cs : List V} (hx : [x].mapM (evX σ) = some [.rptr blk off]) (hA : (blk, Ob.cells cs) ∈ A) (hv : off + n ≤ cs.length) :
    Does (E.pinA A) σ ⟨some d, .load n agg, [x], none⟩ { v := mkv agg n (cs.drop off) } (xslots [x]) := by
  refine .sem fun τ hτ slots ops i o ro n' log stp a w h hc hs hi R Q next hn => ?_
  have hx' : [x].mapM (evX τ) = some [.rptr blk off] := evX_reads hx fun l hl => hτ l hl
  obtain ⟨os, cc⟩ := comp_of hc
  have hll : log = encA A := R.1.sur.1
  have R' : E.relF (encA A) stp τ a w h := by rw [← hll]; exact of_pin hys hlk R
  obtain ⟨vs, et, h1, h2, h3⟩ := (hE.ar R').ok _ hA
  have hop : ∃ t p dd, o.op = .load t p ∧ szOf E.P t = some n ∧ E.P.underlying t = some dd ∧ aggB E.P t = agg ∧ os = [p] ∧ (agg = false → n = 1) := by
    have hk := cc.op
    cases ho : o.op <;> rw [ho] at hk <;> simp only [opK] at hk <;> (try (cases hk; done)) <;> (try (repeat' (split at hk <;> (try (cases hk; done)))))
    all_goals first
      | (simp only [Option.map_eq_some_iff, Prod.mk.injEq] at hk; obtain ⟨_, _, h1, _⟩ := hk; cases h1; done)
      | (simp only [eqKind] at hk; repeat' (split at hk <;> (try (cases hk; done))))
      | (cases hk; exact ⟨_, _, _, rfl, by assumption, by assumption, by assumption, rfl, by simp⟩)
      | (rename_i q1 q2 q3 q4; subst q4; cases hk; exact ⟨_, _, _, rfl, by assumption, by assumption, Bool.eq_false_iff.2 q3, rfl, by simp⟩)
  obtain ⟨t, p, dd, e1, e2, e3, e4, rfl, e5⟩ := hop
  obtain ⟨u, hu, o1⟩ := (opds_of R.1 cc.xs hx').one
  simp only [List.cons.injEq, and_true] at hu
  subst hu
  have ep := ok_rptr o1
  obtain ⟨y, hy1, hy2⟩ := ok_mkv (σ := τ) (h := h) (w := w) (agg := agg) (n := n) (l := cs.drop off) (f := fun j => vs.getD (off + j) undef) (by simp; omega) e5 (fun j v hv => by
    rw [List.getElem?_drop] at hv
    have hlt : off + j < vs.size := by
      have := (List.getElem?_eq_some_iff.1 hv).1; omega
    have := h3 (off + j) v vs[off + j] hv (by simp [hlt])
    have e : vs.getD (off + j) undef = vs[off + j] := by simp [hlt]
    rw [e]
    exact ⟨.data this.1, Grow.of_data this.1, this.2⟩)
  have hex : (execOp a.eval o).run E.P w = .ok (.value y) w := by
    simp only [execOp, e1, ep, Sem.run_bind]
    rw [run_loadAt (cs := (List.range n).map fun j => vs.getD (off + j) undef) e2 e3 (by simp) (fun j v hv => by
      obtain ⟨hj, rfl⟩ := range_map_get hv
      rw [cell_of_row w blk (off + j) vs et (0, 0) h1]
      have : off + j < vs.size := by omega
      simp [this]) (by rw [e4]; exact hy1)]
    rfl
  exact wpOp_done hi (wanted_none (guard_none cc rfl)) (opK_defer cc.op) (.inl hex) (hn _ _ h (rel_after (eff := { v := mkv agg n (cs.drop off) }) cc R R.1 hy2 rfl) rfl)

theorem TraceK.rnil {s : St} {K : List (List Loc × List Loc) → St → List Ins → Prop} {d : Nat} {x : X} {blk off : Nat} {rest : List Ins} (hx : evXs s.env [x] = some [.rptr blk off])
    (tr : TraceK E (s.put (some d) (.rptr blk off)) rest fun fp s' r' => K (([.slot d], xslots [x]) :: fp) s' r') : TraceK E s (⟨some d, .nilck, [x], none⟩ :: rest) K :=
  .step (ins := ⟨some d, .nilck, [x], none⟩) (eff := { v := .rptr blk off }) (does_rnil (evXs_ok hx)) tr

theorem TraceK.rfaddr {s : St} {K : List (List Loc × List Loc) → St → List Ins → Prop} {d f : Nat} {x : X} {blk off : Nat} {rest : List Ins} (hx : evXs s.env [x] = some [.rptr blk off])
    (tr : TraceK E (s.put (some d) (.rptr blk (off + f))) rest fun fp s' r' => K (([.slot d], xslots [x]) :: fp) s' r') : TraceK E s (⟨some d, .faddr f, [x], none⟩ :: rest) K :=
  .step (ins := ⟨some d, .faddr f, [x], none⟩) (eff := { v := .rptr blk (off + f) }) (does_rfaddr (evXs_ok hx)) tr

theorem TraceK.aload {S0 : Sur} {l0 : List (List V)} {s0 : Bool} {A : Arena} (hE : InA E S0 l0 s0) (hys : E.ys = []) (hlk : E.lk = fun _ => True) {s : St} {K : List (List Loc × List Loc) → St → List Ins → Prop} {d n : Nat} {agg : Bool} {x : X} {blk off : Nat} {cs : List V} {rest : List Ins} (hx : evXs s.env [x] = some [.rptr blk off]) (hA : (blk, Ob.cells cs) ∈ A) (hv : off + n ≤ cs.length)
    (tr : TraceK (E.pinA A) (s.put (some d) (mkv agg n (cs.drop off))) rest fun fp s' r' => K (([.slot d], xslots [x]) :: fp) s' r') : TraceK (E.pinA A) s (⟨some d, .load n agg, [x], none⟩ :: rest) K :=
  .step (ins := ⟨some d, .load n agg, [x], none⟩) (eff := { v := mkv agg n (cs.drop off) }) (does_aload hE hys hlk (evXs_ok hx) hA hv) tr

end

section
variable {E : Env} {S0 : Sur} {l0 : List (List V)} {s0 : Bool} {A : Arena}

theorem splice_nth {α : Type} {l m : List α} {off : Nat} (h : off + m.length ≤ l.length) (j : Nat) : (l.take off ++ m ++ l.drop (off + m.length))[j]? = if j < off then l[j]? else if j < off + m.length then m[j - off]? else l[j]? := by
  rw [List.append_assoc, List.getElem?_append, List.length_take, Nat.min_eq_left (by omega)]
  by_cases h1 : j < off
  · rw [if_pos h1, if_pos h1, List.getElem?_take_of_lt h1]
  · rw [if_neg h1, if_neg h1, List.getElem?_append]
    by_cases h2 : j < off + m.length
    · rw [if_pos (by omega), if_pos h2]
    · rw [if_neg (by omega), if_neg h2, List.getElem?_drop]
      congr 1; omega

/-- Several cells of an arena's block are written. -/
theorem Steps.astoreT (hE : InA E S0 l0 s0) {K : St → Prop} {s : St} {n : Nat} {x y : X} {rest : List Ins} {blk off : Nat} {cs ds : List V} (hx : evXs s.env [x, y] = some [.rptr blk off, .agg ds]) (hl : s.log = encA A) (hA : (blk, Ob.cells cs) ∈ A) (hn : ds.length = n) (hoff : off + ds.length ≤ cs.length) (hd : ds.all isD = true) (hsc : ds.all scalar = true)
    (hk : Steps E rest K { s with log := encA (setA A blk (.cells (splice cs off ds))) }) : Steps E (⟨none, .store n, [x, y], none⟩ :: rest) K s := by
  refine Step1.raw fun slots ops o i ro n' a w h hc hs hi R Q next hn' => ?_
  obtain ⟨os, cc⟩ := comp_of hc
  obtain ⟨t, p, q, e1, e2, rfl⟩ := opK_store1 cc.op
  obtain ⟨u, u', hu, o1, o2⟩ := (opds_of R.1 cc.xs (evXs_ok hx)).two
  simp only [List.cons.injEq, and_true] at hu
  obtain ⟨hu1, hu2⟩ := hu
  subst hu1 hu2
  have ep := ok_rptr o1
  have R' : E.relF (encA A) s.stp s.fs a w h := by rw [← hl]; exact R
  have hAr := hE.ar R'
  obtain ⟨vs, et, h1, h2, h3⟩ := hAr.ok _ hA
  obtain ⟨ws, hw, hlen, hh⟩ := ok_agg o2
  have hwl : ws.toList.length = ds.length := by simpa using hlen.symm
  have hall : ∀ (j : Nat) v z, ds[j]? = some v → ws.toList[j]? = some z → RepD w h.φ v z ∧ scalar v = true := fun j v z hv hz => by
    rw [List.all_eq_true] at hd hsc
    exact ⟨rep_isD (hd v (List.mem_of_getElem? hv)) (hh j v z hv (by simpa using hz)).1, hsc v (List.mem_of_getElem? hv)⟩
  have hone : ∀ z ∈ ws.toList, z.oneCell' = true := fun z hz => by
    obtain ⟨j, hj, rfl⟩ := List.getElem_of_mem hz
    have hjd : j < ds.length := by omega
    obtain ⟨r, sc⟩ := hall j _ _ (List.getElem?_eq_getElem hjd) (List.getElem?_eq_getElem hj)
    exact (scalar_value (.data r : Rep w h.φ h.β h.y.l _ _) sc).1
  have hc1 : (a.eval q).cells = ws := by rw [hw]; rfl
  have hrun := run_storeCells_at E.P blk off et ws.toList 0 vs w h1 (by omega) hone
  simp only [Nat.add_zero] at hrun
  have R2 := hE.step R' (B := setA A blk (.cells (splice cs off ds)))
    (fun b hb hn => setRow_other w blk b (vs.toList.take off ++ ws.toList ++ vs.toList.drop (off + ws.toList.length)).toArray (fun e => hn (e ▸ List.mem_map.2 ⟨_, hA, rfl⟩))) (by simp) rfl rfl rfl
    (fun p hp => .inl (by rw [← setA_keys A blk (.cells (splice cs off ds))]; exact List.mem_map.2 ⟨p, hp, rfl⟩)) (fun p hp => by rw [setA_keys]; exact List.mem_map.2 ⟨p, hp, rfl⟩) (by rw [setA_keys]; exact hAr.nd)
    (fun ext p hp => by
      rcases setA_mem hp with ⟨e, e'⟩ | ⟨hne, hp⟩
      · rw [e, e']
        refine ⟨_, et, setRow_heap w blk vs _ et (0, 0) h1, by simp [splice]; omega, fun j u z hu hz => ?_⟩
        rw [List.getElem?_toArray, splice_nth (by simp; omega)] at hz
        unfold splice at hu
        rw [splice_nth (by omega)] at hu
        by_cases c1 : j < off
        · rw [if_pos c1] at hu hz
          have hz' : vs[j]? = some z := by simpa using hz
          exact ⟨(h3 j u z hu hz').1.mono ext, (h3 j u z hu hz').2⟩
        · rw [if_neg c1] at hu hz
          by_cases c2 : j < off + ds.length
          · rw [if_pos c2] at hu
            rw [if_pos (by omega)] at hz
            exact ⟨(hall _ u z hu hz).1.mono ext, (hall _ u z hu hz).2⟩
          · rw [if_neg c2] at hu
            rw [if_neg (by omega)] at hz
            have hz' : vs[j]? = some z := by simpa using hz
            exact ⟨(h3 j u z hu hz').1.mono ext, (h3 j u z hu hz').2⟩
      · exact (hAr.ok p hp).mono (setRow_other w blk p.1 _ hne) ext) (fun p hp => by
      have hk : p.1 ∈ A.map (·.1) := by rw [← setA_keys A blk (.cells (splice cs off ds))]; exact List.mem_map.2 ⟨p, hp, rfl⟩
      obtain ⟨q', hq', e⟩ := List.mem_map.1 hk
      have := hAr.lt q' hq'
      rw [← e]; simpa using this)
  have hdn : o.dst = none := cc.d.symm
  have R3 : E.rel { s with log := encA (setA A blk (.cells (splice cs off ds))) } (a.put o.dst undef) (w.setRow blk (vs.toList.take off ++ ws.toList ++ vs.toList.drop (off + ws.toList.length)).toArray) h := by rw [hdn]; exact R2
  refine wpOp_done (x := undef) hi (wanted_none (guard_none cc rfl)) (opK_defer cc.op) (.inr ⟨?_, rfl⟩) (hn' _ _ _ h hk R3 rfl)
  simp only [execOp, e1, ep, Instr.storeAt, Instr.sureAddr, Sem.run_bind, Sem.run_pure, Result.andThen_ok, storeVar, run_szOf e2]
  rw [if_neg (by rw [hc1]; simp; omega), hc1]
  rw [hrun]
  rfl

end
end Go.Am


/-! The sort of cells: the kit's contract of slices.SortFunc, laid at this program (the laying is printed by wip/tools/lay_sort.sh); what it is to compare two cells. -/
set_option linter.unusedVariables false
set_option linter.unusedSimpArgs false
set_option maxRecDepth 100000
set_option maxHeartbeats 4000000
namespace Go.Proofs.YtdejdblopmfjfaaGreatDoor
open Go.Shelf Go.Proofs Go.RowKit Go.Lib Go.Sort

def Tryz.sortCell_ren : Go.Shelf.Ren := ⟨fun | 6 => 104 | 15 => 138 | 14 => 137 | 28 => 157 | 29 => 158 | 20 => 149 | 21 => 150 | 22 => 151 | 23 => 152 | 24 => 153 | 25 => 154 | 26 => 155 | 27 => 156 | 46 => 162 | 47 => 163 | 48 => 164 | 49 => 165 | 50 => 166 | 57 => 168 | n => n, fun | 22 => 42 | 24 => 39 | 25 => 177 | 3 => 3 | 39 => 209 | 0 => 0 | 53 => 225 | 55 => 227 | 4 => 4 | 46 => 219 | 45 => 218 | 50 => 157 | 5 => 5 | 9 => 9 | 66 => 232 | 70 => 236 | 76 => 239 | 77 => 240 | n => n, fun | n => n⟩
theorem Tryz.sortCell : Go.Proofs.SlLaysF0.n6 Tryz.prog Tryz.sortCell_ren := {
  mixed := by kernel_rfl,
  f6 := ⟨Tryz.f104.name, by decide, Tryz.func104.trans (congrArg some (by kernel_rfl))⟩,
  f14 := ⟨Tryz.f137.name, by decide, Tryz.func137.trans (congrArg some (by kernel_rfl))⟩,
  f15 := Tryz.func138.trans (congrArg some (by kernel_rfl)),
  f20 := ⟨Tryz.f149.name, by decide, Tryz.func149.trans (congrArg some (by kernel_rfl))⟩,
  f21 := ⟨Tryz.f150.name, by decide, Tryz.func150.trans (congrArg some (by kernel_rfl))⟩,
  f22 := ⟨Tryz.f151.name, by decide, Tryz.func151.trans (congrArg some (by kernel_rfl))⟩,
  f23 := ⟨Tryz.f152.name, by decide, Tryz.func152.trans (congrArg some (by kernel_rfl))⟩,
  f24 := ⟨Tryz.f153.name, by decide, Tryz.func153.trans (congrArg some (by kernel_rfl))⟩,
  f25 := ⟨Tryz.f154.name, by decide, Tryz.func154.trans (congrArg some (by kernel_rfl))⟩,
  f26 := ⟨Tryz.f155.name, by decide, Tryz.func155.trans (congrArg some (by kernel_rfl))⟩,
  f27 := ⟨Tryz.f156.name, by decide, Tryz.func156.trans (congrArg some (by kernel_rfl))⟩,
  f28 := Tryz.func157.trans (congrArg some (by kernel_rfl)),
  f29 := Tryz.func158.trans (congrArg some (by kernel_rfl)),
  f46 := ⟨Tryz.f162.name, by decide, Tryz.func162.trans (congrArg some (by kernel_rfl))⟩,
  f47 := Tryz.func163.trans (congrArg some (by kernel_rfl)),
  f48 := Tryz.func164.trans (congrArg some (by kernel_rfl)),
  f49 := ⟨Tryz.f165.name, by decide, Tryz.func165.trans (congrArg some (by kernel_rfl))⟩,
  f50 := ⟨Tryz.f166.name, by decide, Tryz.func166.trans (congrArg some (by kernel_rfl))⟩,
  f57 := ⟨Tryz.f168.name, by decide, Tryz.func168.trans (congrArg some (by kernel_rfl))⟩,
  t0 := Tryz.underlying0,
  a0 := Tryz.isAgg0,
  z0 := Tryz.sizeOf0,
  v0 := Tryz.zeroValue0,
  t3 := Tryz.underlying3,
  a3 := Tryz.isAgg3,
  z3 := Tryz.sizeOf3,
  v3 := Tryz.zeroValue3,
  t4 := Tryz.underlying4,
  a4 := Tryz.isAgg4,
  z4 := Tryz.sizeOf4,
  v4 := Tryz.zeroValue4,
  t5 := Tryz.underlying5,
  a5 := Tryz.isAgg5,
  z5 := Tryz.sizeOf5,
  v5 := Tryz.zeroValue5,
  t9 := Tryz.underlying9,
  a9 := Tryz.isAgg9,
  z9 := Tryz.sizeOf9,
  v9 := Tryz.zeroValue9,
  t22 := Tryz.underlying42,
  a22 := Tryz.isAgg42,
  z22 := Tryz.sizeOf42,
  v22 := Tryz.zeroValue42,
  t25 := Tryz.underlying177,
  a25 := Tryz.isAgg177,
  z25 := Tryz.sizeOf177,
  v25 := Tryz.zeroValue177,
  t39 := Tryz.underlying209,
  a39 := Tryz.isAgg209,
  z39 := Tryz.sizeOf209,
  v39 := Tryz.zeroValue209,
  t45 := Tryz.underlying218,
  a45 := Tryz.isAgg218,
  z45 := Tryz.sizeOf218,
  v45 := Tryz.zeroValue218,
  t46 := Tryz.underlying219,
  a46 := Tryz.isAgg219,
  z46 := Tryz.sizeOf219,
  v46 := Tryz.zeroValue219,
  t50 := Tryz.underlying157,
  a50 := Tryz.isAgg157,
  z50 := Tryz.sizeOf157,
  v50 := Tryz.zeroValue157,
  t53 := Tryz.underlying225,
  a53 := Tryz.isAgg225,
  z53 := Tryz.sizeOf225,
  v53 := Tryz.zeroValue225,
  t55 := Tryz.underlying227,
  a55 := Tryz.isAgg227,
  z55 := Tryz.sizeOf227,
  v55 := Tryz.zeroValue227,
  t66 := Tryz.underlying232,
  a66 := Tryz.isAgg232,
  z66 := Tryz.sizeOf232,
  v66 := Tryz.zeroValue232,
  t70 := Tryz.underlying236,
  a70 := Tryz.isAgg236,
  z70 := Tryz.sizeOf236,
  v70 := Tryz.zeroValue236,
  t76 := Tryz.underlying239,
  a76 := Tryz.isAgg239,
  z76 := Tryz.sizeOf239,
  v76 := Tryz.zeroValue239,
  t77 := Tryz.underlying240,
  a77 := Tryz.isAgg240,
  z77 := Tryz.sizeOf240,
  v77 := Tryz.zeroValue240 }

/-- Cells, as they occur: bins from -1 to 1022, classes from -1 to 14. -/
abbrev SC := Fin 1024 × Fin 16
def scB (x : SC) : Int × Int := ((x.1.val : Int) - 1, (x.2.val : Int) - 1)
def encSC (x : SC) : List Value := [.int .i64 (scB x).1, .int .i64 (scB x).2]
def cfSC (x y : SC) : Int := if (scB x).1 ≠ (scB y).1 then (scB x).1 - (scB y).1 else (scB x).2 - (scB y).2

theorem swoSC : Go.Sort.SWO (ltOf cfSC) where
  irrefl x := by unfold ltOf cfSC; simp
  trans x y z h1 h2 := by
    unfold ltOf cfSC at *
    simp only [decide_eq_true_eq, ne_eq, ite_not] at *
    split at h1 <;> split at h2 <;> split <;> omega
  ntrans x y z h1 h2 := by
    unfold ltOf cfSC at *
    simp only [decide_eq_false_iff_not, ne_eq, ite_not] at *
    split at h1 <;> split at h2 <;> split <;> omega

theorem ordered_walk (x y : SC) (W : World) : Calls Tryz.prog 105 #[.agg #[.int .i64 (scB x).1, .int .i64 (scB x).2], .agg #[.int .i64 (scB y).1, .int .i64 (scB y).2]] W fun e w' => e = .returned (.int .i64 (cfSC x y)) ∧ ∃ q os', w' = grow (W.drewN q) os' := by
  have b1 : -1 ≤ (scB x).1 ∧ (scB x).1 ≤ 1022 := by unfold scB; omega
  have b2 : -1 ≤ (scB x).2 ∧ (scB x).2 ≤ 14 := by unfold scB; omega
  have b3 : -1 ≤ (scB y).1 ∧ (scB y).1 ≤ 1022 := by unfold scB; omega
  have b4 : -1 ≤ (scB y).2 ∧ (scB y).2 ≤ 14 := by unfold scB; omega
  unfold cfSC
  generalize (scB x).1 = a at *
  generalize (scB x).2 = b at *
  generalize (scB y).1 = c at *
  generalize (scB y).2 = d at *
  by_cases h : a ≠ c
  · rw [if_pos h]
    go_enter Tryz.func105, Tryz.ntmps105
    go_wp2
    all_goals (try (go_ret; exact ⟨rfl, 0, _, by rw [alloc_eq_grow, alloc_eq_grow, grow_grow]; rfl⟩))
    all_goals (rename_i h2; exfalso; simp at h2; exact h h2)
  · rw [if_neg h]
    have h : a = c := by simpa using h
    subst h
    go_enter Tryz.func105, Tryz.ntmps105
    go_wp2
    all_goals (try (go_ret; exact ⟨rfl, 0, _, by rw [alloc_eq_grow, alloc_eq_grow, grow_grow]; rfl⟩))
    all_goals (rename_i h2; exfalso; simp at h2)

theorem cmpLays (blk off size : Nat) (w : World) : CmpLays Tryz.prog 105 #[] encSC 2 cfSC blk off size w :=
  fun _ _ _ _ x y => ordered_walk x y _

/-- The sort of a row of cells. -/
theorem sort_cells (blk off cap : Nat) (d : Array SC) (w : World) (hH : HoldsK encSC 2 w blk off d) (hblk : blk < w.heap.size) (hsz : d.size < 4611686018427387904) :
    Calls Tryz.prog 104 #[.slice (some ⟨blk, off, none⟩) d.size cap, .func (.func 105) #[] #[]] w fun e w' => e = .returned (.tuple #[]) ∧ ∃ d' n os, PermIn 0 d.size d d' ∧ SortedIn (ltOf cfSC) 0 d.size d' ∧ w' = sortWorldK encSC 2 w blk off n d' os := by
  have eg : ∀ args w, (callFunc 105 args).run Tryz.prog w = .ok (.enter 105 args) w := enters_of Tryz.func105 (by kernel_rfl) rfl
  have hcon := AnyQ.slices_SortFunc Tryz.sortCell 2 Tryz.isAgg39 Tryz.sizeOf39 encSC (fun _ => rfl) (fun x v hv => by simp [encSC] at hv; rcases hv with rfl | rfl <;> rfl) cfSC swoSC 105 #[] blk off cap d w eg (cmpLays blk off d.size w) hH hblk hsz
  exact hcon

end Go.Proofs.YtdejdblopmfjfaaGreatDoor


/-! The sort of cells, over an arena. -/
set_option linter.unusedVariables false
set_option linter.unusedSimpArgs false
set_option maxRecDepth 40000
set_option maxHeartbeats 4000000
namespace Go.Proofs.YtdejdblopmfjfaaGreatDoor
open Go.Am

def befC (a b : Int × Int) : Prop := a.1 < b.1 ∨ (a.1 = b.1 ∧ a.2 < b.2)
def cellB (c : Int × Int) : Prop := (-1 ≤ c.1 ∧ c.1 ≤ 1022) ∧ -1 ≤ c.2 ∧ c.2 ≤ 14

theorem befC_irrefl {a : Int × Int} (h : befC a a) : False := by unfold befC at h; omega
theorem befC_trans {a b c : Int × Int} (h : befC a b) (k : befC b c) : befC a c := by unfold befC at *; omega

/-- Two lists in strict order that hold the same are the same. -/
theorem sorted_unique : ∀ (l m : List (Int × Int)), l.Pairwise befC → m.Pairwise befC → (∀ x, x ∈ l ↔ x ∈ m) → l = m
  | [], [], _, _, _ => rfl
  | [], b :: m, _, _, h => absurd ((h b).2 (by simp)) (by simp)
  | a :: l, [], _, _, h => absurd ((h a).1 (by simp)) (by simp)
  | a :: l, b :: m, hl, hm, h => by
    rw [List.pairwise_cons] at hl hm
    have hab : a = b := by
      rcases List.mem_cons.1 ((h a).1 (by simp)) with e | h1
      · exact e
      rcases List.mem_cons.1 ((h b).2 (by simp)) with e | h2
      · exact e.symm
      exact absurd (befC_trans (hl.1 b h2) (hm.1 a h1)) (fun h => befC_irrefl h)
    subst hab
    congr 1
    refine sorted_unique l m hl.2 hm.2 fun x => ?_
    have hx := h x
    simp only [List.mem_cons] at hx
    constructor
    · intro h1
      rcases hx.1 (.inr h1) with e | h2
      · exact absurd (hl.1 x h1) (fun h => befC_irrefl (e ▸ h))
      · exact h2
    · intro h1
      rcases hx.2 (.inr h1) with e | h2
      · exact absurd (hm.1 x h1) (fun h => befC_irrefl (e ▸ h))
      · exact h2

def toSC (c : Int × Int) : SC := (⟨(c.1 + 1).toNat % 1024, by omega⟩, ⟨(c.2 + 1).toNat % 16, by omega⟩)

theorem scB_to {c : Int × Int} (h : cellB c) : scB (toSC c) = c := by
  unfold cellB at h
  unfold scB toSC
  refine Prod.ext ?_ ?_ <;> simp only <;> omega

theorem flat_eB : ∀ (xs : List (Int × Int)), (xs.map eB).flatMap cells = xs.flatMap fun c => [I c.1, I c.2]
  | [] => rfl
  | x :: xs => by rw [List.map_cons, List.flatMap_cons, flat_eB xs]; rfl

theorem flat_at : ∀ (xs : List (Int × Int)) (j : Nat) (h : j / 2 < xs.length), ((xs.map eB).flatMap cells)[j]? = some (I (if j % 2 = 0 then xs[j / 2].1 else xs[j / 2].2))
  | [], j, h => by simp at h
  | x :: xs, 0, h => rfl
  | x :: xs, 1, h => rfl
  | x :: xs, j + 2, h => by
    have hj : j / 2 < xs.length := by simp at h; omega
    have ih := flat_at xs j hj
    have e1 : ((x :: xs).map eB).flatMap cells = I x.1 :: I x.2 :: (xs.map eB).flatMap cells := rfl
    have e2 : (j + 2) / 2 = j / 2 + 1 := by omega
    have e3 : (j + 2) % 2 = j % 2 := by omega
    rw [e1]
    simp only [List.getElem?_cons_succ, e3]
    rw [ih]
    congr 3
    · congr 1; simp [e2]
    · congr 1; simp [e2]

theorem flat_eB_len (xs : List (Int × Int)) : ((xs.map eB).flatMap cells).length = xs.length * 2 := by
  induction xs with
  | nil => rfl
  | cons x xs ih => rw [List.map_cons, List.flatMap_cons, List.length_append, ih, List.length_cons]; simp [eB, cells]; omega

open Go.Sort in
theorem ca_sort {blk cap : Nat} {xs ys : List (Int × Int)} {cs : List V} (hcs : cs.take (xs.length * 2) = (xs.map eB).flatMap cells) (hlen : xs.length * 2 ≤ cs.length) (hsm : xs.length ≤ 100000) (hb : ∀ c ∈ xs, cellB c) (hnd : xs.Nodup) (hp : ∀ x, x ∈ ys ↔ x ∈ xs) (hs : ys.Pairwise befC) :
    CA Tryz.prog F.slices_SortFunc_api_Cell_api_Cell [(blk, .cells cs)] [] [.sref blk 0 xs.length cap, .func (.func F.bin_ordered) [] []] (.tuple []) [(blk, .cells ((ys.map eB).flatMap cells ++ cs.drop (xs.length * 2)))] := by
  refine ⟨by kernel_rfl, fun w φ vals htop hgl hA hK hKA hrep => ?_⟩
  obtain ⟨hl, hr⟩ := hrep
  obtain ⟨vals⟩ := vals
  match vals, hl with
  | [v1, v2], _ =>
  have r1 : v1 = .slice (some ⟨blk, 0, none⟩) xs.length cap := by
    have := hr 0 _ v1 rfl rfl
    cases this; rfl
  have r2 : v2 = .func (.func F.bin_ordered) #[] #[] := by
    have := hr 1 _ v2 rfl rfl
    cases this with
    | func fn first cap f c h1 h2 _ _ =>
      have e1 : f = #[] := Array.eq_empty_of_size_eq_zero (by simpa using h1.symm)
      have e2 : c = #[] := Array.eq_empty_of_size_eq_zero (by simpa using h2.symm)
      rw [e1, e2]
  subst r1 r2
  obtain ⟨vs, et, w1, w2, w3⟩ := hA.ok (blk, .cells cs) (by simp)
  have hblk := hA.lt (blk, .cells cs) (by simp)
  simp only at hblk
  obtain ⟨d, hd⟩ : ∃ d : Array SC, d = (xs.map toSC).toArray := ⟨_, rfl⟩
  have hds : d.size = xs.length := by rw [hd]; simp
  have hdget : ∀ i (hi : i < xs.length), scB d[i]! = xs[i] := fun i hi => by
    have : d[i]! = toSC xs[i] := by rw [hd]; simp [hi]
    rw [this, scB_to (hb _ (List.getElem_mem hi))]
  have valat : ∀ j, j < xs.length * 2 → vs[j]? = some (.int .i64 (if j % 2 = 0 then (scB d[j / 2]!).1 else (scB d[j / 2]!).2)) := fun j hj => by
    have hj2 : j / 2 < xs.length := by omega
    have hc : cs[j]? = some (I (if j % 2 = 0 then xs[j / 2].1 else xs[j / 2].2)) := by
      rw [← flat_at xs j hj2, ← hcs, List.getElem?_take_of_lt hj]
    have hjs : j < vs.size := by omega
    have := (w3 j _ _ hc (Array.getElem?_eq_getElem hjs)).1
    have hv : vs[j] = .int .i64 (if j % 2 = 0 then xs[j / 2].1 else xs[j / 2].2) := by
      generalize vs[j] = z at this
      cases this; rfl
    rw [Array.getElem?_eq_getElem hjs, hv, hdget _ hj2]
  have hH : HoldsK encSC 2 w blk 0 d := fun j hj => by
    rw [size_flatK, hds] at hj
    have hj2 : j / 2 < xs.length := by omega
    refine ⟨?_, ?_⟩
    · rw [get_flatK _ _ _ _ (by rw [hds]; exact hj), Nat.zero_add, cell_of_row w blk j vs et (0, 0) w1, valat j hj]
      unfold encSC
      by_cases h : j % 2 = 0
      · rw [if_pos h, h]; rfl
      · have h1 : j % 2 = 1 := by omega
        rw [if_neg h, h1]; rfl
    · simp [World.frozen?, w1]
  have hcall := sort_cells blk 0 cap d w hH hblk (by omega)
  rw [hds] at hcall
  refine hcall.mono ?_
  rintro e w' ⟨rfl, d', n, os, hperm, hsort, rfl⟩
  obtain ⟨hps, _, hpp⟩ := hperm
  have hd's : d'.size = xs.length := by rw [hps, hds]
  have hpp : d'.toList.Perm d.toList := by
    have e1 : d'.extract 0 xs.length = d' := by rw [← hd's]; simp
    have e2 : d.extract 0 xs.length = d := by rw [← hds]; simp
    rw [e1, e2] at hpp
    exact hpp
  have hxs : d.toList.map scB = xs := by
    rw [hd]
    simp only [List.map_map]
    conv => rhs; rw [← List.map_id xs]
    exact List.map_congr_left fun c hc => scB_to (hb c hc)
  have hzp : (d'.toList.map scB).Perm xs := by
    have := hpp.map scB
    rwa [hxs] at this
  have hzl : (d'.toList.map scB).length = xs.length := hzp.length_eq
  have hzn : (d'.toList.map scB).Nodup := hzp.nodup_iff.2 hnd
  have hzs : (d'.toList.map scB).Pairwise befC := by
    rw [List.pairwise_iff_getElem]
    intro i j hi hj hij
    simp only [List.length_map, Array.length_toList] at hi hj
    have h1 := hsort i j (Nat.zero_le _) hij (by omega)
    have h2 : (d'.toList.map scB)[i]'(by simpa using hi) ≠ (d'.toList.map scB)[j]'(by simpa using hj) := (List.pairwise_iff_getElem.1 hzn) i j (by simpa using hi) (by simpa using hj) hij
    have e1 : (d'.toList.map scB)[i]'(by simpa using hi) = scB d'[i]! := by simp [hi]
    have e2 : (d'.toList.map scB)[j]'(by simpa using hj) = scB d'[j]! := by simp [hj]
    rw [e1, e2] at h2 ⊢
    unfold ltOf cfSC at h1
    generalize scB d'[i]! = a at h1 h2 ⊢
    generalize scB d'[j]! = b at h1 h2 ⊢
    simp only [decide_eq_false_iff_not, ne_eq, ite_not] at h1
    unfold befC
    by_cases h3 : a.1 = b.1
    · have h4 : a.2 ≠ b.2 := fun h4 => h2 (Prod.ext h3 h4)
      rw [if_pos h3.symm] at h1
      omega
    · rw [if_neg (fun h => h3 h.symm)] at h1
      omega
  have hys : d'.toList.map scB = ys := sorted_unique _ _ hzs hs fun x => by rw [hzp.mem_iff, hp x]
  have hyl : ys.length = xs.length := by rw [← hys, hzl]
  have hyget : ∀ i (hi : i < ys.length), scB d'[i]! = ys[i] := fun i hi => by
    have h1 : i < d'.size := by omega
    have : (d'.toList.map scB)[i]? = some ys[i] := by rw [hys]; simp
    rw [List.getElem?_map] at this
    simp [h1] at this
    rw [← this]; simp [h1]
  obtain ⟨w', hw'⟩ : ∃ w', sortWorldK encSC 2 w blk 0 n d' os = w' := ⟨_, rfl⟩
  rw [hw']
  have hheap : w'.heap = (w.heap.modify blk (onCells (putCells id 0 (flatK encSC 2 d')))) ++ os := by rw [← hw']; rfl
  have hsz : w'.heap.size = w.heap.size + os.size := by rw [hheap]; simp
  have hold : ∀ b, b < w.heap.size → b ≠ blk → w'.heap[b]? = w.heap[b]? := fun b h1 h2 => by
    rw [hheap, Array.getElem?_append_left (by simpa using h1), Array.getElem?_modify, if_neg (fun e => h2 e.symm)]
  have hnew : w'.heap[blk]? = some (.cells (putCells id 0 (flatK encSC 2 d') vs) et (0, 0)) := by
    rw [hheap, Array.getElem?_append_left (by simpa using hblk), Array.getElem?_modify, if_pos rfl, w1]; rfl
  have ext : Ext w φ w' φ := fun b o ho => by
    have h1 : b < w.heap.size := by
      rcases Nat.lt_or_ge b w.heap.size with h1 | h1
      · exact h1
      · rw [htop b h1] at ho; omega
    have h2 : b ≠ blk := fun e => by
      have := hA.z (blk, .cells cs) (by simp)
      simp only at this
      rw [e, this] at ho; omega
    exact ⟨ho, World.cell?_of_block (hold b h1 h2), mapAt_of_block (hold b h1 h2)⟩
  refine ⟨φ, .tuple #[], rfl, .tuple [] #[] rfl (fun i v x h => by simp at h), ⟨by simp, fun p hp' => ?_, fun _ _ h => h, fun p hp' => ?_, fun p hp' => ?_⟩, ⟨ext, fun b h1 h2 => ⟨hold b h1 fun e => h2 (by simp [e]), rfl⟩, by omega, by rw [← hw']; rfl, by rw [← hw']; rfl, by rw [← hw']; rfl, fun b hb' => .inl (by simpa using hb'), fun b hb' => htop b (by omega)⟩⟩
  · obtain rfl := List.mem_singleton.1 hp'
    refine ⟨_, et, hnew, ?_, fun j v x hv hx => ?_⟩
    · have e1 : (putCells id 0 (flatK encSC 2 d') vs).size = vs.size := by simp [putCells]
      rw [e1, w2, List.length_append, flat_eB_len, hyl, List.length_drop]; omega
    · rw [List.getElem?_append, flat_eB_len, hyl] at hv
      unfold putCells at hx
      rw [Array.getElem?_mapIdx] at hx
      simp only [Nat.zero_le, true_and, Nat.zero_add, Nat.sub_zero, size_flatK, hd's, id] at hx
      by_cases hj : j < xs.length * 2
      · rw [if_pos hj] at hv
        have hj2 : j / 2 < ys.length := by omega
        rw [flat_at ys j hj2] at hv
        have hjs : j < vs.size := by omega
        rw [Array.getElem?_eq_getElem hjs] at hx
        simp only [Option.map_some, if_pos hj, Option.some.injEq] at hx hv
        rw [get_flatK _ _ _ _ (by rw [hd's]; exact hj)] at hx
        subst hv hx
        unfold encSC
        rw [hyget _ hj2]
        by_cases h : j % 2 = 0
        · rw [if_pos h, h]; exact ⟨.int _ _, rfl⟩
        · have h1 : j % 2 = 1 := by omega
          rw [if_neg h, h1]; exact ⟨.int _ _, rfl⟩
      · rw [if_neg hj, List.getElem?_drop] at hv
        have e : xs.length * 2 + (j - xs.length * 2) = j := by omega
        rw [e] at hv
        cases hvj : vs[j]? with
        | none => rw [hvj] at hx; simp at hx
        | some z =>
          rw [hvj] at hx
          simp only [Option.map_some, if_neg hj, Option.some.injEq] at hx
          subst hx
          have := w3 j v z hv hvj
          exact ⟨this.1.mono ext, this.2⟩
  · obtain rfl := List.mem_singleton.1 hp'
    simp only; omega
  · obtain rfl := List.mem_singleton.1 hp'
    exact hA.z (blk, .cells cs) (by simp)

end Go.Proofs.YtdejdblopmfjfaaGreatDoor


/-! Contracts: what a trace may hit. -/
set_option linter.unusedVariables false
set_option linter.unusedSimpArgs false
set_option maxRecDepth 40000
set_option maxHeartbeats 4000000
namespace Go.Proofs.YtdejdblopmfjfaaGreatDoor
open Go.Am
attribute [local simp] cells scalar mkv splice under2 under dem dem1 eB gridC sB laidC
/-! ### Cells in order, each once -/
def insC (c : Int × Int) : List (Int × Int) → List (Int × Int)
  | [] => [c]
  | x :: r => if c = x then x :: r else if c.1 < x.1 ∨ (c.1 = x.1 ∧ c.2 < x.2) then c :: x :: r else x :: insC c r

theorem mem_insC {c x : Int × Int} : ∀ (l : List (Int × Int)), x ∈ insC c l ↔ x = c ∨ x ∈ l
  | [] => by simp [insC]
  | y :: r => by
    simp only [insC]
    split
    · rename_i h; subst h; simp
    · split
      · simp
      · simp only [List.mem_cons, mem_insC r]
        constructor
        · rintro (h | h | h)
          · exact .inr (.inl h)
          · exact .inl h
          · exact .inr (.inr h)
        · rintro (h | h | h)
          · exact .inr (.inl h)
          · exact .inl h
          · exact .inr (.inr h)

theorem sorted_insC {c : Int × Int} : ∀ (l : List (Int × Int)), l.Pairwise befC → (insC c l).Pairwise befC
  | [], _ => by simp [insC]
  | y :: r, h => by
    rw [List.pairwise_cons] at h
    simp only [insC]
    split
    · exact List.pairwise_cons.2 h
    · rename_i hne
      split
      · rename_i hb
        refine List.pairwise_cons.2 ⟨fun z hz => ?_, List.pairwise_cons.2 h⟩
        rcases List.mem_cons.1 hz with rfl | hz
        · exact hb
        · exact befC_trans hb (h.1 z hz)
      · rename_i hb
        refine List.pairwise_cons.2 ⟨fun z hz => ?_, sorted_insC r h.2⟩
        rcases (mem_insC r).1 hz with rfl | hz
        · have hne' : z.1 ≠ y.1 ∨ z.2 ≠ y.2 := by
            rcases Int.lt_or_le z.1 y.1 with h1 | h1
            · exact .inl (by omega)
            · by_cases h2 : z.1 = y.1
              · exact .inr fun h3 => hne (Prod.ext h2 h3)
              · exact .inl h2
          unfold befC; omega
        · exact h.1 z hz

def hitsOf (l : List (Int × Int)) : List (Int × Int) := l.foldl (fun acc c => insC c acc) []

theorem hits_fold : ∀ (l acc : List (Int × Int)), acc.Pairwise befC → (l.foldl (fun acc c => insC c acc) acc).Pairwise befC ∧ ∀ x, x ∈ l.foldl (fun acc c => insC c acc) acc ↔ x ∈ acc ∨ x ∈ l
  | [], acc, h => ⟨h, fun x => by simp⟩
  | c :: l, acc, h => by
    have ih := hits_fold l (insC c acc) (sorted_insC acc h)
    refine ⟨ih.1, fun x => ?_⟩
    simp only [List.foldl_cons]
    rw [ih.2 x, mem_insC]
    simp only [List.mem_cons]
    constructor
    · rintro ((h | h) | h)
      · exact .inr (.inl h)
      · exact .inl h
      · exact .inr (.inr h)
    · rintro (h | h | h)
      · exact .inl (.inr h)
      · exact .inl (.inl h)
      · exact .inr h

theorem hitsOf_sorted (l : List (Int × Int)) : (hitsOf l).Pairwise befC := (hits_fold l [] List.Pairwise.nil).1
theorem mem_hitsOf {l : List (Int × Int)} {x : Int × Int} : x ∈ hitsOf l ↔ x ∈ l := by
  have := (hits_fold l [] List.Pairwise.nil).2 x
  unfold hitsOf
  rw [this]; simp

def cellP (g : Gd) (p : (Int × Int) × (Int × Int)) : Int × Int := cellN g p.1 p.2
def hitsL (g : Gd) (l m : List (Int × Int)) : List (Int × Int) := hitsOf ((pairsL l m).map (cellP g))

theorem clsAt_bd {n : Int} : ∀ (l : List (Int × Int)) (k i : Nat), clsAt n l k = some i → k ≤ i ∧ i < k + l.length
  | [], k, i, h => by simp [clsAt] at h
  | c :: r, k, i, h => by
    simp only [clsAt] at h
    split at h
    · cases h; simp
    · have := clsAt_bd r (k + 1) i h
      simp; omega

theorem cell_bd {g : Gd} (hg : gridOk g = true) (a b : Int × Int) : cellB (cellN g a b) := by
  obtain ⟨_, _, ha, hd, hc, _⟩ := gridOk_spec hg
  unfold cellN
  split
  · rename_i h
    rw [Bool.and_eq_true, btw_iff, btw_iff] at h
    split
    · rename_i i hi
      have := clsAt_bd _ _ _ hi
      have m1 : 0 ≤ rowN g a b * g.a := Int.mul_nonneg (by omega) (by omega)
      have m2 : rowN g a b * g.a ≤ 15 * 16 := Int.mul_le_mul (by omega) (by omega) (by omega) (by omega)
      unfold cellB; simp only; omega
    · unfold cellB; simp only; omega
  · unfold cellB; simp only; omega

theorem pairs_len (l m : List (Int × Int)) : (pairsL l m).length = l.length * m.length := by
  induction l with
  | nil => simp [pairsL]
  | cons a l ih =>
    have e : pairsL (a :: l) m = (m.map fun b => (a, b)) ++ pairsL l m := rfl
    rw [e, List.length_append, ih]; simp [Nat.add_mul]; omega

theorem mem_pairs {l m : List (Int × Int)} {p : (Int × Int) × (Int × Int)} : p ∈ pairsL l m ↔ p.1 ∈ l ∧ p.2 ∈ m := by
  unfold pairsL
  simp only [List.mem_flatMap, List.mem_map]
  constructor
  · rintro ⟨a, ha, b, hb, rfl⟩; exact ⟨ha, hb⟩
  · rintro ⟨h1, h2⟩; exact ⟨p.1, h1, p.2, h2, rfl⟩

end Go.Proofs.YtdejdblopmfjfaaGreatDoor


/-! Contracts: hits. -/
set_option linter.unusedVariables false
set_option linter.unusedSimpArgs false
set_option maxRecDepth 40000
set_option maxHeartbeats 4000000
namespace Go.Proofs.YtdejdblopmfjfaaGreatDoor
open Go.Am
attribute [local simp] cells scalar mkv splice under2 under dem dem1 eB gridC sB laidC
/-- A layout on a grid, whose places are such. -/
structure LdOk (L : Ld) : Prop where
  g : gridOk L.g = true
  n : L.places.length ≤ 16
  t : L.traces.length ≤ 64
  p : ∀ l ∈ L.places, (1 ≤ l.length ∧ l.length ≤ 64) ∧ ∀ q ∈ l, planeB q = true
  tr : ∀ t ∈ L.traces, ∃ i j : Nat, t = ((i : Int), (j : Int)) ∧ i < L.places.length ∧ j < L.places.length

def pl (L : Ld) (i : Int) : List (Int × Int) := L.places.getD i.toNat []
def hitsT (L : Ld) (t : Nat) : List (Int × Int) := hitsL L.g (pl L (L.traces.getD t (0, 0)).1) (pl L (L.traces.getD t (0, 0)).2)

theorem inner_InA {E : Env} {S0 S2 : Sur} {l0 : List (List V)} {s0 : Bool} {cc : LC} (hA : InA E S0 l0 s0) (h : SurIn E.S S2) : InA (E.inner cc S2 h.ok) S0 l0 s0 := ⟨h.sub.trans hA.sub, hA.ok⟩

theorem key_eq {l : List MapEntry} (h : l.Pairwise fun x y => x.key ≠ y.key) {x y : MapEntry} (hx : x ∈ l) (hy : y ∈ l) (e : x.key = y.key) : x = y := by
  induction l with
  | nil => cases hx
  | cons a l ih =>
    rw [List.pairwise_cons] at h
    rcases List.mem_cons.1 hx with h1 | h1 <;> rcases List.mem_cons.1 hy with h2 | h2
    · rw [h1, h2]
    · rw [h1] at e; exact absurd e (h.1 _ h2)
    · rw [h2] at e; exact absurd e.symm (h.1 _ h1)
    · exact ih h.2 h1 h2

theorem born_eq {l : List MapEntry} (h : l.Pairwise fun x y => x.born ≠ y.born) {x y : MapEntry} (hx : x ∈ l) (hy : y ∈ l) (e : x.born = y.born) : x = y := by
  induction l with
  | nil => cases hx
  | cons a l ih =>
    rw [List.pairwise_cons] at h
    rcases List.mem_cons.1 hx with h1 | h1 <;> rcases List.mem_cons.1 hy with h2 | h2
    · rw [h1, h2]
    · rw [h1] at e; exact absurd e (h.1 _ h2)
    · rw [h2] at e; exact absurd e.symm (h.1 _ h1)
    · exact ih h.2 h1 h2

theorem vlen (es : Array MapEntry) (vis : List MapEntry) {n : Nat} (h : es.size ≤ n) (hs : ∀ e ∈ vis, e ∈ es.toList) (hn : (vis.map (·.key)).Nodup) (hb : n ≤ 4096) : vis.length ≤ 4096 := by
  have hv : vis.Nodup := by
    unfold List.Nodup at hn ⊢
    rw [List.pairwise_map] at hn
    exact hn.imp fun hne e => hne (by rw [e])
  have h2 : vis.length ≤ es.toList.length := hv.length_le_of_subset fun x hx => hs x hx
  have h3 : es.toList.length = es.size := by simp
  omega

theorem setA_one (b : Nat) (o o' : Ob) : setA [(b, o)] b o' = [(b, o')] := by simp [setA]

theorem c_hits {L : Ld} (hL : LdOk L) {t : Nat} (ht : t < L.traces.length) : C Tryz.prog F.bin_laid_hits [.agg (laidC L), I (t : Nat)] (sB (hitsT L t)) := by
  obtain ⟨i, j, hij, hi, hj⟩ := hL.tr _ (List.getElem_mem ht)
  have hT : hitsT L t = hitsL L.g L.places[i] L.places[j] := by
    unfold hitsT pl
    have e : L.traces.getD t (0, 0) = ((i : Int), (j : Int)) := by simp [ht, hij]
    rw [e]
    simp [hi, hj]
  rw [hT]
  have hpi := hL.p _ (List.getElem_mem hi)
  have hpj := hL.p _ (List.getElem_mem hj)
  obtain ⟨l, el⟩ : ∃ l, L.places[i] = l := ⟨_, rfl⟩
  obtain ⟨m, em⟩ : ∃ m, L.places[j] = m := ⟨_, rfl⟩
  rw [el] at hpi ⊢
  rw [em] at hpj ⊢
  have hpl : (pairsL l m).length ≤ 4096 := by
    rw [pairs_len]
    have : l.length * m.length ≤ 64 * 64 := Nat.mul_le_mul hpi.1.2 hpj.1.2
    omega
  refine C_of mixed chk.bin_laid_hits (by simp) fun S ok => ?_
  refine Tr.arena rfl rfl ?_
  have hA := InA.main (E := env0 Tryz.prog mixed 51 S ok) [] false
  refine Tr.seqR rfl (by simp) (Tr.seq (Tr.reg ?_))
  refine Steps.mkset hA rfl fun mb _ => Steps.fin rfl (by simp) ?_
  refine Tr.seq (Tr.reg (Steps.runN 4 rfl (by simp; omega) ?_))
  rw [getD_map ht, hij]
  refine Steps.fin rfl (by simp) ?_
  refine Tr.seq (Tr.seq (Tr.drawK (TraceK.runN 5 rfl (by simp; omega) ?_)))
  rw [getD_map hi, el]
  refine TraceK.runN 6 rfl (by simp; omega) ?_
  rw [getD_map hj, em]
  refine TraceK.run rfl (by simp) (TraceK.call rfl rfl (c_pairs l m) (TraceK.run rfl (by simp) (.done ⟨by kernel_rfl, by kernel_rfl, ?_⟩)))
  refine Tr.block ?_
  refine Tr.weak (s' := { env := [(2, .ptr 2 0), (5, .ptr 5 0), (29, .func (.func F.bin_pairs_1) [] [.vptr [sB l] 0, .vptr [sB m] 0])], bx := [(2, ⟨laidC L, false⟩), (5, ⟨[.rmap mb], false⟩)], rw := [], log := encA [(mb, .raw (.map #[] 0))], stp := false })
    (Wk.le (.cons rfl (.refl _) (.cons rfl (.refl _) (.cons rfl (.refl _) .nil))) (.cons rfl (LLe.refl _) (.cons rfl (LLe.refl _) .nil)) .nil rfl rfl) ?_
  refine Tr.range rfl rfl (i_pairs (l := l) (m := m) (by omega) (by omega)) rfl rfl rfl (by intro x hx; obtain ⟨b, _, rfl⟩ := List.mem_map.1 hx; rfl)
    (fun pre t => ∃ k es clock, k ≤ (pairsL l m).length ∧ pre = ((pairsL l m).take k).map eP2 ∧ SetIs es clock (((pairsL l m).take k).map (cellP L.g)) ∧ es.size ≤ k ∧ t.bx = [(2, ⟨laidC L, false⟩), (5, ⟨[.rmap mb], false⟩)] ∧ t.rw = [] ∧ t.log = encA [(mb, .raw (.map es clock))])
    (fun _ _ => False) ⟨0, #[], 0, by omega, rfl, SetIs.made, by simp, rfl, rfl, rfl⟩ ?_ ?_ ?_
  · rintro a0 L0 rc0 h0 S1 S2 ok1 ok2 pre q t lp hpre ⟨k, es, clock, hk, rfl, hS, hes, hbx, hrw, hlog⟩ henv hstp
    obtain ⟨env, bx, rw, log, stp⟩ := t
    simp only at hbx hrw hlog henv hstp
    subst hbx hrw hlog henv hstp
    have hmx : k < (pairsL l m).length ∧ ∃ b, (pairsL l m)[k]? = some b ∧ q = eP2 b := by
      have h1 : (((pairsL l m).take k).map eP2).length = k := by simp; omega
      have h2 := hpre.length_le
      simp at h2
      have hml : k < (pairsL l m).length := by omega
      refine ⟨hml, _, List.getElem?_eq_getElem hml, ?_⟩
      have h3 := List.IsPrefix.getElem hpre (i := k) (by simp; omega)
      simp only [List.getElem_map] at h3
      rw [List.getElem_append_right (by omega)] at h3
      simpa using h3
    obtain ⟨hkl, p, hp, rfl⟩ := hmx
    have hpm := mem_pairs.1 (List.mem_of_getElem? hp)
    have kc := c_cell hL.g (hpi.2 _ hpm.1) (hpj.2 _ hpm.2)
    have hcb := cell_bd hL.g p.1 p.2
    refine Tr.seqR rfl (by simp) (Tr.regR rfl (by simp) ?_)
    refine Tr.block (Tr.drawK (TraceK.run rfl (by simp) (TraceK.call rfl rfl kc (.done ⟨by kernel_rfl, by kernel_rfl, ?_⟩))))
    refine Steps.setput (A := [(mb, .raw (.map es clock))]) (k := cellN L.g p.1 p.2) (inner_InA hA ok2) rfl rfl (by simp) hS ?_ (by omega) fun es' clock' hS' hsz => ?_
    · unfold cellB at hcb; unfold inI; omega
    rw [setA_one]
    refine Steps.fin rfl (by simp) ?_
    have eT : ((pairsL l m).take (k + 1)).map (cellP L.g) = ((pairsL l m).take k).map (cellP L.g) ++ [cellN L.g p.1 p.2] := by
      rw [List.take_add_one, hp, List.map_append]; rfl
    refine ⟨{ env := [], bx := [(2, ⟨laidC L, false⟩), (5, ⟨[.rmap mb], false⟩)], rw := [], log := encA [(mb, .raw (.map es' clock'))], stp := false }, Wk.le .nil (.cons rfl (LLe.refl _) (.cons rfl (LLe.refl _) .nil)) .nil rfl rfl, ⟨k + 1, es', clock', by omega, ?_, by rw [eT]; exact hS', by omega, rfl, rfl, rfl⟩, rfl⟩
    rw [List.take_add_one, hp]; simp
  · rintro ⟨env, bx, rw, log, stp⟩ henv hstp ⟨k, es, clock, hk, hpre, hS, hes, hbx, hrw, hlog⟩
    simp only at hbx hrw hlog henv hstp
    subst hbx hrw hlog henv hstp
    have hml : k = (pairsL l m).length := by
      have := congrArg List.length hpre
      simp at this; omega
    subst hml
    rw [List.take_length] at hS
    refine Tr.seqR rfl (by simp) ?_
    refine Tr.seq (Tr.seq (Tr.reg (Steps.run rfl (by simp) ?_)))
    refine Steps.mrange (A := [(mb, .raw (.map es clock))]) (mb := mb) (es := es) (clock := clock) hA rfl rfl (by simp) fun ib hib => Steps.fin rfl (by simp) (Tr.block ?_)
    have hmi : mb ≠ ib := fun e => hib (by simp [e])
    refine Tr.loop (α := List MapEntry × List (Int × Int) × Array Nat × Nat × V × Arena) (fun p st => (p.1.map (·.key) = p.2.1.map keyV ∧ p.2.2.1.toList = p.1.map (·.born) ∧ (∀ e ∈ p.1, e ∈ es.toList) ∧ (p.1.map (·.key)).Nodup ∧ (∀ c ∈ p.2.1, c ∈ (pairsL l m).map (cellP L.g)) ∧ p.1.length ≤ 4096 ∧
        (mb, Ob.raw (.map es clock)) ∈ p.2.2.2.2.2 ∧ (ib, Ob.raw (.mapIter (some mb) clock p.2.2.1 p.2.2.2.1)) ∈ p.2.2.2.2.2 ∧ clock ≤ p.2.2.2.1 ∧ OwnS p.2.2.2.2.2 2 (p.2.1.map eB) p.2.2.2.2.1 ∧ offS p.2.2.2.2.1 mb ∧ offS p.2.2.2.2.1 ib) ∧
        st = { env := [(9, p.2.2.2.2.1), (39, .rptr ib 0)], bx := [], rw := [], log := encA p.2.2.2.2.2, stp := false }) (fun p => (leftOf es p.2.2.1).size) ([], [], #[], clock, .nils, [(ib, .raw (.mapIter (some mb) clock #[] clock)), (mb, .raw (.map es clock))])
      (Wk.le (.cons rfl (.refl _) (.cons rfl (.refl _) .nil)) .nil .nil rfl rfl) ⟨⟨rfl, rfl, by simp, by simp, by simp, by simp, by simp, by simp, Nat.le_refl _, .inl ⟨rfl, rfl⟩, fun _ _ _ _ h => (by cases h), fun _ _ _ _ h => (by cases h)⟩, rfl⟩ ?_
    rintro ⟨vis, out, seen, c0, v, A⟩ st ⟨⟨i1, i2, i3, i4, i5, i6, i7, i8, i9, i10, i11, i12⟩, rfl⟩
    simp only at i1 i2 i3 i4 i5 i6 i7 i8 i9 i10 i11 i12
    have hlen : vis.length = out.length := by have := congrArg List.length i1; simpa using this
    refine Tr.seq (Tr.reg ?_)
    refine Steps.mnext (A := A) (ib := ib) (mb := mb) (since := clock) (c0 := c0) (seen := seen) (es := es) (clock := clock) hA rfl rfl i8 i7 hS (fun e he => hS.st.1 e he) i9 (fun hz => ?_) (fun e he k hk hkey hval => ?_)
    · refine Steps.fin rfl (by simp) (Tr.seq (Tr.condF rfl (Tr.exit ?_)))
      have hall : ∀ x ∈ es.toList, x ∈ vis := fun x hx => by
        have h1 := all_seen es seen hz x hx
        rw [← Array.contains_toList, i2] at h1
        have h1 : x.born ∈ vis.map (·.born) := by simpa using h1
        obtain ⟨y, hy, ey⟩ := List.mem_map.1 h1
        have h2 := hS.st.2.1
        unfold List.Nodup at h2
        rw [List.pairwise_map] at h2
        exact born_eq h2 (i3 y hy) hx ey ▸ hy
      have hout : ∀ x, x ∈ out ↔ x ∈ (pairsL l m).map (cellP L.g) := fun x => by
        refine ⟨i5 x, fun hx => ?_⟩
        obtain ⟨_, e, he, ek⟩ := hS.all x hx
        have h1 : e.key ∈ vis.map (·.key) := List.mem_map.2 ⟨e, hall e he, rfl⟩
        rw [i1, ek] at h1
        obtain ⟨c, hc, ec⟩ := List.mem_map.1 h1
        exact keyV_inj ec ▸ hc
      have hnd : out.Nodup := by
        rw [i1] at i4
        unfold List.Nodup at i4 ⊢
        rw [List.pairwise_map] at i4
        exact i4.imp fun hne e => hne (by rw [e])
      have hne : out ≠ [] := fun e => by
        have h1 : 0 < (pairsL l m).length := by rw [pairs_len]; exact Nat.mul_pos (by omega) (by omega)
        have h2 := (hout (cellP L.g (pairsL l m)[0])).2 (List.mem_map.2 ⟨_, List.getElem_mem h1, rfl⟩)
        rw [e] at h2; cases h2
      obtain ⟨blk, cap, cs, rfl, hm2, hm3, hm4, hm5⟩ : ∃ (blk cap : Nat) (cs : List V), v = .sref blk 0 out.length cap ∧ (blk, Ob.cells cs) ∈ A ∧ cs.length = cap * 2 ∧ out.length ≤ cap ∧ cs.take (out.length * 2) = (out.map eB).flatMap cells := by
        rcases i10 with ⟨h, _⟩ | ⟨blk, cap, cs, h1, h2, h3, h4, h5⟩
        · simp at h; exact absurd h hne
        · rw [List.length_map] at h1 h4 h5
          exact ⟨blk, cap, cs, h1, h2, h3, h4, h5⟩
      have hcb : ∀ c ∈ out, cellB c := fun c hc => by
        obtain ⟨p, _, rfl⟩ := List.mem_map.1 (i5 c hc)
        exact cell_bd hL.g p.1 p.2
      have hcsl : out.length * 2 ≤ cs.length := by rw [hm3]; exact Nat.mul_le_mul_right _ hm4
      have hys : ∀ x, x ∈ hitsL L.g l m ↔ x ∈ out := fun x => by unfold hitsL; rw [mem_hitsOf, hout x]
      have hsort := ca_sort (blk := blk) (cap := cap) (xs := out) (ys := hitsL L.g l m) (cs := cs) hm5 hcsl (by omega) hcb hnd hys (hitsOf_sorted _)
      have hyl : (hitsL L.g l m).length = out.length := by
        have n1 : (hitsL L.g l m).Nodup := by
          unfold List.Nodup hitsL
          exact (hitsOf_sorted _).imp fun {a b} h (e : a = b) => befC_irrefl (by rw [e] at h; exact h)
        exact Nat.le_antisymm (n1.length_le_of_subset fun x hx => (hys x).1 hx) (hnd.length_le_of_subset fun x hx => (hys x).2 hx)
      refine Tr.weak (s' := { env := [(9, .sref blk 0 out.length cap)], bx := [], rw := [], log := encA A, stp := false }) (Wk.le (.cons rfl (.refl _) .nil) .nil .nil rfl rfl) ?_
      refine Tr.weak (Wk.keep hA (B := [(blk, .cells cs)]) rfl (by simpa using hm2) (by simp)) ?_
      refine Tr.seq (Tr.reg (Steps.run rfl (by simp) ?_))
      refine Steps.callA (F := []) hA rfl rfl rfl hsort (.inl (by simp)) (Steps.fin rfl (by simp) ?_)
      refine Tr.seqR rfl (by simp) ?_
      refine Tr.weak (s' := { env := [(4, .sref blk 0 ((hitsL L.g l m).map eB).length cap)], bx := [], rw := [], log := encA [(blk, .cells (((hitsL L.g l m).map eB).flatMap cells ++ cs.drop (out.length * 2)))], stp := false }) (Wk.le (.cons rfl (.of_eq ?_) .nil) .nil .nil rfl rfl) ?_
      · rw [List.length_map, hyl]
      refine Tr.weak (Wk.close hA (t := 4) (sz := 2) rfl rfl (by simp; rfl) (by omega) (by rw [List.length_map, hyl]; exact hm4) (fun x hx => by obtain ⟨c, _, rfl⟩ := List.mem_map.1 hx; rfl) ?_) ?_
      · rw [List.length_map, ← flat_eB_len, List.take_left]
      exact Tr.ret ⟨trivial, _, _, _, resVs_ok rfl, rfl, rfl⟩
    · refine Steps.fin rfl (by simp) (Tr.seq (Tr.condT rfl (Tr.skip (Tr.block (Tr.seq (Tr.reg ?_))))))
      have heL := mem_left he
      refine Steps.mentry (A := setA A ib (.raw (.mapIter (some mb) clock (seen.push e.born) clock))) (ib := ib) (mb := mb) (since := clock) (seen := seen) (es := es) (clock := clock) (e := e) (k := k) hA rfl rfl (mem_setA_self i8) (mem_setA_ne i7 hmi) hS.st heL.1 hkey hval (Steps.fin rfl (by simp) (Tr.reg (Steps.runN 3 rfl (by simp) ?_)))
      have hol : (out.map eB).length ≤ 4096 := by rw [List.length_map]; omega
      have hO : OwnS (setA A ib (.raw (.mapIter (some mb) clock (seen.push e.born) clock))) 2 (out.map eB) v := by
        rcases i10 with h | ⟨blk, cap, cs, h1, h2, h3⟩
        · exact .inl h
        · exact .inr ⟨blk, cap, cs, h1, mem_setA_ne h2 (fun e => i12 _ _ _ _ h1 e.symm), h3⟩
      refine Steps.appendOwn (A := setA A ib (.raw (.mapIter (some mb) clock (seen.push e.born) clock))) (v := v) (xs := out.map eB) (ys := [eB k]) (zs := [I 0, I 0]) hA rfl rfl hO (by kernel_rfl) (by omega) (by simp only [List.length_cons, List.length_nil]; omega) (by simp only [List.length_cons, List.length_nil]; omega) (by simp) fun v' A' hO' hkeep => ?_
      refine Steps.fin rfl (by simp) ?_
      have hnew : e ∉ vis := fun hm => by
        have h1 : e.born ∈ seen.toList := by rw [i2]; exact List.mem_map.2 ⟨e, hm, rfl⟩
        have h2 := heL.2
        rw [← Array.contains_toList] at h2
        simp at h2
        exact h2 (by simpa using h1)
      have hknew : e.key ∉ vis.map (·.key) := fun hm => by
        obtain ⟨x, hx, ex⟩ := List.mem_map.1 hm
        exact hnew (key_eq hS.nd heL.1 (i3 x hx) ex.symm ▸ hx)
      refine ⟨(vis ++ [e], out ++ [k], seen.push e.born, clock, v', A'), _, Wk.le (.cons rfl (.refl _) (.cons rfl (.refl _) .nil)) .nil .nil (by simp only [okRefs, List.all_cons, ownS_refs hO']; rfl) rfl, ⟨⟨?_, ?_, ?_, ?_, ?_, ?_, ?_, ?_, Nat.le_refl _, ?_, ?_, ?_⟩, rfl⟩, ?_⟩
      · rw [List.map_append, List.map_append, i1]
        simp [hkey]
      · rw [Array.toList_push, i2, List.map_append]; rfl
      · intro x hx
        rcases List.mem_append.1 hx with hx | hx
        · exact i3 x hx
        · obtain rfl := List.mem_singleton.1 hx; exact heL.1
      · rw [List.map_append, List.nodup_append]
        refine ⟨i4, by simp, fun x hx y hy e' => ?_⟩
        obtain rfl := List.mem_singleton.1 hy
        subst e'; exact hknew hx
      · intro c hc
        rcases List.mem_append.1 hc with hc | hc
        · exact i5 c hc
        · obtain rfl := List.mem_singleton.1 hc; exact hk
      · exact vlen es (vis ++ [e]) hes (fun x hx => by
          rcases List.mem_append.1 hx with hx | hx
          · exact i3 x hx
          · obtain rfl := List.mem_singleton.1 hx; exact heL.1) (by
          rw [List.map_append, List.nodup_append]
          refine ⟨i4, by simp, fun x hx y hy e' => ?_⟩
          obtain rfl := List.mem_singleton.1 hy
          subst e'; exact hknew hx) hpl
      · exact (hkeep _ (mem_setA_ne i7 hmi) i11).1
      · exact (hkeep _ (mem_setA_self i8) i12).1
      · rw [List.map_append]; exact hO'
      · exact (hkeep _ (mem_setA_ne i7 hmi) i11).2
      · exact (hkeep _ (mem_setA_self (o := .raw (.mapIter (some mb) clock (seen.push e.born) clock)) i8) i12).2
      · exact left_shrinks es seen e he
  · intro e t _ h; exact h.elim

end Go.Proofs.YtdejdblopmfjfaaGreatDoor


/-! Contracts: counting, plain part; rows of an arena. -/
set_option linter.unusedVariables false
set_option linter.unusedSimpArgs false
set_option maxRecDepth 40000
set_option maxHeartbeats 4000000
namespace Go.Proofs.YtdejdblopmfjfaaGreatDoor
open Go.Am

/-! ### Counts of cells -/
def cntRow (m : Nat) (P : List (Int × Int)) (b : Nat) : List Int := (List.range m).map fun (c : Nat) => ((P.count ((b : Int), (c : Int)) : Nat) : Int)
def nBins (g : Gd) : Nat := (g.a * g.d).toNat
def countL (g : Gd) (P : List (Int × Int)) : List (List Int) := (List.range (nBins g)).map (cntRow g.cls.length P)
def allH (h : Nat → List (Int × Int)) (n : Nat) : List (Int × Int) := (List.range n).flatMap h
def cntN (L : Ld) (h : Nat → List (Int × Int)) : List (List Int) := countL L.g (allH h L.traces.length)

def noneC : Int × Int := (-1, -1)
def inG (g : Gd) (c : Int × Int) : Prop := (0 ≤ c.1 ∧ c.1 < g.a * g.d) ∧ 0 ≤ c.2 ∧ c.2 < (g.cls.length : Int)

theorem cntRow_len (m : Nat) (P : List (Int × Int)) (b : Nat) : (cntRow m P b).length = m := by simp [cntRow]
theorem countL_len (g : Gd) (P : List (Int × Int)) : (countL g P).length = nBins g := by simp [countL]
theorem countL_get {g : Gd} {P : List (Int × Int)} {b : Nat} (h : b < nBins g) : (countL g P)[b]? = some (cntRow g.cls.length P b) := by simp [countL, h]
theorem cntRow_get {m : Nat} {P : List (Int × Int)} {b c : Nat} (h : c < m) : (cntRow m P b)[c]? = some ((P.count ((b : Int), (c : Int)) : Nat) : Int) := by simp [cntRow, h]

theorem cntRow_off {m : Nat} {P : List (Int × Int)} {c : Int × Int} {b : Nat} (h : c.1 ≠ b) : cntRow m (P ++ [c]) b = cntRow m P b := by
  unfold cntRow
  refine List.map_congr_left fun k _ => ?_
  rw [List.count_append, List.count_singleton]
  have : (c == ((b : Int), (k : Int))) = false := by
    rw [beq_eq_false_iff_ne]; intro e; rw [e] at h; exact h rfl
  rw [this]; simp

theorem cntRow_on {m : Nat} {P : List (Int × Int)} {b k : Nat} (h : k < m) : cntRow m (P ++ [((b : Int), (k : Int))]) b = (cntRow m P b).set k (((P.count ((b : Int), (k : Int)) : Nat) : Int) + 1) := by
  refine List.ext_getElem? fun i => ?_
  by_cases hi : i < m
  · rw [cntRow_get hi]
    by_cases e : i = k
    · subst e
      rw [List.getElem?_set_self (by rw [cntRow_len]; exact hi), List.count_append, List.count_singleton]
      simp
    · rw [List.getElem?_set_ne (fun h => e h.symm), cntRow_get hi, List.count_append, List.count_singleton]
      have : ((((b : Int), (k : Int)) : Int × Int) == ((b : Int), (i : Int))) = false := by
        rw [beq_eq_false_iff_ne]; intro h; injection h with _ h; exact e (by omega)
      rw [this]; simp
  · rw [List.getElem?_eq_none (by rw [cntRow_len]; omega), List.getElem?_eq_none (by rw [List.length_set, cntRow_len]; omega)]

theorem countL_none (g : Gd) (P : List (Int × Int)) : countL g (P ++ [noneC]) = countL g P := by
  unfold countL
  refine List.map_congr_left fun b _ => cntRow_off ?_
  unfold noneC; simp only; omega

theorem countL_on {g : Gd} {P : List (Int × Int)} {b k : Nat} (hb : b < nBins g) (hk : k < g.cls.length) :
    countL g (P ++ [((b : Int), (k : Int))]) = (countL g P).set b ((cntRow g.cls.length P b).set k (((P.count ((b : Int), (k : Int)) : Nat) : Int) + 1)) := by
  refine List.ext_getElem? fun i => ?_
  by_cases hi : i < nBins g
  · rw [countL_get hi]
    by_cases e : i = b
    · subst e
      rw [List.getElem?_set_self (by rw [countL_len]; exact hi), cntRow_on hk]
    · rw [List.getElem?_set_ne (fun h => e h.symm), countL_get hi, cntRow_off]
      simp only; omega
  · rw [List.getElem?_eq_none (by rw [countL_len]; omega), List.getElem?_eq_none (by rw [List.length_set, countL_len]; omega)]

/-! ### Rows in an arena -/
def arn (rbs : List Nat) (rows : List (List Int)) : Arena := List.zipWith (fun b r => (b, Ob.cells (r.map I))) rbs rows

theorem arn_keys : ∀ {rbs : List Nat} {rows : List (List Int)}, rbs.length = rows.length → (arn rbs rows).map (·.1) = rbs
  | [], [], _ => rfl
  | b :: rbs, r :: rows, h => by
    have := arn_keys (rbs := rbs) (rows := rows) (by simpa using h)
    simp [arn] at this ⊢
    exact this

theorem arn_snoc : ∀ {rbs : List Nat} {rows : List (List Int)} (b : Nat) (r : List Int), rbs.length = rows.length → arn (rbs ++ [b]) (rows ++ [r]) = arn rbs rows ++ [(b, .cells (r.map I))]
  | [], [], b, r, _ => rfl
  | c :: rbs, q :: rows, b, r, h => by
    have := arn_snoc (rbs := rbs) (rows := rows) b r (by simpa using h)
    simp [arn] at this ⊢
    exact this

theorem arn_mem : ∀ {rbs : List Nat} {rows : List (List Int)} {j b : Nat} {r : List Int}, rbs[j]? = some b → rows[j]? = some r → (b, Ob.cells (r.map I)) ∈ arn rbs rows
  | [], _, _, _, _, h, _ => by simp at h
  | _ :: _, [], _, _, _, _, h => by simp at h
  | c :: rbs, q :: rows, 0, b, r, h, k => by simp at h k; subst h k; simp [arn]
  | c :: rbs, q :: rows, j + 1, b, r, h, k => by
    have := arn_mem (rbs := rbs) (rows := rows) (j := j) (b := b) (r := r) (by simpa using h) (by simpa using k)
    simp only [arn] at this ⊢
    simp only [List.zipWith_cons_cons]
    exact List.mem_cons_of_mem _ this

theorem setA_out {A : Arena} {b : Nat} {o : Ob} (h : b ∉ A.map (·.1)) : setA A b o = A := by
  unfold setA
  conv => rhs; rw [← List.map_id A]
  refine List.map_congr_left fun p hp => ?_
  rw [if_neg fun e => h (List.mem_map.2 ⟨p, hp, e⟩)]; rfl

theorem arn_set : ∀ {rbs : List Nat} {rows : List (List Int)} {j b : Nat} (r : List Int), rbs.Nodup → rbs.length = rows.length → rbs[j]? = some b → setA (arn rbs rows) b (.cells (r.map I)) = arn rbs (rows.set j r)
  | [], _, _, _, _, _, _, h => by simp at h
  | _ :: _, [], _, _, _, _, h, _ => by simp at h
  | c :: rbs, q :: rows, 0, b, r, hn, hl, h => by
    simp at h; subst h
    rw [List.nodup_cons] at hn
    have e : arn (c :: rbs) (q :: rows) = (c, .cells (q.map I)) :: arn rbs rows := rfl
    have e2 : arn (c :: rbs) ((q :: rows).set 0 r) = (c, .cells (r.map I)) :: arn rbs rows := rfl
    rw [e, e2]
    have := setA_out (A := arn rbs rows) (b := c) (o := .cells (r.map I)) (by rw [arn_keys (by simpa using hl)]; exact hn.1)
    unfold setA at this ⊢
    rw [List.map_cons, this]; simp
  | c :: rbs, q :: rows, j + 1, b, r, hn, hl, h => by
    rw [List.nodup_cons] at hn
    have h' : rbs[j]? = some b := by simpa using h
    have ih := arn_set (rbs := rbs) (rows := rows) (j := j) (b := b) r hn.2 (by simpa using hl) h'
    have hcb : c ≠ b := fun e => hn.1 (e ▸ List.mem_of_getElem? h')
    have e : arn (c :: rbs) (q :: rows) = (c, .cells (q.map I)) :: arn rbs rows := rfl
    have e2 : arn (c :: rbs) ((q :: rows).set (j + 1) r) = (c, .cells (q.map I)) :: arn rbs (rows.set j r) := rfl
    rw [e, e2, ← ih]
    unfold setA
    rw [List.map_cons, if_neg hcb]

theorem arn_drop {b : Nat} {r : List Int} {rbs : List Nat} {rows : List (List Int)} (hn : (b :: rbs).Nodup) (hl : rbs.length = rows.length) : dropA (arn (b :: rbs) (r :: rows)) b = arn rbs rows := by
  rw [List.nodup_cons] at hn
  have e : arn (b :: rbs) (r :: rows) = (b, .cells (r.map I)) :: arn rbs rows := rfl
  rw [e]
  unfold dropA
  rw [List.filter_cons]
  simp only [bne_self_eq_false, Bool.false_eq_true, if_false]
  refine List.filter_eq_self.2 fun p hp => ?_
  have : p.1 ∈ rbs := by rw [← arn_keys hl]; exact List.mem_map.2 ⟨p, hp, rfl⟩
  have : p.1 ≠ b := fun e => hn.1 (e ▸ this)
  simpa using this

section
variable {E : Env} {S0 : Sur} {l0 : List (List V)} {s0 : Bool}

def srefs (m : Nat) (rbs : List Nat) : List V := rbs.map fun b => .sref b 0 m m

/-- All rows of a slice become data. -/
theorem closeRows (hE : InA E S0 l0 s0) {t m : Nat} : ∀ (rbs : List Nat) (rows : List (List Int)) (pre : List V) (s : St), rbs.Nodup → rbs.length = rows.length → (∀ r ∈ rows, r.length = m) → (∀ y ∈ pre, cells y = [y]) → get s.env t = some (.slice 0 1 (pre ++ srefs m rbs)) → s.log = encA (arn rbs rows) →
    ∃ s', Wk E s s' ∧ get s'.env t = some (.slice 0 1 (pre ++ rows.map intsV)) ∧ s'.log = encA [] ∧ s'.stp = s.stp ∧ s'.bx = s.bx
  | [], [], pre, s, _, _, _, _, ht, hl => ⟨s, Wk.refl s, by simpa [srefs] using ht, hl, rfl, rfl⟩
  | b :: rbs, r :: rows, pre, s, hn, hlen, hm, hpre, ht, hl => by
    have hlen' : rbs.length = rows.length := by simpa using hlen
    have hrl : r.length = m := hm r (by simp)
    have h1 : ∀ y ∈ pre ++ srefs m (b :: rbs), cells y = [y] := fun y hy => by
      rcases List.mem_append.1 hy with hy | hy
      · exact hpre y hy
      · obtain ⟨_, _, rfl⟩ := List.mem_map.1 hy; rfl
    have w1 := Wk.closeIn (E := E) (S0 := S0) (l0 := l0) (s0 := s0) (A := arn (b :: rbs) (r :: rows)) hE (s := s) (t := t) (r := 0) (blk := b) (cap := m) (sz := 1) (j := pre.length) (cs := r.map I) (xs := r.map I) (ys := pre ++ srefs m (b :: rbs)) ht
      (by rw [List.length_map, hrl, List.getElem?_append_right (Nat.le_refl _), Nat.sub_self]; rfl) hl (by simp [arn]) (by omega) (by rw [List.length_map, hrl]; exact Nat.le_refl _) (fun x hx => by obtain ⟨_, _, rfl⟩ := List.mem_map.1 hx; rfl)
      (by rw [Nat.mul_one, List.take_length]; induction r with
          | nil => rfl
          | cons a r _ => rw [List.flatMap_def, List.map_map]; induction (a :: r) with
            | nil => rfl
            | cons a r ih => simp [cells] at ih ⊢; exact ih) h1
    have eset : (pre ++ srefs m (b :: rbs)).set pre.length (.slice 0 1 (r.map I)) = (pre ++ [intsV r]) ++ srefs m rbs := by
      rw [List.set_append_right _ _ (Nat.le_refl _), Nat.sub_self]
      simp [srefs, intsV]
    rw [eset, arn_drop hn hlen'] at w1
    rw [List.nodup_cons] at hn
    obtain ⟨s', w2, g1, g2, g3, g4⟩ := closeRows hE (t := t) rbs rows (pre ++ [intsV r]) hn.2 hlen' (fun q hq => hm q (by simp [hq])) (fun y hy => by
      rcases List.mem_append.1 hy with hy | hy
      · exact hpre y hy
      · rw [List.mem_singleton.1 hy]; rfl) (s := { s.put (some t) (.slice 0 1 ((pre ++ [intsV r]) ++ srefs m rbs)) with log := encA (arn rbs rows) }) (by show Am.get ((t, _) :: s.env) t = _; simp [Am.get]) rfl
    exact ⟨s', w1.trans w2, by rw [g1]; simp, g2, by rw [g3]; rfl, by rw [g4]; rfl⟩

end
end Go.Proofs.YtdejdblopmfjfaaGreatDoor


/-! Contracts: surely; counting. -/
set_option linter.unusedVariables false
set_option linter.unusedSimpArgs false
set_option maxRecDepth 40000
set_option maxHeartbeats 4000000
namespace Go.Proofs.YtdejdblopmfjfaaGreatDoor
open Go.Am
attribute [local simp] cells scalar mkv splice under2 under dem dem1 eB gridC sB laidC
def sureL : List (Int × Int) → List (Int × Int)
  | [c] => if c = noneC then [] else [c]
  | _ => []
def sureT (L : Ld) (t : Nat) : List (Int × Int) := sureL (hitsT L t)

theorem c_surely {L : Ld} (hL : LdOk L) {t : Nat} (ht : t < L.traces.length) : C Tryz.prog F.bin_laid_surely [.agg (laidC L), I (t : Nat)] (sB (sureT L t)) := by
  have kc := c_hits hL ht
  unfold sureT
  generalize hitsT L t = l at kc
  refine C_of mixed chk.bin_laid_surely (by simp) fun S ok => ?_
  refine Tr.seqR rfl (by simp) (Tr.seq (Tr.seqC rfl (by simp) (Steps.call rfl rfl kc (Steps.fin rfl (by simp) ?_))))
  rcases l with _ | ⟨c, _ | ⟨c2, r⟩⟩
  · refine Tr.seq (Tr.drawK (TraceK.runN 7 rfl (by simp) (TraceK.ggload (g := 0) (cs := [I (-1), I (-1)]) (gb := false) (by simp [globalsV]) rfl rfl rfl (by simp) ?_)))
    refine .done ⟨by kernel_rfl, by kernel_rfl, Steps.off (want := true) (.bool true) rfl rfl rfl (Steps.fin rfl (by simp) ?_)⟩
    refine Tr.condF rfl (Tr.skip (Tr.seqR rfl (by simp) ?_))
    refine Tr.weak (s' := { env := [(4, .slice 0 2 [])], bx := [], rw := [], log := [], stp := false }) (Wk.le (.cons rfl (.nil 0 2) .nil) .nil .nil rfl rfl) ?_
    exact Tr.retX rfl rfl rfl rfl trivial
  · refine Tr.seq (Tr.drawK (TraceK.runN 7 rfl (by simp) (TraceK.ggload (g := 0) (cs := [I (-1), I (-1)]) (gb := true) (by simp [globalsV]) rfl rfl rfl (by simp) ?_)))
    refine TraceK.run rfl (by simp) (.done ⟨by kernel_rfl, by kernel_rfl, Steps.fin rfl (by simp) ?_⟩)
    refine Tr.cond rfl rfl (fun h => ?_) (fun h => Tr.skip ?_)
    · have hc : c ≠ noneC := by
        rintro rfl
        revert h
        show (!((((-1 : Int) == -1) && ((-1 : Int) == -1)) : Bool)) = true → False
        decide
      refine Tr.seqR rfl (by simp) (Tr.retX rfl rfl rfl ?_ trivial)
      simp [sureL, hc, packR]
    · have hc : c = noneC := by
        have h : (!((c.1 == -1) && (c.2 == -1))) = false := by simpa using h
        simp at h
        exact Prod.ext h.1 h.2
      refine Tr.seqR rfl (by simp) ?_
      refine Tr.weak (s' := { env := [(4, .slice 0 2 [])], bx := [], rw := [], log := [], stp := false }) (Wk.le (.cons rfl (.nil 0 2) .nil) .nil .nil rfl rfl) ?_
      refine Tr.retX rfl rfl rfl ?_ trivial
      simp [sureL, hc, packR]
  · have hne : ((((c :: c2 :: r : List (Int × Int)).map eB).length : Int) == 1) = false := by
      rw [beq_eq_false_iff_ne]; simp; omega
    refine Tr.seq (Tr.drawK (TraceK.runN 4 rfl (by simp) ?_))
    refine TraceK.runN 3 rfl (by simp; omega) (TraceK.ggload (g := 0) (cs := [I (-1), I (-1)]) (by simp [globalsV]) rfl rfl rfl (by simp) ?_)
    refine .done ⟨by kernel_rfl, by kernel_rfl, Steps.off (want := true) (.bool true) rfl rfl (congrArg some hne) (Steps.fin rfl (by simp; omega) ?_)⟩
    refine Tr.cond rfl rfl (fun h => ?_) (fun h => Tr.skip (Tr.seqR rfl (by simp) ?_))
    · have h : (bif ((((c :: c2 :: r : List (Int × Int)).map eB).length : Int) == 1) then true else false) = true := h
      rw [hne] at h; cases h
    refine Tr.weak (s' := { env := [(4, .slice 0 2 [])], bx := [], rw := [], log := [], stp := false }) (Wk.le (.cons rfl (.nil 0 2) .nil) .nil .nil rfl rfl) ?_
    exact Tr.retX rfl rfl rfl rfl trivial

end Go.Proofs.YtdejdblopmfjfaaGreatDoor


/-! Plain laws of cells: the order of the places; what moves with the grid. -/
set_option linter.unusedVariables false
set_option linter.unusedSimpArgs false
set_option maxRecDepth 40000
set_option maxHeartbeats 4000000
namespace Go.Proofs.YtdejdblopmfjfaaGreatDoor
open Go.Am

theorem cell_comm (g : Gd) (a b : Int × Int) : cellN g a b = cellN g b a := by
  have h1 : colN g a b = colN g b a := by unfold colN; rw [Int.add_comm a.1 b.1]
  have h2 : rowN g a b = rowN g b a := by unfold rowN; rw [Int.add_comm a.2 b.2]
  have sq : ∀ x y : Int, (x - y) * (x - y) = (y - x) * (y - x) := fun x y => by
    rw [← Int.neg_sub y x, Int.neg_mul_neg]
  have h3 : sqN a b = sqN b a := by unfold sqN; rw [sq a.1 b.1, sq a.2 b.2]
  unfold cellN
  rw [h1, h2, h3]

def addP (p v : Int × Int) : Int × Int := (p.1 + v.1, p.2 + v.2)
def movG (g : Gd) (v : Int × Int) : Gd := { g with o := addP g.o v }

theorem cell_move (g : Gd) (v a b : Int × Int) : cellN (movG g v) (addP a v) (addP b v) = cellN g a b := by
  have h1 : colN (movG g v) (addP a v) (addP b v) = colN g a b := by
    unfold colN movG addP; simp only; congr 1; omega
  have h2 : rowN (movG g v) (addP a v) (addP b v) = rowN g a b := by
    unfold rowN movG addP; simp only; congr 1; omega
  have h3 : sqN (addP a v) (addP b v) = sqN a b := by
    unfold sqN addP; simp only
    rw [show a.1 + v.1 - (b.1 + v.1) = a.1 - b.1 by omega, show a.2 + v.2 - (b.2 + v.2) = a.2 - b.2 by omega]
  unfold cellN
  rw [h1, h2, h3]; rfl

/-- A cell is one of the grid, or none. -/
theorem cell_in {g : Gd} (hg : gridOk g = true) (a b : Int × Int) : cellN g a b = noneC ∨ inG g (cellN g a b) := by
  obtain ⟨_, _, ha, hd, hc, _⟩ := gridOk_spec hg
  unfold cellN
  split
  · rename_i h
    rw [Bool.and_eq_true, btw_iff, btw_iff] at h
    split
    · rename_i i hi
      have := clsAt_bd _ _ _ hi
      have m1 : 0 ≤ rowN g a b * g.a := Int.mul_nonneg (by omega) (by omega)
      have m2 : rowN g a b * g.a ≤ (g.d - 1) * g.a := Int.mul_le_mul_of_nonneg_right (by omega) (by omega)
      rw [Int.sub_mul, Int.mul_comm g.d g.a] at m2
      refine .inr ⟨⟨?_, ?_⟩, ?_, ?_⟩ <;> simp only <;> omega
    · exact .inl rfl
  · exact .inl rfl

theorem inG_none {g : Gd} : ¬ inG g noneC := by
  rintro ⟨⟨h, _⟩, _⟩
  revert h; decide

theorem nBins_eq {g : Gd} (hg : gridOk g = true) : (nBins g : Int) = g.a * g.d ∧ 1 ≤ nBins g ∧ nBins g ≤ 256 := by
  obtain ⟨_, _, ha, hd, hc, _⟩ := gridOk_spec hg
  have h1 : 1 * 1 ≤ g.a * g.d := Int.mul_le_mul (by omega) (by omega) (by omega) (by omega)
  have h2 : g.a * g.d ≤ 16 * 16 := Int.mul_le_mul (by omega) (by omega) (by omega) (by omega)
  unfold nBins
  omega

theorem inG_nat {g : Gd} (hg : gridOk g = true) {c : Int × Int} (h : inG g c) : ∃ b k : Nat, c = ((b : Int), (k : Int)) ∧ b < nBins g ∧ k < g.cls.length := by
  obtain ⟨⟨h1, h2⟩, h3, h4⟩ := h
  have := (nBins_eq hg).1
  exact ⟨c.1.toNat, c.2.toNat, Prod.ext (by simp; omega) (by simp; omega), by omega, by omega⟩

end Go.Proofs.YtdejdblopmfjfaaGreatDoor


/-! Contracts: counting. -/
set_option linter.unusedVariables false
set_option linter.unusedSimpArgs false
set_option maxRecDepth 40000
set_option maxHeartbeats 4000000
namespace Go.Proofs.YtdejdblopmfjfaaGreatDoor
open Go.Am
attribute [local simp] cells scalar mkv splice under2 under dem dem1 eB gridC sB laidC
def rowsB (m : Nat) (rbs : List Nat) (k : Nat) : List V := (rbs.map fun b => V.sref b 0 m m) ++ List.replicate k .nils

theorem rowsB_refs (m : Nat) (rbs : List Nat) (k : Nat) (B : Nat → Bool) (R : Nat → Option (Nat × Nat × Nat)) : (rowsB m rbs k).all (refsOk B R 6) = true := by
  rw [List.all_eq_true]
  intro x hx
  rcases List.mem_append.1 hx with hx | hx
  · obtain ⟨_, _, rfl⟩ := List.mem_map.1 hx; rfl
  · rw [List.eq_of_mem_replicate hx]; rfl

theorem okRows {j m k : Nat} {rbs : List Nat} {env : List (Nat × V)} {bx : List (Nat × Box)} {rw : List (Nat × Nat × Nat × Nat)} (h : okRefs env ((j, ⟨[], false⟩) :: bx) rw = true) : okRefs env ((j, ⟨rowsB m rbs k, false⟩) :: bx) rw = true := by
  have e : hasKey ((j, (⟨rowsB m rbs k, false⟩ : Box)) :: bx) = hasKey ((j, (⟨[], false⟩ : Box)) :: bx) := rfl
  unfold okRefs at h ⊢
  rw [e]
  rw [Bool.and_eq_true] at h ⊢
  refine ⟨h.1, ?_⟩
  have h2 := h.2
  rw [List.all_cons, Bool.and_eq_true] at h2 ⊢
  exact ⟨rowsB_refs _ _ _ _ _, h2.2⟩

theorem rowsB_len (m : Nat) (rbs : List Nat) (k : Nat) : (rowsB m rbs k).length = rbs.length + k := by simp [rowsB]

theorem rowsB_set (m : Nat) (rbs : List Nat) (k b : Nat) : (rowsB m rbs (k + 1)).set rbs.length (.sref b 0 m m) = rowsB m (rbs ++ [b]) k := by
  unfold rowsB
  rw [List.set_append_right _ _ (by simp), List.length_map, Nat.sub_self, List.replicate_succ]
  simp

theorem rowsB_flat (m : Nat) (rbs : List Nat) : ∀ l : List V, l = (rbs.map fun b => V.sref b 0 m m) → l.flatMap cells = l := by
  induction rbs with
  | nil => rintro l rfl; rfl
  | cons b r ih => rintro l rfl; rw [List.map_cons, List.flatMap_cons, ih _ rfl]; rfl

theorem rowsB_holds (m : Nat) (rbs : List Nat) : Holds (rowsB m rbs 0) 0 1 rbs.length (rbs.map fun b => V.sref b 0 m m) := by
  refine ⟨by omega, by simp, fun x hx => ?_, ?_, fun x hx => ?_⟩
  · obtain ⟨_, _, rfl⟩ := List.mem_map.1 hx; rfl
  · rw [rowsB_flat m rbs _ rfl]; simp [rowsB, List.take_of_length_le]
  · obtain ⟨_, _, rfl⟩ := List.mem_map.1 hx; rfl

theorem zrow_eq (g : Gd) (n : Nat) : List.replicate n (List.replicate g.cls.length (0 : Int)) = (List.range n).map (cntRow g.cls.length []) := by
  refine List.ext_getElem (by simp) fun i h1 h2 => ?_
  simp [cntRow]
  refine List.ext_getElem (by simp) fun i h1 h2 => by simp

theorem allH_succ (h : Nat → List (Int × Int)) (k : Nat) : allH h (k + 1) = allH h k ++ h k := by
  unfold allH; rw [List.range_succ, List.flatMap_append]; simp

theorem count_bd {L : Ld} {h : Nat → List (Int × Int)} (hn : L.traces.length ≤ 64) (hr : ∀ t < L.traces.length, (h t).length ≤ 4096) : ∀ k ≤ L.traces.length, (allH h k).length ≤ k * 4096
  | 0, _ => by simp [allH]
  | k + 1, hk => by
    have := count_bd hn hr k (by omega)
    have h2 := hr k (by omega)
    rw [allH_succ, List.length_append]; omega

theorem splice_set {cs : List V} {i : Nat} (h : i < cs.length) (v : V) : splice cs i [v] = cs.set i v := by
  rw [List.set_eq_take_append_cons_drop, if_pos h]; simp [splice]

theorem c_count {L : Ld} (hL : LdOk L) {f : FuncId} {h : Nat → List (Int × Int)} (hf : ∀ t < L.traces.length, C Tryz.prog f [.agg (laidC L), I (t : Nat)] (sB (h t))) (hr : ∀ t < L.traces.length, (h t).length ≤ 4096 ∧ ∀ c ∈ h t, c = noneC ∨ inG L.g c) :
    C Tryz.prog F.bin_laid_count [.agg (laidC L), .func (.func f) [.agg (laidC L)] []] (foldV (cntN L h)) := by
  obtain ⟨_, hsz, hga, hgd, hcl, _⟩ := gridOk_spec hL.g
  have nb := nBins_eq hL.g
  have hab : IntKind.wrap .i64 (L.g.a * L.g.d) = (nBins L.g : Int) := by rw [nb.1]; exact w64 (by omega) (by omega)
  refine C_of mixed chk.bin_laid_count (by simp) fun S ok => ?_
  refine Tr.arena rfl rfl ?_
  have hA := InA.main (E := env0 Tryz.prog mixed 63 S ok) [] false
  refine Tr.seqR rfl (by simp) ?_
  refine Tr.seqR rfl (by simp; omega) ?_
  refine Tr.seq (Tr.seqR rfl (by simp) (Tr.block ?_))
  refine Tr.loop (α := Nat × List Nat) (fun p st => (p.1 ≤ nBins L.g ∧ p.2.length = p.1 ∧ p.2.Nodup) ∧
      st = { env := [(1, .func (.func f) [.agg (laidC L)] []), (2, .ptr 2 0), (5, .bsl 17 0 1 (nBins L.g)), (18, .bsl 17 0 1 (nBins L.g)), (19, I (nBins L.g : Nat)), (20, I (p.1 : Nat))], bx := [(17, ⟨rowsB L.g.cls.length p.2 (nBins L.g - p.1), false⟩), (2, ⟨laidC L, false⟩)], rw := [], log := encA (arn p.2 ((List.range p.1).map (cntRow L.g.cls.length []))), stp := false }) (fun p => nBins L.g - p.1) (0, [])
    (Wk.leL (.cons rfl (.refl _) (.cons rfl (.refl _) (.cons rfl (.of_eq ?_) (.cons rfl (.of_eq ?_) (.cons rfl (VLe.i ?_) (.cons rfl (.refl _) .nil)))))) (.cons rfl ?_ (.cons rfl (LLe.refl _) .nil)) .nil (okRows rfl) rfl rfl) ⟨⟨by omega, rfl, List.Pairwise.nil⟩, rfl⟩ ?_
  · show V.bsl 17 0 1 (IntKind.wrap .i64 (L.g.a * L.g.d)).toNat = _
    rw [hab]; rfl
  · show V.bsl 17 0 1 (IntKind.wrap .i64 (L.g.a * L.g.d)).toNat = _
    rw [hab]; rfl
  · rw [hab]; rfl
  · show LLe (List.replicate (IntKind.wrap .i64 (L.g.a * L.g.d)).toNat [V.nils]).flatten _
    rw [hab]
    have e : (List.replicate (nBins L.g) [V.nils]).flatten = rowsB L.g.cls.length [] (nBins L.g - 0) := by simp [rowsB]
    rw [Int.toNat_natCast, e]; exact LLe.refl _
  rintro ⟨k, rbs⟩ st ⟨⟨hk, hlen, hnd⟩, rfl⟩
  simp only at hk hlen hnd
  have hlr : rbs.length = ((List.range k).map (cntRow L.g.cls.length [])).length := by simp [hlen]
  refine Tr.seqR rfl (by simp) (Tr.seqI rfl (fun h1 => ?_) (fun h1 => ?_))
  · have h1 : k < nBins L.g := by simpa using h1
    refine Tr.skipT (Tr.seq (Tr.block (Tr.seqR rfl (by simp) (Tr.reg ?_))))
    refine Steps.runN 6 rfl (by simp) (Steps.amkbox hA (N := L.g.cls.length) rfl (by simp) (by simp) (by omega) (by omega) (by omega) rfl fun b hb => ?_)
    rw [arn_keys hlr] at hb
    refine Steps.fin rfl (by simp [rowsB_len, hlen]; omega) (Tr.regR rfl (by simp) ?_)
    have ez : (List.replicate L.g.cls.length [I 0]).flatten = (cntRow L.g.cls.length [] k).map I := by
      have : cntRow L.g.cls.length [] k = List.replicate L.g.cls.length 0 := by
        refine List.ext_getElem (by simp [cntRow]) fun i h1 h2 => by simp [cntRow]
      rw [this]; simp
    have eA : arn (rbs ++ [b]) ((List.range (k + 1)).map (cntRow L.g.cls.length [])) = arn rbs ((List.range k).map (cntRow L.g.cls.length [])) ++ [(b, .cells ((cntRow L.g.cls.length [] k).map I))] := by
      rw [List.range_succ, List.map_append]; exact arn_snoc _ _ hlr
    have hnd2 : (rbs ++ [b]).Nodup := by
      rw [List.nodup_append]
      exact ⟨hnd, by simp, fun x hx y hy e => by rw [List.mem_singleton.1 hy] at e; exact hb (e ▸ hx)⟩
    refine ⟨(k + 1, rbs ++ [b]), _, Wk.trans (Wk.leL (env := [(1, .func (.func f) [.agg (laidC L)] []), (2, .ptr 2 0), (5, .bsl 17 0 1 (nBins L.g)), (18, .bsl 17 0 1 (nBins L.g)), (19, I (nBins L.g : Nat)), (20, I ((k + 1 : Nat) : Int))]) (bx := [(17, ⟨rowsB L.g.cls.length (rbs ++ [b]) (nBins L.g - (k + 1)), false⟩), (2, ⟨laidC L, false⟩)]) (rw := [])
        (.cons rfl (.refl _) (.cons rfl (.refl _) (.cons rfl (.refl _) (.cons rfl (.refl _) (.cons rfl (.refl _) (.cons rfl (VLe.i (w64 (by omega) (by omega))) .nil)))))) (.cons rfl ?_ (.cons rfl (LLe.refl _) .nil)) .nil (okRows rfl) rfl rfl) (Wk.keep hA (B := arn (rbs ++ [b]) ((List.range (k + 1)).map (cntRow L.g.cls.length []))) rfl ?_ ?_), ⟨⟨by simp only; omega, by simp [hlen], hnd2⟩, rfl⟩, by simp only; omega⟩
    · have e1 : nBins L.g - k = (nBins L.g - (k + 1)) + 1 := by omega
      have e2 : (0 : Nat) + ((k : Nat) : Int).toNat * 1 = rbs.length := by simp [hlen]
      show LLe (splice (rowsB L.g.cls.length rbs (nBins L.g - k)) (0 + ((k : Nat) : Int).toNat * 1) [.sref b 0 L.g.cls.length L.g.cls.length]) _
      rw [e1, e2, splice_set (by rw [rowsB_len]; omega), rowsB_set]; exact LLe.refl _
    · intro p hp
      rw [eA] at hp
      rcases List.mem_append.1 hp with hp | hp
      · exact List.mem_cons_of_mem _ hp
      · rw [List.mem_singleton.1 hp, ez]; exact List.mem_cons_self
    · rw [arn_keys (by simp [hlen])]; exact hnd2
  have h1 : k = nBins L.g := by simp at h1; omega
  subst h1
  clear hlr
  refine Tr.exit ?_
  refine Tr.weak (s' := { env := [(1, .func (.func f) [.agg (laidC L)] []), (2, .ptr 2 0), (5, .bsl 17 0 1 rbs.length)], bx := [(17, ⟨rowsB L.g.cls.length rbs 0, false⟩), (2, ⟨laidC L, false⟩)], rw := [], log := encA (arn rbs (countL L.g (allH h 0))), stp := false })
    (Wk.leL (.cons rfl (.refl _) (.cons rfl (.refl _) (.cons rfl (.of_eq (by rw [hlen])) .nil))) (.cons rfl (by rw [Nat.sub_self]; exact LLe.refl _) (.cons rfl (LLe.refl _) .nil)) .nil (okRows rfl) rfl rfl) ?_
  refine Tr.weak (Wk.bsl (t := 5) rfl rfl (rowsB_holds _ _)) ?_
  refine Tr.seq (Tr.seqR rfl (by simp) (Tr.block ?_))
  refine Tr.loop (fun (k : Nat) st => k ≤ L.traces.length ∧ st = { env := [(1, .func (.func f) [.agg (laidC L)] []), (2, .ptr 2 0), (5, .slice 0 1 (rbs.map fun b => V.sref b 0 L.g.cls.length L.g.cls.length)), (33, sB L.traces), (34, I (L.traces.length : Nat)), (35, I (k : Nat))], bx := [(2, ⟨laidC L, false⟩)], rw := [], log := encA (arn rbs (countL L.g (allH h k))), stp := false }) (fun k => L.traces.length - k) 0
    (Wk.leL (.cons rfl (.refl _) (.cons rfl (.refl _) (.cons rfl (.refl _) (.cons rfl (.refl _) (.cons rfl (VLe.i (by simp)) (.cons rfl (.refl _) .nil)))))) (.cons rfl (LLe.refl _) .nil) .nil rfl rfl rfl) ⟨by omega, rfl⟩ ?_
  rintro k st ⟨hk, rfl⟩
  refine Tr.seqR rfl (by simp) (Tr.seqI rfl (fun h1 => ?_) (fun h1 => ?_))
  · have h1 : k < L.traces.length := by simpa using h1
    have hb := count_bd hL.t (fun t ht => (hr t ht).1) k hk
    have hr1 := hr k h1
    have hLt := hL.t
    refine Tr.skipT (Tr.seq (Tr.block (Tr.seqR rfl (by simp) (Tr.seqC rfl (by simp) (Steps.callv rfl rfl (hf k h1) (Steps.fin rfl (by simp) (Tr.block ?_)))))))
    refine Tr.loop (fun (j : Nat) st => j ≤ (h k).length ∧ st = { env := [(1, .func (.func f) [.agg (laidC L)] []), (2, .ptr 2 0), (5, .slice 0 1 (rbs.map fun b => V.sref b 0 L.g.cls.length L.g.cls.length)), (33, sB L.traces), (34, I (L.traces.length : Nat)), (35, I (k : Nat)), (40, sB (h k)), (41, I ((h k).length : Nat)), (42, I (j : Nat))], bx := [(2, ⟨laidC L, false⟩)], rw := [], log := encA (arn rbs (countL L.g (allH h k ++ (h k).take j))), stp := false }) (fun j => (h k).length - j) 0
      (Wk.leL (.cons rfl (.refl _) (.cons rfl (.refl _) (.cons rfl (.refl _) (.cons rfl (.refl _) (.cons rfl (.refl _) (.cons rfl (.refl _) (.cons rfl (.refl _) (.cons rfl (VLe.i (by simp)) (.cons rfl (.refl _) .nil))))))))) (.cons rfl (LLe.refl _) .nil) .nil rfl rfl (by show encA (arn rbs (countL L.g (allH h k))) = _; rw [List.take_zero, List.append_nil])) ⟨by omega, rfl⟩ ?_
    rintro j st ⟨hj, rfl⟩
    refine Tr.seqR rfl (by simp) (Tr.seqI rfl (fun h2 => ?_) (fun h2 => ?_))
    · have h2 : j < (h k).length := by simpa using h2
      refine Tr.skipT (Tr.seq (Tr.block (Tr.seq (Tr.reg (Steps.runN 1 rfl (by simp; omega) ?_)))))
      rw [getD_map h2]
      refine Steps.fin rfl (by simp) ?_
      refine Tr.seq (Tr.reg (Steps.runN 1 rfl (by simp) (Steps.gload (g := 0) (cs := [I (-1), I (-1)]) (by simp [globalsV]) rfl (by simp) (Steps.fin rfl (by simp) ?_))))
      have hmem := List.getElem_mem h2
      have eT : (h k).take (j + 1) = (h k).take j ++ [(h k)[j]] := by rw [List.take_add_one, List.getElem?_eq_getElem h2]; rfl
      obtain ⟨c, hc⟩ : ∃ c, (h k)[j] = c := ⟨_, rfl⟩
      rw [hc] at hmem eT ⊢
      rcases hr1.2 c hmem with rfl | hin
      · refine Tr.condF rfl (Tr.skip (Tr.regR rfl (by simp) ?_))
        exact ⟨j + 1, _, Wk.leL (.cons rfl (.refl _) (.cons rfl (.refl _) (.cons rfl (.refl _) (.cons rfl (.refl _) (.cons rfl (.refl _) (.cons rfl (.refl _) (.cons rfl (.refl _) (.cons rfl (.refl _) (.cons rfl (VLe.i (w64 (by omega) (by omega))) .nil))))))))) (.cons rfl (LLe.refl _) .nil) .nil rfl rfl (by rw [eT, ← List.append_assoc, countL_none]; rfl), ⟨by omega, rfl⟩, by omega⟩
      · obtain ⟨b, q, rfl, hbb, hq⟩ := inG_nat hL.g hin
        have hbl : b < rbs.length := by omega
        obtain ⟨P, hP⟩ : ∃ P, allH h k ++ (h k).take j = P := ⟨_, rfl⟩
        have hPl : P.length ≤ 300000 := by
          have h3 : ((h k).take j).length ≤ 4096 := by simp; omega
          rw [← hP, List.length_append]; omega
        obtain ⟨n0, hn0⟩ : ∃ n0, P.count ((b : Int), (q : Int)) = n0 := ⟨_, rfl⟩
        have hn1 : n0 ≤ 300000 := by rw [← hn0]; exact Nat.le_trans List.count_le_length hPl
        have hcl2 := countL_len L.g P
        have hrow := countL_get (P := P) hbb
        have hcell : ((cntRow L.g.cls.length P b).map I)[q]? = some (I n0) := by rw [List.getElem?_map, cntRow_get hq, hn0]; rfl
        have hrb : rbs[b]? = some rbs[b] := List.getElem?_eq_getElem hbl
        have hmA := arn_mem (rbs := rbs) hrb hrow
        rw [hP]
        refine Tr.condT rfl ?_
        refine Tr.drawK (TraceK.runN 4 rfl (by simp; omega) ?_)
        rw [getD_map hbl]
        refine TraceK.runN 3 rfl (by simp) (.done ⟨by kernel_rfl, by kernel_rfl, ?_⟩)
        refine Steps.sidx (blk := rbs[b]) (off := 0) (j := q) rfl rfl hq ?_
        refine Steps.aload hA (v := I n0) rfl rfl hmA (by simpa using hcell) (Steps.runN 1 rfl (by simp) ?_)
        refine Steps.sidx (blk := rbs[b]) (off := 0) (j := q) rfl rfl hq ?_
        refine Steps.astore hA rfl rfl hmA (by simp [cntRow_len]; omega) rfl rfl (Steps.fin rfl (by simp) ?_)
        have eL : setA (arn rbs (countL L.g P)) rbs[b] (.cells (((cntRow L.g.cls.length P b).map I).set (0 + q * 1) (I (IntKind.wrap .i64 ((n0 : Int) + 1))))) = arn rbs (countL L.g (P ++ [((b : Int), (q : Int))])) := by
          rw [countL_on hbb hq, hn0, w64 (by omega) (by omega), ← arn_set _ hnd (by rw [hcl2, hlen]) hrb, List.map_set, Nat.zero_add, Nat.mul_one]
        refine Tr.regR rfl (by simp) ?_
        exact ⟨j + 1, _, Wk.leL (.cons rfl (.refl _) (.cons rfl (.refl _) (.cons rfl (.refl _) (.cons rfl (.refl _) (.cons rfl (.refl _) (.cons rfl (.refl _) (.cons rfl (.refl _) (.cons rfl (.refl _) (.cons rfl (VLe.i (w64 (by omega) (by omega))) .nil))))))))) (.cons rfl (LLe.refl _) .nil) .nil rfl rfl (by rw [eT, ← List.append_assoc, hP, ← eL]; rfl), ⟨by omega, rfl⟩, by omega⟩
    · have h2 : j = (h k).length := by simp at h2; omega
      subst h2
      refine Tr.exit (Tr.regR rfl (by simp) ?_)
      exact ⟨k + 1, _, Wk.leL (.cons rfl (.refl _) (.cons rfl (.refl _) (.cons rfl (.refl _) (.cons rfl (.refl _) (.cons rfl (.refl _) (.cons rfl (VLe.i (w64 (by omega) (by omega))) .nil)))))) (.cons rfl (LLe.refl _) .nil) .nil rfl rfl (by rw [allH_succ, List.take_length]; rfl), ⟨by omega, rfl⟩, by omega⟩
  · have h1 : k = L.traces.length := by simp at h1; omega
    subst h1
    refine Tr.exit (Tr.seqR rfl (by simp) ?_)
    obtain ⟨s', w1, g1, g2, g3, g4⟩ := closeRows hA (t := 4) (m := L.g.cls.length) rbs (countL L.g (allH h L.traces.length)) [] { env := [(4, .slice 0 1 (srefs L.g.cls.length rbs))], bx := [], rw := [], log := encA (arn rbs (countL L.g (allH h L.traces.length))), stp := false } hnd (by rw [countL_len, hlen])
      (fun r hr => by obtain ⟨b, _, rfl⟩ := List.mem_map.1 hr; exact cntRow_len _ _ _) (by simp) rfl rfl
    have w2 := Wk.leL (E := (env0 Tryz.prog mixed 63 S ok).withA [] false) (s := s') (env := [(4, foldV (cntN L h))]) (bx := []) (rw := []) (.cons g1 (.of_eq rfl) .nil) .nil .nil rfl rfl g2
    refine Tr.weak (s' := { env := [(4, .slice 0 1 (srefs L.g.cls.length rbs))], bx := [], rw := [], log := encA (arn rbs (countL L.g (allH h L.traces.length))), stp := false }) (Wk.le (.cons rfl (.refl _) .nil) .nil .nil rfl rfl) ?_
    refine Tr.weak (w1.trans w2) ?_
    exact Tr.ret ⟨trivial, _, _, _, resVs_ok rfl, rfl, rfl⟩

end Go.Proofs.YtdejdblopmfjfaaGreatDoor


/-! Contracts: Hits, Fold. -/
set_option linter.unusedVariables false
set_option linter.unusedSimpArgs false
set_option maxRecDepth 40000
set_option maxHeartbeats 4000000
namespace Go.Proofs.YtdejdblopmfjfaaGreatDoor
open Go.Am
attribute [local simp] cells scalar mkv splice under2 under dem dem1 eB gridC sB laidC fourC eF layC
theorem mem_ptsN {x : Int} {q : Int × Int} : ∀ (n : Nat) (y : Int), q ∈ ptsN x n y ↔ q.1 = x ∧ y ≤ q.2 ∧ q.2 < y + n
  | 0, y => by simp [ptsN]
  | n + 1, y => by
    rw [ptsN, List.mem_cons, mem_ptsN n (y + 1)]
    constructor
    · rintro (rfl | ⟨h1, h2, h3⟩)
      · simp; omega
      · refine ⟨h1, ?_, ?_⟩ <;> push_cast <;> omega
    · rintro ⟨h1, h2, h3⟩
      push_cast at h3
      by_cases h : q.2 = y
      · exact .inl (Prod.ext h1 h)
      · exact .inr ⟨h1, by omega, by omega⟩

theorem mem_rowsN {f : Fr} {q : Int × Int} : ∀ (n : Nat) (x : Int), q ∈ (rowsN f n x).flatMap colP ↔ (x ≤ q.1 ∧ q.1 < x + n) ∧ lowY f q.1 ≤ q.2 ∧ q.2 ≤ highY f q.1
  | 0, x => by simp [rowsN]; omega
  | n + 1, x => by
    rw [rowsN_flat, List.mem_append, mem_rowsN n (x + 1)]
    unfold colAt
    rw [mem_ptsN]
    constructor
    · rintro (⟨h1, h2, h3⟩ | ⟨⟨h1, h2⟩, h3⟩)
      · subst h1
        refine ⟨⟨by omega, by push_cast; omega⟩, by omega, by omega⟩
      · exact ⟨⟨by omega, by push_cast; omega⟩, h3⟩
    · rintro ⟨⟨h1, h2⟩, h3, h4⟩
      push_cast at h2
      by_cases h : q.1 = x
      · subst h; exact .inl ⟨rfl, by omega, by omega⟩
      · exact .inr ⟨⟨by omega, by omega⟩, h3, h4⟩

theorem mem_placesL {f : Fr} {q : Int × Int} : q ∈ placesL f ↔ (f.x.1 ≤ q.1 ∧ q.1 ≤ f.x.2) ∧ lowY f q.1 ≤ q.2 ∧ q.2 ≤ highY f q.1 := by
  unfold placesL rowsL
  rw [mem_rowsN]
  constructor
  · rintro ⟨⟨h1, h2⟩, h3⟩; exact ⟨⟨h1, by omega⟩, h3⟩
  · rintro ⟨⟨h1, h2⟩, h3⟩; exact ⟨⟨h1, by omega⟩, h3⟩

theorem node_plane {f : Fr} (h : nodeOk f = true) {q : Int × Int} (hq : q ∈ placesL f) : planeB q = true := by
  simp only [nodeOk, Bool.and_eq_true, fitFB, fitBB, decide_eq_true_eq] at h
  have := mem_placesL.1 hq
  simp only [planeB, Bool.and_eq_true, btw_iff]
  unfold lowY highY at this
  omega

theorem lay_ok {g : Gd} {s : Ly} (hg : gridOk g = true) (hs : layOk s = true) : LdOk (layD g s) := by
  obtain ⟨⟨h1, h2⟩, h3, h4⟩ := layOk_spec hs
  refine ⟨hg, by simpa [layD] using h1, h2, fun l hl => ?_, fun t ht => ?_⟩
  · obtain ⟨f, hf, rfl⟩ := List.mem_map.1 hl
    have hn := h3 f hf
    have hn2 := hn
    simp only [nodeOk, Bool.and_eq_true, btw_iff] at hn2
    have := count_len (mid_of hn2.1)
    exact ⟨⟨by omega, by omega⟩, fun q hq => node_plane hn hq⟩
  · have := h4 t ht
    simp only [traceOk, Bool.and_eq_true, btw_iff] at this
    refine ⟨t.1.toNat, t.2.toNat, Prod.ext (by simp; omega) (by simp; omega), ?_, ?_⟩ <;> simp [layD] <;> omega

theorem hits_in {L : Ld} (hL : LdOk L) {t : Nat} (ht : t < L.traces.length) : (hitsT L t).length ≤ 4096 ∧ ∀ c ∈ hitsT L t, c = noneC ∨ inG L.g c := by
  obtain ⟨i, j, hij, hi, hj⟩ := hL.tr _ (List.getElem_mem ht)
  have hT : hitsT L t = hitsL L.g L.places[i] L.places[j] := by
    unfold hitsT pl
    have e : L.traces.getD t (0, 0) = ((i : Int), (j : Int)) := by simp [ht, hij]
    rw [e]
    simp [hi, hj]
  have hpi := (hL.p _ (List.getElem_mem hi)).1
  have hpj := (hL.p _ (List.getElem_mem hj)).1
  rw [hT]
  refine ⟨?_, fun c hc => ?_⟩
  · have n1 : (hitsL L.g L.places[i] L.places[j]).Nodup := by
      unfold List.Nodup hitsL
      exact (hitsOf_sorted _).imp fun {a b} h (e : a = b) => befC_irrefl (by rw [e] at h; exact h)
    have := n1.length_le_of_subset (l₂ := (pairsL L.places[i] L.places[j]).map (cellP L.g)) fun x hx => mem_hitsOf.1 hx
    rw [List.length_map, pairs_len] at this
    have h2 : L.places[i].length * L.places[j].length ≤ 64 * 64 := Nat.mul_le_mul (by omega) (by omega)
    omega
  · obtain ⟨p, _, rfl⟩ := List.mem_map.1 (mem_hitsOf.1 hc)
    exact cell_in hL.g p.1 p.2

theorem sureL_sub {l : List (Int × Int)} : (∀ c ∈ sureL l, c ∈ l ∧ c ≠ noneC) ∧ (sureL l).length ≤ l.length ∧ (sureL l).length ≤ 1 := by
  rcases l with _ | ⟨c, _ | ⟨d, r⟩⟩
  · simp [sureL]
  · simp only [sureL]
    split <;> simp_all
  · simp [sureL]

theorem sure_in {L : Ld} (hL : LdOk L) {t : Nat} (ht : t < L.traces.length) : (sureT L t).length ≤ 4096 ∧ ∀ c ∈ sureT L t, c = noneC ∨ inG L.g c := by
  obtain ⟨h1, h2⟩ := hits_in hL ht
  have h3 := sureL_sub (l := hitsT L t)
  exact ⟨by unfold sureT; omega, fun c hc => h2 c (h3.1 c hc).1⟩

theorem c_countS {L : Ld} (hL : LdOk L) : C Tryz.prog F.bin_laid_count [.agg (laidC L), .func (.func F.bin_laid_surely) [.agg (laidC L)] []] (foldV (cntN L (sureT L))) :=
  c_count hL (fun t ht => c_surely hL ht) fun t ht => sure_in hL ht
theorem c_countM {L : Ld} (hL : LdOk L) : C Tryz.prog F.bin_laid_count [.agg (laidC L), .func (.func F.bin_laid_hits) [.agg (laidC L)] []] (foldV (cntN L (hitsT L))) :=
  c_count hL (fun t ht => c_hits hL ht) fun t ht => hits_in hL ht

/-! ### Hits -/
def HitsR (g : Gd) (s : Ly) (t : Int) : V := if gridOk g then (if layOk s then (if btw t 0 ((s.traces.length : Int) - 1) then .tuple [sB (hitsT (layD g s) t.toNat), I 0] else .tuple [sB [], I 72]) else .tuple [sB [], I 71]) else .tuple [sB [], I 70]

theorem c_Hits {g : Gd} {s : Ly} (hl : g.cls.length ≤ 9223372036854775807) (hn : s.nodes.length ≤ 9223372036854775807) (ht : s.traces.length ≤ 9223372036854775807) (t : Int) : C Tryz.prog F.bin_Hits [.agg (gridC g), .agg (layC s), I t] (HitsR g s t) := by
  have kb := c_begun hl hn ht
  unfold HitsR
  refine C_of mixed chk.bin_Hits (by simp) fun S ok => ?_
  refine Tr.seqR rfl (by simp) ?_
  by_cases hg : gridOk g = true
  rotate_left
  · rw [if_neg hg] at kb ⊢
    refine Tr.seqC rfl (by simp) (Steps.call rfl rfl kb (Steps.fin rfl (by simp) (Tr.seq (Tr.seqR rfl (by simp) (Tr.condT rfl (Tr.seqR rfl (by simp) ?_))))))
    refine Tr.weak (s' := { env := [(6, .slice 0 2 []), (7, I 70)], bx := [], rw := [], log := [], stp := false }) (Wk.le (.cons rfl (.nil 0 2) (.cons rfl (.refl _) .nil)) .nil .nil rfl rfl) ?_
    exact Tr.retX rfl rfl rfl rfl trivial
  rw [if_pos hg] at kb ⊢
  by_cases hs : layOk s = true
  rotate_left
  · rw [if_neg hs] at kb ⊢
    refine Tr.seqC rfl (by simp) (Steps.call rfl rfl kb (Steps.fin rfl (by simp) (Tr.seq (Tr.seqR rfl (by simp) (Tr.condT rfl (Tr.seqR rfl (by simp) ?_))))))
    refine Tr.weak (s' := { env := [(6, .slice 0 2 []), (7, I 71)], bx := [], rw := [], log := [], stp := false }) (Wk.le (.cons rfl (.nil 0 2) (.cons rfl (.refl _) .nil)) .nil .nil rfl rfl) ?_
    exact Tr.retX rfl rfl rfl rfl trivial
  rw [if_pos hs] at kb ⊢
  have hL := lay_ok hg hs
  have hts := (layOk_spec hs).1.2
  have hw : IntKind.wrap .i64 (((s.traces.map eB).length : Int) - 1) = (s.traces.length : Int) - 1 := by rw [List.length_map, w64 (by omega) (by omega)]
  refine Tr.seqC rfl (by simp) (Steps.call rfl rfl kb (Steps.fin rfl (by simp [laidC]) (Tr.seq (Tr.seqR rfl (by simp) (Tr.condF rfl (Tr.skip ?_))))))
  refine Tr.seq (Tr.seqC rfl (by simp) (Steps.call rfl rfl (c_within t 0 (IntKind.wrap .i64 (((s.traces.map eB).length : Int) - 1))) (Steps.fin rfl (by simp) ?_)))
  rw [hw]
  refine Tr.cond rfl rfl (fun h1 => Tr.seqR rfl (by simp) ?_) (fun h1 => Tr.skip ?_)
  · have h1 : btw t 0 ((s.traces.length : Int) - 1) = false := by simpa using h1
    refine Tr.weak (s' := { env := [(6, .slice 0 2 []), (7, I 72)], bx := [], rw := [], log := [], stp := false }) (Wk.le (.cons rfl (.nil 0 2) (.cons rfl (.refl _) .nil)) .nil .nil rfl rfl) ?_
    refine Tr.retX rfl rfl rfl ?_ trivial
    rw [h1]; rfl
  · have h1 : btw t 0 ((s.traces.length : Int) - 1) = true := by simpa using h1
    have h1' := h1
    rw [btw_iff] at h1'
    obtain ⟨n, rfl⟩ : ∃ n : Nat, t = n := ⟨t.toNat, by omega⟩
    refine Tr.seqC rfl (by simp [laidC, layD]) (Steps.call rfl rfl (c_hits hL (t := n) (by show n < s.traces.length; omega)) (Steps.fin rfl (by simp) (Tr.retX rfl rfl rfl ?_ trivial)))
    rw [h1]; rfl

/-! ### Fold -/
def FoldR (g : Gd) (s : Ly) : V := if gridOk g then (if layOk s then .tuple [foldV (cntN (layD g s) (sureT (layD g s))), foldV (cntN (layD g s) (hitsT (layD g s))), I 0] else .tuple [foldV [], foldV [], I 71]) else .tuple [foldV [], foldV [], I 70]

theorem c_Fold {g : Gd} {s : Ly} (hl : g.cls.length ≤ 9223372036854775807) (hn : s.nodes.length ≤ 9223372036854775807) (ht : s.traces.length ≤ 9223372036854775807) : C Tryz.prog F.bin_Fold [.agg (gridC g), .agg (layC s)] (FoldR g s) := by
  have kb := c_begun hl hn ht
  unfold FoldR
  refine C_of mixed chk.bin_Fold (by simp) fun S ok => ?_
  refine Tr.seqR rfl (by simp) ?_
  by_cases hg : gridOk g = true
  rotate_left
  · rw [if_neg hg] at kb ⊢
    refine Tr.seqC rfl (by simp) (Steps.call rfl rfl kb (Steps.fin rfl (by simp) (Tr.seq (Tr.seqR rfl (by simp) (Tr.condT rfl (Tr.seqR rfl (by simp) ?_))))))
    refine Tr.weak (s' := { env := [(4, .slice 0 1 []), (5, .slice 0 1 []), (6, I 70)], bx := [], rw := [], log := [], stp := false }) (Wk.le (.cons rfl (.nil 0 1) (.cons rfl (.nil 0 1) (.cons rfl (.refl _) .nil))) .nil .nil rfl rfl) ?_
    exact Tr.retX rfl rfl rfl rfl trivial
  rw [if_pos hg] at kb ⊢
  by_cases hs : layOk s = true
  rotate_left
  · rw [if_neg hs] at kb ⊢
    refine Tr.seqC rfl (by simp) (Steps.call rfl rfl kb (Steps.fin rfl (by simp) (Tr.seq (Tr.seqR rfl (by simp) (Tr.condT rfl (Tr.seqR rfl (by simp) ?_))))))
    refine Tr.weak (s' := { env := [(4, .slice 0 1 []), (5, .slice 0 1 []), (6, I 71)], bx := [], rw := [], log := [], stp := false }) (Wk.le (.cons rfl (.nil 0 1) (.cons rfl (.nil 0 1) (.cons rfl (.refl _) .nil))) .nil .nil rfl rfl) ?_
    exact Tr.retX rfl rfl rfl rfl trivial
  rw [if_pos hs] at kb ⊢
  have hL := lay_ok hg hs
  refine Tr.seqC rfl (by simp) (Steps.call rfl rfl kb (Steps.fin rfl (by simp [laidC]) (Tr.seq (Tr.seqR rfl (by simp) (Tr.condF rfl (Tr.skip ?_))))))
  refine Tr.seqD rfl (by simp [laidC, layD]) (by kernel_rfl) ?_
  refine Tr.seq (Tr.drawK (TraceK.run rfl (by simp [laidC, layD]) (TraceK.call rfl rfl (c_countS hL) (TraceK.run rfl (by simp [laidC, layD]) (TraceK.call rfl rfl (c_countM hL) (TraceK.run rfl (by simp) (.done ⟨by kernel_rfl, by kernel_rfl, ?_⟩)))))))
  exact Tr.retX rfl rfl rfl rfl trivial

end Go.Proofs.YtdejdblopmfjfaaGreatDoor


/-! Contracts: lacks, Lacks. -/
set_option linter.unusedVariables false
set_option linter.unusedSimpArgs false
set_option maxRecDepth 40000
set_option maxHeartbeats 4000000
namespace Go.Proofs.YtdejdblopmfjfaaGreatDoor
open Go.Am
attribute [local simp] cells scalar mkv splice under2 under dem dem1 eB gridC sB laidC fourC eF layC
def eL (x : Int × Int × Int) : V := .agg [I x.1, I x.2.1, I x.2.2]
attribute [local simp] eL
def lackAt (ns : List Int) (f : List (List Int)) (i k : Nat) : List (Int × Int × Int) := if at2 f i k < ns.getD k 0 then [((i : Int), (k : Int), ns.getD k 0 - at2 f i k)] else []
def lackRow (ns : List Int) (f : List (List Int)) (i j : Nat) : List (Int × Int × Int) := (List.range j).flatMap (lackAt ns f i)
def lackN (ns : List Int) (f : List (List Int)) (k : Nat) : List (Int × Int × Int) := (List.range k).flatMap fun i => lackRow ns f i ns.length
def lacksL (L : Ld) (ns : List Int) : List (Int × Int × Int) := lackN ns (cntN L (sureT L)) (cntN L (sureT L)).length
def sL (l : List (Int × Int × Int)) : V := .slice 0 3 (l.map eL)
attribute [local simp] sL
theorem lackRow_succ (ns : List Int) (f : List (List Int)) (i j : Nat) : lackRow ns f i (j + 1) = lackRow ns f i j ++ lackAt ns f i j := by
  unfold lackRow; rw [List.range_succ, List.flatMap_append]; simp
theorem lackN_succ (ns : List Int) (f : List (List Int)) (k : Nat) : lackN ns f (k + 1) = lackN ns f k ++ lackRow ns f k ns.length := by
  unfold lackN; rw [List.range_succ, List.flatMap_append]; simp
theorem lackRow_len (ns : List Int) (f : List (List Int)) (i : Nat) : ∀ j, (lackRow ns f i j).length ≤ j
  | 0 => by simp [lackRow]
  | j + 1 => by
    have := lackRow_len ns f i j
    have h2 : (lackAt ns f i j).length ≤ 1 := by unfold lackAt; split <;> simp
    rw [lackRow_succ, List.length_append]; omega
theorem lackN_len (ns : List Int) (f : List (List Int)) : ∀ k, (lackN ns f k).length ≤ k * ns.length
  | 0 => by simp [lackN]
  | k + 1 => by
    have := lackN_len ns f k
    have h2 := lackRow_len ns f k ns.length
    rw [lackN_succ, List.length_append, Nat.add_mul]; omega

theorem at2_get {f : List (List Int)} {i k : Nat} (h : i < f.length) (h2 : k < f[i].length) : at2 f i k = f[i][k] := by
  unfold at2; simp [h, h2]
theorem cntN_nat (L : Ld) (h : Nat → List (Int × Int)) (i k : Nat) : ∃ n : Nat, at2 (cntN L h) i k = n := by
  unfold at2 cntN
  simp only [List.getD_eq_getElem?_getD]
  by_cases hi : i < nBins L.g
  · rw [countL_get hi, Option.getD_some]
    by_cases hk : k < L.g.cls.length
    · rw [cntRow_get hk]; exact ⟨_, rfl⟩
    · rw [List.getElem?_eq_none (by rw [cntRow_len]; omega)]; exact ⟨0, rfl⟩
  · rw [List.getElem?_eq_none (l := countL L.g (allH h L.traces.length)) (by rw [countL_len]; omega)]; exact ⟨0, rfl⟩
theorem cntN_len (L : Ld) (h : Nat → List (Int × Int)) : (cntN L h).length = nBins L.g := countL_len _ _
theorem cntN_row {L : Ld} {h : Nat → List (Int × Int)} {i : Nat} (hi : i < (cntN L h).length) : ((cntN L h)[i]).length = L.g.cls.length := by
  have h1 : i < nBins L.g := by rw [cntN_len] at hi; exact hi
  have h2 : (cntN L h)[i]? = some (cntRow L.g.cls.length (allH h L.traces.length) i) := countL_get h1
  rw [List.getElem?_eq_getElem hi] at h2
  rw [Option.some.inj h2, cntRow_len]

theorem needOk_spec {g : Gd} {ns : List Int} (h : needOk g ns = true) : ns.length = g.cls.length ∧ ∀ n ∈ ns, 0 ≤ n ∧ n ≤ 100 := by
  simp only [needOk, Bool.and_eq_true, decide_eq_true_eq, Bool.not_eq_true', List.any_eq_false, Bool.not_eq_true, Bool.not_eq_false', btw_iff] at h
  exact ⟨h.1, fun n hn => by have := h.2 n hn; simpa [btw_iff] using this⟩

theorem c_lacks {L : Ld} (hL : LdOk L) {ns : List Int} (hn : needOk L.g ns = true) : C Tryz.prog F.bin_laid_lacks [.agg (laidC L), intsV ns] (sL (lacksL L ns)) := by
  obtain ⟨hnl, hnb⟩ := needOk_spec hn
  obtain ⟨_, hsz, hga, hgd, hcl, _⟩ := gridOk_spec hL.g
  have nb := nBins_eq hL.g
  have kc := c_countS hL
  have hat := cntN_nat L (sureT L)
  have hfl := cntN_len L (sureT L)
  have hfr := fun i hi => cntN_row (L := L) (h := sureT L) (i := i) hi
  unfold lacksL
  generalize cntN L (sureT L) = f at kc hat hfl hfr ⊢
  refine C_of mixed chk.bin_laid_lacks (by simp) fun S ok => ?_
  refine Tr.seqR rfl (by simp [laidC]) (Tr.seqR rfl (by simp) ?_)
  refine Tr.seq (Tr.seqC rfl (by simp [laidC]) (Steps.call rfl rfl kc (Steps.fin rfl (by simp [foldV]) (Tr.block ?_))))
  refine Tr.loop (α := Nat × List (Int × Int × Int)) (fun p st => (p.1 ≤ f.length ∧ p.2 = lackN ns f p.1) ∧ st = { env := [(1, intsV ns), (5, .slice 45 3 (p.2.map eL)), (13, foldV f), (14, I (f.length : Nat)), (15, I (p.1 : Nat))], bx := [], rw := [(44, p.2.length, 3, 117)], log := [], stp := false }) (fun p => f.length - p.1) (0, [])
    (Wk.le (.cons rfl (.refl _) (.cons rfl (.nil 45 3) (.cons rfl (.refl _) (.cons rfl (VLe.i (by simp)) (.cons rfl (.refl _) .nil))))) .nil (.new rfl .nil) rfl rfl) ⟨⟨by omega, rfl⟩, rfl⟩ ?_
  rintro ⟨i, out⟩ st ⟨⟨hi, ho⟩, rfl⟩
  simp only at hi ho
  refine Tr.seqR rfl (by simp) (Tr.seqI rfl (fun h1 => ?_) (fun h1 => ?_))
  · have h1 : i < f.length := by simpa using h1
    have hri := hfr i h1
    refine Tr.skipT (Tr.seq (Tr.block (Tr.seq (Tr.reg (Steps.runN 2 rfl (by simp [foldV]; omega) ?_)))))
    rw [getD_map h1]
    refine Steps.fin rfl (by simp [intsV]) ?_
    refine Tr.seqR rfl (by simp [intsV]) (Tr.block ?_)
    refine Tr.loop (α := Nat × List (Int × Int × Int)) (fun p st => (p.1 ≤ f[i].length ∧ p.2 = lackN ns f i ++ lackRow ns f i p.1) ∧ st = { env := [(1, intsV ns), (5, .slice 45 3 (p.2.map eL)), (6, I (i : Nat)), (13, foldV f), (14, I (f.length : Nat)), (15, I (i : Nat)), (20, intsV f[i]), (21, I (f[i].length : Nat)), (22, I (p.1 : Nat))], bx := [], rw := [(44, p.2.length, 3, 117)], log := [], stp := false }) (fun p => f[i].length - p.1) (0, out)
      (Wk.le (.cons rfl (.refl _) (.cons rfl (.refl _) (.cons rfl (.refl _) (.cons rfl (.refl _) (.cons rfl (.refl _) (.cons rfl (.refl _) (.cons rfl (.refl _) (.cons rfl (VLe.i (by show ((f[i].map I).length : Int) = (f[i].length : Int); rw [List.length_map])) (.cons rfl (.refl _) .nil))))))))) .nil (.cons rfl .nil) rfl rfl) ⟨⟨by omega, by simp [lackRow, ho]⟩, rfl⟩ ?_
    rintro ⟨j, o2⟩ st ⟨⟨hj, ho2⟩, rfl⟩
    simp only at hj ho2
    refine Tr.seqR rfl (by simp) (Tr.seqI rfl (fun h2 => ?_) (fun h2 => ?_))
    · have h2 : j < f[i].length := by simpa using h2
      have h3 : j < ns.length := by omega
      have hlen : o2.length ≤ 2000 := by
        have e1 := lackN_len ns f i
        have e2 := lackRow_len ns f i j
        have e3 : i * ns.length ≤ 256 * 4 := Nat.mul_le_mul (by omega) (by omega)
        rw [ho2, List.length_append]; omega
      obtain ⟨m, hm⟩ := hat i j
      have hm2 := hm
      rw [at2_get h1 h2] at hm
      have hnj := hnb _ (List.getElem_mem h3)
      have hgd : ns.getD j 0 = ns[j] := by simp [h3]
      refine Tr.skipT (Tr.seq (Tr.block (Tr.seq (Tr.reg (Steps.runN 2 rfl (by simp [intsV]; omega) ?_)))))
      rw [getD_map h2, hm]
      refine Steps.fin rfl (by simp) ?_
      refine Tr.seq (Tr.reg (Steps.runN 4 rfl (by simp [intsV]; omega) ?_))
      rw [getD_map h3]
      refine Steps.fin rfl (by simp) (Tr.cond rfl rfl (fun h4 => ?_) (fun h4 => Tr.skip ?_))
      · have h4 : (m : Int) < ns[j] := by simpa using h4
        refine Tr.reg (Steps.runN 6 rfl (by simp [intsV]; omega) ?_)
        rw [getD_map h3]
        refine Steps.fin rfl (by simp; omega) (Tr.regR rfl (by simp) ?_)
        have eA : lackRow ns f i (j + 1) = lackRow ns f i j ++ [((i : Int), (j : Int), ns[j] - m)] := by
          rw [lackRow_succ]; unfold lackAt; rw [hm2, hgd, if_pos h4]
        have ew : IntKind.wrap .i64 (ns[j] - m) = ns[j] - m := w64 (by omega) (by omega)
        refine ⟨(j + 1, o2 ++ [((i : Int), (j : Int), ns[j] - m)]), _, Wk.le (.cons rfl (.refl _) (.cons rfl (.of_eq ?_) (.cons rfl (.refl _) (.cons rfl (.refl _) (.cons rfl (.refl _) (.cons rfl (.refl _) (.cons rfl (.refl _) (.cons rfl (.refl _) (.cons rfl (VLe.i (w64 (by omega) (by omega))) .nil))))))))) .nil (.cons ?_ .nil) rfl rfl, ⟨⟨by simp only; omega, by simp only; rw [eA, ho2, List.append_assoc]⟩, rfl⟩, by simp only; omega⟩
        · simp [ew]
        · show some _ = some _
          simp
      · have h4 : ¬ (m : Int) < ns[j] := by simpa using h4
        refine Tr.regR rfl (by simp) ?_
        have eA : lackRow ns f i (j + 1) = lackRow ns f i j := by
          rw [lackRow_succ]; unfold lackAt; rw [hm2, hgd, if_neg h4, List.append_nil]
        exact ⟨(j + 1, o2), _, Wk.le (.cons rfl (.refl _) (.cons rfl (.refl _) (.cons rfl (.refl _) (.cons rfl (.refl _) (.cons rfl (.refl _) (.cons rfl (.refl _) (.cons rfl (.refl _) (.cons rfl (.refl _) (.cons rfl (VLe.i (w64 (by omega) (by omega))) .nil))))))))) .nil (.cons rfl .nil) rfl rfl, ⟨⟨by simp only; omega, by simp only; rw [eA, ho2]⟩, rfl⟩, by simp only; omega⟩
    · have h2 : j = f[i].length := by simp at h2; omega
      refine Tr.exit (Tr.regR rfl (by simp) ?_)
      exact ⟨(i + 1, o2), _, Wk.le (.cons rfl (.refl _) (.cons rfl (.refl _) (.cons rfl (.refl _) (.cons rfl (.refl _) (.cons rfl (VLe.i (w64 (by omega) (by omega))) .nil))))) .nil (.cons rfl .nil) rfl rfl, ⟨⟨by simp only; omega, by simp only; rw [ho2, lackN_succ, h2, hri, hnl]⟩, rfl⟩, by simp only; omega⟩
  · have h1 : i = f.length := by simp at h1; omega
    refine Tr.exit (Tr.seqR rfl (by simp) (Tr.retX rfl rfl rfl ?_ trivial))
    rw [← h1, ← ho]; rfl

def LacksR (g : Gd) (s : Ly) (ns : List Int) : V := if gridOk g then (if layOk s then (if needOk g ns then .tuple [sL (lacksL (layD g s) ns), I 0] else .tuple [sL [], I 73]) else .tuple [sL [], I 71]) else .tuple [sL [], I 70]

theorem c_Lacks {g : Gd} {s : Ly} (hl : g.cls.length ≤ 9223372036854775807) (hn : s.nodes.length ≤ 9223372036854775807) (ht : s.traces.length ≤ 9223372036854775807) {ns : List Int} (hns : ns.length ≤ 9223372036854775807) : C Tryz.prog F.bin_Lacks [.agg (gridC g), .agg (layC s), intsV ns] (LacksR g s ns) := by
  have kb := c_begun hl hn ht
  unfold LacksR
  refine C_of mixed chk.bin_Lacks (by simp) fun S ok => ?_
  refine Tr.seqR rfl (by simp) ?_
  by_cases hg : gridOk g = true
  rotate_left
  · rw [if_neg hg] at kb ⊢
    refine Tr.seqC rfl (by simp) (Steps.call rfl rfl kb (Steps.fin rfl (by simp) (Tr.seq (Tr.seqR rfl (by simp) (Tr.condT rfl (Tr.seqR rfl (by simp) ?_))))))
    refine Tr.weak (s' := { env := [(6, .slice 0 3 []), (7, I 70)], bx := [], rw := [], log := [], stp := false }) (Wk.le (.cons rfl (.nil 0 3) (.cons rfl (.refl _) .nil)) .nil .nil rfl rfl) ?_
    exact Tr.retX rfl rfl rfl rfl trivial
  rw [if_pos hg] at kb ⊢
  by_cases hs : layOk s = true
  rotate_left
  · rw [if_neg hs] at kb ⊢
    refine Tr.seqC rfl (by simp) (Steps.call rfl rfl kb (Steps.fin rfl (by simp) (Tr.seq (Tr.seqR rfl (by simp) (Tr.condT rfl (Tr.seqR rfl (by simp) ?_))))))
    refine Tr.weak (s' := { env := [(6, .slice 0 3 []), (7, I 71)], bx := [], rw := [], log := [], stp := false }) (Wk.le (.cons rfl (.nil 0 3) (.cons rfl (.refl _) .nil)) .nil .nil rfl rfl) ?_
    exact Tr.retX rfl rfl rfl rfl trivial
  rw [if_pos hs] at kb ⊢
  have hL := lay_ok hg hs
  refine Tr.seqC rfl (by simp) (Steps.call rfl rfl kb (Steps.fin rfl (by simp [laidC]) (Tr.seq (Tr.seqR rfl (by simp) (Tr.condF rfl (Tr.skip ?_))))))
  refine Tr.seq (Tr.seqC rfl (by simp) (Steps.call rfl rfl (c_needed (g := g) hns) (Steps.fin rfl (by simp) ?_)))
  refine Tr.cond rfl rfl (fun h1 => Tr.seqR rfl (by simp) ?_) (fun h1 => Tr.skip ?_)
  · have h1 : needOk g ns = false := by simpa using h1
    refine Tr.weak (s' := { env := [(6, .slice 0 3 []), (7, I 73)], bx := [], rw := [], log := [], stp := false }) (Wk.le (.cons rfl (.nil 0 3) (.cons rfl (.refl _) .nil)) .nil .nil rfl rfl) ?_
    refine Tr.retX rfl rfl rfl ?_ trivial
    rw [h1]; rfl
  · have h1 : needOk g ns = true := by simpa using h1
    refine Tr.seqC rfl (by simp [laidC, layD]) (Steps.call rfl rfl (c_lacks hL h1) (Steps.fin rfl (by simp) (Tr.retX rfl rfl rfl ?_ trivial)))
    rw [h1]; rfl

end Go.Proofs.YtdejdblopmfjfaaGreatDoor


/-! Contracts: sure, Gain. -/
set_option linter.unusedVariables false
set_option linter.unusedSimpArgs false
set_option maxRecDepth 40000
set_option maxHeartbeats 4000000
namespace Go.Proofs.YtdejdblopmfjfaaGreatDoor
open Go.Am
attribute [local simp] cells scalar mkv splice under2 under dem dem1 eB gridC sB laidC fourC eF layC
def sureC (L : Ld) : Nat := (allH (sureT L) L.traces.length).length
def knownL (L : Ld) (i : Nat) (p : Int × Int) : Ld := { L with places := L.places.set i [p] }
def leastStep (acc n : Int) : Int := if acc < 0 ∨ n < acc then n else acc
def leastL (l : List Int) : Int := l.foldl leastStep (-1)
def gainL (L : Ld) (i : Nat) : Int := leastL ((pl L i).map fun p => (sureC (knownL L i p) : Int)) - sureC L

theorem sure_bd {L : Ld} (hn : L.traces.length ≤ 64) : ∀ k ≤ L.traces.length, (allH (sureT L) k).length ≤ k
  | 0, _ => by simp [allH]
  | k + 1, hk => by
    have := sure_bd hn k (by omega)
    have h2 := (sureL_sub (l := hitsT L k)).2.2
    rw [allH_succ, List.length_append]
    unfold sureT at *; omega

theorem c_sure {L : Ld} (hL : LdOk L) : C Tryz.prog F.bin_laid_sure [.agg (laidC L)] (I (sureC L : Nat)) := by
  have hLt := hL.t
  refine C_of mixed chk.bin_laid_sure (by simp) fun S ok => ?_
  refine Tr.seqR rfl (by simp) (Tr.seqR rfl (by simp) (Tr.seq (Tr.seqR rfl (by simp) (Tr.block ?_))))
  refine Tr.loop (fun (k : Nat) st => k ≤ L.traces.length ∧ st = { env := [(1, .ptr 1 0), (3, I ((allH (sureT L) k).length : Nat)), (6, sB L.traces), (7, I (L.traces.length : Nat)), (8, I (k : Nat))], bx := [(1, ⟨laidC L, false⟩)], rw := [], log := [], stp := false }) (fun k => L.traces.length - k) 0
    (Wk.le (.cons rfl (.refl _) (.cons rfl (.refl _) (.cons rfl (.refl _) (.cons rfl (VLe.i (by simp)) (.cons rfl (.refl _) .nil))))) (.cons rfl (LLe.refl _) .nil) .nil rfl rfl) ⟨by omega, rfl⟩ ?_
  rintro k st ⟨hk, rfl⟩
  refine Tr.seqR rfl (by simp) (Tr.seqI rfl (fun h1 => ?_) (fun h1 => ?_))
  · have h1 : k < L.traces.length := by simpa using h1
    have hb := sure_bd hLt k hk
    have hb2 : (sureT L k).length ≤ 1 := (sureL_sub (l := hitsT L k)).2.2
    refine Tr.skipT (Tr.seq (Tr.block (Tr.seqR rfl (by simp) (Tr.reg (Steps.run rfl (by simp [laidC]) (Steps.call rfl rfl (c_surely hL h1) (Steps.fin rfl (by simp) ?_)))))))
    refine Tr.regR rfl (by simp) ?_
    refine ⟨k + 1, _, Wk.le (.cons rfl (.refl _) (.cons rfl (VLe.i ?_) (.cons rfl (.refl _) (.cons rfl (.refl _) (.cons rfl (VLe.i (w64 (by omega) (by omega))) .nil))))) (.cons rfl (LLe.refl _) .nil) .nil rfl rfl, ⟨by omega, rfl⟩, by omega⟩
    show IntKind.wrap .i64 (((allH (sureT L) k).length : Int) + (((sureT L k).map eB).length : Int)) = _
    rw [List.length_map, allH_succ, List.length_append, w64 (by omega) (by omega)]
    push_cast; rfl
  · have h1 : k = L.traces.length := by simp at h1; omega
    subst h1
    exact Tr.exit (Tr.seqR rfl (by simp) (Tr.retX rfl rfl rfl rfl trivial))

theorem flat_sB : ∀ (ls : List (List (Int × Int))), (ls.map sB).flatMap cells = ls.map sB
  | [] => rfl
  | l :: ls => by rw [List.map_cons, List.flatMap_cons, flat_sB ls]; rfl

theorem c_CloneP {ls : List (List (Int × Int))} (hne : ls ≠ []) (hl : ls.length ≤ 2 ^ 24) : CO Tryz.prog F.slices_Clone_api_Point_api_Point [.slice 0 1 (ls.map sB)] 1 (ls.map sB) := by
  refine CO_of mixed chk.slices_Clone_api_Point_api_Point (by simp) fun S ok => ?_
  refine Tr.seqR rfl (by simp) (Tr.seq (Tr.seq (Tr.reg (Steps.runN 1 rfl (by simp) ?_))))
  refine Steps.nilS rfl fun b hb => ?_
  obtain rfl := hb (by simpa using hne)
  refine Steps.fin rfl (by simp) (Tr.condF rfl (Tr.skip (Tr.seq (Tr.reg ?_))))
  refine Steps.mkE rfl fun blk => Steps.runN 1 rfl (by simp) ?_
  refine Steps.appendE (r := 0) (sz := 1) (ys := ls.map sB) rfl rfl (by omega) (by simp; omega) (by simp; omega) (by simpa using hne) ?_
  refine Steps.fin rfl (by simp) (Tr.ret ?_)
  exact ⟨7, rfl, rfl, by rw [flat_sB, List.all_eq_true]; intro x hx; obtain ⟨_, _, rfl⟩ := List.mem_map.1 hx; rfl⟩

theorem known_ok {L : Ld} (hL : LdOk L) {i : Nat} {p : Int × Int} (hp : planeB p = true) : LdOk (knownL L i p) := by
  refine ⟨hL.g, by simpa [knownL] using hL.n, hL.t, fun l hl => ?_, fun t ht => ?_⟩
  · rcases List.mem_or_eq_of_mem_set hl with hl | rfl
    · exact hL.p l hl
    · exact ⟨⟨by simp, by simp⟩, fun q hq => by rw [List.mem_singleton.1 hq]; exact hp⟩
  · obtain ⟨a, b, h1, h2, h3⟩ := hL.tr t ht
    exact ⟨a, b, h1, by simpa [knownL] using h2, by simpa [knownL] using h3⟩

theorem LLe.set {v u : V} (h : VLe v u) : ∀ (l : List V) (i : Nat), LLe (l.set i v) (l.set i u)
  | [], _ => .nil
  | a :: l, 0 => .cons h (LLe.refl l)
  | a :: l, i + 1 => .cons (.refl a) (LLe.set h l i)

theorem sBs_refs (ls : List (List (Int × Int))) (B : Nat → Bool) (R : Nat → Option (Nat × Nat × Nat)) : (ls.map sB).all (refsOk B R 6) = true := by
  rw [List.all_eq_true]
  intro x hx
  obtain ⟨_, _, rfl⟩ := List.mem_map.1 hx; rfl

theorem okSBs {j : Nat} {ls : List (List (Int × Int))} {env : List (Nat × V)} {bx : List (Nat × Box)} {rw : List (Nat × Nat × Nat × Nat)} (h : okRefs env ((j, ⟨[], false⟩) :: bx) rw = true) : okRefs env ((j, ⟨ls.map sB, false⟩) :: bx) rw = true := by
  have e : hasKey ((j, (⟨ls.map sB, false⟩ : Box)) :: bx) = hasKey ((j, (⟨[], false⟩ : Box)) :: bx) := rfl
  unfold okRefs at h ⊢
  rw [e]
  rw [Bool.and_eq_true] at h ⊢
  refine ⟨h.1, ?_⟩
  have h2 := h.2
  rw [List.all_cons, Bool.and_eq_true] at h2 ⊢
  exact ⟨sBs_refs _ _ _, h2.2⟩

theorem sBs_holds (ls : List (List (Int × Int))) : Holds (ls.map sB) 0 1 ls.length (ls.map sB) := by
  refine ⟨by omega, by simp, fun x hx => ?_, ?_, fun x hx => ?_⟩
  · obtain ⟨_, _, rfl⟩ := List.mem_map.1 hx; rfl
  · rw [flat_sB, List.drop_zero, Nat.mul_one, List.take_of_length_le (by simp)]
  · obtain ⟨_, _, rfl⟩ := List.mem_map.1 hx; rfl

def GainR (g : Gd) (s : Ly) (i : Int) : V := if gridOk g then (if layOk s then (if btw i 0 ((s.nodes.length : Int) - 1) then .tuple [I (gainL (layD g s) i.toNat), I 0] else .tuple [I 0, I 72]) else .tuple [I 0, I 71]) else .tuple [I 0, I 70]

theorem c_Gain {g : Gd} {s : Ly} (hl : g.cls.length ≤ 9223372036854775807) (hn : s.nodes.length ≤ 9223372036854775807) (ht : s.traces.length ≤ 9223372036854775807) (i : Int) : C Tryz.prog F.bin_Gain [.agg (gridC g), .agg (layC s), I i] (GainR g s i) := by
  have kb := c_begun hl hn ht
  unfold GainR
  refine C_of mixed chk.bin_Gain (by simp) fun S ok => ?_
  refine Tr.seqR rfl (by simp) ?_
  by_cases hg : gridOk g = true
  rotate_left
  · rw [if_neg hg] at kb ⊢
    refine Tr.seqC rfl (by simp) (Steps.call rfl rfl kb (Steps.fin rfl (by simp) (Tr.seq (Tr.seqR rfl (by simp) (Tr.condT rfl (Tr.seqR rfl (by simp) ?_))))))
    exact Tr.retX rfl rfl rfl rfl trivial
  rw [if_pos hg] at kb ⊢
  by_cases hs : layOk s = true
  rotate_left
  · rw [if_neg hs] at kb ⊢
    refine Tr.seqC rfl (by simp) (Steps.call rfl rfl kb (Steps.fin rfl (by simp) (Tr.seq (Tr.seqR rfl (by simp) (Tr.condT rfl (Tr.seqR rfl (by simp) ?_))))))
    exact Tr.retX rfl rfl rfl rfl trivial
  rw [if_pos hs] at kb ⊢
  have hL := lay_ok hg hs
  have hns := (layOk_spec hs).1.1
  have hw : IntKind.wrap .i64 (((s.nodes.map eF).length : Int) - 1) = (s.nodes.length : Int) - 1 := by rw [List.length_map, w64 (by omega) (by omega)]
  refine Tr.seqC rfl (by simp) (Steps.call rfl rfl kb (Steps.fin rfl (by simp [laidC]) (Tr.seq (Tr.seqR rfl (by simp) (Tr.condF rfl (Tr.skip ?_))))))
  refine Tr.seq (Tr.seqC rfl (by simp) (Steps.call rfl rfl (c_within i 0 (IntKind.wrap .i64 (((s.nodes.map eF).length : Int) - 1))) (Steps.fin rfl (by simp) ?_)))
  rw [hw]
  refine Tr.cond rfl rfl (fun h1 => Tr.seqR rfl (by simp) ?_) (fun h1 => Tr.skip ?_)
  · have h1 : btw i 0 ((s.nodes.length : Int) - 1) = false := by simpa using h1
    refine Tr.retX rfl rfl rfl ?_ trivial
    rw [h1]; rfl
  have h1 : btw i 0 ((s.nodes.length : Int) - 1) = true := by simpa using h1
  have h1' := h1
  rw [btw_iff] at h1'
  obtain ⟨n, rfl⟩ : ∃ n : Nat, i = n := ⟨i.toNat, by omega⟩
  rw [if_pos h1, Int.toNat_natCast]
  have hLn : n < (layD g s).places.length := by simp [layD]; omega
  obtain ⟨L, eL0⟩ : ∃ L, layD g s = L := ⟨_, rfl⟩
  rw [eL0] at hL hLn ⊢
  have hne : L.places ≠ [] := fun e => by rw [e] at hLn; simp at hLn
  have hLm := hL.n
  have hpl : pl L n = L.places[n] := by unfold pl; simp [hLn]
  have hpn := hL.p _ (List.getElem_mem hLn)
  have hLt := hL.t
  refine Tr.seqC rfl (by simp [laidC]) (Steps.call rfl rfl (c_sure hL) (Steps.fin rfl (by simp) ?_))
  refine Tr.seqR rfl (by simp) ?_
  refine Tr.seq (Tr.seq (Tr.reg (Steps.runN 4 rfl (by simp [laidC]; omega) ?_)))
  rw [getD_map hLn]
  refine Steps.fin rfl (by simp) (Tr.block ?_)
  unfold gainL leastL
  rw [hpl]
  obtain ⟨ps, hps⟩ : ∃ ps, L.places[n] = ps := ⟨_, rfl⟩
  rw [hps] at hpn ⊢
  obtain ⟨fs, hfs⟩ : ∃ fs : List Int, ps.map (fun p => (sureC (knownL L n p) : Int)) = fs := ⟨_, rfl⟩
  have hfl : fs.length = ps.length := by rw [← hfs, List.length_map]
  rw [hfs]
  refine Tr.loop (fun (k : Nat) st => (k ≤ ps.length ∧ -1 ≤ (fs.take k).foldl leastStep (-1) ∧ (fs.take k).foldl leastStep (-1) ≤ 64) ∧ st = { env := [(2, I (n : Nat)), (8, .ptr 8 0), (10, I (sureC L : Nat)), (11, I ((fs.take k).foldl leastStep (-1))), (38, sB ps), (39, I (ps.length : Nat)), (40, I (k : Nat))], bx := [(8, ⟨laidC L, false⟩)], rw := [], log := [], stp := false }) (fun k => ps.length - k) 0
    (Wk.le (.cons rfl (.refl _) (.cons rfl (.refl _) (.cons rfl (.refl _) (.cons rfl (.refl _) (.cons rfl (.refl _) (.cons rfl (VLe.i (by simp)) (.cons rfl (.refl _) .nil))))))) (.cons rfl (LLe.refl _) .nil) .nil rfl rfl) ⟨⟨by omega, by simp, by simp⟩, rfl⟩ ?_
  rintro k st ⟨⟨hk, ha1, ha2⟩, rfl⟩
  refine Tr.seqR rfl (by simp) (Tr.seqI rfl (fun h2 => ?_) (fun h2 => ?_))
  · have h2 : k < ps.length := by simpa using h2
    have hp := hpn.2 _ (List.getElem_mem h2)
    have hK := known_ok hL (i := n) hp
    refine Tr.skipT (Tr.seq (Tr.block (Tr.seq (Tr.reg (Steps.runN 1 rfl (by simp; omega) ?_)))))
    rw [getD_map h2]
    refine Steps.fin rfl (by simp) ?_
    refine Tr.seqR rfl (by simp [laidC]) ?_
    refine Tr.seq (Tr.reg (Steps.run rfl (by simp [laidC]) ?_))
    refine Steps.callO (ys := L.places.map sB) (sz := 1) rfl (fun _ => rfl) (c_CloneP hne (by omega)) rfl ?_
    rw [flat_sB]
    refine Steps.fin rfl (by simp) ?_
    refine Tr.seqR rfl (by simp; omega) ?_
    have eS : (knownL L n ps[k]).places.map sB = (L.places.map sB).set n (sB [ps[k]]) := by
      unfold knownL; rw [List.map_set]
    have eSl : ((knownL L n ps[k]).places.map sB).length = L.places.length := by simp [knownL]
    refine Tr.weak (s' := { env := [(2, I (n : Nat)), (8, .ptr 8 0), (10, I (sureC L : Nat)), (11, I ((fs.take k).foldl leastStep (-1))), (14, .ptr 14 0), (38, sB ps), (39, I (ps.length : Nat)), (40, I (k : Nat))], bx := [(47, ⟨(knownL L n ps[k]).places.map sB, false⟩), (14, ⟨gridC L.g ++ [sB L.traces, .bsl 47 0 1 L.places.length], false⟩), (8, ⟨laidC L, false⟩)], rw := [], log := [], stp := false })
      (Wk.le (.cons rfl (.refl _) (.cons rfl (.refl _) (.cons rfl (.refl _) (.cons rfl (.refl _) (.cons rfl (.refl _) (.cons rfl (.refl _) (.cons rfl (.refl _) (.cons rfl (.refl _) .nil)))))))) (.cons rfl ?_ (.cons rfl ?_ (.cons rfl (LLe.refl _) .nil))) .nil (okSBs rfl) rfl) ?_
    · rw [eS]
      show LLe (splice (L.places.map sB) (0 + ((n : Nat) : Int).toNat * 1) [.slice _ 2 [eB ps[k]]]) _
      rw [splice_set (by simp; omega), Nat.mul_one, Nat.zero_add, Int.toNat_natCast]
      exact LLe.set (VLe.dem _ _ _) _ _
    · exact .cons (.refl _) (.cons (.refl _) (.cons (.refl _) (.cons (.refl _) (.cons (.refl _) (.cons (.refl _) (.cons (.refl _) (.cons (.of_eq (by simp)) .nil)))))))
    have hH := sBs_holds (knownL L n ps[k]).places
    rw [show (knownL L n ps[k]).places.length = L.places.length by simp [knownL]] at hH
    refine Tr.weak (Wk.bslB (k := 14) (j := 7) (i := 47) (by decide) rfl rfl rfl hH) ?_
    refine Tr.seqC rfl (by simp) (Steps.call (us := [.agg (laidC (knownL L n ps[k]))]) rfl rfl (c_sure hK) (Steps.fin rfl (by simp) ?_))
    obtain ⟨N, hN⟩ : ∃ N, sureC (knownL L n ps[k]) = N := ⟨_, rfl⟩
    have hN64 : N ≤ 64 := by
      rw [← hN]
      have : sureC (knownL L n ps[k]) ≤ L.traces.length := sure_bd (L := knownL L n ps[k]) hLt _ (Nat.le_refl _)
      omega
    rw [hN]
    have hfk : k < fs.length := by omega
    have efk : fs[k] = (N : Int) := by
      have : (ps.map (fun p => (sureC (knownL L n p) : Int)))[k]'(by simp; omega) = (N : Int) := by rw [List.getElem_map, hN]
      simp only [hfs] at this; exact this
    obtain ⟨acc, hacc⟩ : ∃ acc, (fs.take k).foldl leastStep (-1) = acc := ⟨_, rfl⟩
    have eT : (fs.take (k + 1)).foldl leastStep (-1) = leastStep acc N := by
      rw [List.take_add_one, List.getElem?_eq_getElem hfk, List.foldl_append, hacc, efk]; rfl
    rw [hacc] at ha1 ha2 ⊢
    refine Tr.seqR rfl (by simp) (Tr.cond rfl rfl (fun h3 => Tr.regR rfl (by simp) (Tr.regR rfl (by simp) ?_)) (fun h3 => Tr.skip (Tr.regR rfl (by simp) ?_)))
    · have h3 : acc < 0 ∨ (N : Int) < acc := by
        have h3 : (bif decide (acc < 0) then true else decide ((N : Int) < acc)) = true := h3
        by_cases h : acc < 0
        · exact .inl h
        · simp [h] at h3; exact .inr h3
      have eS2 : leastStep acc N = N := by unfold leastStep; rw [if_pos h3]
      rw [eS2] at eT
      refine ⟨k + 1, _, Wk.le (.cons rfl (.refl _) (.cons rfl (.refl _) (.cons rfl (.refl _) (.cons rfl (VLe.i eT.symm) (.cons rfl (.refl _) (.cons rfl (.refl _) (.cons rfl (VLe.i (w64 (by omega) (by omega))) .nil))))))) (.cons rfl (LLe.refl _) .nil) .nil rfl rfl, ⟨⟨by omega, by omega, by omega⟩, rfl⟩, by omega⟩
    · have h3 : ¬ (acc < 0 ∨ (N : Int) < acc) := by
        have h3 : (bif decide (acc < 0) then true else decide ((N : Int) < acc)) = false := h3
        by_cases h : acc < 0
        · simp [h] at h3
        · simp [h] at h3; omega
      have eS2 : leastStep acc N = acc := by unfold leastStep; rw [if_neg h3]
      rw [eS2] at eT
      refine ⟨k + 1, _, Wk.le (.cons rfl (.refl _) (.cons rfl (.refl _) (.cons rfl (.refl _) (.cons rfl (VLe.i eT.symm) (.cons rfl (.refl _) (.cons rfl (.refl _) (.cons rfl (VLe.i (w64 (by omega) (by omega))) .nil))))))) (.cons rfl (LLe.refl _) .nil) .nil rfl rfl, ⟨⟨by omega, by omega, by omega⟩, rfl⟩, by omega⟩
  · have h2 : k = ps.length := by simp at h2; omega
    subst h2
    have hb : sureC L ≤ L.traces.length := sure_bd (L := L) hLt _ (Nat.le_refl _)
    rw [← hfl, List.take_length] at ha1 ha2 ⊢
    refine Tr.exit (Tr.seqR rfl (by simp) (Tr.retX rfl rfl rfl ?_ trivial))
    show _ = packR [I (IntKind.wrap .i64 (fs.foldl leastStep (-1) - (sureC L : Nat))), I 0]
    rw [w64 (by omega) (by omega)]; rfl

end Go.Proofs.YtdejdblopmfjfaaGreatDoor


/-! The chapter's examples: the bin chapter. -/
set_option linter.unusedVariables false
set_option linter.unusedSimpArgs false
set_option maxRecDepth 20000
namespace Go.Am
open Go.RowKit

/-! ### Guards that are known to hold -/
theorem compOp_noguard {P : Program} {nt : Nat} {slots : List (Option Nat)} {o : Oper} {d : Option Nat} {k : Am.K} {xs : List X} {g : Option (Nat × Bool)} (hc : compOp P nt slots o = some ⟨d, k, xs, g⟩) (sl : List (Option Nat)) : compOp P nt sl { o with guard := none } = some ⟨d, k, xs, none⟩ := by
  unfold compOp at hc ⊢
  cases h1 : opK P o.op with
  | none => rw [h1] at hc; cases hc
  | some q =>
    obtain ⟨k', os⟩ := q
    rw [h1] at hc
    simp only at hc
    cases h2 : os.mapM compX with
    | none => rw [h2] at hc; cases hc
    | some xs' =>
      rw [h2] at hc
      simp only at hc
      cases h3 : guardG slots o.guard with
      | none => rw [h3] at hc; cases hc
      | some g' =>
        rw [h3] at hc
        simp only at hc
        cases h4 : dstOk nt k' o.dst with
        | false => rw [h4] at hc; cases hc
        | true =>
          rw [h4] at hc
          cases hc
          simp only [h1, h2, h4, cond_true]
          rfl

theorem Step1.on {E : Env} {K : St → Prop} {s : St} {d : Option Nat} {k : Am.K} {xs : List X} {t : Nat} {want : Bool} {gv : V} (hgv : Am.get s.env t = some gv) (hgb : guardOf want gv = some true) (h : Step1 E ⟨d, k, xs, none⟩ K s) : Step1 E ⟨d, k, xs, some (t, want)⟩ K s := by
  refine Step1.raw fun slots ops o i ro n a w g hc hs hi R Q next hn => ?_
  have hc' := compOp_noguard hc (#[{ o with guard := none }].toList.map (·.dst))
  have h1 := step_ok (ro := ro) (n := n) (ops := #[{ o with guard := none }]) (i := 0) h hc' rfl rfl R (Q := Q) (next := next) hn
  unfold wpOpIn at h1 ⊢
  obtain ⟨os, cc⟩ := comp_of hc
  obtain ⟨j, want', t', g1, g2, g3⟩ : ∃ j want t, o.guard = some (j, want) ∧ slots[j]? = some (some t) ∧ (some (t, want)) = (some (t, want)) ∧ True := by
    rcases cc.guard with ⟨e, _⟩ | ⟨j, w', t', e1, e2, e3⟩
    · cases e
    · exact ⟨j, w', t', e1, e2, rfl, trivial⟩
  have hw : Region.wanted o (yielded ops a.tmps) = true := by
    rcases cc.guard with ⟨e, _⟩ | ⟨j, w', t', e1, e2, e3⟩
    · cases e
    · cases e3
      exact (guard_wanted R hs e1 e2 (by rw [fs_g]; exact hgv) hgb).1 rfl
  simp only [hi, hw, if_true]
  have hw' : Region.wanted { o with guard := none } (yielded #[{ o with guard := none }] a.tmps) = true := by unfold Region.wanted; rfl
  simp only [List.getElem?_toArray, List.getElem?_cons_zero, hw', if_true] at h1
  exact h1

theorem Steps.on {E : Env} {K : St → Prop} {s : St} {d : Option Nat} {k : Am.K} {xs : List X} {t : Nat} {want : Bool} {gv : V} {rest : List Ins} (hgv : Am.get s.env t = some gv) (hgb : guardOf want gv = some true) (h : Am.Steps E (⟨d, k, xs, none⟩ :: rest) K s) : Am.Steps E (⟨d, k, xs, some (t, want)⟩ :: rest) K s := Step1.on hgv hgb h

/-- One step where guards are known to hold. -/
def stepG (ins : Ins) (s : St) : Option (Prop × Eff × List Loc) :=
  match ins.g with
  | none => stepP ins s
  | some (t, want) => match Am.get s.env t with
    | some (.bool b) => match b == want with
      | true => stepP { ins with g := none } s
      | false => none
    | _ => none

theorem step_G {E : Env} {ins : Ins} {s : St} {p : Prop} {eff : Eff} {rd : List Loc} {K : St → Prop} (h : stepG ins s = some (p, eff, rd)) (hp : p) (hk : K ((s.eff eff).put ins.d eff.v)) : Step1 E ins K s := by
  obtain ⟨d, k, xs, g⟩ := ins
  unfold stepG at h
  cases g with
  | none => exact .does (stepP_ok h hp) hk
  | some tw =>
    obtain ⟨t, want⟩ := tw
    simp only at h
    split at h
    · rename_i b hb
      split at h
      · rename_i hbw
        exact Step1.on hb (by simp only [guardOf, hbw]) (.does (stepP_ok h hp) hk)
      · cases h
    · cases h

def runG : List Ins → St → Prop → Prop × St × List Ins
  | [], s, p => (p, s, [])
  | i :: r, s, p => match stepG i s with
    | some (q, eff, _) => runG r ((s.eff eff).put i.d eff.v) (p ∧ q)
    | none => (p, s, i :: r)

theorem runG_pre : ∀ (il : List Ins) (s : St) (p : Prop), (runG il s p).1 → p
  | [], s, p, h => h
  | i :: r, s, p, h => by
    unfold runG at h
    split at h
    · exact (runG_pre r _ _ h).1
    · exact h

theorem runG_ok {E : Env} {K : St → Prop} : ∀ (il : List Ins) (s : St) (p : Prop), (runG il s p).1 → Am.Steps E (runG il s p).2.2 K (runG il s p).2.1 → Am.Steps E il K s
  | [], s, p, _, h => h
  | i :: r, s, p, h1, h2 => by
    unfold runG at h1 h2
    split at h1
    · rename_i q eff rd hq
      rw [hq] at h2
      exact step_G hq (runG_pre r _ _ h1).2 (runG_ok r _ _ h1 h2)
    · rename_i hq
      rw [hq] at h2
      exact h2

theorem Steps.runG {E : Env} {K : St → Prop} {s s' : St} {il rest : List Ins} {p : Prop} (h : Am.runG il s True = (p, s', rest)) (hp : p) (hs : Am.Steps E rest K s') : Am.Steps E il K s := by
  refine runG_ok il s True ?_ ?_
  · rw [h]; exact hp
  · rw [h]; exact hs

/-- At most so many instructions, where guards are known to hold. -/
def runGN : Nat → List Ins → St → Prop → Prop × St × List Ins
  | 0, il, s, p => (p, s, il)
  | _ + 1, [], s, p => (p, s, [])
  | n + 1, i :: r, s, p => match stepG i s with
    | some (q, eff, _) => runGN n r ((s.eff eff).put i.d eff.v) (p ∧ q)
    | none => (p, s, i :: r)

theorem runGN_pre : ∀ (n : Nat) (il : List Ins) (s : St) (p : Prop), (runGN n il s p).1 → p
  | 0, il, s, p, h => h
  | _ + 1, [], s, p, h => h
  | n + 1, i :: r, s, p, h => by
    unfold runGN at h
    split at h
    · exact (runGN_pre n r _ _ h).1
    · exact h

theorem runGN_ok {E : Env} {K : St → Prop} : ∀ (n : Nat) (il : List Ins) (s : St) (p : Prop), (runGN n il s p).1 → Am.Steps E (runGN n il s p).2.2 K (runGN n il s p).2.1 → Am.Steps E il K s
  | 0, il, s, p, _, h => h
  | _ + 1, [], s, p, _, h => h
  | n + 1, i :: r, s, p, h1, h2 => by
    unfold runGN at h1 h2
    split at h1
    · rename_i q eff rd hq
      rw [hq] at h2
      exact step_G hq (runGN_pre n r _ _ h1).2 (runGN_ok n r _ _ h1 h2)
    · rename_i hq
      rw [hq] at h2
      exact h2

theorem Steps.runGN {E : Env} {K : St → Prop} (n : Nat) {s s' : St} {il rest : List Ins} {p : Prop} (h : Am.runGN n il s True = (p, s', rest)) (hp : p) (hs : Am.Steps E rest K s') : Am.Steps E il K s := by
  refine runGN_ok n il s True ?_ ?_
  · rw [h]; exact hp
  · rw [h]; exact hs

theorem Steps.strEq {E : Env} {K : St → Prop} {s : St} {d : Nat} {x y : X} {a : ByteArray} {rest : List Ins} (hx : evXs s.env [x, y] = some [.str a, .str a]) (hk : Am.Steps E rest K (s.put (some d) (.bool true))) : Am.Steps E (⟨some d, .bin .eql, [x, y], none⟩ :: rest) K s := by
  refine Step1.does (ins := ⟨some d, .bin .eql, [x, y], none⟩) (eff := { v := .bool true }) (rd := xslots [x, y]) (stepP_ok (p := True) ?_ trivial) hk
  unfold stepP
  rw [hx]
  simp [evalK, nilOk]

end Go.Am

namespace Go.Proofs.YtdejdblopmfjfaaGreatDoor
open Go.Am
attribute [local simp] cells scalar mkv splice under2 under dem dem1 eB gridC sB fourC eF layC eQ nfC intsV foldV
theorem c_bound (a b : Int) : C Tryz.prog F.law07_bound [I a, I b] (.agg [I a, I b]) := by
  refine C_of mixed chk.law07_bound (by simp) fun S ok => ?_
  exact Tr.seqR rfl (by simp) (Tr.seqR rfl (by simp) (Tr.retX rfl rfl rfl rfl trivial))

def spotF (x y : Int) : Fr := ⟨(x, x), (y, y), (w (x + y), w (x + y)), (w (x - y), w (x - y))⟩
theorem c_spot (x y : Int) : C Tryz.prog F.law07_spot [I x, I y] (eF (spotF x y)) := by
  refine C_of mixed chk.law07_spot (by simp) fun S ok => ?_
  refine Tr.seqR rfl (by simp) (Tr.seqC rfl (by simp) ?_)
  refine Steps.call rfl rfl (c_bound x x) (Steps.run rfl (by simp) ?_)
  refine Steps.call rfl rfl (c_bound y y) (Steps.run rfl (by simp) ?_)
  refine Steps.call rfl rfl (c_bound (w (x + y)) (w (x + y))) (Steps.run rfl (by simp) ?_)
  refine Steps.call rfl rfl (c_bound (w (x - y)) (w (x - y))) (Steps.fin rfl (by simp) (Tr.retX rfl rfl rfl rfl trivial))

def exG : Gd := ⟨(0, 0), 2, 3, 2, [(0, 25), (26, 400)]⟩
def exY : Ly := ⟨[⟨(1, 1), (1, 1), (2, 2), (0, 0)⟩, ⟨(3, 3), (3, 3), (6, 6), (0, 0)⟩, ⟨(7, 9), (3, 3), (10, 12), (4, 6)⟩], [(0, 1), (0, 2), (1, 2)]⟩
def exN : Nf := ⟨[2, 1], [⟨4, [2, 0]⟩, ⟨3, [0, 1]⟩, ⟨5, [1, 1]⟩, ⟨6, [2, 1]⟩]⟩

theorem c_grid : C Tryz.prog F.law07_grid [] (.agg (gridC exG)) := by
  refine C_of mixed chk.law07_grid (by simp) fun S ok => ?_
  refine Tr.seqR rfl (by simp) (Tr.seqC rfl (by simp) ?_)
  refine Steps.call rfl rfl (c_bound 0 25) (Steps.run rfl (by simp) ?_)
  refine Steps.call rfl rfl (c_bound 26 400) (Steps.fin rfl (by simp) (Tr.retX rfl rfl rfl rfl trivial))

theorem c_lines : C Tryz.prog F.law07_lines [] (.agg (layC exY)) := by
  refine C_of mixed chk.law07_lines (by simp) fun S ok => ?_
  refine Tr.seqR rfl (by simp) (Tr.seqC rfl (by simp) ?_)
  refine Steps.call rfl rfl (c_spot 1 1) (Steps.run rfl (by simp) ?_)
  refine Steps.call rfl rfl (c_spot 3 3) (Steps.run rfl (by simp) ?_)
  refine Steps.call rfl rfl (c_bound 7 9) (Steps.run rfl (by simp) ?_)
  refine Steps.call rfl rfl (c_bound 3 3) (Steps.run rfl (by simp) ?_)
  refine Steps.call rfl rfl (c_bound 10 12) (Steps.run rfl (by simp) ?_)
  refine Steps.call rfl rfl (c_bound 4 6) (Steps.fin rfl (by simp) (Tr.retX rfl rfl rfl rfl trivial))

theorem c_gaps : C Tryz.prog F.law07_gaps [] (.agg (nfC exN)) := by
  refine C_of mixed chk.law07_gaps (by simp) fun S ok => ?_
  exact Tr.seqR rfl (by simp) (Tr.seqR rfl (by simp) (Tr.retX rfl rfl rfl rfl trivial))

theorem c_cells (l l' : List (Int × Int)) (hl : l.length ≤ 9223372036854775807) : C Tryz.prog F.law07_cells [sB l, sB l'] (.bool (decide (l = l'))) := by
  refine C_of mixed chk.law07_cells (by simp) fun S ok => ?_
  refine Tr.seqR rfl (by simp) (Tr.seq (Tr.seqR rfl (by simp) ?_))
  refine Tr.cond rfl rfl (fun h1 => Tr.seqR rfl (by simp) (Tr.retX rfl rfl rfl ?_ trivial)) (fun h1 => Tr.skip ?_)
  · have h1 : (((l.map eB).length : Int) != ((l'.map eB).length : Int)) = true := h1
    simp only [packR, V.bool.injEq]
    rw [decide_eq_false]
    rintro rfl
    simp at h1
  · have h1 : (((l.map eB).length : Int) != ((l'.map eB).length : Int)) = false := h1
    have hll : l.length = l'.length := by simp at h1; omega
    refine Tr.seq (Tr.seqR rfl (by simp) (Tr.block ?_))
    refine Tr.loop (fun k st => (k ≤ l.length ∧ l.take k = l'.take k) ∧ st = { env := [(0, sB l), (1, sB l'), (5, I k)], bx := [], rw := [], log := [], stp := false }) (fun k => l.length - k) 0
      (Wk.le (.cons rfl (.refl _) (.cons rfl (.refl _) (.cons rfl (.refl _) .nil))) .nil .nil rfl rfl) ⟨⟨by omega, by simp⟩, rfl⟩ ?_
    rintro k st ⟨⟨hk, he⟩, rfl⟩
    refine Tr.seq (Tr.seqR rfl (by simp) (Tr.cond rfl rfl (fun h3 => ?_) (fun h3 => ?_)))
    · have h3 : k < l.length := by simpa using h3
      have h4 : k < l'.length := by omega
      refine Tr.skip (Tr.seq (Tr.block (Tr.seq (Tr.drawK (TraceK.runN 3 rfl (by simp; omega) ?_)))))
      rw [getD_map h3]
      refine TraceK.runN 4 rfl (by simp; omega) ?_
      rw [getD_map h4]
      refine TraceK.run rfl (by simp) (.done ⟨by kernel_rfl, by kernel_rfl, ?_⟩)
      refine Tr.cond rfl rfl (fun h5 => Tr.seqR rfl (by simp) (Tr.retX rfl rfl rfl ?_ trivial)) (fun h5 => Tr.skip (Tr.regR rfl (by simp) ?_))
      · have h5 : l[k] ≠ l'[k] := by
          intro e; rw [e] at h5; simp at h5
        simp only [packR, V.bool.injEq]
        rw [decide_eq_false]
        rintro rfl
        exact h5 rfl
      · have h5 : l[k] = l'[k] := by
          have := h5
          simp at this
          exact Prod.ext this.1 this.2
        exact ⟨k + 1, _, Wk.le (.cons rfl (.refl _) (.cons rfl (.refl _) (.cons rfl (VLe.i (w64 (by omega) (by omega))) .nil))) .nil .nil rfl rfl, ⟨⟨h3, take_ext h3 h4 he h5⟩, rfl⟩, by omega⟩
    · have h3 : k = l.length := by simp at h3; omega
      subst h3
      refine Tr.exit (Tr.seqR rfl (by simp) (Tr.retX rfl rfl rfl ?_ trivial))
      rw [List.take_length, hll, List.take_length] at he
      simp [packR, he]

theorem c_AlikeLists (l l' : List (List Int)) (hl : l.length ≤ 9223372036854775807) (hr : ∀ r ∈ l, r.length ≤ 9223372036854775807) : C Tryz.prog F.ref00_AlikeLists [foldV l, foldV l'] (.bool (decide (l = l'))) := by
  refine C_of mixed chk.ref00_AlikeLists (by simp) fun S ok => ?_
  refine Tr.seqR rfl (by simp) (Tr.seq (Tr.seqR rfl (by simp) ?_))
  refine Tr.cond rfl rfl (fun h1 => Tr.seqR rfl (by simp) (Tr.retX rfl rfl rfl ?_ trivial)) (fun h1 => Tr.skip ?_)
  · have h1 : (((l.map intsV).length : Int) != ((l'.map intsV).length : Int)) = true := h1
    simp only [packR, V.bool.injEq]
    rw [decide_eq_false]
    rintro rfl
    simp at h1
  · have h1 : (((l.map intsV).length : Int) != ((l'.map intsV).length : Int)) = false := h1
    have hll : l.length = l'.length := by simp at h1; omega
    refine Tr.seq (Tr.seqR rfl (by simp) (Tr.block ?_))
    refine Tr.loop (fun k st => (k ≤ l.length ∧ l.take k = l'.take k) ∧ st = { env := [(0, foldV l), (1, foldV l'), (5, I k)], bx := [], rw := [], log := [], stp := false }) (fun k => l.length - k) 0
      (Wk.le (.cons rfl (.refl _) (.cons rfl (.refl _) (.cons rfl (.refl _) .nil))) .nil .nil rfl rfl) ⟨⟨by omega, by simp⟩, rfl⟩ ?_
    rintro k st ⟨⟨hk, he⟩, rfl⟩
    refine Tr.seq (Tr.seqR rfl (by simp) (Tr.cond rfl rfl (fun h3 => ?_) (fun h3 => ?_)))
    · have h3 : k < l.length := by simpa using h3
      have h4 : k < l'.length := by omega
      refine Tr.skip (Tr.seq (Tr.block (Tr.seq (Tr.drawK (TraceK.runN 3 rfl (by simp; omega) ?_)))))
      rw [getD_map h3]
      refine TraceK.runN 4 rfl (by simp; omega) ?_
      rw [getD_map h4]
      refine TraceK.run rfl (by simp) (TraceK.call rfl rfl (c_Alike l[k] l'[k] (hr _ (List.getElem_mem h3))) (TraceK.run rfl (by simp) (.done ⟨by kernel_rfl, by kernel_rfl, ?_⟩)))
      refine Tr.cond rfl rfl (fun h5 => Tr.seqR rfl (by simp) (Tr.retX rfl rfl rfl ?_ trivial)) (fun h5 => Tr.skip (Tr.regR rfl (by simp) ?_))
      · have h5 : (!decide (l[k] = l'[k])) = true := h5
        simp only [packR, V.bool.injEq]
        rw [decide_eq_false]
        rintro rfl
        simp at h5
      · have h5 : (!decide (l[k] = l'[k])) = false := h5
        have h5 : l[k] = l'[k] := by simpa using h5
        exact ⟨k + 1, _, Wk.le (.cons rfl (.refl _) (.cons rfl (.refl _) (.cons rfl (VLe.i (w64 (by omega) (by omega))) .nil))) .nil .nil rfl rfl, ⟨⟨h3, take_ext h3 h4 he h5⟩, rfl⟩, by omega⟩
    · have h3 : k = l.length := by simp at h3; omega
      subst h3
      refine Tr.exit (Tr.seqR rfl (by simp) (Tr.retX rfl rfl rfl ?_ trivial))
      rw [List.take_length, hll, List.take_length] at he
      simp [packR, he]

end Go.Proofs.YtdejdblopmfjfaaGreatDoor


/-! Structs that lie in an arena: addresses, fields, a new one; what lies there becomes data. -/
set_option linter.unusedVariables false
set_option linter.unusedSimpArgs false
set_option maxRecDepth 20000
namespace Go.Am
open Go.RowKit

theorem opK_nilck0 {P : Program} {o : Oper} {os : List Operand} (hk : opK P o.op = some (.nilck, os)) : ∃ p, o.op = .nilCheck p ∧ os = [p] := by
  cases ho : o.op <;> rw [ho] at hk <;> simp only [opK] at hk <;> (try (cases hk; done)) <;> (try (repeat' (split at hk <;> (try (cases hk; done)))))
  all_goals first
    | (simp only [Option.map_eq_some_iff, Prod.mk.injEq] at hk; obtain ⟨_, _, h1, _⟩ := hk; cases h1; done)
    | (simp only [eqKind] at hk; repeat' (split at hk <;> (try (cases hk; done))))
    | (cases hk; exact ⟨_, rfl, rfl⟩)

theorem opK_faddr0 {P : Program} {o : Oper} {os : List Operand} {off : Nat} (hk : opK P o.op = some (.faddr off, os)) : ∃ t p f fs fd n, o.op = .fieldAddr t p f ∧ P.underlying t = some (.struct fs) ∧ fs[f]? = some fd ∧ szOf P fd.type = some n ∧ n ≠ 0 ∧ fd.offset = off ∧ os = [p] := by
  cases ho : o.op <;> rw [ho] at hk <;> simp only [opK] at hk <;> (try (cases hk; done)) <;> (try (repeat' (split at hk <;> (try (cases hk; done)))))
  all_goals first
    | (simp only [Option.map_eq_some_iff, Prod.mk.injEq] at hk; obtain ⟨_, _, h1, _⟩ := hk; cases h1; done)
    | (simp only [eqKind] at hk; repeat' (split at hk <;> (try (cases hk; done))))
    | (cases hk; exact ⟨_, _, _, _, _, _, rfl, by assumption, by assumption, by assumption, by assumption, rfl, rfl⟩)

theorem opK_box0 {P : Program} {o : Oper} {os : List Operand} (hk : opK P o.op = some (.box, os)) : ∃ e p, o.op = .box e p ∧ os = [p] := by
  cases ho : o.op <;> rw [ho] at hk <;> simp only [opK] at hk <;> (try (cases hk; done)) <;> (try (repeat' (split at hk <;> (try (cases hk; done)))))
  all_goals first
    | (simp only [Option.map_eq_some_iff, Prod.mk.injEq] at hk; obtain ⟨_, _, h1, _⟩ := hk; cases h1; done)
    | (simp only [eqKind] at hk; repeat' (split at hk <;> (try (cases hk; done))))
    | (cases hk; exact ⟨_, _, rfl, rfl⟩)

theorem opK_loadT {P : Program} {o : Oper} {os : List Operand} {n : Nat} (hk : opK P o.op = some (.load n true, os)) : ∃ t p d, o.op = .load t p ∧ szOf P t = some n ∧ P.underlying t = some d ∧ aggB P t = true ∧ os = [p] := by
  cases ho : o.op <;> rw [ho] at hk <;> simp only [opK] at hk <;> (try (cases hk; done)) <;> (try (repeat' (split at hk <;> (try (cases hk; done)))))
  all_goals first
    | (simp only [Option.map_eq_some_iff, Prod.mk.injEq] at hk; obtain ⟨_, _, h1, _⟩ := hk; cases h1; done)
    | (simp only [eqKind] at hk; repeat' (split at hk <;> (try (cases hk; done))))
    | (cases hk; exact ⟨_, _, _, rfl, by assumption, by assumption, by assumption, rfl⟩)

section
variable {E : Env} {S0 : Sur} {l0 : List (List V)} {s0 : Bool} {A : Arena}

/-- A pointer of an arena is not nil. -/
theorem Steps.rnil {K : St → Prop} {s : St} {d : Nat} {x : X} {rest : List Ins} {blk off : Nat} (hx : evXs s.env [x] = some [.rptr blk off]) (hk : Steps E rest K (s.put (some d) (.rptr blk off))) : Steps E (⟨some d, .nilck, [x], none⟩ :: rest) K s := by
  refine Step1.raw fun slots ops o i ro n a w h hc hs hi R Q next hn => ?_
  obtain ⟨os, cc⟩ := comp_of hc
  obtain ⟨p, ho, rfl⟩ := opK_nilck0 cc.op
  obtain ⟨u, hu, o1⟩ := (opds_of R.1 cc.xs (evXs_ok hx)).one
  simp only [List.cons.injEq, and_true] at hu
  subst hu
  have ep := ok_rptr o1
  have hex : (execOp a.eval o).run E.P w = .ok (.value (.pointer (some ⟨blk, off, none⟩))) w := by simp [execOp, ho, ep]
  refine wpOp_done hi (wanted_none (guard_none cc rfl)) (opK_defer cc.op) (.inl hex) (hn _ _ _ h hk ?_ rfl)
  show E.relF _ _ _ _ _ _
  rw [(put_log _ _ _).1, (put_log _ _ _).2, fs_put]
  exact rel_after (eff := { v := _ }) cc R R.1 (.data (.rptr _ _)) rfl

/-- The address of a field. -/
theorem Steps.rfaddr {K : St → Prop} {s : St} {d f : Nat} {x : X} {rest : List Ins} {blk off : Nat} (hx : evXs s.env [x] = some [.rptr blk off]) (hk : Steps E rest K (s.put (some d) (.rptr blk (off + f)))) : Steps E (⟨some d, .faddr f, [x], none⟩ :: rest) K s := by
  refine Step1.raw fun slots ops o i ro n a w h hc hs hi R Q next hn => ?_
  obtain ⟨os, cc⟩ := comp_of hc
  obtain ⟨t, p, g, fs, fd, m, ho, h1, h2, h3, h4, rfl, rfl⟩ := opK_faddr0 cc.op
  obtain ⟨u, hu, o1⟩ := (opds_of R.1 cc.xs (evXs_ok hx)).one
  simp only [List.cons.injEq, and_true] at hu
  subst hu
  have ep := ok_rptr o1
  have hex : (execOp a.eval o).run E.P w = .ok (.value (.pointer (some ⟨blk, off + fd.offset, none⟩))) w := by
    simp only [execOp, ho, ep, Sem.run_bind, run_fieldAt h1 h2 h3 h4]; rfl
  refine wpOp_done hi (wanted_none (guard_none cc rfl)) (opK_defer cc.op) (.inl hex) (hn _ _ _ h hk ?_ rfl)
  show E.relF _ _ _ _ _ _
  rw [(put_log _ _ _).1, (put_log _ _ _).2, fs_put]
  exact rel_after (eff := { v := _ }) cc R R.1 (.data (.rptr _ _)) rfl

/-- Several cells of an arena's block are read. -/
theorem Steps.aloadT (hE : InA E S0 l0 s0) {K : St → Prop} {s : St} {d n : Nat} {x : X} {rest : List Ins} {blk off : Nat} {cs : List V} (hx : evXs s.env [x] = some [.rptr blk off]) (hl : s.log = encA A) (hA : (blk, .cells cs) ∈ A) (hv : off + n ≤ cs.length)
    (hk : Steps E rest K (s.put (some d) (.agg ((cs.drop off).take n)))) : Steps E (⟨some d, .load n true, [x], none⟩ :: rest) K s := by
  refine Step1.raw fun slots ops o i ro n' a w h hc hs hi R Q next hn => ?_
  obtain ⟨os, cc⟩ := comp_of hc
  obtain ⟨t, p, dd, e1, e2, e3, e4, rfl⟩ := opK_loadT cc.op
  obtain ⟨u, hu, o1⟩ := (opds_of R.1 cc.xs (evXs_ok hx)).one
  simp only [List.cons.injEq, and_true] at hu
  subst hu
  have ep := ok_rptr o1
  have R' : E.relF (encA A) s.stp s.fs a w h := by rw [← hl]; exact R
  obtain ⟨vs, et, h1, h2, h3⟩ := (hE.ar R').ok _ hA
  obtain ⟨y, hy1, hy2⟩ := ok_mkv (σ := s.fs) (h := h) (w := w) (agg := true) (n := n) (l := cs.drop off) (f := fun j => vs.getD (off + j) undef) (by simp; omega) (by simp) (fun j v hv => by
    rw [List.getElem?_drop] at hv
    have hlt : off + j < vs.size := by
      have := (List.getElem?_eq_some_iff.1 hv).1; omega
    have := h3 (off + j) v vs[off + j] hv (by simp [hlt])
    have e : vs.getD (off + j) undef = vs[off + j] := by simp [hlt]
    rw [e]
    exact ⟨.data this.1, Grow.of_data this.1, this.2⟩)
  have hex : (execOp a.eval o).run E.P w = .ok (.value y) w := by
    simp only [execOp, e1, ep, Sem.run_bind]
    rw [run_loadAt (cs := (List.range n).map fun j => vs.getD (off + j) undef) e2 e3 (by simp) (fun j v hv => by
      obtain ⟨hj, rfl⟩ := range_map_get hv
      rw [cell_of_row w blk (off + j) vs et (0, 0) h1]
      have : off + j < vs.size := by omega
      simp [this]) (by rw [e4]; exact hy1)]
    rfl
  refine wpOp_done hi (wanted_none (guard_none cc rfl)) (opK_defer cc.op) (.inl hex) (hn _ _ _ h hk ?_ rfl)
  show E.relF _ _ _ _ _ _
  rw [(put_log _ _ _).1, (put_log _ _ _).2, fs_put]
  exact rel_after (eff := { v := _ }) cc R R.1 hy2 rfl

/-- A new struct of an arena. -/
theorem Steps.abox (hE : InA E S0 l0 s0) {K : St → Prop} {s : St} {d : Nat} {x : X} {rest : List Ins} {v : V} (hx : evXs s.env [x] = some [v]) (hl : s.log = encA A) (hs : (cells v).all scalar = true) (hd : (cells v).all isD = true)
    (hk : ∀ b, b ∉ A.map (·.1) → Steps E rest K { s.put (some d) (.rptr b 0) with log := encA ((b, .cells (cells v)) :: A) }) : Steps E (⟨some d, .box, [x], none⟩ :: rest) K s := by
  refine Step1.raw fun slots ops o i ro n a w h hc hsl hi R Q next hn => ?_
  obtain ⟨os, cc⟩ := comp_of hc
  obtain ⟨e, p, ho, rfl⟩ := opK_box0 cc.op
  obtain ⟨u, hu, o1⟩ := (opds_of R.1 cc.xs (evXs_ok hx)).one
  simp only [List.cons.injEq, and_true] at hu
  subst hu
  have R' : E.relF (encA A) s.stp s.fs a w h := by rw [← hl]; exact R
  obtain ⟨q1, q2⟩ := o1.cells hs
  obtain ⟨R2, hnm⟩ := hE.fresh R' (.cells (a.eval p).cells e) (.cells (cells v)) (fun ext => ⟨(a.eval p).cells, e, heap_alloc_new w _, by omega, fun j u z hu hz => by
    obtain ⟨r1, _, r3⟩ := q2 j u z hu hz
    have hD : isD u = true := by
      rw [List.all_eq_true] at hd
      exact hd u (List.mem_of_getElem? hu)
    exact ⟨(rep_isD hD r1).mono ext, r3⟩⟩)
  refine wpOp_done hi (wanted_none (guard_none cc rfl)) (opK_defer cc.op) (.inl ?_) (hn _ _ _ h (hk _ hnm) (rel_putA cc R2 (.data (.rptr _ _)) rfl) rfl)
  simp [execOp, ho, Instr.box, newVar, newRow]

/-- A struct of an arena becomes data. -/
theorem Wk.closeP (hE : InA E S0 l0 s0) {s : St} {t blk : Nat} {cs : List V} (ht : get s.env t = some (.rptr blk 0)) (hl : s.log = encA A) (hA : (blk, Ob.cells cs) ∈ A) :
    Wk E s { s.put (some t) (.vptr cs 0) with log := encA (dropA A blk) } := by
  intro a w h R
  obtain ⟨q1, q2, _⟩ := R.1.env t _ (by rw [fs_g]; exact ht)
  have R' : E.relF (encA A) s.stp s.fs a w h := by rw [← hl]; exact R
  have hAr := hE.ar R'
  obtain ⟨ext, R2⟩ := hE.close R' hA cs.length (B := dropA A blk) (fun p hp => ⟨List.mem_map.2 ⟨p, (dropA_mem.1 hp).1, rfl⟩, (dropA_mem.1 hp).2⟩) (dropA_nd hAr.nd) (fun ext p hp => (hAr.ok p (dropA_mem.1 hp).1).mono rfl ext)
  obtain ⟨vs, et, h1, h2, h3⟩ := hAr.ok _ hA
  have e : a.tmps.getD t undef = .pointer (some ⟨blk, 0, none⟩) := by
    revert q2
    generalize a.tmps.getD t undef = x1
    intro q2
    cases q2 with
    | data r => cases r; rfl
  have rd : RepD w (cut h.φ blk cs.length) (.vptr cs 0) (.pointer (some ⟨blk, 0, none⟩)) := by
    refine .vptr cs 0 blk 0 (fun j => vs.getD j undef) (fun j v hv => ?_) (fun j v hv => ?_)
    · have hj := (List.getElem?_eq_some_iff.1 hv).1
      have e : vs[j]? = some (vs.getD j undef) := by
        have : j < vs.size := by omega
        simp [this]
      refine ⟨by unfold cut; rw [if_pos rfl]; omega, ?_, (h3 j v _ hv e).2⟩
      rw [Nat.zero_add, cell_of_row w blk j vs et (0, 0) h1, e]
    · have hj := (List.getElem?_eq_some_iff.1 hv).1
      have e : vs[j]? = some (vs.getD j undef) := by
        have : j < vs.size := by omega
        simp [this]
      exact (h3 j v _ hv e).1.mono ext
  have R3 := R2.1.put (d := t) (v := .vptr cs 0) (x := a.tmps.getD t undef) q1 (by rw [e]; exact .data rd) (by rw [e]; exact GrowV.of_data rd)
  rw [put_self (by rw [R.1.size]; exact q1)] at R3
  refine ⟨_, ⟨?_, R2.2⟩, rfl⟩
  show Rel E.nt E.S _ s.stp (s.put (some t) (.vptr cs 0)).fs _ _ _
  rw [fs_put]
  exact R3

theorem Steps.mov {K : St → Prop} {s : St} {d : Nat} {x : X} {rest : List Ins} {v : V} (hx : evXs s.env [x] = some [v]) (hk : Steps E rest K (s.put (some d) v)) : Steps E (⟨some d, .mov, [x], none⟩ :: rest) K s :=
  Step1.does (ins := ⟨some d, .mov, [x], none⟩) (eff := { v := v }) (.op rfl (evXs_ok hx) rfl trivial (fun e => by cases e)) hk

/-- A guard that is known to hold. -/
def onG (s : St) : Option (Nat × Bool) → Prop
  | none => True
  | some (t, want) => ∃ gv, get s.env t = some gv ∧ guardOf want gv = some true

theorem Steps.onG {K : St → Prop} {s : St} {d : Option Nat} {k : Am.K} {xs : List X} {g : Option (Nat × Bool)} {rest : List Ins} (hg : onG s g) (h : Steps E (⟨d, k, xs, none⟩ :: rest) K s) : Steps E (⟨d, k, xs, g⟩ :: rest) K s := by
  cases g with
  | none => exact h
  | some p => obtain ⟨gv, h1, h2⟩ := hg; exact Steps.on h1 h2 h

def offT (t : Nat) : Option (Nat × Bool) → Bool
  | none => true
  | some (t', _) => !(t'.beq t)

theorem onG.put {s : St} {g : Option (Nat × Bool)} {t : Nat} {v : V} (h : onG s g) (hne : offT t g = true) : onG (s.put (some t) v) g := by
  cases g with
  | none => trivial
  | some p =>
    obtain ⟨gv, h1, h2⟩ := h
    refine ⟨gv, ?_, h2⟩
    show get (s.put (some t) v).env p.1 = some gv
    unfold St.put
    simp only
    rw [get_cons, if_neg (fun e => by simp [offT, e] at hne)]
    exact h1

theorem get_put (s : St) (t : Nat) (v : V) : get (s.put (some t) v).env t = some v := by
  unfold St.put
  simp only
  rw [get_cons, if_pos rfl]

theorem evX1 {env : List (Nat × V)} {t : Nat} {v : V} (h : get env t = some v) : evXs env [.t t] = some [v] := by simp [evXs, h]

/-- A field is read, in four steps. -/
theorem Steps.ldF (hE : InA E S0 l0 s0) {K : St → Prop} {s : St} {t0 t1 t2 t3 t4 off : Nat} {blk : Nat} {cs : List V} {v : V} {rest : List Ins} {g : Option (Nat × Bool)} (hl : s.log = encA A) (hx : get s.env t0 = some (.rptr blk 0)) (hA : (blk, .cells cs) ∈ A) (hv : cs[off]? = some v) (hg : Am.onG s g) (hne : (offT t1 g && offT t2 g && offT t3 g) = true)
    (hk : Steps E rest K ((((s.put (some t1) (.rptr blk 0)).put (some t2) (.rptr blk 0)).put (some t3) (.rptr blk off)).put (some t4) v)) :
    Steps E (⟨some t1, .mov, [.t t0], g⟩ :: ⟨some t2, .nilck, [.t t1], g⟩ :: ⟨some t3, .faddr off, [.t t2], g⟩ :: ⟨some t4, .load 1 false, [.t t3], g⟩ :: rest) K s := by
  simp only [Bool.and_eq_true] at hne
  obtain ⟨⟨n1, n2⟩, n3⟩ := hne
  refine Steps.onG hg (Steps.mov (evX1 hx) ?_)
  refine Steps.onG (hg.put n1) (Steps.rnil (evX1 (get_put _ _ _)) ?_)
  refine Steps.onG ((hg.put n1).put n2) (Steps.rfaddr (evX1 (get_put _ _ _)) ?_)
  rw [Nat.zero_add]
  refine Steps.onG (((hg.put n1).put n2).put n3) (Steps.aload hE (evX1 (get_put _ _ _)) (by simpa [put_log] using hl) hA hv hk)

end
end Go.Am


/-! Contracts of the specification: hulls. -/
set_option linter.unusedVariables false
set_option linter.unusedSimpArgs false
set_option maxRecDepth 40000
set_option maxHeartbeats 4000000
namespace Go.Proofs.YtdejdblopmfjfaaGreatDoor
open Go.Am
attribute [local simp] cells scalar mkv splice under2 under dem dem1 eB gridC sB fourC layC eF
def withB (b : Int × Int) (n : Int) : Int × Int := (min b.1 n, max b.2 n)
def ofFP (p : Int × Int) : Fr := ⟨(p.1, p.1), (p.2, p.2), (p.1 + p.2, p.1 + p.2), (p.1 - p.2, p.1 - p.2)⟩
def withF (f : Fr) (p : Int × Int) : Fr := ⟨withB f.x p.1, withB f.y p.2, withB f.s (p.1 + p.2), withB f.d (p.1 - p.2)⟩
def addS (a : Fr × Bool) (p : Int × Int) : Fr × Bool := (withF (if a.2 then a.1 else ofFP p) p, true)
def hullC (a : Fr × Bool) : List V := fourC a.1 ++ [.bool a.2]
abbrev huA (blk : Nat) (a : Fr × Bool) : Arena := [(blk, .cells (hullC a))]

theorem c_with01 (b : Int × Int) (n : Int) : C Tryz.prog F.ref01_with [eB b, I n] (eB (withB b n)) := by
  refine C_of mixed chk.ref01_with (by simp) fun S ok => ?_
  refine Tr.seqR rfl (by simp) (Tr.seqR rfl (by simp) (Tr.retX rfl rfl rfl ?_ trivial))
  simp only [packR, cond_true, cond_false, ite_max, ite_min]
  rfl

theorem setA1' (b : Nat) (o o' : Ob) : setA [(b, o)] b o' = [(b, o')] := by simp [setA]

theorem c_add01 {a : Fr × Bool} {p : Int × Int} (hp : planeB p = true) {blk : Nat} : CA Tryz.prog F.ref01_Hull_add (huA blk a) [] [.rptr blk 0, eB p] (.tuple []) (huA blk (addS a p)) := by
  have hp' := planeB_spec hp
  have w1 : IntKind.wrap .i64 (p.1 + p.2) = p.1 + p.2 := w64 (by omega) (by omega)
  have w2 : IntKind.wrap .i64 (p.1 - p.2) = p.1 - p.2 := w64 (by omega) (by omega)
  have hmem : ∀ a, (blk, Ob.cells (hullC a)) ∈ huA blk a := fun a => List.mem_singleton.2 rfl
  refine CA_of mixed chk.ref01_Hull_add (by simp) fun S ok S1 hA hK => ?_
  refine Tr.seqR rfl (by simp) ?_
  refine Tr.seq (Tr.drawK (TraceK.run rfl (by simp) (.done ⟨by kernel_rfl, by kernel_rfl, ?_⟩)))
  obtain ⟨f, hf⟩ : ∃ f, (if a.2 then a.1 else ofFP p) = f := ⟨_, rfl⟩
  refine Tr.meet { env := [(0, .rptr blk 0), (3, .ptr 3 0), (4, I (p.1 + p.2)), (5, I (p.1 - p.2))], bx := [(3, ⟨[I p.1, I p.2], false⟩)], rw := [], log := encA (huA blk (f, true)), stp := false } ?_ ?_
  · refine Tr.seq (Tr.reg (Steps.ldF hA (off := 8) rfl rfl (hmem a) rfl trivial rfl (Steps.fin rfl (by simp) ?_)))
    obtain ⟨g, is⟩ := a
    simp only at hf
    cases is with
    | true =>
      have hf : g = f := hf
      subst hf
      refine Tr.condF rfl (Tr.skip ?_)
      exact Wk.le (.cons rfl (.refl _) (.cons rfl (.refl _) (.cons rfl (VLe.i w1) (.cons rfl (VLe.i w2) .nil)))) (.cons rfl (LLe.refl _) .nil) .nil rfl rfl
    | false =>
      have hf : ofFP p = f := hf
      refine Tr.condT rfl (Tr.reg (Steps.run rfl (by simp) ?_))
      refine Steps.rnil rfl (Steps.rfaddr rfl (Steps.astoreT hA rfl rfl (hmem (g, false)) rfl (by simp [hullC]) rfl rfl ?_))
      rw [setA1', w1, w2]
      refine Steps.rnil rfl (Steps.rfaddr rfl (Steps.astore hA rfl rfl (List.mem_singleton.2 rfl) (by simp [hullC]) rfl rfl ?_))
      rw [setA1']
      refine Steps.fin rfl (by simp) ?_
      rw [← hf]
      exact Wk.le (.cons rfl (.refl _) (.cons rfl (.refl _) (.cons rfl (.refl _) (.cons rfl (.refl _) .nil)))) (.cons rfl (LLe.refl _) .nil) .nil rfl rfl
  · have hres : addS a p = (withF f p, true) := by unfold addS; rw [hf]
    rw [hres]
    refine Tr.drawP rfl rfl (A := huA blk (f, true)) rfl ?_
    refine TraceK.runN 2 rfl (by simp) (TraceK.rnil rfl (TraceK.rfaddr rfl (TraceK.rfaddr rfl (TraceK.aload hA rfl rfl rfl (hmem (f, true)) (by simp [hullC]) (TraceK.run rfl (by simp) (TraceK.call rfl rfl (c_with01 f.x p.1) ?_))))))
    refine TraceK.runN 1 rfl (by simp) (TraceK.rnil rfl (TraceK.rfaddr rfl (TraceK.rfaddr rfl (TraceK.aload hA rfl rfl rfl (hmem (f, true)) (by simp [hullC]) (TraceK.run rfl (by simp) (TraceK.call rfl rfl (c_with01 f.y p.2) ?_))))))
    refine TraceK.runN 1 rfl (by simp) (TraceK.rnil rfl (TraceK.rfaddr rfl (TraceK.rfaddr rfl (TraceK.aload hA rfl rfl rfl (hmem (f, true)) (by simp [hullC]) (TraceK.run rfl (by simp) (TraceK.call rfl rfl (c_with01 f.s (p.1 + p.2)) ?_))))))
    refine TraceK.runN 1 rfl (by simp) (TraceK.rnil rfl (TraceK.rfaddr rfl (TraceK.rfaddr rfl (TraceK.aload hA rfl rfl rfl (hmem (f, true)) (by simp [hullC]) (TraceK.run rfl (by simp) (TraceK.call rfl rfl (c_with01 f.d (p.1 - p.2)) ?_))))))
    refine TraceK.run rfl (by simp) (TraceK.rnil rfl (TraceK.rfaddr rfl (.done ⟨by kernel_rfl, by kernel_rfl, ?_⟩)))
    refine Steps.astoreT hA rfl rfl (hmem (f, true)) rfl (by simp [hullC]) rfl rfl ?_
    rw [setA1']
    refine Steps.fin rfl (by simp) ?_
    exact And.intro rfl ⟨[], [], [], rfl, rfl, rfl⟩

def fillS (r : Fr) : Nat → Int → Fr × Bool → Fr × Bool
  | 0, _, a => a
  | n + 1, x, a => fillS r n (x + 1) (if lowY r x ≤ highY r x then addS (addS a (x, lowY r x)) (x, highY r x) else a)

theorem row_plane {r : Fr} (hf : fitFB r = true) {x : Int} (hx : r.x.1 ≤ x ∧ x ≤ r.x.2) (h : lowY r x ≤ highY r x) : planeB (x, lowY r x) = true ∧ planeB (x, highY r x) = true := by
  have hf' := (fitFB_iff r).1 hf
  obtain ⟨⟨h1, h2⟩, _⟩ := hf'
  unfold fitB at h1 h2
  have a1 : r.y.1 ≤ lowY r x := by unfold lowY; omega
  have a2 : highY r x ≤ r.y.2 := by unfold highY; omega
  unfold planeB
  simp only [Bool.and_eq_true, btw_iff]
  omega

theorem c_fill01 {r : Fr} (hf : fitFB r = true) {a : Fr × Bool} {blk : Nat} : CA Tryz.prog F.ref01_Hull_fill (huA blk a) [] [.rptr blk 0, .agg (fourC r)] (.tuple []) (huA blk (fillS r (r.x.2 + 1 - r.x.1).toNat r.x.1 a)) := by
  have hm := mid_of hf
  have hm' := hm
  obtain ⟨⟨⟨hx1, hx2⟩, hx3, hx4⟩, _⟩ := hm'
  obtain ⟨N, hN⟩ : ∃ N, (r.x.2 + 1 - r.x.1).toNat = N := ⟨_, rfl⟩
  rw [hN]
  refine CA_of mixed chk.ref01_Hull_fill (by simp) fun S ok S1 hA hK => ?_
  refine Tr.seqR rfl (by simp) (Tr.seqR rfl (by simp) (Tr.block ?_))
  refine Tr.loop (α := Nat × (Fr × Bool)) (fun p st => (p.1 ≤ N ∧ fillS r (N - p.1) (r.x.1 + p.1) p.2 = fillS r N r.x.1 a) ∧ st = { env := [(0, .rptr blk 0), (3, .ptr 3 0), (4, I (r.x.1 + p.1))], bx := [(3, ⟨fourC r, false⟩)], rw := [], log := encA (huA blk p.2), stp := false }) (fun p => N - p.1) (0, a)
    (Wk.le (.cons rfl (.refl _) (.cons rfl (.refl _) (.cons rfl (VLe.i (by simp)) .nil))) (.cons rfl (LLe.refl _) .nil) .nil rfl rfl) ⟨⟨by simp, by simp⟩, rfl⟩ ?_
  rintro ⟨k, b⟩ st ⟨⟨hk, hc⟩, rfl⟩
  simp only at hk hc
  obtain ⟨x, hx⟩ : ∃ x, r.x.1 + (k : Int) = x := ⟨_, rfl⟩
  rw [hx] at hc ⊢
  refine Tr.seq (Tr.seqR rfl (by simp) (Tr.cond rfl rfl (fun h1 => Tr.skip ?_) (fun h1 => Tr.exit ?_)))
  rotate_left
  · have h1 : ¬ x ≤ r.x.2 := by simpa using h1
    rw [show N - k = 0 by omega] at hc
    have hc : b = fillS r N r.x.1 a := hc
    rw [← hc]
    exact And.intro rfl ⟨[], [], [], rfl, rfl, rfl⟩
  have h1 : x ≤ r.x.2 := by simpa using h1
  obtain ⟨m, hm1⟩ : ∃ m, N - k = m + 1 := ⟨N - k - 1, by omega⟩
  have hm2 : N - (k + 1) = m := by omega
  rw [hm1, fillS] at hc
  obtain ⟨b2, hb2⟩ : ∃ b2, (if lowY r x ≤ highY r x then addS (addS b (x, lowY r x)) (x, highY r x) else b) = b2 := ⟨_, rfl⟩
  rw [hb2] at hc
  refine Tr.meet { env := [(0, .rptr blk 0), (3, .ptr 3 0), (4, I x)], bx := [(3, ⟨fourC r, false⟩)], rw := [], log := encA (huA blk b2), stp := false } (Tr.block ?_) (Tr.regR rfl (by simp) ?_)
  rotate_left
  · refine ⟨(k + 1, b2), _, Wk.le (.cons rfl (.refl _) (.cons rfl (.refl _) (.cons rfl (VLe.i ?_) .nil))) (.cons rfl (LLe.refl _) .nil) .nil rfl rfl, ⟨⟨by simp only; omega, ?_⟩, rfl⟩, by simp only; omega⟩
    · show IntKind.wrap .i64 (x + 1) = r.x.1 + ((k + 1 : Nat) : Int)
      rw [w64 (by omega) (by omega)]; omega
    · simp only
      rw [hm2, show r.x.1 + ((k + 1 : Nat) : Int) = x + 1 by omega]
      exact hc
  refine Tr.seqC rfl (by simp) (Steps.call rfl rfl (c_row01 hm (by omega)) (Steps.fin rfl (by simp) ?_))
  refine Tr.seqR rfl (by simp) (Tr.cond rfl rfl (fun h2 => ?_) (fun h2 => Tr.skip ?_))
  · have h2 : decide (lowY r x ≤ highY r x) = true := h2
    have h2 := of_decide_eq_true h2
    rw [if_pos h2] at hb2
    obtain ⟨p1, p2⟩ := row_plane hf (by omega) h2
    refine Tr.seq (Tr.reg (Steps.run rfl (by simp) (Steps.callA (F := []) hA rfl rfl rfl (c_add01 (a := b) p1) (.inl (by simp)) (Steps.fin rfl (by simp) ?_))))
    refine Tr.reg (Steps.run rfl (by simp) (Steps.callA (F := []) hA rfl rfl rfl (c_add01 (a := addS b (x, lowY r x)) p2) (.inl (by simp)) (Steps.fin rfl (by simp) ?_)))
    rw [← hb2]
    exact Wk.le (.cons rfl (.refl _) (.cons rfl (.refl _) (.cons rfl (.refl _) .nil))) (.cons rfl (LLe.refl _) .nil) .nil rfl rfl
  · have h2 : decide (lowY r x ≤ highY r x) = false := h2
    have h2 := of_decide_eq_false h2
    rw [if_neg h2] at hb2
    rw [← hb2]
    exact Wk.le (.cons rfl (.refl _) (.cons rfl (.refl _) (.cons rfl (.refl _) .nil))) (.cons rfl (LLe.refl _) .nil) .nil rfl rfl

def f0 : Fr := ⟨(0, 0), (0, 0), (0, 0), (0, 0)⟩
def hull01 (r : Fr) : Fr × Bool := fillS r (r.x.2 + 1 - r.x.1).toNat r.x.1 (f0, false)

theorem c_hulls01 {r : Fr} (hf : fitFB r = true) (his : (hull01 r).2 = true) : C Tryz.prog F.ref01_hulls [.slice 0 8 [.agg (fourC r)]] (.tuple [.agg (fourC (hull01 r).1), I 0]) := by
  refine C_of mixed chk.ref01_hulls (by simp) fun S ok => ?_
  refine Tr.seqR rfl (by simp) ?_
  refine Tr.arena rfl rfl ?_
  have hA := InA.main (E := env0 Tryz.prog mixed 30 S ok) [] false
  refine Tr.seq (Tr.reg (Steps.runN 1 rfl (by simp) (Steps.abox hA rfl rfl rfl rfl fun b nb => Steps.fin rfl (by simp) ?_)))
  refine Tr.seq (Tr.seqR rfl (by simp) (Tr.block ?_))
  refine Tr.rounds 2 (TrN.succ ?_)
  refine Tr.seq (Tr.seqR rfl (by simp) (Tr.condT rfl (Tr.skip ?_)))
  refine Tr.seq (Tr.block (Tr.reg (Steps.run rfl (by simp) ?_)))
  refine Steps.callA (F := []) hA rfl rfl rfl (c_fill01 hf (a := (f0, false)) (blk := b)) (.inl (by simp)) (Steps.fin rfl (by simp) ?_)
  refine Tr.regR rfl (by simp) (TrN.succ ?_)
  refine Tr.seq (Tr.seqR rfl (by simp) (Tr.condF rfl (Tr.exit ?_)))
  have e : fillS r (r.x.2 + 1 - r.x.1).toNat r.x.1 (f0, false) = hull01 r := rfl
  rw [e]
  obtain ⟨a, ha⟩ : ∃ a, hull01 r = a := ⟨_, rfl⟩
  rw [ha] at his ⊢
  have hmem : (b, Ob.cells (hullC a)) ∈ huA b a := List.mem_singleton.2 rfl
  refine Tr.seq (Tr.seq (Tr.reg (Steps.ldF (A := huA b a) hA (off := 8) rfl rfl hmem rfl trivial rfl (Steps.fin rfl (by simp) ?_))))
  refine Tr.condF ?_ (Tr.skip ?_)
  · show some (V.bool (!a.2)) = _
    rw [his]; rfl
  refine Tr.seq (Tr.reg (Steps.runN 1 rfl (by simp) (Steps.rnil rfl (Steps.rfaddr rfl (Steps.aloadT (A := huA b a) hA rfl rfl hmem (by simp [hullC]) (Steps.fin rfl (by simp [hullC]) ?_))))))
  exact Tr.retX rfl rfl rfl rfl trivial

theorem c_Tight01 {r : Fr} (hf : fitFB r = true) (his : (hull01 r).2 = true) : C Tryz.prog F.ref01_Tight [.agg (fourC r)] (.tuple [.agg (fourC (hull01 r).1), I 0]) := by
  have kc := c_Check01 r
  rw [if_pos hf] at kc
  refine C_of mixed chk.ref01_Tight (by simp) fun S ok => ?_
  refine Tr.seqR rfl (by simp) ?_
  refine Tr.seq (Tr.seqC rfl (by simp) (Steps.call rfl rfl kc (Steps.fin rfl (by simp) (Tr.seqR rfl (by simp) (Tr.condF rfl (Tr.skip ?_))))))
  exact Tr.seqC rfl (by simp) (Steps.call rfl rfl (c_hulls01 hf his) (Steps.fin rfl (by simp) (Tr.retX rfl rfl rfl rfl trivial)))

/-! ### A point in a region -/
def liesB (t : Fr) (p : Int × Int) : Bool := btw p.1 t.x.1 t.x.2 && btw p.2 t.y.1 t.y.2 && btw (p.1 + p.2) t.s.1 t.s.2 && btw (p.1 - p.2) t.d.1 t.d.2

theorem c_lies01 (t : Fr) {p : Int × Int} (hp : planeB p = true) : C Tryz.prog F.ref01_lies [.agg (fourC t), eB p] (.bool (liesB t p)) := by
  have hp' := planeB_spec hp
  have w1 : IntKind.wrap .i64 (p.1 + p.2) = p.1 + p.2 := w64 (by omega) (by omega)
  have w2 : IntKind.wrap .i64 (p.1 - p.2) = p.1 - p.2 := w64 (by omega) (by omega)
  have k3 := c_between (p.1 + p.2) t.s.1 t.s.2
  have k4 := c_between (p.1 - p.2) t.d.1 t.d.2
  rw [← w1] at k3
  rw [← w2] at k4
  refine C_of mixed chk.ref01_lies (by simp) fun S ok => ?_
  refine Tr.seqR rfl (by simp) ?_
  refine Tr.seqC rfl (by simp) (Steps.call rfl rfl (c_between p.1 t.x.1 t.x.2) (Steps.run rfl (by simp) ?_))
  refine Steps.gcall rfl rfl rfl rfl (by simp) (fun _ => c_between p.2 t.y.1 t.y.2) (Steps.run rfl (by simp) ?_)
  refine Steps.gcall rfl rfl rfl rfl (by simp) (fun _ => k3) (Steps.run rfl (by simp) ?_)
  refine Steps.gcall rfl rfl rfl rfl (by simp) (fun _ => k4) (Steps.fin rfl (by simp) (Tr.retX rfl rfl rfl ?_ trivial))
  rw [w1, w2]
  show V.bool (liesB t p) = V.bool (bif (bif (bif btw p.1 t.x.1 t.x.2 then btw p.2 t.y.1 t.y.2 else false) then btw (p.1 + p.2) t.s.1 t.s.2 else false) then btw (p.1 - p.2) t.d.1 t.d.2 else false)
  unfold liesB
  cases btw p.1 t.x.1 t.x.2 <;> cases btw p.2 t.y.1 t.y.2 <;> cases btw (p.1 + p.2) t.s.1 t.s.2 <;> rfl

theorem c_Has01 {t : Fr} (hf : fitFB t = true) {p : Int × Int} (hp : planeB p = true) : C Tryz.prog F.ref01_Has [.agg (fourC t), eB p] (.tuple [.bool (liesB t p), I 0]) := by
  have kc := c_Check01 t
  rw [if_pos hf] at kc
  have kp := c_place01 p
  rw [hp] at kp
  refine C_of mixed chk.ref01_Has (by simp) fun S ok => ?_
  refine Tr.seqR rfl (by simp) ?_
  refine Tr.seq (Tr.seqC rfl (by simp) (Steps.call rfl rfl kc (Steps.fin rfl (by simp) (Tr.seqR rfl (by simp) (Tr.condF rfl (Tr.skip ?_))))))
  refine Tr.seq (Tr.seqC rfl (by simp) (Steps.call rfl rfl kp (Steps.fin rfl (by simp) (Tr.condF rfl (Tr.skip ?_)))))
  exact Tr.seqC rfl (by simp) (Steps.call rfl rfl (c_lies01 t hp) (Steps.fin rfl (by simp) (Tr.retX rfl rfl rfl rfl trivial)))

end Go.Proofs.YtdejdblopmfjfaaGreatDoor


/-! The chapter's examples come out as it says. -/
set_option linter.unusedVariables false
set_option linter.unusedSimpArgs false
set_option maxRecDepth 40000
set_option maxHeartbeats 4000000
namespace Go.Proofs.YtdejdblopmfjfaaGreatDoor
open Go.Am
attribute [local simp] cells scalar mkv splice under2 under dem dem1 eB gridC sB fourC eF layC eQ nfC intsV foldV eL sL eC cutsV
theorem ex1 : (if gridOk exG then (if planeB (1, 1) && planeB (9, 3) then .tuple [eB (cellN exG (1, 1) (9, 3)), I 0] else .tuple [.agg [I 0, I 0], I 10]) else .tuple [.agg [I 0, I 0], I 70] : V) = .tuple [eB (5, 1), I 0] := by kernel_rfl
theorem ex2 : HitsR exG exY 2 = .tuple [sB [(-1, -1), (5, 0)], I 0] := by kernel_rfl
theorem ex3 : FoldR exG exY = .tuple [foldV [[0, 0], [0, 0], [0, 0], [0, 0], [1, 0], [0, 1]], foldV [[0, 0], [0, 0], [0, 0], [0, 0], [1, 0], [1, 1]], I 0] := by kernel_rfl
theorem ex4 : MapR exG [[0, 0], [0, 0], [0, 0], [0, 0], [1, 0], [0, 1]] 0 = .tuple [.str ⟨#[46, 49, 46, 10, 46, 46, 46, 10]⟩, I 0] := by kernel_rfl
theorem ex5 : LacksR exG exY [0, 2] = .tuple [sL [(0, 1, 2), (1, 1, 2), (2, 1, 2), (3, 1, 2), (4, 1, 2), (5, 1, 1)], I 0] := by kernel_rfl
theorem ex6 : GainR exG exY 2 = .tuple [I 0, I 0] := by kernel_rfl
theorem ex7 : BestR exN = .tuple [intsV [3], I 6, I 0] := by kernel_rfl
theorem ex8 : WithoutR exN 3 = .tuple [I 1, I 0] := by kernel_rfl
theorem ex9 : BoundR exN [⟨-1, [2, 2]⟩] = .tuple [I 6, I 0] := by kernel_rfl

theorem exG_l : exG.cls.length ≤ 9223372036854775807 := by decide
theorem exY_n : exY.nodes.length ≤ 9223372036854775807 := by decide
theorem exY_t : exY.traces.length ≤ 9223372036854775807 := by decide
theorem exN_a : ∀ p ∈ exN.passes, p.adds.length ≤ 9223372036854775807 := by decide
theorem exF_r : ∀ r ∈ ([[0, 0], [0, 0], [0, 0], [0, 0], [1, 0], [0, 1]] : List (List Int)), r.length ≤ 9223372036854775807 := by decide
theorem exF2_r : ∀ r ∈ ([[0, 0], [0, 0], [0, 0], [0, 0], [1, 0], [1, 1]] : List (List Int)), r.length ≤ 9223372036854775807 := by decide

/-- **THE CHAPTER's EXAMPLES** come out as it says. -/
theorem c_works : C Tryz.prog F.law07_works [] (.bool true) := by
  refine C_of mixed chk.law07_works (by simp) fun S ok => ?_
  refine Tr.seqR rfl (by simp) ?_
  refine Tr.seqC rfl (by simp) (Steps.call rfl rfl c_grid (Steps.run rfl (by simp) ?_))
  refine Steps.call rfl rfl (ex1 ▸ c_Cell exG_l (1, 1) (9, 3)) (Steps.fin rfl (by simp) ?_)
  refine Tr.seqC rfl (by simp) (Steps.call rfl rfl c_grid (Steps.run rfl (by simp) ?_))
  refine Steps.call rfl rfl c_lines (Steps.run rfl (by simp) ?_)
  refine Steps.call rfl rfl (ex2 ▸ c_Hits exG_l exY_n exY_t 2) (Steps.fin rfl (by simp) ?_)
  refine Tr.seqC rfl (by simp) (Steps.call rfl rfl c_grid (Steps.run rfl (by simp) ?_))
  refine Steps.call rfl rfl c_lines (Steps.run rfl (by simp) ?_)
  refine Steps.call rfl rfl (ex3 ▸ c_Fold exG_l exY_n exY_t) (Steps.fin rfl (by simp) ?_)
  refine Tr.seq (Tr.seq (Tr.reg (Steps.runG rfl (by simp) ?_)))
  refine Steps.on rfl rfl (Steps.call rfl rfl (c_cells [(-1, -1), (5, 0)] [(-1, -1), (5, 0)] (by decide)) (Steps.runG rfl (by simp) ?_))
  refine Steps.on rfl rfl (Steps.call rfl rfl (c_AlikeLists [[0, 0], [0, 0], [0, 0], [0, 0], [1, 0], [0, 1]] [[0, 0], [0, 0], [0, 0], [0, 0], [1, 0], [0, 1]] (by decide) exF_r) (Steps.runG rfl (by simp) ?_))
  refine Steps.on rfl rfl (Steps.call rfl rfl (c_AlikeLists [[0, 0], [0, 0], [0, 0], [0, 0], [1, 0], [1, 1]] [[0, 0], [0, 0], [0, 0], [0, 0], [1, 0], [1, 1]] (by decide) exF2_r) (Steps.runG rfl (by simp) ?_))
  refine Tr.condF (by kernel_rfl) (Tr.skip ?_)
  refine Tr.seqC rfl (by simp) (Steps.call rfl rfl c_grid (Steps.run rfl (by simp) ?_))
  refine Steps.call rfl rfl (ex4 ▸ c_Map exG_l exF_r (by decide) 0) (Steps.fin rfl (by simp) ?_)
  refine Tr.seqC rfl (by simp) (Steps.call rfl rfl c_grid (Steps.run rfl (by simp) ?_))
  refine Steps.call rfl rfl c_lines (Steps.run rfl (by simp) ?_)
  refine Steps.call rfl rfl (ex5 ▸ c_Lacks exG_l exY_n exY_t (ns := [0, 2]) (by decide)) (Steps.fin rfl (by simp) ?_)
  refine Tr.seqC rfl (by simp) (Steps.call rfl rfl c_grid (Steps.run rfl (by simp) ?_))
  refine Steps.call rfl rfl c_lines (Steps.run rfl (by simp) ?_)
  refine Steps.call rfl rfl (ex6 ▸ c_Gain exG_l exY_n exY_t 2) (Steps.fin rfl (by simp) ?_)
  refine Tr.seqC rfl (by simp) (Steps.call rfl rfl c_gaps (Steps.run rfl (by simp) ?_))
  refine Steps.call rfl rfl (ex7 ▸ c_Best exN_a) (Steps.fin rfl (by simp) ?_)
  refine Tr.seqC rfl (by simp) (Steps.call rfl rfl c_gaps (Steps.run rfl (by simp) ?_))
  refine Steps.call rfl rfl (ex8 ▸ c_Without exN_a 3) (Steps.fin rfl (by simp) ?_)
  refine Tr.seqC rfl (by simp) (Steps.call rfl rfl c_gaps (Steps.run rfl (by simp) ?_))
  refine Steps.call rfl rfl (ex9 ▸ c_Bound exN_a (pf := [⟨-1, [2, 2]⟩]) (by decide)) (Steps.fin rfl (by simp) ?_)
  refine Tr.seq (Tr.reg (Steps.runGN 24 rfl (by simp) ?_))
  refine Steps.on rfl rfl (Steps.strEq rfl (Steps.runG rfl (by simp) ?_))
  refine Steps.on rfl rfl (Steps.call rfl rfl (c_Alike [3] [3] (by decide)) (Steps.runG rfl (by simp) ?_))
  exact Tr.retX rfl rfl rfl (by kernel_rfl) trivial

end Go.Proofs.YtdejdblopmfjfaaGreatDoor


/-! Weakening inside a region. -/
set_option linter.unusedVariables false
set_option linter.unusedSimpArgs false
namespace Go.Proofs.YtdejdblopmfjfaaGreatDoor
open Go.Am

theorem stepsWeak {E : Env} {s s' : St} {i : Ins} {r : List Ins} {K : St → Prop} (h : Wk E s s') (k : Am.Steps E (i :: r) K s') : Am.Steps E (i :: r) K s := by
  refine Step1.raw fun slots ops o j ro n a w hh hc hs hi R Q next hn => ?_
  obtain ⟨h', R', hy⟩ := h a w hh R
  exact step_ok (k : Step1 E i (Am.Steps E r K) s') hc hs hi R' fun s'' a' w' h'' k R ey => hn s'' a' w' h'' k R (ey.trans hy)

theorem VLe.agg2 {a b c d : V} (h : VLe a c) (k : VLe b d) : VLe (.agg [a, b]) (.agg [c, d]) := .agg rfl fun i v u h1 h2 => by
  match i with
  | 0 => cases h1; cases h2; exact h
  | 1 => cases h1; cases h2; exact k
  | i + 2 => simp at h1

end Go.Proofs.YtdejdblopmfjfaaGreatDoor


/-! Contracts: what a number leaves. -/
set_option linter.unusedVariables false
set_option linter.unusedSimpArgs false
set_option maxRecDepth 40000
set_option maxHeartbeats 4000000
namespace Go.Proofs.YtdejdblopmfjfaaGreatDoor
open Go.Am
attribute [local simp] cells scalar mkv splice under2 under dem dem1 eB intsV
def restI (n m : Int) : Int := if m < 1 then 0 else n % m

theorem rest_tmod {n m : Int} (hm : 1 ≤ m) : (n.tmod m < 0 → n.tmod m + m = n % m) ∧ (¬ n.tmod m < 0 → n.tmod m = n % m) := by
  have h1 := Int.emod_nonneg n (show m ≠ 0 by omega)
  have h2 := Int.emod_lt_of_pos n (show 0 < m by omega)
  have h3 := Int.tmod_eq_emod (a := n) (b := m)
  split at h3
  · omega
  · have : (m.natAbs : Int) = m := by omega
    omega

theorem restI_bd {n m : Int} (hm : 1 ≤ m) : 0 ≤ restI n m ∧ restI n m < m := by
  unfold restI
  rw [if_neg (by omega)]
  exact ⟨Int.emod_nonneg n (by omega), Int.emod_lt_of_pos n (by omega)⟩

theorem c_Rest (n m : Int) (hm : m ≤ 9223372036854775807) : C Tryz.prog F.ref00_Rest [I n, I m] (I (restI n m)) := by
  refine C_of mixed chk.ref00_Rest (by simp) fun S ok => ?_
  refine Tr.seqR rfl (by simp) (Tr.seq (Tr.seqR rfl (by simp) (Tr.cond rfl rfl (fun h1 => Tr.seqR rfl (by simp) (Tr.retX rfl rfl rfl ?_ trivial)) (fun h1 => Tr.skip ?_))))
  · have h1 : m < 1 := by simpa using h1
    simp [packR, restI, h1]
  have h1 : ¬ m < 1 := by simpa using h1
  have hr := restI_bd (n := n) (m := m) (by omega)
  obtain ⟨k1, k2⟩ := rest_tmod (n := n) (m := m) (by omega)
  have e : restI n m = n % m := by unfold restI; rw [if_neg h1]
  refine Tr.seqR rfl (by simp; omega) (Tr.seq (Tr.seqR rfl (by simp) (Tr.cond rfl rfl (fun h2 => Tr.regR rfl (by simp) ?_) (fun h2 => Tr.skip ?_))))
  · have h2 : n.tmod m < 0 := by simpa using h2
    refine Tr.seqR rfl (by simp) (Tr.retX rfl rfl rfl ?_ trivial)
    show I (restI n m) = I (IntKind.i64.wrap (n.tmod m + m))
    rw [e, k1 h2, w64 (by omega) (by omega)]
  · have h2 : ¬ n.tmod m < 0 := by simpa using h2
    refine Tr.seqR rfl (by simp) (Tr.retX rfl rfl rfl ?_ trivial)
    show I (restI n m) = I (n.tmod m)
    rw [e, k2 h2]

end Go.Proofs.YtdejdblopmfjfaaGreatDoor


/-! Contracts: Tight, Pick, chosen; a place that numbers choose lies in its region. -/
set_option linter.unusedVariables false
set_option linter.unusedSimpArgs false
set_option maxRecDepth 40000
set_option maxHeartbeats 4000000
namespace Go.Proofs.YtdejdblopmfjfaaGreatDoor
open Go.Am
attribute [local simp] cells scalar mkv splice under2 under dem dem1 eB fourC intsV
/-! ### The hull of points of the plane -/
structure HullOk (T : Fr) (l : List (Int × Int)) : Prop where
  i : ∀ p ∈ l, (T.x.1 ≤ p.1 ∧ p.1 ≤ T.x.2) ∧ (T.y.1 ≤ p.2 ∧ p.2 ≤ T.y.2) ∧ (T.s.1 ≤ p.1 + p.2 ∧ p.1 + p.2 ≤ T.s.2) ∧ T.d.1 ≤ p.1 - p.2 ∧ p.1 - p.2 ≤ T.d.2
  a1 : ∃ p ∈ l, p.1 = T.x.1
  a2 : ∃ p ∈ l, p.1 = T.x.2
  b1 : ∃ p ∈ l, p.2 = T.y.1
  b2 : ∃ p ∈ l, p.2 = T.y.2
  c1 : ∃ p ∈ l, p.1 + p.2 = T.s.1
  c2 : ∃ p ∈ l, p.1 + p.2 = T.s.2
  d1 : ∃ p ∈ l, p.1 - p.2 = T.d.1
  d2 : ∃ p ∈ l, p.1 - p.2 = T.d.2

theorem ofF_pl {p : Int × Int} (h : planeB p = true) : ofF p = ⟨(p.1, p.1), (p.2, p.2), (p.1 + p.2, p.1 + p.2), (p.1 - p.2, p.1 - p.2)⟩ := by
  simp only [planeB, Bool.and_eq_true, btw_iff] at h
  unfold ofF w
  rw [w64 (n := p.1 + p.2) (by omega) (by omega), w64 (n := p.1 - p.2) (by omega) (by omega)]

theorem attain {l : List (Int × Int)} {f : Int × Int → Int} {m : Int} {p : Int × Int} (h : ∃ q ∈ l, f q = m) : (∃ q ∈ l ++ [p], f q = min m (f p)) ∧ ∃ q ∈ l ++ [p], f q = max m (f p) := by
  obtain ⟨q, hq, rfl⟩ := h
  constructor
  · by_cases h : f q ≤ f p
    · exact ⟨q, by simp [hq], by omega⟩
    · exact ⟨p, by simp, by omega⟩
  · by_cases h : f q ≤ f p
    · exact ⟨p, by simp, by omega⟩
    · exact ⟨q, by simp [hq], by omega⟩

theorem hull_one {p : Int × Int} (hp : planeB p = true) : hullS [p] = (⟨(p.1, p.1), (p.2, p.2), (p.1 + p.2, p.1 + p.2), (p.1 - p.2, p.1 - p.2)⟩, true) := by
  simp [hullS, hstep, comb, spanB, ofF_pl hp]

theorem hull_ok : ∀ (n : Nat) (l : List (Int × Int)), l.length = n + 1 → (∀ p ∈ l, planeB p = true) → (hullS l).2 = true ∧ HullOk (hullS l).1 l
  | 0, l, hl, hp => by
    match l, hl with
    | [p], _ =>
      rw [hull_one (hp p (by simp))]
      refine ⟨rfl, ⟨?_, ?_, ?_, ?_, ?_, ?_, ?_, ?_, ?_⟩⟩
      · intro q hq
        rw [List.mem_singleton.1 hq]; simp
      all_goals exact ⟨p, by simp, rfl⟩
  | n + 1, l, hl, hp => by
    have hne : l ≠ [] := fun e => by rw [e] at hl; simp at hl
    obtain ⟨m, p, rfl⟩ : ∃ m p, l = m ++ [p] := ⟨l.dropLast, l.getLast hne, (List.dropLast_concat_getLast hne).symm⟩
    obtain ⟨h2, ih⟩ := hull_ok n m (by simpa using hl) fun q hq => hp q (by simp [hq])
    have e : hullS (m ++ [p]) = hstep (hullS m) p := by unfold hullS; rw [List.foldl_append]; rfl
    rw [e]
    obtain ⟨⟨T, b⟩, hT⟩ : ∃ T, hullS m = T := ⟨_, rfl⟩
    rw [hT] at h2 ih ⊢
    simp only at h2 ih
    subst h2
    refine ⟨rfl, ?_⟩
    have eT : (hstep (T, true) p).1 = ⟨(min T.x.1 p.1, max T.x.2 p.1), (min T.y.1 p.2, max T.y.2 p.2), (min T.s.1 (p.1 + p.2), max T.s.2 (p.1 + p.2)), (min T.d.1 (p.1 - p.2), max T.d.2 (p.1 - p.2))⟩ := by
      simp [hstep, comb, spanB, ofF_pl (hp p (by simp))]
    rw [eT]
    refine ⟨?_, (attain (f := fun q => q.1) ih.a1).1, (attain (f := fun q => q.1) ih.a2).2, (attain (f := fun q => q.2) ih.b1).1, (attain (f := fun q => q.2) ih.b2).2, (attain (f := fun q => q.1 + q.2) ih.c1).1, (attain (f := fun q => q.1 + q.2) ih.c2).2, (attain (f := fun q => q.1 - q.2) ih.d1).1, (attain (f := fun q => q.1 - q.2) ih.d2).2⟩
    intro q hq
    simp only
    rcases List.mem_append.1 hq with hq | hq
    · have := ih.i q hq
      omega
    · rw [List.mem_singleton.1 hq]
      omega

theorem rows_mem {f : Fr} {r : Int × Int × Int} : ∀ (n : Nat) (x : Int), r ∈ rowsN f n x → (x ≤ r.1 ∧ r.1 < x + n) ∧ r.2.1 = lowY f r.1 ∧ r.2.2 = highY f r.1 ∧ r.2.1 ≤ r.2.2
  | 0, x, h => by cases h
  | n + 1, x, h => by
    simp only [rowsN] at h
    split at h
    · rename_i h1
      rcases List.mem_cons.1 h with rfl | h
      · exact ⟨⟨by simp, by simp; omega⟩, rfl, rfl, h1⟩
      · have := rows_mem n (x + 1) h
        exact ⟨⟨by omega, by push_cast; omega⟩, this.2⟩
    · have := rows_mem n (x + 1) h
      exact ⟨⟨by omega, by push_cast; omega⟩, this.2⟩

theorem ends_places {f : Fr} {p : Int × Int} (hp : p ∈ endsL f) : p ∈ placesL f := by
  unfold endsL at hp
  obtain ⟨r, hr, hp⟩ := List.mem_flatMap.1 hp
  obtain ⟨h1, h2, h3, h4⟩ := rows_mem _ _ hr
  rw [mem_placesL]
  unfold endsR at hp
  split at hp
  · rw [List.mem_singleton.1 hp]
    exact ⟨⟨by simp only; omega, by simp only; omega⟩, by simp only; omega, by simp only; omega⟩
  · rcases List.mem_cons.1 hp with rfl | hp
    · exact ⟨⟨by simp only; omega, by simp only; omega⟩, by simp only; omega, by simp only; omega⟩
    · rw [List.mem_singleton.1 hp]
      exact ⟨⟨by simp only; omega, by simp only; omega⟩, by simp only; omega, by simp only; omega⟩

def tightF (f : Fr) : Fr := (hullS (endsL f)).1

theorem tight_ok {f : Fr} (h : nodeOk f = true) : (hullS (endsL f)).2 = true ∧ HullOk (tightF f) (endsL f) := by
  have hn2 := h
  simp only [nodeOk, Bool.and_eq_true, btw_iff] at hn2
  have hc := count_len (mid_of hn2.1)
  have hne : endsL f ≠ [] := by
    intro e
    have hr : rowsL f = [] := by
      unfold endsL at e
      cases h4 : rowsL f with
      | nil => rfl
      | cons r l =>
        rw [h4, List.flatMap_cons] at e
        have := (List.append_eq_nil_iff.1 e).1
        unfold endsR at this
        split at this <;> cases this
    have : placesL f = [] := by unfold placesL; rw [hr]; rfl
    rw [this] at hc
    simp at hc; omega
  exact hull_ok ((endsL f).length - 1) _ (by have := List.length_pos_iff.2 hne; omega) fun p hp => node_plane h (ends_places hp)

theorem c_Tight {f : Fr} (h : nodeOk f = true) : C Tryz.prog F.region_Tight [.agg (fourC f)] (.tuple [.agg (fourC (tightF f)), I 0]) := by
  have hn2 := h
  simp only [nodeOk, Bool.and_eq_true, btw_iff] at hn2
  have kc := c_CheckF f
  rw [if_pos hn2.1] at kc
  refine C_of mixed chk.region_Tight (by simp) fun S ok => ?_
  refine Tr.seqR rfl (by simp) (Tr.seq (Tr.seqC rfl (by simp) (Steps.call rfl rfl kc (Steps.fin rfl (by simp) (Tr.seqR rfl (by simp) (Tr.condF rfl (Tr.skip ?_)))))))
  refine Tr.seqC rfl (by simp) (Steps.call rfl rfl (c_bounds f) (Steps.call rfl rfl (c_tight (mid_of hn2.1) (tight_ok h).1) (Steps.run rfl (by simp) ?_)))
  exact Steps.call rfl rfl (c_done (tightF f)) (Steps.fin rfl (by simp) (Tr.retX rfl rfl rfl rfl trivial))

end Go.Proofs.YtdejdblopmfjfaaGreatDoor

