/-
  Parts of the proof, 4: the abstract machine, the compiled code, contracts of the functions, plain laws.
-/
import Derived.Test.YtdejdblopmfjfaaGreatDoorZ3
import Derived.Laws.Concat


/-! AM, part Zp: slices that are made in an arena; their elements; rows of rows that become data. -/
set_option linter.unusedVariables false
set_option linter.unusedSimpArgs false
namespace Go.Am
open Go.RowKit

theorem opK_mkbox {P : Program} {o : Oper} {os : List Operand} {sz bytes : Nat} {zs : List V} (hk : opK P o.op = some (.mkbox sz bytes zs, os)) : ∃ t p q e ie z, o.op = .makeSlice t p q ∧ P.underlying t = some (.slice e) ∧ P.info? e = some ie ∧ ie.zero = some z ∧ z.cells.size = ie.size ∧ ofScs z.cells.toList = some zs ∧ ie.size = sz ∧ ie.bytes = bytes ∧ os = [p, q] := by
  cases ho : o.op <;> rw [ho] at hk <;> simp only [opK] at hk <;> (try (cases hk; done)) <;> (try (repeat' (split at hk <;> (try (cases hk; done)))))
  all_goals first
    | (simp only [Option.map_eq_some_iff, Prod.mk.injEq, K.mkbox.injEq] at hk
       obtain ⟨zs', hof, ⟨rfl, rfl, rfl⟩, rfl⟩ := hk
       exact ⟨_, _, _, _, _, _, rfl, by assumption, by assumption, by assumption, beq_iff_eq.1 (by assumption), hof, rfl, rfl, rfl⟩)
    | (simp only [Option.map_eq_some_iff, Prod.mk.injEq] at hk; obtain ⟨_, _, h1, _⟩ := hk; cases h1; done)
    | (simp only [eqKind] at hk; repeat' (split at hk <;> (try (cases hk; done))))

theorem opK_iaddrS {P : Program} {o : Oper} {os : List Operand} {sz : Nat} (hk : opK P o.op = some (.iaddrS sz, os)) : ∃ t p q e, o.op = .indexAddr t p q ∧ P.underlying t = some (.slice e) ∧ szOf P e = some sz ∧ os = [p, q] := by
  cases ho : o.op <;> rw [ho] at hk <;> simp only [opK] at hk <;> (try (cases hk; done)) <;> (try (repeat' (split at hk <;> (try (cases hk; done)))))
  all_goals first
    | (simp only [Option.map_eq_some_iff, Prod.mk.injEq, K.iaddrS.injEq] at hk
       obtain ⟨m, hm, rfl, rfl⟩ := hk
       exact ⟨_, _, _, _, rfl, by assumption, hm, rfl⟩)
    | (simp only [Option.map_eq_some_iff, Prod.mk.injEq] at hk; obtain ⟨_, _, h1, _⟩ := hk; cases h1; done)
    | (simp only [eqKind] at hk; repeat' (split at hk <;> (try (cases hk; done))))

section
variable {E : Env} {S0 : Sur} {l0 : List (List V)} {s0 : Bool} {A : Arena}

/-- A slice is made in the arena. -/
theorem Steps.amkbox (hE : InA E S0 l0 s0) {K : St → Prop} {s : St} {d N : Nat} {k1 k2 : IntKind} {n1 n2 : Int} {x y : X} {sz bytes : Nat} {zs : List V} {rest : List Ins} (hx : evXs s.env [x, y] = some [.int k1 n1, .int k2 n2]) (e1 : n1 = (N : Int)) (e2 : n2 = (N : Int)) (hN : N ≤ 1000000) (hb : bytes ≤ 1000000) (hs : N * sz ≤ 1000000) (hl : s.log = encA A)
    (hk : ∀ b, b ∉ A.map (·.1) → Steps E rest K { s.put (some d) (.sref b 0 N N) with log := encA ((b, .cells (List.replicate N zs).flatten) :: A) }) : Steps E (⟨some d, .mkbox sz bytes zs, [x, y], none⟩ :: rest) K s := by
  subst e1 e2
  refine Step1.raw fun slots ops o i ro n a w h hc hsl hi R Q next hn => ?_
  obtain ⟨os, cc⟩ := comp_of hc
  obtain ⟨t, p, q, e, ie, z, ho, ht, hie, hz, hzs, hof, rfl, rfl, rfl⟩ := opK_mkbox cc.op
  obtain ⟨u, v, huv, hu, hv'⟩ := (opds_of R.1 cc.xs (evXs_ok hx)).two
  cases huv
  have R' : E.relF (encA A) s.stp s.fs a w h := by rw [← hl]; exact R
  have hbb : (ie.bytes : Int) * (N : Int) ≤ 281474976710656 := by
    have : ie.bytes * N ≤ 1000000 * 1000000 := Nat.mul_le_mul hb hN
    have h2 : ((ie.bytes * N : Nat) : Int) ≤ 281474976710656 := by omega
    push_cast at h2; exact h2
  have hr := run_make (P := E.P) w t e ie z ht hie hz k1 k2 N N (by omega) (Int.le_refl _) hbb (by omega)
  simp only [Int.toNat_natCast] at hr
  obtain ⟨R2, hnm⟩ := hE.fresh R' (.cells (madeCells z.cells (N * ie.size)) e) (.cells (List.replicate N zs).flatten) (fun ext => by
    obtain ⟨g1, g2⟩ := ofScs_rep (w := w.alloc (.cells (madeCells z.cells (N * ie.size)) e)) (φ := h.φ) hof
    have hcl : zs.length = z.cells.size := by rw [g1]; simp
    refine ⟨_, e, heap_alloc_new w _, by rw [size_madeCells]; simp [hcl, hzs], fun j v x hv hx => ?_⟩
    rw [rep_flat] at hv
    split at hv
    · rename_i hj
      have hx' : x = z.cells[j % z.cells.size]! := by
        have hj' : j < N * ie.size := by rw [← hzs, ← hcl]; exact hj
        unfold madeCells at hx
        simp [hj'] at hx
        exact hx.symm
      have hpos : 0 < zs.length := by
        rcases Nat.eq_zero_or_pos zs.length with h | h
        · rw [h] at hj; simp at hj
        · exact h
      have hjm : j % zs.length < zs.length := Nat.mod_lt _ hpos
      exact g2 (j % zs.length) v x hv (by
        rw [hcl, hx']
        have : j % z.cells.size < z.cells.size := by rw [← hcl]; exact hjm
        simp [this])
    · cases hv)
  refine wpOp_done hi (wanted_none (guard_none cc rfl)) (opK_defer cc.op) (.inl ?_) (hn _ _ _ h (hk _ hnm) (rel_putA cc R2 (.data (.sref _ _ _ _)) rfl) rfl)
  simp [execOp, ho, ok_int hu, ok_int hv', hr]

end

/-- An element of a slice that is known exactly. -/
theorem does_sidx {E : Env} {σ : FSt} {d blk off n cap sz : Nat} {k : IntKind} {i : Int} {j : Nat} {x y : X} (hx : [x, y].mapM (evX σ) = some [.sref blk off n cap, .int k i]) (hi : i = (j : Int)) (hj : j < n) : Does E σ ⟨some d, .iaddrS sz, [x, y], none⟩ { v := .rptr blk (off + j * sz) } (xslots [x, y]) := by
  subst hi
  refine .ext rfl hx fun o os log stp σ' a w h ho R hO => ?_
  obtain ⟨t, p, q, e, e1, e2, e3, rfl⟩ := opK_iaddrS ho
  obtain ⟨u, v, huv, hu, hv'⟩ := hO.two
  cases huv
  refine ⟨.pointer (some ⟨blk, off + j * sz, none⟩), ?_, .data (.rptr _ _), GrowV.of_data (w0 := w) (φ0 := h.φ) (.rptr _ _)⟩
  have h1 : (j : Int) < (n : Int) := by omega
  simp only [execOp, e1, ok_sref hu, ok_int hv']
  simp [Instr.indexAt, asIntOf, run_underlying e2, run_szOf e3, h1, hj, Addr.add_lit]

theorem Steps.sidx {E : Env} {s : St} {K : St → Prop} {d blk off n cap sz : Nat} {k : IntKind} {i : Int} {j : Nat} {x y : X} {rest : List Ins} (hx : evXs s.env [x, y] = some [.sref blk off n cap, .int k i]) (hi : i = (j : Int)) (hj : j < n) (hk : Steps E rest K (s.put (some d) (.rptr blk (off + j * sz)))) : Steps E (⟨some d, .iaddrS sz, [x, y], none⟩ :: rest) K s :=
  Step1.does (ins := ⟨some d, .iaddrS sz, [x, y], none⟩) (does_sidx (evXs_ok hx) hi hj) hk

theorem TraceK.sidx {E : Env} {s : St} {K : List (List Loc × List Loc) → St → List Ins → Prop} {d blk off n cap sz : Nat} {k : IntKind} {i : Int} {j : Nat} {x y : X} {rest : List Ins} (hx : evXs s.env [x, y] = some [.sref blk off n cap, .int k i]) (hi : i = (j : Int)) (hj : j < n)
    (tr : TraceK E (s.put (some d) (.rptr blk (off + j * sz))) rest fun fp s' r' => K (([.slot d], xslots [x, y]) :: fp) s' r') : TraceK E s (⟨some d, .iaddrS sz, [x, y], none⟩ :: rest) K :=
  .step (ins := ⟨some d, .iaddrS sz, [x, y], none⟩) (eff := { v := .rptr blk (off + j * sz) }) (does_sidx (evXs_ok hx) hi hj) tr

section
variable {E : Env} {S0 : Sur} {l0 : List (List V)} {s0 : Bool} {A : Arena}

/-- A slice of an arena that lies in a slice of data becomes data. -/
theorem Wk.closeIn (hE : InA E S0 l0 s0) {s : St} {t r blk cap sz j : Nat} {cs xs ys : List V} (ht : get s.env t = some (.slice r 1 ys)) (hj : ys[j]? = some (.sref blk 0 xs.length cap)) (hl : s.log = encA A) (hA : (blk, Ob.cells cs) ∈ A) (h0 : 0 < sz) (hcap : xs.length ≤ cap) (hxs : ∀ x ∈ xs, (cells x).length = sz) (htk : cs.take (xs.length * sz) = xs.flatMap cells) (h1 : ∀ y ∈ ys, cells y = [y]) :
    Wk E s { s.put (some t) (.slice 0 1 (ys.set j (.slice 0 sz xs))) with log := encA (dropA A blk) } := by
  intro a w h R
  obtain ⟨q1, q2, q3⟩ := R.1.env t _ (by rw [fs_g]; exact ht)
  have R' : E.relF (encA A) s.stp s.fs a w h := by rw [← hl]; exact R
  have hAr := hE.ar R'
  obtain ⟨ext, R2⟩ := hE.close R' hA (xs.length * sz) (B := dropA A blk) (fun p hp => ⟨List.mem_map.2 ⟨p, (dropA_mem.1 hp).1, rfl⟩, (dropA_mem.1 hp).2⟩) (dropA_nd hAr.nd) (fun ext p hp => (hAr.ok p (dropA_mem.1 hp).1).mono rfl ext)
  have rd := close_rep (cap := cap) (hAr.ok _ hA) h0 hcap hxs htk ext
  have rs := ok_slice ⟨q2, q3⟩
  obtain ⟨x, hx⟩ : ∃ x, a.tmps.getD t undef = x := ⟨_, rfl⟩
  rw [hx] at rs
  have hjl : j < ys.length := (List.getElem?_eq_some_iff.1 hj).1
  have rd2 : RepD w (cut h.φ blk (xs.length * sz)) (.slice 0 1 (ys.set j (.slice 0 sz xs))) x := by
    have rs := rs.mono ext
    rcases slice_at rs with ⟨_, e0⟩ | ⟨yb, yo, ycap, cvy, rfl, hp, hcy, hys, ay⟩
    · rw [e0] at hjl; simp at hjl
    have hset : ∀ x ∈ ys.set j (.slice 0 sz xs), cells x = [x] := fun x hx => by
      rcases List.mem_or_eq_of_mem_set hx with hx | rfl
      · exact h1 x hx
      · rfl
    rw [flat_one h1] at ay
    refine .slice 1 _ yb yo ys.length ycap cvy (by omega) (by simp) hcy (fun x hx => by rw [hset x hx]; rfl) (fun k v hk => ?_) (fun k v hk => ?_)
    · rw [flat_one hset] at hk
      by_cases ek : k = j
      · subst ek
        rw [List.getElem?_set_self hjl] at hk
        cases hk
        obtain ⟨a1, a2, _, _⟩ := ay k _ hj
        exact ⟨a1, a2, rfl⟩
      · rw [List.getElem?_set_ne (fun h => ek h.symm)] at hk
        obtain ⟨a1, a2, _, a4⟩ := ay k _ hk
        exact ⟨a1, a2, a4⟩
    · rw [flat_one hset] at hk
      by_cases ek : k = j
      · subst ek
        rw [List.getElem?_set_self hjl] at hk
        cases hk
        obtain ⟨_, _, a3, _⟩ := ay k _ hj
        generalize hz : cvy k = z at a3
        cases a3
        exact rd
      · rw [List.getElem?_set_ne (fun h => ek h.symm)] at hk
        exact (ay k _ hk).2.2.1
  have R3 := R2.1.put (d := t) (v := .slice 0 1 (ys.set j (.slice 0 sz xs))) (x := a.tmps.getD t undef) q1 (by rw [hx]; exact .data rd2) (by rw [hx]; exact GrowV.of_data rd2)
  rw [put_self (by rw [R.1.size]; exact q1)] at R3
  refine ⟨_, ⟨?_, R2.2⟩, rfl⟩
  show Rel E.nt E.S _ s.stp (s.put (some t) (.slice 0 1 (ys.set j (.slice 0 sz xs)))).fs _ _ _
  rw [fs_put]
  exact R3

end
end Go.Am


/-! Contracts for the laws on bins: plain things. -/
set_option linter.unusedVariables false
set_option linter.unusedSimpArgs false
set_option maxRecDepth 20000
set_option maxHeartbeats 1000000
namespace Go.Proofs.YtdejdblopmfjfaaGreatDoor
open Go.Am

abbrev I (n : Int) : V := .int .i64 n

def btw (n lo hi : Int) : Bool := decide (n ≥ lo) && decide (n ≤ hi)

theorem w64 {n : Int} (h1 : -9223372036854775808 ≤ n) (h2 : n < 9223372036854775808) : IntKind.wrap .i64 n = n := by
  have e : ∀ m : Int, m = n % 18446744073709551616 → (if (true && decide (m ≥ 9223372036854775808)) = true then m - 18446744073709551616 else m) = n := by
    intro m hm
    by_cases h : m ≥ 9223372036854775808
    · simp only [h, decide_true, Bool.and_self, if_true]; omega
    · simp only [h, decide_false, Bool.and_false, Bool.false_eq_true, if_false]; omega
  exact e _ rfl

theorem VLe.i {k : IntKind} {a b : Int} (h : a = b) : VLe (.int k a) (.int k b) := h ▸ .refl _

abbrev w (n : Int) : Int := IntKind.wrap .i64 n

@[simp] theorem wr1 : IntKind.i64.wrap 1 = 1 := by decide
@[simp] theorem wr2 : IntKind.i64.wrap 2 = 2 := by decide
@[simp] theorem wr3 : IntKind.i64.wrap 3 = 3 := by decide

theorem btw_iff (n lo hi : Int) : btw n lo hi = true ↔ lo ≤ n ∧ n ≤ hi := by
  simp only [btw, Bool.and_eq_true, decide_eq_true_eq, ge_iff_le]

def eB (b : Int × Int) : V := .agg [I b.1, I b.2]
def sB (l : List (Int × Int)) : V := .slice 0 2 (l.map eB)
theorem getD_map {α : Type} {e : α → V} {l : List α} {k : Nat} (h : k < l.length) : (l.map e).getD (Int.toNat (k : Int)) nothing = e l[k] := by
  simp [h]

/-- The first index at which p holds. -/
def firstI {α : Type} (p : α → Bool) : List α → Nat → Int
  | [], _ => -1
  | x :: l, k => if p x then k else firstI p l (k + 1)

theorem firstI_nn {α : Type} (p : α → Bool) : ∀ (l : List α) (k : Nat), decide (firstI p l k ≥ 0) = l.any p
  | [], k => by simp [firstI]
  | x :: l, k => by
    simp only [firstI, List.any_cons]
    by_cases h : p x = true
    · simp [h]
    · simp only [h, if_false, Bool.false_eq_true]
      rw [firstI_nn p l (k + 1)]
      simp [h]

theorem firstI_drop {α : Type} (p : α → Bool) (l : List α) {k : Nat} (h : k < l.length) : firstI p (l.drop k) k = if p l[k] then (k : Int) else firstI p (l.drop (k + 1)) (k + 1) := by
  rw [List.drop_eq_getElem_cons h]; rfl

theorem ite_max (a b : Int) : (if b > a then b else a) = max a b := by split <;> omega
theorem ite_min (a b : Int) : (if b < a then b else a) = min a b := by split <;> omega

/-- Captured data that stand for themselves. -/
structure Plain (us : List V) : Prop where
  d : ∀ b, toDs b us = some (us, [])
  r : ∀ B R, us.all (refsOk B R 5) = true

theorem refs_plain {us : List V} (h : Plain us) {fn : Fn} {B : Nat → Bool} {R : Nat → Option (Nat × Nat × Nat)} : refsOk B R 6 (.func fn [] us) = true := by
  show (([] : List V).all (refsOk B R 5) && us.all (refsOk B R 5)) = true
  rw [h.r]; rfl

theorem take_ext {α : Type} {l l' : List α} {k : Nat} (hk : k < l.length) (hk' : k < l'.length) (h : l.take k = l'.take k) (e : l[k] = l'[k]) : l.take (k + 1) = l'.take (k + 1) := by
  rw [List.take_add_one, List.take_add_one, h, List.getElem?_eq_getElem hk, List.getElem?_eq_getElem hk', e]
def intsV (l : List Int) : V := .slice 0 1 (l.map I)

theorem flat_ints (l : List Int) : (l.map I).flatMap cells = l.map I := by
  induction l with
  | nil => rfl
  | cons a l ih => rw [List.map_cons, List.flatMap_cons, ih]; rfl

theorem ints_isD (l : List Int) : (l.map I).all isD = true := by
  rw [List.all_eq_true]
  intro x hx
  obtain ⟨n, _, rfl⟩ := List.mem_map.1 hx
  rfl

theorem ints_refs (l : List Int) (B : Nat → Bool) (R : Nat → Option (Nat × Nat × Nat)) : (l.map I).all (refsOk B R 6) = true := by
  rw [List.all_eq_true]
  intro x hx
  obtain ⟨n, _, rfl⟩ := List.mem_map.1 hx
  rfl

theorem okI {k : Nat} {l : List Int} {env : List (Nat × V)} {bx : List (Nat × Box)} {rw : List (Nat × Nat × Nat × Nat)} (h : okRefs env ((k, ⟨[], false⟩) :: bx) rw = true) : okRefs env ((k, ⟨l.map I, false⟩) :: bx) rw = true := by
  have e : hasKey ((k, (⟨l.map I, false⟩ : Box)) :: bx) = hasKey ((k, (⟨[], false⟩ : Box)) :: bx) := rfl
  unfold okRefs at h ⊢
  rw [e]
  rw [Bool.and_eq_true] at h ⊢
  refine ⟨h.1, ?_⟩
  have h2 := h.2
  rw [List.all_cons, Bool.and_eq_true] at h2 ⊢
  exact ⟨ints_refs _ _ _, h2.2⟩

theorem holds_ints (l : List Int) : Holds (l.map I) 0 1 l.length (l.map I) := by
  refine ⟨by omega, by simp, fun x hx => ?_, ?_, fun x hx => ?_⟩
  · obtain ⟨c, _, rfl⟩ := List.mem_map.1 hx; rfl
  · rw [List.drop_zero, List.take_of_length_le (by simp), flat_ints]
  · obtain ⟨c, _, rfl⟩ := List.mem_map.1 hx; rfl

theorem c_within (n lo hi : Int) : C Tryz.prog F.bin_within [I n, I lo, I hi] (.bool (btw n lo hi)) := by
  refine C_of mixed chk.bin_within (by simp) fun S ok => ?_
  refine Tr.seqR rfl (by simp) (Tr.seqR rfl (by simp) (Tr.retQ rfl rfl ?_ trivial))
  simp [packR, btw]

theorem c_between (n lo hi : Int) : C Tryz.prog F.ref00_Between [I n, I lo, I hi] (.bool (btw n lo hi)) := by
  refine C_of mixed chk.ref00_Between (by simp) fun S ok => ?_
  refine Tr.seqR rfl (by simp) (Tr.seqR rfl (by simp) (Tr.retQ rfl rfl ?_ trivial))
  simp [packR, btw]

theorem c_indexI {l : List Int} {p : Int → Bool} {f : FuncId} (hl : l.length ≤ 9223372036854775807) (hp : ∀ b ∈ l, C Tryz.prog f [I b] (.bool (p b))) :
    C Tryz.prog F.slices_IndexFunc_int_int [intsV l, .func (.func f) [] []] (I (firstI p l 0)) := by
  refine C_of mixed chk.slices_IndexFunc_int_int (by simp) fun S ok => ?_
  refine Tr.seqR rfl (by simp) ?_
  refine Tr.seq (Tr.seqR rfl (by simp) (Tr.block ?_))
  refine Tr.loop (fun k s => (k ≤ l.length ∧ firstI p l 0 = firstI p (l.drop k) k) ∧ s = { env := [(0, intsV l), (1, .func (.func f) [] []), (7, I l.length), (8, I k)], bx := [], rw := [], log := [], stp := false }) (fun k => l.length - k) 0
    (Wk.le (.cons rfl (.refl _) (.cons rfl (.refl _) (.cons rfl (VLe.i (by simp)) (.cons rfl (.refl _) .nil)))) .nil .nil rfl rfl) ⟨⟨by omega, by simp⟩, rfl⟩ ?_
  rintro k s ⟨⟨hk, hf⟩, rfl⟩
  refine Tr.seqR rfl (by simp) (Tr.seqI rfl (fun h1 => ?_) (fun h1 => ?_))
  · have h1 : k < l.length := by simpa using h1
    refine Tr.skipT (Tr.seq (Tr.block (Tr.seqR rfl (by simp) (Tr.seqC rfl ?_ ?_))))
    · rw [getD_map h1]; simp [cells]; omega
    · rw [getD_map h1]
      refine Steps.callv rfl rfl (hp l[k] (List.getElem_mem h1)) (Steps.fin rfl (by simp) ?_)
      refine Tr.cond rfl rfl (fun h2 => ?_) (fun h2 => ?_)
      · refine Tr.seqR rfl (by simp) (Tr.ret ?_)
        refine ⟨trivial, _, _, _, resVs_ok rfl, rfl, ?_⟩
        rw [hf, firstI_drop p l h1, if_pos h2]; rfl
      · refine Tr.skip (Tr.regR rfl (by simp) ?_)
        refine ⟨k + 1, _, ?_, ⟨⟨by omega, ?_⟩, rfl⟩, by omega⟩
        · exact Wk.le (.cons rfl (.refl _) (.cons rfl (.refl _) (.cons rfl (.refl _) (.cons rfl (VLe.i (w64 (by omega) (by omega))) .nil)))) .nil .nil rfl rfl
        · rw [hf, firstI_drop p l h1, if_neg (by simp [h2])]
  · have h1 : k = l.length := by simp at h1; omega
    subst h1
    refine Tr.exit (Tr.seqR rfl (by simp) (Tr.retQ rfl rfl ?_ trivial))
    rw [hf, List.drop_length]; rfl

theorem c_containsI {l : List Int} {p : Int → Bool} {f : FuncId} (hl : l.length ≤ 9223372036854775807) (hp : ∀ b ∈ l, C Tryz.prog f [I b] (.bool (p b))) :
    C Tryz.prog F.slices_ContainsFunc_int_int [intsV l, .func (.func f) [] []] (.bool (l.any p)) := by
  refine C_of mixed chk.slices_ContainsFunc_int_int (by simp) fun S ok => ?_
  refine Tr.seqR rfl (by simp) ?_
  refine Tr.seqC rfl (by simp) (Steps.call rfl rfl (c_indexI hl hp) (Steps.fin rfl (by simp) (Tr.retQ rfl rfl ?_ trivial)))
  rw [← firstI_nn p l 0]; rfl

attribute [local simp] cells scalar mkv splice under2 under dem dem1
theorem c_Alike (l l' : List Int) (hl : l.length ≤ 9223372036854775807) : C Tryz.prog F.ref00_Alike [intsV l, intsV l'] (.bool (decide (l = l'))) := by
  refine C_of mixed chk.ref00_Alike (by simp) fun S ok => ?_
  refine Tr.seqR rfl (by simp) (Tr.seq (Tr.seqR rfl (by simp) ?_))
  refine Tr.cond rfl rfl (fun h1 => Tr.seqR rfl (by simp) (Tr.retX rfl rfl rfl ?_ trivial)) (fun h1 => Tr.skip ?_)
  · have h1 : (((l.map I).length : Int) != ((l'.map I).length : Int)) = true := h1
    simp only [packR, V.bool.injEq]
    rw [decide_eq_false]
    rintro rfl
    simp at h1
  · have h1 : (((l.map I).length : Int) != ((l'.map I).length : Int)) = false := h1
    have hll : l.length = l'.length := by simp at h1; omega
    refine Tr.seq (Tr.seqR rfl (by simp) (Tr.block ?_))
    refine Tr.loop (fun k st => (k ≤ l.length ∧ l.take k = l'.take k) ∧ st = { env := [(0, intsV l), (1, intsV l'), (5, I k)], bx := [], rw := [], log := [], stp := false }) (fun k => l.length - k) 0
      (Wk.le (.cons rfl (.refl _) (.cons rfl (.refl _) (.cons rfl (.refl _) .nil))) .nil .nil rfl rfl) ⟨⟨by omega, by simp⟩, rfl⟩ ?_
    rintro k st ⟨⟨hk, he⟩, rfl⟩
    refine Tr.seq (Tr.seqR rfl (by simp) (Tr.cond rfl rfl (fun h3 => ?_) (fun h3 => ?_)))
    · have h3 : k < l.length := by simpa using h3
      have h4 : k < l'.length := by omega
      refine Tr.skip (Tr.seq (Tr.block (Tr.seq (Tr.drawK (TraceK.runN 3 rfl (by simp; omega) ?_)))))
      rw [getD_map h3]
      refine TraceK.runN 4 rfl (by simp; omega) ?_
      rw [getD_map h4]
      refine TraceK.run rfl (by simp) (.done ⟨by kernel_rfl, by kernel_rfl, ?_⟩)
      refine Tr.cond rfl rfl (fun h5 => Tr.seqR rfl (by simp) (Tr.retX rfl rfl rfl ?_ trivial)) (fun h5 => Tr.skip (Tr.regR rfl (by simp) ?_))
      · have h5 : (l[k] != l'[k]) = true := h5
        simp only [packR, V.bool.injEq]
        rw [decide_eq_false]
        rintro rfl
        simp at h5
      · have h5 : (l[k] != l'[k]) = false := h5
        have h5 : l[k] = l'[k] := by simpa using h5
        exact ⟨k + 1, _, Wk.le (.cons rfl (.refl _) (.cons rfl (.refl _) (.cons rfl (VLe.i (w64 (by omega) (by omega))) .nil))) .nil .nil rfl rfl, ⟨⟨h3, take_ext h3 h4 he h5⟩, rfl⟩, by omega⟩
    · have h3 : k = l.length := by simp at h3; omega
      subst h3
      refine Tr.exit (Tr.seqR rfl (by simp) (Tr.retX rfl rfl rfl ?_ trivial))
      rw [List.take_length, hll, List.take_length] at he
      simp [packR, he]

end Go.Proofs.YtdejdblopmfjfaaGreatDoor


/-! Contracts: regions of the plane, by their four bounds. -/
set_option linter.unusedVariables false
set_option linter.unusedSimpArgs false
set_option maxRecDepth 20000
set_option maxHeartbeats 2000000
namespace Go.Proofs.YtdejdblopmfjfaaGreatDoor
open Go.Am
attribute [local simp] cells scalar mkv splice under2 under dem dem1 eB
/-- Bounds of x, y, their sum and difference. -/
structure Fr where
  x : Int × Int
  y : Int × Int
  s : Int × Int
  d : Int × Int

def fourC (f : Fr) : List V := [I f.x.1, I f.x.2, I f.y.1, I f.y.2, I f.s.1, I f.s.2, I f.d.1, I f.d.2]
attribute [local simp] fourC
theorem ifMin (a b : Int) : (if b < a then b else a) = min a b := by split <;> omega
theorem ifMax (a b : Int) : (if b > a then b else a) = max a b := by split <;> omega

theorem c_bounds (f : Fr) : C Tryz.prog F.region_bounds [.agg (fourC f)] (.agg (fourC f)) := by
  refine C_of mixed chk.region_bounds (by simp) fun S ok => ?_
  exact Tr.seqR rfl (by simp) (Tr.seqR rfl (by simp) (Tr.retQ rfl rfl rfl trivial))

/-- A number, brought into the range. -/
def intoL (l n : Int) : Int := max (-l) (min n l)

theorem c_into {l : Int} (n : Int) (hl : 0 ≤ l ∧ l ≤ 65536) : C Tryz.prog F.region_limit_into [I l, I n] (I (intoL l n)) := by
  refine C_of mixed chk.region_limit_into (by simp) fun S ok => ?_
  refine Tr.seqR rfl (by simp) (Tr.seqR rfl (by simp) (Tr.retQ rfl rfl ?_ trivial))
  have e : IntKind.wrap .i64 (0 - l) = -l := by rw [w64 (by omega) (by omega)]; omega
  simp only [packR, intoL, ← ifMin, ← ifMax, ← e]
  rfl

def inPlane (p : Int × Int) : Prop := (-32768 ≤ p.1 ∧ p.1 ≤ 32768) ∧ -32768 ≤ p.2 ∧ p.2 ≤ 32768

theorem into_self {l n : Int} (h : -l ≤ n ∧ n ≤ l) : intoL l n = n := by unfold intoL; omega

theorem c_CheckPoint {p : Int × Int} (h : inPlane p) : C Tryz.prog F.region_CheckPoint [eB p] (I 0) := by
  refine C_of mixed chk.region_CheckPoint (by simp) fun S ok => ?_
  have k1 := c_into (l := 32768) p.1 (by omega)
  have k2 := c_into (l := 32768) p.2 (by omega)
  rw [into_self (by have := h.1; omega)] at k1
  rw [into_self (by have := h.2; omega)] at k2
  refine Tr.seqR rfl (by simp) (Tr.seq (Tr.seqR rfl (by simp) (Tr.block ?_)))
  refine Tr.rounds 3 (TrN.succ ?_)
  refine Tr.seqR rfl (by simp) (Tr.seq (Tr.condT rfl (Tr.skip (Tr.seq (Tr.block (Tr.seqR rfl (by simp) ?_))))))
  refine Tr.seqC rfl (by simp) (Steps.call rfl rfl k1 (Steps.fin rfl (by simp) (Tr.cond rfl rfl (fun h => ?_) (fun _ => Tr.skip (Tr.regR rfl (by simp) (TrN.succ ?_))))))
  · simp at h
  refine Tr.seqR rfl (by simp) (Tr.seq (Tr.condT rfl (Tr.skip (Tr.seq (Tr.block (Tr.seqR rfl (by simp) ?_))))))
  refine Tr.seqC rfl (by simp) (Steps.call rfl rfl k2 (Steps.fin rfl (by simp) (Tr.cond rfl rfl (fun h => ?_) (fun _ => Tr.skip (Tr.regR rfl (by simp) (TrN.succ ?_))))))
  · simp at h
  refine Tr.seqR rfl (by simp) (Tr.seq (Tr.condF rfl (Tr.exit ?_)))
  exact Tr.seqR rfl (by simp) (Tr.retX rfl rfl rfl rfl trivial)

def fitB (l : Int) (b : Int × Int) : Prop := -l ≤ b.1 ∧ b.1 ≤ b.2 ∧ b.2 ≤ l
def fitF (f : Fr) : Prop := (fitB 32768 f.x ∧ fitB 32768 f.y) ∧ fitB 65536 f.s ∧ fitB 65536 f.d

end Go.Proofs.YtdejdblopmfjfaaGreatDoor


/-! Contracts: rows of a region. -/
set_option linter.unusedVariables false
set_option linter.unusedSimpArgs false
set_option maxRecDepth 20000
set_option maxHeartbeats 2000000
namespace Go.Proofs.YtdejdblopmfjfaaGreatDoor
open Go.Am
attribute [local simp] cells scalar mkv splice under2 under dem dem1 eB fourC
def lowY (f : Fr) (x : Int) : Int := max (max f.y.1 (f.s.1 - x)) (x - f.d.2)
def highY (f : Fr) (x : Int) : Int := min (min f.y.2 (f.s.2 - x)) (x - f.d.1)

def rowsN (f : Fr) : Nat → Int → List (Int × Int × Int)
  | 0, _ => []
  | n + 1, x => if lowY f x ≤ highY f x then (x, lowY f x, highY f x) :: rowsN f n (x + 1) else rowsN f n (x + 1)
def rowsL (f : Fr) : List (Int × Int × Int) := rowsN f (f.x.2 + 1 - f.x.1).toNat f.x.1
def eRow (r : Int × Int × Int) : List V := [.agg [I r.1, I r.2.1, I r.2.2]]

/-- Bounds that are not great. -/
def midF (f : Fr) : Prop := ((-1000000 ≤ f.x.1 ∧ f.x.1 ≤ 1000000) ∧ -1000000 ≤ f.x.2 ∧ f.x.2 ≤ 1000000) ∧ ((-1000000 ≤ f.y.1 ∧ f.y.1 ≤ 1000000) ∧ -1000000 ≤ f.y.2 ∧ f.y.2 ≤ 1000000) ∧ ((-1000000 ≤ f.s.1 ∧ f.s.1 ≤ 1000000) ∧ -1000000 ≤ f.s.2 ∧ f.s.2 ≤ 1000000) ∧ (-1000000 ≤ f.d.1 ∧ f.d.1 ≤ 1000000) ∧ -1000000 ≤ f.d.2 ∧ f.d.2 ≤ 1000000

theorem c_rows (f : Fr) : C Tryz.prog F.region_four_rows [.agg (fourC f)] (.func (.func F.region_four_rows_1) [] [.vptr (fourC f) 0]) := by
  refine C_of mixed chk.region_four_rows (by simp) fun S ok => ?_
  exact Tr.seqR rfl (by simp) (Tr.seqR rfl (by simp) (Tr.retQ rfl rfl rfl trivial))

theorem i_rows {f : Fr} (hf : midF f) : Iter Tryz.prog F.region_four_rows_1 [.vptr (fourC f) 0] ((rowsL f).map eRow) := by
  refine Iter_of mixed chk.region_four_rows_1 (by simp) fun S ok => ?_
  obtain ⟨⟨⟨hx1, hx2⟩, hx3, hx4⟩, ⟨⟨hy1, hy2⟩, hy3, hy4⟩, ⟨⟨hs1, hs2⟩, hs3, hs4⟩, ⟨hd1, hd2⟩, hd3, hd4⟩ := hf
  refine Tr.seqR rfl (by simp) (Tr.block ?_)
  refine Tr.loop (α := Nat × List (List V)) (fun p s => (p.1 ≤ (f.x.2 + 1 - f.x.1).toNat ∧ p.2 ++ (rowsN f ((f.x.2 + 1 - f.x.1).toNat - p.1) (f.x.1 + p.1)).map eRow = (rowsL f).map eRow) ∧
      s = { env := [(0, .yld), (1, .vptr (fourC f) 0), (3, I (f.x.1 + p.1))], bx := [], rw := [], log := p.2, stp := false }) (fun p => (f.x.2 + 1 - f.x.1).toNat - p.1) (0, [])
    (Wk.le (.cons rfl (.refl _) (.cons rfl (.refl _) (.cons rfl (VLe.i (by simp)) .nil))) .nil .nil rfl rfl) ⟨⟨by simp, by simp [rowsL]⟩, rfl⟩ ?_
  rintro ⟨k, lg⟩ s ⟨⟨hk, hl⟩, rfl⟩
  simp only at hk hl
  refine Tr.seq (Tr.seqR rfl (by simp) (Tr.cond rfl rfl (fun h1 => Tr.skip ?_) (fun h1 => Tr.exit ?_)))
  · have h1 : f.x.1 + (k : Int) ≤ f.x.2 := by simpa using h1
    obtain ⟨x, hx⟩ : ∃ x, f.x.1 + (k : Int) = x := ⟨_, rfl⟩
    obtain ⟨n, hn⟩ : ∃ n, (f.x.2 + 1 - f.x.1).toNat - k = n + 1 := ⟨(f.x.2 + 1 - f.x.1).toNat - k - 1, by omega⟩
    have hn2 : (f.x.2 + 1 - f.x.1).toNat - (k + 1) = n := by omega
    have hx' : f.x.1 + ((k + 1 : Nat) : Int) = x + 1 := by omega
    rw [hn, hx] at hl
    rw [hx] at h1
    rw [hx]
    refine Tr.seq (Tr.block (Tr.seqR rfl (by simp) ?_))
    refine Tr.weak (s' := { env := [(0, .yld), (1, .vptr (fourC f) 0), (3, I x), (4, .ptr 4 0)], bx := [(4, ⟨[I x, I (lowY f x), I (highY f x)], false⟩)], rw := [], log := lg, stp := false })
      (Wk.le (.cons rfl (.refl _) (.cons rfl (.refl _) (.cons rfl (.refl _) (.cons rfl (.refl _) .nil)))) (.cons rfl (.cons (.refl _) (.cons (VLe.i ?_) (.cons (VLe.i ?_) .nil))) .nil) .nil rfl rfl) ?_
    · simp (disch := omega) only [cond_true, cond_false, ite_max, ite_min, w64, lowY]
    · simp (disch := omega) only [cond_true, cond_false, ite_max, ite_min, w64, highY]
    refine Tr.seqC rfl (by simp) ?_
    by_cases hh : lowY f x ≤ highY f x
    · have hp : lg ++ [eRow (x, lowY f x, highY f x)] ++ (rowsN f n (x + 1)).map eRow = (rowsL f).map eRow := by
        rw [← hl, rowsN, if_pos hh]; simp
      refine Steps.gyield (want := true) rfl rfl ?_ rfl ?_ rfl ⟨_, hp⟩ rfl (fun b => ?_)
      · show some (decide (lowY f x ≤ highY f x) == true) = some true
        simp [hh]
      · simp [hh]
      refine Steps.fin rfl (by simp) ?_
      refine Tr.cond rfl rfl (fun h2 => ?_) (fun h2 => ?_)
      · refine Tr.ret ⟨.inl ?_, [], [], [], rfl, rfl, rfl⟩
        have h2 : (bif decide (lowY f x ≤ highY f x) then !b else false) = true := h2
        have hb : b = false := by simpa [hh] using h2
        subst hb; rfl
      · have h2 : (bif decide (lowY f x ≤ highY f x) then !b else false) = false := h2
        have hb : b = true := by simpa [hh] using h2
        subst hb
        refine Tr.skip (Tr.regR rfl (by simp) ?_)
        refine ⟨(k + 1, lg ++ [eRow (x, lowY f x, highY f x)]), _, Wk.le (.cons rfl (.refl _) (.cons rfl (.refl _) (.cons rfl (VLe.i ?_) .nil))) .nil .nil rfl rfl, ⟨⟨by simp; omega, ?_⟩, rfl⟩, by simp; omega⟩
        · show IntKind.wrap .i64 (x + 1) = f.x.1 + ((k + 1 : Nat) : Int)
          rw [w64 (by omega) (by omega)]; exact hx'.symm
        · simp only; rw [hn2, hx']; exact hp
    · have hl2 : lg ++ (rowsN f n (x + 1)).map eRow = (rowsL f).map eRow := by
        rw [← hl, rowsN, if_neg hh]
      refine Steps.off (want := true) (.bool true) rfl rfl ?_ ?_
      · show some (decide (lowY f x ≤ highY f x) == true) = some false
        simp [hh]
      refine Steps.fin rfl (by simp; omega) ?_
      refine Tr.cond rfl rfl (fun h2 => ?_) (fun h2 => ?_)
      · have h2 : (bif decide (lowY f x ≤ highY f x) then !true else false) = true := h2
        simp [hh] at h2
      · refine Tr.skip (Tr.regR rfl (by simp) ?_)
        refine ⟨(k + 1, lg), _, Wk.le (.cons rfl (.refl _) (.cons rfl (.refl _) (.cons rfl (VLe.i ?_) .nil))) .nil .nil rfl rfl, ⟨⟨by simp; omega, ?_⟩, rfl⟩, by simp; omega⟩
        · show IntKind.wrap .i64 (x + 1) = f.x.1 + ((k + 1 : Nat) : Int)
          rw [w64 (by omega) (by omega)]; exact hx'.symm
        · simp only; rw [hn2, hx']; exact hl2
  · have h1 : ¬ f.x.1 + (k : Int) ≤ f.x.2 := by simpa using h1
    refine ⟨.inr ?_, [], [], [], rfl, rfl, rfl⟩
    rw [show (f.x.2 + 1 - f.x.1).toNat - k = 0 by omega] at hl
    have e : lg = (rowsL f).map eRow := by simpa [rowsN] using hl
    exact e

/-! ### The ends of rows -/
end Go.Proofs.YtdejdblopmfjfaaGreatDoor


/-! Contracts: grids; the cell of two places. -/
set_option linter.unusedVariables false
set_option linter.unusedSimpArgs false
set_option maxRecDepth 20000
set_option maxHeartbeats 2000000
namespace Go.Proofs.YtdejdblopmfjfaaGreatDoor
open Go.Am
attribute [local simp] cells scalar mkv splice under2 under dem dem1 eB
def planeB (p : Int × Int) : Bool := btw p.1 (-32768) 32768 && btw p.2 (-32768) 32768

theorem into_ne {l n : Int} (h : ¬ (-l ≤ n ∧ n ≤ l)) (hl : 0 ≤ l) : intoL l n ≠ n := by unfold intoL; omega

theorem c_CheckPointF (p : Int × Int) : C Tryz.prog F.region_CheckPoint [eB p] (I (if planeB p then 0 else 10)) := by
  by_cases h : planeB p = true
  · rw [if_pos h]
    simp only [planeB, Bool.and_eq_true, btw_iff] at h
    exact c_CheckPoint (by unfold inPlane; omega)
  rw [if_neg h]
  have h : planeB p = false := by simpa using h
  refine C_of mixed chk.region_CheckPoint (by simp) fun S ok => ?_
  have k1 := c_into (l := 32768) p.1 (by omega)
  have k2 := c_into (l := 32768) p.2 (by omega)
  refine Tr.seqR rfl (by simp) (Tr.seq (Tr.seqR rfl (by simp) (Tr.block ?_)))
  refine Tr.rounds 3 (TrN.succ ?_)
  refine Tr.seqR rfl (by simp) (Tr.seq (Tr.condT rfl (Tr.skip (Tr.seq (Tr.block (Tr.seqR rfl (by simp) ?_))))))
  refine Tr.seqC rfl (by simp) (Steps.call rfl rfl k1 (Steps.fin rfl (by simp) (Tr.cond rfl rfl (fun _ => Tr.seqR rfl (by simp) (Tr.retX rfl rfl rfl rfl trivial)) (fun h1 => Tr.skip (Tr.regR rfl (by simp) (TrN.succ ?_))))))
  refine Tr.seqR rfl (by simp) (Tr.seq (Tr.condT rfl (Tr.skip (Tr.seq (Tr.block (Tr.seqR rfl (by simp) ?_))))))
  refine Tr.seqC rfl (by simp) (Steps.call rfl rfl k2 (Steps.fin rfl (by simp) (Tr.cond rfl rfl (fun _ => Tr.seqR rfl (by simp) (Tr.retX rfl rfl rfl rfl trivial)) (fun h2 => ?_))))
  exfalso
  have h1 : (intoL 32768 p.1 != p.1) = false := h1
  have h2 : (intoL 32768 p.2 != p.2) = false := h2
  simp at h1 h2
  have g1 : -32768 ≤ p.1 ∧ p.1 ≤ 32768 := by
    by_cases g : -32768 ≤ p.1 ∧ p.1 ≤ 32768
    · exact g
    · exact absurd h1 (into_ne g (by omega))
  have g2 : -32768 ≤ p.2 ∧ p.2 ≤ 32768 := by
    by_cases g : -32768 ≤ p.2 ∧ p.2 ≤ 32768
    · exact g
    · exact absurd h2 (into_ne g (by omega))
  have : planeB p = true := by simp only [planeB, Bool.and_eq_true, btw_iff]; omega
  rw [h] at this; cases this

/-! ### Grids -/
structure Gd where
  o : Int × Int
  size : Int
  a : Int
  d : Int
  cls : List (Int × Int)

def gridC (g : Gd) : List V := [I g.o.1, I g.o.2, I g.size, I g.a, I g.d, sB g.cls]
attribute [local simp] gridC sB
def clsOk : Int → List (Int × Int) → Bool
  | _, [] => true
  | last, c :: r => decide (last < c.1) && decide (c.1 ≤ c.2) && decide (c.2 ≤ 17179869184) && clsOk c.2 r

def gridOk (g : Gd) : Bool := planeB g.o && btw g.size 1 1000 && btw g.a 1 16 && btw g.d 1 16 && btw g.cls.length 1 4 && clsOk (-1) g.cls

theorem cls_drop {l : List (Int × Int)} {k : Nat} (h : k < l.length) (last : Int) : clsOk last (l.drop k) = (decide (last < l[k].1) && decide (l[k].1 ≤ l[k].2) && decide (l[k].2 ≤ 17179869184) && clsOk l[k].2 (l.drop (k + 1))) := by
  rw [List.drop_eq_getElem_cons h]; rfl

theorem c_CheckGrid {g : Gd} (hl : g.cls.length ≤ 9223372036854775807) : C Tryz.prog F.bin_CheckGrid [.agg (gridC g)] (I (if gridOk g then 0 else 70)) := by
  refine C_of mixed chk.bin_CheckGrid (by simp) fun S ok => ?_
  refine Tr.seqR rfl (by simp) ?_
  refine Tr.seq (Tr.seqC rfl (by simp) (Steps.call rfl rfl (c_CheckPointF g.o) (Steps.run rfl (by simp) ?_)))
  refine Steps.gcall rfl rfl rfl rfl (by simp) (fun _ => c_within g.size 1 1000) (Steps.run rfl (by simp) ?_)
  refine Steps.gcall rfl rfl rfl rfl (by simp) (fun _ => c_within g.a 1 16) (Steps.run rfl (by simp) ?_)
  refine Steps.gcall rfl rfl rfl rfl (by simp) (fun _ => c_within g.d 1 16) (Steps.run rfl (by simp) ?_)
  refine Steps.gcall rfl rfl rfl rfl (by simp) (fun _ => c_within ((g.cls.map eB).length : Int) 1 4) (Steps.fin rfl (by simp) ?_)
  have hlen : (((g.cls.map eB).length : Int)) = (g.cls.length : Int) := by simp
  refine Tr.cond rfl rfl (fun h1 => ?_) (fun h1 => Tr.skip ?_)
  · refine Tr.seqR rfl (by simp) (Tr.retX rfl rfl rfl ?_ trivial)
    have : gridOk g = false := by
      revert h1
      simp only [gridOk, hlen]
      cases planeB g.o <;> cases btw g.size 1 1000 <;> cases btw g.a 1 16 <;> cases btw g.d 1 16 <;> cases btw (g.cls.length : Int) 1 4 <;> first | (intro _; rfl) | (intro h; cases h)
    rw [this]; rfl
  have hok : gridOk g = clsOk (-1) g.cls := by
    revert h1
    simp only [gridOk, hlen]
    cases planeB g.o <;> cases btw g.size 1 1000 <;> cases btw g.a 1 16 <;> cases btw g.d 1 16 <;> cases btw (g.cls.length : Int) 1 4 <;> first | (intro _; rfl) | (intro h; cases h)
  rw [hok]
  refine Tr.seqR rfl (by simp) (Tr.seq (Tr.seqR rfl (by simp) (Tr.block ?_)))
  refine Tr.loop (α := Nat × Int) (fun p s => (p.1 ≤ g.cls.length ∧ clsOk (-1) g.cls = clsOk p.2 (g.cls.drop p.1)) ∧ s = { env := [(3, I p.2), (36, sB g.cls), (37, I (g.cls.length : Nat)), (38, I (p.1 : Nat))], bx := [], rw := [], log := [], stp := false }) (fun p => g.cls.length - p.1) (0, -1)
    (Wk.le (.cons rfl (.refl _) (.cons rfl (.refl _) (.cons rfl (VLe.i hlen) (.cons rfl (.refl _) .nil)))) .nil .nil rfl rfl) ⟨⟨by simp, by simp⟩, rfl⟩ ?_
  rintro ⟨k, last⟩ s ⟨⟨hk, hf⟩, rfl⟩
  simp only at hk hf
  refine Tr.seqR rfl (by simp) (Tr.seqI rfl (fun h2 => ?_) (fun h2 => ?_))
  · have h2 : k < g.cls.length := by simpa using h2
    rw [cls_drop h2] at hf
    refine Tr.skipT (Tr.seq (Tr.block (Tr.seq (Tr.reg (Steps.runN 1 rfl (by simp; omega) ?_)))))
    rw [getD_map h2]
    refine Steps.fin rfl (by simp) (Tr.seq (Tr.seqR rfl (by simp) (Tr.cond rfl rfl (fun h3 => ?_) (fun h3 => Tr.skip ?_))))
    · refine Tr.seqR rfl (by simp) (Tr.retX rfl rfl rfl ?_ trivial)
      have : clsOk (-1) g.cls = false := by
        rw [hf]
        have h3 : (bif (bif decide (g.cls[k].1 ≤ last) then true else decide (g.cls[k].1 > g.cls[k].2)) then true else decide (g.cls[k].2 > 17179869184)) = true := h3
        by_cases a1 : g.cls[k].1 ≤ last
        · rw [decide_eq_false (by omega : ¬ last < g.cls[k].1)]; rfl
        · by_cases a2 : g.cls[k].1 > g.cls[k].2
          · rw [decide_eq_false (by omega : ¬ g.cls[k].1 ≤ g.cls[k].2)]; simp
          · rw [decide_eq_false a1, decide_eq_false a2] at h3
            simp only [cond_false, decide_eq_true_eq] at h3
            rw [decide_eq_false (by omega : ¬ g.cls[k].2 ≤ 17179869184)]; simp
      rw [this]; rfl
    · have h3 : (bif (bif decide (g.cls[k].1 ≤ last) then true else decide (g.cls[k].1 > g.cls[k].2)) then true else decide (g.cls[k].2 > 17179869184)) = false := h3
      have h3' : (last < g.cls[k].1 ∧ g.cls[k].1 ≤ g.cls[k].2) ∧ g.cls[k].2 ≤ 17179869184 := by
        by_cases a1 : g.cls[k].1 ≤ last
        · rw [decide_eq_true a1] at h3; cases h3
        · by_cases a2 : g.cls[k].1 > g.cls[k].2
          · rw [decide_eq_false a1, decide_eq_true a2] at h3; cases h3
          · rw [decide_eq_false a1, decide_eq_false a2] at h3
            simp only [cond_false, decide_eq_false_iff_not] at h3
            omega
      rw [decide_eq_true h3'.1.1, decide_eq_true h3'.1.2, decide_eq_true h3'.2] at hf
      refine Tr.regR rfl (by simp) (Tr.regR rfl (by simp) ?_)
      exact ⟨(k + 1, g.cls[k].2), _, Wk.le (.cons rfl (.refl _) (.cons rfl (.refl _) (.cons rfl (.refl _) (.cons rfl (VLe.i (w64 (by omega) (by omega))) .nil)))) .nil .nil rfl rfl, ⟨⟨by simp; omega, by simpa using hf⟩, rfl⟩, by simp; omega⟩
  · have h2 : k = g.cls.length := by simp at h2; omega
    subst h2
    rw [List.drop_length] at hf
    refine Tr.exit (Tr.seqR rfl (by simp) (Tr.retX rfl rfl rfl ?_ trivial))
    rw [hf]; rfl

end Go.Proofs.YtdejdblopmfjfaaGreatDoor


/-! Contracts: the cell of two places. -/
set_option linter.unusedVariables false
set_option linter.unusedSimpArgs false
set_option maxRecDepth 20000
set_option maxHeartbeats 2000000
namespace Go.Proofs.YtdejdblopmfjfaaGreatDoor
open Go.Am
attribute [local simp] cells scalar mkv splice under2 under dem dem1 eB gridC sB
theorem floor_eq {a b : Int} (hb : 0 < b) : (if a.tmod b < 0 then a.tdiv b - 1 else a.tdiv b) = a / b := by
  have h1 := Int.mul_tdiv_add_tmod a b
  have h2 := Int.tmod_lt_of_pos a hb
  have h3 := Int.lt_tmod_of_pos a hb
  split
  · rename_i h
    refine ((Int.ediv_emod_unique hb (r := a.tmod b + b) (q := a.tdiv b - 1)).2 ⟨?_, by omega, by omega⟩).1.symm
    rw [Int.mul_sub]; omega
  · refine ((Int.ediv_emod_unique hb (r := a.tmod b) (q := a.tdiv b)).2 ⟨by omega, by omega, by omega⟩).1.symm

theorem tdiv_bd {a b : Int} (hb : 0 < b) {K : Int} (h : -K ≤ a ∧ a ≤ K) : -K ≤ a.tdiv b ∧ a.tdiv b ≤ K := by
  have h1 := Int.natAbs_tdiv_le_natAbs a b
  omega

theorem c_floor {a b : Int} (hb : 0 < b) (ha : -1000000000000 ≤ a ∧ a ≤ 1000000000000) : C Tryz.prog F.bin_floor [I a, I b] (I (a / b)) := by
  have hq := tdiv_bd hb ha
  have e := floor_eq (a := a) hb
  have ew : IntKind.wrap .i64 (a.tdiv b) = a.tdiv b := w64 (by omega) (by omega)
  refine C_of mixed chk.bin_floor (by simp) fun S ok => ?_
  refine Tr.seqR rfl (by simp) (Tr.seqR rfl (by simp; omega) ?_)
  refine Tr.seq (Tr.seqR rfl (by simp; omega) (Tr.cond rfl rfl (fun h => Tr.regR rfl (by simp) ?_) (fun h => Tr.skip ?_)))
  · have h : a.tmod b < 0 := by simpa using h
    rw [if_pos h] at e
    refine Tr.seqR rfl (by simp) (Tr.retX rfl rfl rfl ?_ trivial)
    rw [← e]
    show I (a.tdiv b - 1) = I (IntKind.wrap .i64 (IntKind.wrap .i64 (a.tdiv b) - 1))
    rw [ew, w64 (by omega) (by omega)]
  · have h : ¬ a.tmod b < 0 := by simpa using h
    rw [if_neg h] at e
    refine Tr.seqR rfl (by simp) (Tr.retX rfl rfl rfl ?_ trivial)
    rw [← e]
    show I (a.tdiv b) = I (IntKind.wrap .i64 (a.tdiv b))
    rw [ew]

/-- The class of a squared distance. -/
def clsAt (n : Int) : List (Int × Int) → Nat → Option Nat
  | [], _ => none
  | c :: r, i => if btw n c.1 c.2 then some i else clsAt n r (i + 1)

theorem clsAt_drop {l : List (Int × Int)} {k : Nat} (h : k < l.length) (n : Int) : clsAt n (l.drop k) k = if btw n l[k].1 l[k].2 then some k else clsAt n (l.drop (k + 1)) (k + 1) := by
  rw [List.drop_eq_getElem_cons h]; rfl

def colN (g : Gd) (a b : Int × Int) : Int := (a.1 + b.1 - 2 * g.o.1) / (2 * g.size)
def rowN (g : Gd) (a b : Int × Int) : Int := (a.2 + b.2 - 2 * g.o.2) / (2 * g.size)
def sqN (a b : Int × Int) : Int := (a.1 - b.1) * (a.1 - b.1) + (a.2 - b.2) * (a.2 - b.2)
def cellN (g : Gd) (a b : Int × Int) : Int × Int :=
  if btw (colN g a b) 0 (g.a - 1) && btw (rowN g a b) 0 (g.d - 1) then (match clsAt (sqN a b) g.cls 0 with | some i => (rowN g a b * g.a + colN g a b, (i : Int)) | none => (-1, -1)) else (-1, -1)

theorem gridOk_spec {g : Gd} (h : gridOk g = true) : ((-32768 ≤ g.o.1 ∧ g.o.1 ≤ 32768) ∧ -32768 ≤ g.o.2 ∧ g.o.2 ≤ 32768) ∧ (1 ≤ g.size ∧ g.size ≤ 1000) ∧ (1 ≤ g.a ∧ g.a ≤ 16) ∧ (1 ≤ g.d ∧ g.d ≤ 16) ∧ (1 ≤ g.cls.length ∧ g.cls.length ≤ 4) ∧ clsOk (-1) g.cls = true := by
  simp only [gridOk, planeB, Bool.and_eq_true, btw_iff] at h
  obtain ⟨⟨⟨⟨⟨h1, h2⟩, h3⟩, h4⟩, h5⟩, h6⟩ := h
  exact ⟨h1, h2, h3, h4, by omega, h6⟩

theorem planeB_spec {p : Int × Int} (h : planeB p = true) : (-32768 ≤ p.1 ∧ p.1 ≤ 32768) ∧ -32768 ≤ p.2 ∧ p.2 ≤ 32768 := by
  simpa only [planeB, Bool.and_eq_true, btw_iff] using h

theorem sq64 {x : Int} (h : -65536 ≤ x ∧ x ≤ 65536) : 0 ≤ x * x ∧ x * x ≤ 4294967296 := by
  have h1 : 0 ≤ x * x := by
    rcases Int.le_total 0 x with h | h
    · exact Int.mul_nonneg h h
    · have := Int.mul_nonneg (Int.neg_nonneg_of_nonpos h) (Int.neg_nonneg_of_nonpos h)
      rwa [Int.neg_mul_neg] at this
  have h2 := Int.mul_nonneg (show 0 ≤ 65536 - x by omega) (show 0 ≤ 65536 + x by omega)
  rw [Int.sub_mul, Int.mul_add, Int.mul_add, Int.mul_comm x 65536] at h2
  omega

theorem c_cell {g : Gd} (hg : gridOk g = true) {a b : Int × Int} (ha : planeB a = true) (hb : planeB b = true) : C Tryz.prog F.bin_cell [.agg (gridC g), eB a, eB b] (eB (cellN g a b)) := by
  obtain ⟨ho, hsz, hga, hgd, hcl, _⟩ := gridOk_spec hg
  have ha' := planeB_spec ha
  have hb' := planeB_spec hb
  have k1 := c_floor (a := a.1 + b.1 - 2 * g.o.1) (b := 2 * g.size) (by omega) (by omega)
  have k2 := c_floor (a := a.2 + b.2 - 2 * g.o.2) (b := 2 * g.size) (by omega) (by omega)
  have e1 : IntKind.wrap .i64 (IntKind.wrap .i64 (a.1 + b.1) - IntKind.wrap .i64 (2 * g.o.1)) = a.1 + b.1 - 2 * g.o.1 := by
    rw [w64 (n := a.1 + b.1) (by omega) (by omega), w64 (n := 2 * g.o.1) (by omega) (by omega), w64 (by omega) (by omega)]
  have e2 : IntKind.wrap .i64 (IntKind.wrap .i64 (a.2 + b.2) - IntKind.wrap .i64 (2 * g.o.2)) = a.2 + b.2 - 2 * g.o.2 := by
    rw [w64 (n := a.2 + b.2) (by omega) (by omega), w64 (n := 2 * g.o.2) (by omega) (by omega), w64 (by omega) (by omega)]
  have e3 : IntKind.wrap .i64 (2 * g.size) = 2 * g.size := w64 (by omega) (by omega)
  rw [← e1, ← e3] at k1
  rw [← e2, ← e3] at k2
  refine C_of mixed chk.bin_cell (by simp) fun S ok => ?_
  refine Tr.seqR rfl (by simp) ?_
  refine Tr.seq (Tr.drawK (TraceK.run rfl (by simp) (TraceK.call rfl rfl k1 (TraceK.run rfl (by simp) (TraceK.call rfl rfl k2 ?_)))))
  refine TraceK.run rfl (by simp) (.done ⟨by kernel_rfl, by kernel_rfl, ?_⟩)
  refine Tr.weak (s' := { env := [(3, .ptr 3 0), (4, .ptr 4 0), (5, .ptr 5 0), (6, .ptr 6 0), (7, I (colN g a b)), (8, I (rowN g a b))], bx := [(3, ⟨gridC g, false⟩), (4, ⟨[I a.1, I a.2], false⟩), (5, ⟨[I b.1, I b.2], false⟩), (6, ⟨[I 0, I 0], false⟩)], rw := [], log := [], stp := false })
    (Wk.le (.cons rfl (.refl _) (.cons rfl (.refl _) (.cons rfl (.refl _) (.cons rfl (.refl _) (.cons rfl (VLe.i ?_) (.cons rfl (VLe.i ?_) .nil)))))) (.cons rfl (LLe.refl _) (.cons rfl (LLe.refl _) (.cons rfl (LLe.refl _) (.cons rfl (LLe.refl _) .nil)))) .nil rfl rfl) ?_
  · rw [e1, e3]; rfl
  · rw [e2, e3]; rfl
  have hwa : IntKind.wrap .i64 (g.a - 1) = g.a - 1 := w64 (by omega) (by omega)
  have hwd : IntKind.wrap .i64 (g.d - 1) = g.d - 1 := w64 (by omega) (by omega)
  refine Tr.seq (Tr.seqC rfl (by simp) (Steps.call rfl rfl (c_within (colN g a b) 0 (IntKind.wrap .i64 (g.a - 1))) (Steps.run rfl (by simp) ?_)))
  refine Steps.gcall rfl rfl rfl rfl (by simp) (fun _ => c_within (rowN g a b) 0 (IntKind.wrap .i64 (g.d - 1))) (Steps.fin rfl (by simp) ?_)
  rw [hwa, hwd]
  have hnone : ∀ {s : St} {K : St → Prop} {d : Nat} {rest : List Ins}, Am.Steps (env0 Tryz.prog mixed 96 S ok) rest K (s.put (some d) (.agg [I (-1), I (-1)])) → Am.Steps (env0 Tryz.prog mixed 96 S ok) (⟨some d, .load 2 true, [.c (.rptr 0 0)], none⟩ :: rest) K s := fun h =>
    Steps.gload (g := 0) (cs := [I (-1), I (-1)]) (by simp [globalsV]) rfl (by simp) h
  refine Tr.cond rfl rfl (fun h1 => ?_) (fun h1 => Tr.skip ?_)
  · refine Tr.seq (Tr.reg (hnone (Steps.fin rfl (by simp) (Tr.retX rfl rfl rfl ?_ trivial))))
    have : (btw (colN g a b) 0 (g.a - 1) && btw (rowN g a b) 0 (g.d - 1)) = false := by
      revert h1
      cases btw (colN g a b) 0 (g.a - 1) <;> cases btw (rowN g a b) 0 (g.d - 1) <;> first | (intro _; rfl) | (intro h; cases h)
    simp [packR, cellN, this]
  have hin : (btw (colN g a b) 0 (g.a - 1) && btw (rowN g a b) 0 (g.d - 1)) = true := by
    revert h1
    cases btw (colN g a b) 0 (g.a - 1) <;> cases btw (rowN g a b) 0 (g.d - 1) <;> first | (intro _; rfl) | (intro h; cases h)
  have hin2 := hin
  simp only [Bool.and_eq_true, btw_iff] at hin2
  have s1 := sq64 (x := a.1 - b.1) (by omega)
  have s2 := sq64 (x := a.2 - b.2) (by omega)
  have w1 : IntKind.wrap .i64 (a.1 - b.1) = a.1 - b.1 := w64 (by omega) (by omega)
  have w2 : IntKind.wrap .i64 (a.2 - b.2) = a.2 - b.2 := w64 (by omega) (by omega)
  refine Tr.seqD rfl (by simp) (by kernel_rfl) ?_
  refine Tr.seq (Tr.seqR rfl (by simp) (Tr.block ?_))
  refine Tr.loop (fun (k : Nat) s => (k ≤ g.cls.length ∧ clsAt (sqN a b) g.cls 0 = clsAt (sqN a b) (g.cls.drop k) k) ∧ s = { env := [(3, .ptr 3 0), (6, .ptr 6 0), (7, I (colN g a b)), (8, I (rowN g a b)), (9, I (a.1 - b.1)), (10, I (a.2 - b.2)), (67, sB g.cls), (68, I (g.cls.length : Nat)), (69, I (k : Nat))], bx := [(3, ⟨gridC g, false⟩), (6, ⟨[I 0, I 0], false⟩)], rw := [], log := [], stp := false }) (fun k => g.cls.length - k) 0
    (Wk.le (.cons rfl (.refl _) (.cons rfl (.refl _) (.cons rfl (.refl _) (.cons rfl (.refl _) (.cons rfl (VLe.i w1) (.cons rfl (VLe.i w2) (.cons rfl (.refl _) (.cons rfl (VLe.i (by simp)) (.cons rfl (.refl _) .nil))))))))) (.cons rfl (LLe.refl _) (.cons rfl (LLe.refl _) .nil)) .nil rfl rfl) ⟨⟨by omega, by simp⟩, rfl⟩ ?_
  rintro k s ⟨⟨hk, hf⟩, rfl⟩
  refine Tr.seqR rfl (by simp) (Tr.seqI rfl (fun h2 => ?_) (fun h2 => ?_))
  · have h2 : k < g.cls.length := by simpa using h2
    rw [clsAt_drop h2] at hf
    have w3 : IntKind.wrap .i64 ((a.1 - b.1) * (a.1 - b.1)) = (a.1 - b.1) * (a.1 - b.1) := w64 (by omega) (by omega)
    have w4 : IntKind.wrap .i64 ((a.2 - b.2) * (a.2 - b.2)) = (a.2 - b.2) * (a.2 - b.2) := w64 (by omega) (by omega)
    have w5 : IntKind.wrap .i64 (IntKind.wrap .i64 ((a.1 - b.1) * (a.1 - b.1)) + IntKind.wrap .i64 ((a.2 - b.2) * (a.2 - b.2))) = sqN a b := by rw [w3, w4]; exact w64 (by omega) (by omega)
    have kw := c_within (sqN a b) g.cls[k].1 g.cls[k].2
    rw [← w5] at kw
    refine Tr.skipT (Tr.seq (Tr.block (Tr.seq (Tr.reg (Steps.runN 2 rfl (by simp; omega) ?_)))))
    rw [getD_map h2]
    refine Steps.fin rfl (by simp) (Tr.seqC rfl (by simp) (Steps.call rfl rfl kw (Steps.fin rfl (by simp) ?_)))
    rw [w5]
    refine Tr.cond rfl rfl (fun h3 => ?_) (fun h3 => Tr.skip (Tr.regR rfl (by simp) ?_))
    · have h3 : btw (sqN a b) g.cls[k].1 g.cls[k].2 = true := h3
      rw [if_pos h3] at hf
      refine Tr.seqR rfl (by simp) (Tr.retX rfl rfl rfl ?_ trivial)
      have m1 : 0 ≤ rowN g a b * g.a ∧ rowN g a b * g.a ≤ 256 := by
        refine ⟨Int.mul_nonneg (by omega) (by omega), ?_⟩
        have := Int.mul_le_mul (show rowN g a b ≤ 16 by omega) (show g.a ≤ 16 by omega) (by omega) (by omega)
        omega
      have e : IntKind.wrap .i64 (IntKind.wrap .i64 (rowN g a b * g.a) + colN g a b) = rowN g a b * g.a + colN g a b := by
        rw [w64 (n := rowN g a b * g.a) (by omega) (by omega), w64 (by omega) (by omega)]
      show eB (cellN g a b) = .agg [I (IntKind.wrap .i64 (IntKind.wrap .i64 (rowN g a b * g.a) + colN g a b)), I (k : Int)]
      rw [e]
      simp [cellN, hin, hf]
    · have h3 : btw (sqN a b) g.cls[k].1 g.cls[k].2 = false := h3
      rw [h3, if_neg (by simp)] at hf
      exact ⟨k + 1, _, Wk.le (.cons rfl (.refl _) (.cons rfl (.refl _) (.cons rfl (.refl _) (.cons rfl (.refl _) (.cons rfl (.refl _) (.cons rfl (.refl _) (.cons rfl (.refl _) (.cons rfl (.refl _) (.cons rfl (VLe.i (w64 (by omega) (by omega))) .nil))))))))) (.cons rfl (LLe.refl _) (.cons rfl (LLe.refl _) .nil)) .nil rfl rfl, ⟨⟨h2, hf⟩, rfl⟩, by omega⟩
  · have h2 : k = g.cls.length := by simp at h2; omega
    subst h2
    rw [List.drop_length] at hf
    refine Tr.exit (Tr.seq (Tr.reg (hnone (Steps.fin rfl (by simp) (Tr.retX rfl rfl rfl ?_ trivial)))))
    simp [packR, cellN, hin, hf, clsAt]

end Go.Proofs.YtdejdblopmfjfaaGreatDoor


/-! Contracts: layouts. -/
set_option linter.unusedVariables false
set_option linter.unusedSimpArgs false
set_option maxRecDepth 20000
set_option maxHeartbeats 2000000
namespace Go.Proofs.YtdejdblopmfjfaaGreatDoor
open Go.Am
attribute [local simp] cells scalar mkv splice under2 under dem dem1 eB gridC sB fourC
theorem c_Cell {g : Gd} (hl : g.cls.length ≤ 9223372036854775807) (a b : Int × Int) : C Tryz.prog F.bin_Cell [.agg (gridC g), eB a, eB b] (if gridOk g then (if planeB a && planeB b then .tuple [eB (cellN g a b), I 0] else .tuple [.agg [I 0, I 0], I 10]) else .tuple [.agg [I 0, I 0], I 70]) := by
  have kg := c_CheckGrid (g := g) hl
  refine C_of mixed chk.bin_Cell (by simp) fun S ok => ?_
  refine Tr.seqR rfl (by simp) ?_
  by_cases hg : gridOk g = true
  rotate_left
  · rw [if_neg hg] at kg
    refine Tr.seq (Tr.seqC rfl (by simp) (Steps.call rfl rfl kg (Steps.fin rfl (by simp) (Tr.seqR rfl (by simp) (Tr.condT rfl ?_)))))
    refine Tr.seqR rfl (by simp) (Tr.retX rfl rfl rfl ?_ trivial)
    rw [if_neg hg]; rfl
  rw [if_pos hg] at kg ⊢
  refine Tr.seq (Tr.seqC rfl (by simp) (Steps.call rfl rfl kg (Steps.fin rfl (by simp) (Tr.seqR rfl (by simp) (Tr.condF rfl (Tr.skip ?_))))))
  refine Tr.seq (Tr.seqC rfl (by simp) (Steps.call rfl rfl (c_CheckPointF a) (Steps.run rfl (by simp) (Steps.gcall rfl rfl rfl rfl (by simp) (fun _ => c_CheckPointF b) (Steps.fin rfl (by simp) ?_)))))
  refine Tr.cond rfl rfl (fun h1 => ?_) (fun h1 => Tr.skip ?_)
  · refine Tr.seqR rfl (by simp) (Tr.retX rfl rfl rfl ?_ trivial)
    have : (planeB a && planeB b) = false := by
      revert h1
      cases planeB a <;> cases planeB b <;> first | (intro _; rfl) | (intro h; cases h)
    rw [this]; rfl
  have hp : planeB a = true ∧ planeB b = true := by
    revert h1
    cases planeB a <;> cases planeB b <;> first | (intro _; exact ⟨rfl, rfl⟩) | (intro h; cases h)
  refine Tr.seqC rfl (by simp) (Steps.call rfl rfl (c_cell hg hp.1 hp.2) (Steps.fin rfl (by simp) (Tr.retX rfl rfl rfl ?_ trivial)))
  rw [hp.1, hp.2]; rfl

/-! ### Regions, checked -/
def fitBB (l : Int) (b : Int × Int) : Bool := decide (-l ≤ b.1) && decide (b.1 ≤ b.2) && decide (b.2 ≤ l)
def fitFB (f : Fr) : Bool := fitBB 32768 f.x && fitBB 32768 f.y && fitBB 65536 f.s && fitBB 65536 f.d

theorem fitFB_iff (f : Fr) : fitFB f = true ↔ fitF f := by
  simp only [fitFB, fitBB, Bool.and_eq_true, decide_eq_true_eq, fitF, fitB]
  omega

theorem c_fitsF {l : Int} (b : Int × Int) (hl : 0 ≤ l ∧ l ≤ 65536) : C Tryz.prog F.region_limit_fits [I l, eB b] (.bool (fitBB l b)) := by
  refine C_of mixed chk.region_limit_fits (by simp) fun S ok => ?_
  have e : IntKind.wrap .i64 (0 - l) = -l := by rw [w64 (by omega) (by omega)]; omega
  refine Tr.seqR rfl (by simp) (Tr.seqR rfl (by simp) (Tr.retQ rfl rfl ?_ trivial))
  show V.bool (fitBB l b) = .bool (bif (bif decide (b.1 ≥ IntKind.wrap .i64 (0 - l)) then decide (b.1 ≤ b.2) else false) then decide (b.2 ≤ l) else false)
  rw [e, fitBB]
  congr 1
  by_cases h1 : -l ≤ b.1 <;> by_cases h2 : b.1 ≤ b.2 <;> simp [h1, h2]

theorem c_CheckF (f : Fr) : C Tryz.prog F.region_Check [.agg (fourC f)] (I (if fitFB f then 0 else 11)) := by
  refine C_of mixed chk.region_Check (by simp) fun S ok => ?_
  refine Tr.seqR rfl (by simp) (Tr.seqR rfl (by simp) (Tr.seq (Tr.seqC rfl (by simp) (Steps.call rfl rfl (c_bounds f) (Steps.fin rfl (by simp) (Tr.block ?_))))))
  refine Tr.rounds 5 (TrN.succ ?_)
  refine Tr.weak (s' := { env := [(3, .ptr 3 0), (12, .agg (fourC f)), (13, I 0)], bx := [(3, ⟨[.func (.func F.region_limit_fits) [I 32768] [], .func (.func F.region_limit_fits) [I 32768] [], .func (.func F.region_limit_fits) [I 65536] [], .func (.func F.region_limit_fits) [I 65536] []], false⟩)], rw := [], log := [], stp := false })
    (Wk.le (.cons rfl (.refl _) (.cons rfl (.refl _) (.cons rfl (VLe.i rfl) .nil))) (.cons rfl (LLe.refl _) .nil) .nil rfl rfl) ?_
  refine Tr.seqR rfl (by simp) (Tr.seq (Tr.condT rfl (Tr.skip (Tr.seq (Tr.block (Tr.seqR rfl (by simp) (Tr.seq ?_)))))))
  refine Tr.drawK (TraceK.run rfl (by simp) (TraceK.callv rfl rfl (c_fitsF (l := 32768) f.x (by omega)) (TraceK.run rfl (by simp) (.done ⟨by kernel_rfl, by kernel_rfl, ?_⟩))))
  refine Tr.cond rfl rfl (fun h0 => Tr.seqR rfl (by simp) (Tr.retX rfl rfl rfl ?_ trivial)) (fun h0 => Tr.skip (Tr.regR rfl (by simp) (TrN.succ ?_)))
  · have h0 : fitBB 32768 f.x = false := by simpa using h0
    simp [packR, fitFB, h0]
  have h0 : fitBB 32768 f.x = true := by simpa using h0
  refine Tr.weak (s' := { env := [(3, .ptr 3 0), (12, .agg (fourC f)), (13, I 1)], bx := [(3, ⟨[.func (.func F.region_limit_fits) [I 32768] [], .func (.func F.region_limit_fits) [I 32768] [], .func (.func F.region_limit_fits) [I 65536] [], .func (.func F.region_limit_fits) [I 65536] []], false⟩)], rw := [], log := [], stp := false })
    (Wk.le (.cons rfl (.refl _) (.cons rfl (.refl _) (.cons rfl (VLe.i rfl) .nil))) (.cons rfl (LLe.refl _) .nil) .nil rfl rfl) ?_
  refine Tr.seqR rfl (by simp) (Tr.seq (Tr.condT rfl (Tr.skip (Tr.seq (Tr.block (Tr.seqR rfl (by simp) (Tr.seq ?_)))))))
  refine Tr.drawK (TraceK.run rfl (by simp) (TraceK.callv rfl rfl (c_fitsF (l := 32768) f.y (by omega)) (TraceK.run rfl (by simp) (.done ⟨by kernel_rfl, by kernel_rfl, ?_⟩))))
  refine Tr.cond rfl rfl (fun h1 => Tr.seqR rfl (by simp) (Tr.retX rfl rfl rfl ?_ trivial)) (fun h1 => Tr.skip (Tr.regR rfl (by simp) (TrN.succ ?_)))
  · have h1 : fitBB 32768 f.y = false := by simpa using h1
    simp [packR, fitFB, h1]
  have h1 : fitBB 32768 f.y = true := by simpa using h1
  refine Tr.weak (s' := { env := [(3, .ptr 3 0), (12, .agg (fourC f)), (13, I 2)], bx := [(3, ⟨[.func (.func F.region_limit_fits) [I 32768] [], .func (.func F.region_limit_fits) [I 32768] [], .func (.func F.region_limit_fits) [I 65536] [], .func (.func F.region_limit_fits) [I 65536] []], false⟩)], rw := [], log := [], stp := false })
    (Wk.le (.cons rfl (.refl _) (.cons rfl (.refl _) (.cons rfl (VLe.i rfl) .nil))) (.cons rfl (LLe.refl _) .nil) .nil rfl rfl) ?_
  refine Tr.seqR rfl (by simp) (Tr.seq (Tr.condT rfl (Tr.skip (Tr.seq (Tr.block (Tr.seqR rfl (by simp) (Tr.seq ?_)))))))
  refine Tr.drawK (TraceK.run rfl (by simp) (TraceK.callv rfl rfl (c_fitsF (l := 65536) f.s (by omega)) (TraceK.run rfl (by simp) (.done ⟨by kernel_rfl, by kernel_rfl, ?_⟩))))
  refine Tr.cond rfl rfl (fun h2 => Tr.seqR rfl (by simp) (Tr.retX rfl rfl rfl ?_ trivial)) (fun h2 => Tr.skip (Tr.regR rfl (by simp) (TrN.succ ?_)))
  · have h2 : fitBB 65536 f.s = false := by simpa using h2
    simp [packR, fitFB, h2]
  have h2 : fitBB 65536 f.s = true := by simpa using h2
  refine Tr.weak (s' := { env := [(3, .ptr 3 0), (12, .agg (fourC f)), (13, I 3)], bx := [(3, ⟨[.func (.func F.region_limit_fits) [I 32768] [], .func (.func F.region_limit_fits) [I 32768] [], .func (.func F.region_limit_fits) [I 65536] [], .func (.func F.region_limit_fits) [I 65536] []], false⟩)], rw := [], log := [], stp := false })
    (Wk.le (.cons rfl (.refl _) (.cons rfl (.refl _) (.cons rfl (VLe.i rfl) .nil))) (.cons rfl (LLe.refl _) .nil) .nil rfl rfl) ?_
  refine Tr.seqR rfl (by simp) (Tr.seq (Tr.condT rfl (Tr.skip (Tr.seq (Tr.block (Tr.seqR rfl (by simp) (Tr.seq ?_)))))))
  refine Tr.drawK (TraceK.run rfl (by simp) (TraceK.callv rfl rfl (c_fitsF (l := 65536) f.d (by omega)) (TraceK.run rfl (by simp) (.done ⟨by kernel_rfl, by kernel_rfl, ?_⟩))))
  refine Tr.cond rfl rfl (fun h3 => Tr.seqR rfl (by simp) (Tr.retX rfl rfl rfl ?_ trivial)) (fun h3 => Tr.skip (Tr.regR rfl (by simp) (TrN.succ ?_)))
  · have h3 : fitBB 65536 f.d = false := by simpa using h3
    simp [packR, fitFB, h3]
  have h3 : fitBB 65536 f.d = true := by simpa using h3
  refine Tr.seqR rfl (by simp) (Tr.seq (Tr.condF rfl (Tr.exit ?_)))
  refine Tr.seqR rfl (by simp) (Tr.retX rfl rfl rfl ?_ trivial)
  simp [packR, fitFB, h0, h1, h2, h3]

theorem mid_of {f : Fr} (h : fitFB f = true) : midF f := by
  have h := (fitFB_iff f).1 h
  obtain ⟨⟨⟨h1, h2, h3⟩, h4, h5, h6⟩, ⟨h7, h8, h9⟩, h10, h11, h12⟩ := h
  unfold midF; omega

/-! ### How many places -/
def rowM (r : Int × Int × Int) : Int := r.2.2 - r.2.1 + 1
def countN (f : Fr) : Int := ((rowsL f).map rowM).foldl (· + ·) 0

theorem rows_bd {f : Fr} (h : midF f) : ∀ (n : Nat) (x : Int) (r : Int × Int × Int), r ∈ rowsN f n x → -1000000 ≤ r.2.1 ∧ r.2.1 ≤ r.2.2 ∧ r.2.2 ≤ 1000000
  | 0, x, r, hr => by cases hr
  | n + 1, x, r, hr => by
    simp only [rowsN] at hr
    split at hr
    · rename_i h1
      rcases List.mem_cons.1 hr with rfl | hr
      · obtain ⟨_, ⟨⟨h2, h3⟩, h4, h5⟩, _⟩ := h
        refine ⟨?_, h1, ?_⟩
        · show -1000000 ≤ lowY f x
          unfold lowY; omega
        · show highY f x ≤ 1000000
          unfold highY; omega
      · exact rows_bd h n (x + 1) r hr
    · exact rows_bd h n (x + 1) r hr

theorem rowsN_len (f : Fr) : ∀ (n : Nat) (x : Int), (rowsN f n x).length ≤ n
  | 0, x => by simp [rowsN]
  | n + 1, x => by
    have := rowsN_len f n (x + 1)
    simp only [rowsN]
    split <;> simp <;> omega

theorem sum_bd : ∀ (l : List (Int × Int × Int)) (a : Int), (∀ r ∈ l, -1000000 ≤ r.2.1 ∧ r.2.1 ≤ r.2.2 ∧ r.2.2 ≤ 1000000) → a ≤ (l.map rowM).foldl (· + ·) a ∧ (l.map rowM).foldl (· + ·) a ≤ a + l.length * 2000001
  | [], a, _ => by simp
  | r :: l, a, h => by
    have h1 := h r (by simp)
    have h2 := sum_bd l (a + rowM r) (fun r hr => h r (by simp [hr]))
    simp only [List.map_cons, List.foldl_cons, List.length_cons]
    unfold rowM at h2 ⊢
    push_cast
    omega

theorem c_Count (f : Fr) : C Tryz.prog F.region_Count [.agg (fourC f)] (if fitFB f then .tuple [I (countN f), I 0] else .tuple [I 0, I 11]) := by
  have kc := c_CheckF f
  refine C_of mixed chk.region_Count (by simp) fun S ok => ?_
  refine Tr.seqR rfl (by simp) ?_
  by_cases hf : fitFB f = true
  rotate_left
  · rw [if_neg hf] at kc
    refine Tr.seq (Tr.seqC rfl (by simp) (Steps.call rfl rfl kc (Steps.fin rfl (by simp) (Tr.seqR rfl (by simp) (Tr.condT rfl ?_)))))
    refine Tr.seqR rfl (by simp) (Tr.retX rfl rfl rfl ?_ trivial)
    rw [if_neg hf]; rfl
  rw [if_pos hf] at kc ⊢
  have hm := mid_of hf
  have hlen : (rowsL f).length ≤ 2000001 := by
    have h1 := rowsN_len f (f.x.2 + 1 - f.x.1).toNat f.x.1
    obtain ⟨⟨⟨h2, h3⟩, h4, h5⟩, _⟩ := hm
    unfold rowsL; omega
  have hrb : ∀ r ∈ rowsL f, -1000000 ≤ r.2.1 ∧ r.2.1 ≤ r.2.2 ∧ r.2.2 ≤ 1000000 := fun r hr => rows_bd hm _ _ r hr
  refine Tr.seq (Tr.seqC rfl (by simp) (Steps.call rfl rfl kc (Steps.fin rfl (by simp) (Tr.seqR rfl (by simp) (Tr.condF rfl (Tr.skip ?_))))))
  refine Tr.seqR rfl (by simp) (Tr.seq (Tr.seqC rfl (by simp) (Steps.call rfl rfl (c_bounds f) (Steps.call rfl rfl (c_rows f) (Steps.fin rfl (by simp) (Tr.block ?_))))))
  refine Tr.weak (s' := { env := [(14, .func (.func F.region_four_rows_1) [] [.vptr (fourC f) 0]), (5, .ptr 5 0)], bx := [(5, ⟨[I 0], false⟩)], rw := [], log := [], stp := false })
    (Wk.le (.cons rfl (.refl _) (.cons rfl (.refl _) .nil)) (.cons rfl (LLe.refl _) .nil) .nil rfl rfl) ?_
  refine Tr.range rfl rfl (i_rows hm) rfl rfl rfl (by intro x hx; obtain ⟨b, _, rfl⟩ := List.mem_map.1 hx; rfl)
    (fun pre t => ∃ m, m ≤ (rowsL f).length ∧ pre = ((rowsL f).take m).map eRow ∧ t.bx = [(5, ⟨[I ((((rowsL f).take m).map rowM).foldl (· + ·) 0)], false⟩)] ∧ t.rw = [] ∧ t.log = [])
    (fun _ _ => False) ⟨0, by omega, rfl, rfl, rfl, rfl⟩ ?_ ?_ ?_
  · rintro a0 L0 rc0 h0 S1 S2 ok1 ok2 pre q t lp hpre ⟨m, hm', rfl, hbx, hrw, hlog⟩ henv hstp
    obtain ⟨env, bx, rw, log, stp⟩ := t
    simp only at hbx hrw hlog henv hstp
    subst hbx hrw hlog henv hstp
    have hmx : m < (rowsL f).length ∧ ∃ b, (rowsL f)[m]? = some b ∧ q = eRow b := by
      have h1 : (((rowsL f).take m).map eRow).length = m := by simp; omega
      have h2 := hpre.length_le
      simp at h2
      have hml : m < (rowsL f).length := by omega
      refine ⟨hml, _, List.getElem?_eq_getElem hml, ?_⟩
      have h3 := List.IsPrefix.getElem hpre (i := m) (by simp; omega)
      simp only [List.getElem_map] at h3
      rw [List.getElem_append_right (by omega)] at h3
      simpa using h3
    obtain ⟨hml, r, hb, rfl⟩ := hmx
    have hr := hrb r (List.mem_of_getElem? hb)
    have hs := sum_bd ((rowsL f).take m) 0 (fun r hr => hrb r (List.mem_of_mem_take hr))
    have hl2 : ((rowsL f).take m).length ≤ 2000001 := by rw [List.length_take]; omega
    have eT : ((rowsL f).take (m + 1)).map rowM = ((rowsL f).take m).map rowM ++ [rowM r] := by
      rw [List.take_add_one, hb, List.map_append]; rfl
    refine Tr.regR rfl (by simp) ?_
    refine Tr.block (Tr.regR rfl (by simp) ?_)
    refine ⟨{ env := [], bx := [(5, ⟨[I ((((rowsL f).take (m + 1)).map rowM).foldl (· + ·) 0)], false⟩)], rw := [], log := [], stp := false }, Wk.le .nil (.cons rfl (.cons (VLe.i ?_) .nil) .nil) .nil rfl rfl, ⟨m + 1, by omega, ?_, rfl, rfl, rfl⟩, rfl⟩
    · rw [eT, List.foldl_append]
      show IntKind.wrap .i64 ((((rowsL f).take m).map rowM).foldl (· + ·) 0 + IntKind.wrap .i64 (IntKind.wrap .i64 (r.2.2 - r.2.1) + 1)) = (((rowsL f).take m).map rowM).foldl (· + ·) 0 + rowM r
      unfold rowM at hs ⊢
      rw [w64 (n := r.2.2 - r.2.1) (by omega) (by omega), w64 (n := r.2.2 - r.2.1 + 1) (by omega) (by omega), w64 (by omega) (by omega)]
    · rw [List.take_add_one, hb]; simp
  · rintro ⟨env, bx, rw, log, stp⟩ henv hstp ⟨m, hm', hpre, hbx, hrw, hlog⟩
    simp only at hbx hrw hlog henv hstp
    subst hbx hrw hlog henv hstp
    have hml : m = (rowsL f).length := by
      have := congrArg List.length hpre
      simp at this; omega
    subst hml
    rw [List.take_length]
    exact Tr.seqR rfl (by simp) (Tr.retX rfl rfl rfl rfl trivial)
  · intro e t _ h; exact h.elim

end Go.Proofs.YtdejdblopmfjfaaGreatDoor


/-! Contracts: layouts, laid. -/
set_option linter.unusedVariables false
set_option linter.unusedSimpArgs false
set_option maxRecDepth 20000
set_option maxHeartbeats 2000000
namespace Go.Proofs.YtdejdblopmfjfaaGreatDoor
open Go.Am
attribute [local simp] cells scalar mkv splice under2 under dem dem1 eB gridC sB fourC
structure Ly where
  nodes : List Fr
  traces : List (Int × Int)

def eF (f : Fr) : V := .agg (fourC f)
def layC (s : Ly) : List V := [.slice 0 8 (s.nodes.map eF), .slice 0 2 (s.traces.map eB)]
attribute [local simp] eF layC
def nodeOk (f : Fr) : Bool := fitFB f && btw (countN f) 1 64
def traceOk (n : Nat) (t : Int × Int) : Bool := btw t.1 0 ((n : Int) - 1) && btw t.2 0 ((n : Int) - 1) && t.1 != t.2
def layOk (s : Ly) : Bool := decide (s.nodes.length ≤ 16) && decide (s.traces.length ≤ 64) && s.nodes.all nodeOk && s.traces.all (traceOk s.nodes.length)

theorem all_take_succ {α : Type} {p : α → Bool} {l : List α} {k : Nat} (h : k < l.length) : (l.take (k + 1)).all p = ((l.take k).all p && p l[k]) := by
  rw [List.take_add_one, List.getElem?_eq_getElem h, List.all_append]
  simp

theorem all_false {α : Type} {p : α → Bool} {l : List α} {k : Nat} (h : k < l.length) (hp : p l[k] = false) : l.all p = false := by
  rw [List.all_eq_false]
  exact ⟨_, List.getElem_mem h, by simp [hp]⟩

theorem c_CheckLayout {s : Ly} (hn : s.nodes.length ≤ 9223372036854775807) (ht : s.traces.length ≤ 9223372036854775807) : C Tryz.prog F.bin_CheckLayout [.agg (layC s)] (I (if layOk s then 0 else 71)) := by
  refine C_of mixed chk.bin_CheckLayout (by simp) fun S ok => ?_
  refine Tr.seqR rfl (by simp) (Tr.seq (Tr.seqR rfl (by simp) (Tr.cond rfl rfl (fun h1 => ?_) (fun h1 => Tr.skip ?_))))
  · refine Tr.seqR rfl (by simp) (Tr.retX rfl rfl rfl ?_ trivial)
    have h1 : (bif decide (((s.nodes.map eF).length : Int) > 16) then true else decide (((s.traces.map eB).length : Int) > 64)) = true := h1
    have : layOk s = false := by
      unfold layOk
      by_cases a1 : s.nodes.length ≤ 16
      · by_cases a2 : s.traces.length ≤ 64
        · simp at h1; omega
        · simp [a2]
      · simp [a1]
    rw [this]; rfl
  have h1 : (bif decide (((s.nodes.map eF).length : Int) > 16) then true else decide (((s.traces.map eB).length : Int) > 64)) = false := h1
  have hnl : s.nodes.length ≤ 16 ∧ s.traces.length ≤ 64 := by
    simp at h1; omega
  refine Tr.seq (Tr.seqR rfl (by simp) (Tr.block ?_))
  refine Tr.loop (fun (k : Nat) st => (k ≤ s.nodes.length ∧ (s.nodes.take k).all nodeOk = true) ∧ st = { env := [(1, .ptr 1 0), (20, .slice 0 8 (s.nodes.map eF)), (21, I (s.nodes.length : Nat)), (22, I (k : Nat))], bx := [(1, ⟨layC s, false⟩)], rw := [], log := [], stp := false }) (fun k => s.nodes.length - k) 0
    (Wk.le (.cons rfl (.refl _) (.cons rfl (.refl _) (.cons rfl (VLe.i (by simp)) (.cons rfl (.refl _) .nil)))) (.cons rfl (LLe.refl _) .nil) .nil rfl rfl) ⟨⟨by omega, by simp⟩, rfl⟩ ?_
  rintro k st ⟨⟨hk, hall⟩, rfl⟩
  refine Tr.seqR rfl (by simp) (Tr.seqI rfl (fun h2 => ?_) (fun h2 => ?_))
  · have h2 : k < s.nodes.length := by simpa using h2
    refine Tr.skipT (Tr.seq (Tr.block (Tr.seq (Tr.reg (Steps.runN 1 rfl (by simp; omega) ?_)))))
    rw [getD_map h2]
    refine Steps.fin rfl (by simp) ?_
    have kc := c_Count s.nodes[k]
    by_cases hf : fitFB s.nodes[k] = true
    · rw [if_pos hf] at kc
      refine Tr.seqC rfl (by simp) (Steps.call rfl rfl kc (Steps.fin rfl (by simp) ?_))
      refine Tr.seqC rfl (by simp) (Steps.gcall rfl rfl rfl rfl (by simp) (fun _ => c_within (countN s.nodes[k]) 1 64) (Steps.fin rfl (by simp) ?_))
      refine Tr.cond rfl rfl (fun h3 => ?_) (fun h3 => Tr.skip (Tr.regR rfl (by simp) ?_))
      · have h3 : btw (countN s.nodes[k]) 1 64 = false := by simpa using h3
        refine Tr.seqR rfl (by simp) (Tr.retX rfl rfl rfl ?_ trivial)
        have : layOk s = false := by
          unfold layOk
          rw [all_false (p := nodeOk) h2 (by simp [nodeOk, h3])]; simp
        rw [this]; rfl
      · have h3 : btw (countN s.nodes[k]) 1 64 = true := by simpa using h3
        exact ⟨k + 1, _, Wk.le (.cons rfl (.refl _) (.cons rfl (.refl _) (.cons rfl (.refl _) (.cons rfl (VLe.i (w64 (by omega) (by omega))) .nil)))) (.cons rfl (LLe.refl _) .nil) .nil rfl rfl, ⟨⟨h2, by rw [all_take_succ h2, hall]; simp [nodeOk, hf, h3]⟩, rfl⟩, by omega⟩
    · rw [if_neg hf] at kc
      refine Tr.seqC rfl (by simp) (Steps.call rfl rfl kc (Steps.fin rfl (by simp) ?_))
      refine Tr.seqC rfl (by simp) (Steps.off (want := false) (.bool true) rfl rfl rfl (Steps.fin rfl (by simp) ?_))
      refine Tr.condT rfl (Tr.seqR rfl (by simp) (Tr.retX rfl rfl rfl ?_ trivial))
      have : layOk s = false := by
        unfold layOk
        rw [all_false (p := nodeOk) h2 (by simp [nodeOk, hf])]; simp
      rw [this]; rfl
  have h2 : k = s.nodes.length := by simp at h2; omega
  subst h2
  rw [List.take_length] at hall
  refine Tr.exit (Tr.seq (Tr.seqR rfl (by simp) (Tr.block ?_)))
  refine Tr.loop (fun (k : Nat) st => (k ≤ s.traces.length ∧ (s.traces.take k).all (traceOk s.nodes.length) = true) ∧ st = { env := [(1, .ptr 1 0), (40, .slice 0 2 (s.traces.map eB)), (41, I (s.traces.length : Nat)), (42, I (k : Nat))], bx := [(1, ⟨layC s, false⟩)], rw := [], log := [], stp := false }) (fun k => s.traces.length - k) 0
    (Wk.le (.cons rfl (.refl _) (.cons rfl (.refl _) (.cons rfl (VLe.i (by simp)) (.cons rfl (.refl _) .nil)))) (.cons rfl (LLe.refl _) .nil) .nil rfl rfl) ⟨⟨by omega, by simp⟩, rfl⟩ ?_
  rintro k st ⟨⟨hk, hallT⟩, rfl⟩
  refine Tr.seqR rfl (by simp) (Tr.seqI rfl (fun h2 => ?_) (fun h2 => ?_))
  · have h2 : k < s.traces.length := by simpa using h2
    refine Tr.skipT (Tr.seq (Tr.block (Tr.seq (Tr.reg (Steps.runN 1 rfl (by simp; omega) ?_)))))
    rw [getD_map h2]
    refine Steps.fin rfl (by simp) ?_
    have hw1 : IntKind.wrap .i64 (((s.nodes.map eF).length : Int) - 1) = (s.nodes.length : Int) - 1 := by rw [List.length_map, w64 (by omega) (by omega)]
    refine Tr.seqC rfl (by simp) (Steps.call rfl rfl (c_within s.traces[k].1 0 (IntKind.wrap .i64 (((s.nodes.map eF).length : Int) - 1))) (Steps.run rfl (by simp) ?_))
    refine Steps.gcall rfl rfl rfl rfl (by simp) (fun _ => c_within s.traces[k].2 0 (IntKind.wrap .i64 (((s.nodes.map eF).length : Int) - 1))) (Steps.fin rfl (by simp) ?_)
    rw [hw1]
    have hT : traceOk s.nodes.length s.traces[k] = (btw s.traces[k].1 0 ((s.nodes.length : Int) - 1) && btw s.traces[k].2 0 ((s.nodes.length : Int) - 1) && !(s.traces[k].1 == s.traces[k].2)) := rfl
    refine Tr.cond rfl rfl (fun h3 => ?_) (fun h3 => Tr.skip (Tr.regR rfl (by simp) ?_))
    · refine Tr.seqR rfl (by simp) (Tr.retX rfl rfl rfl ?_ trivial)
      have hf : traceOk s.nodes.length s.traces[k] = false := by
        rw [hT]
        revert h3
        cases btw s.traces[k].1 0 ((s.nodes.length : Int) - 1) <;> cases btw s.traces[k].2 0 ((s.nodes.length : Int) - 1) <;> cases (s.traces[k].1 == s.traces[k].2) <;> first | (intro _; rfl) | (intro h; cases h)
      have : layOk s = false := by
        unfold layOk
        rw [all_false (p := traceOk s.nodes.length) h2 hf]; simp
      rw [this]; rfl
    · have hf : traceOk s.nodes.length s.traces[k] = true := by
        rw [hT]
        revert h3
        cases btw s.traces[k].1 0 ((s.nodes.length : Int) - 1) <;> cases btw s.traces[k].2 0 ((s.nodes.length : Int) - 1) <;> cases (s.traces[k].1 == s.traces[k].2) <;> first | (intro _; rfl) | (intro h; cases h)
      exact ⟨k + 1, _, Wk.le (.cons rfl (.refl _) (.cons rfl (.refl _) (.cons rfl (.refl _) (.cons rfl (VLe.i (w64 (by omega) (by omega))) .nil)))) (.cons rfl (LLe.refl _) .nil) .nil rfl rfl, ⟨⟨h2, by rw [all_take_succ h2, hallT, hf]; rfl⟩, rfl⟩, by omega⟩
  have h2 : k = s.traces.length := by simp at h2; omega
  subst h2
  rw [List.take_length] at hallT
  refine Tr.exit (Tr.seqR rfl (by simp) (Tr.retX rfl rfl rfl ?_ trivial))
  have : layOk s = true := by
    unfold layOk
    rw [hall, hallT, decide_eq_true hnl.1, decide_eq_true hnl.2]; rfl
  rw [this]; rfl

end Go.Proofs.YtdejdblopmfjfaaGreatDoor


/-! What a slot holds becomes data (the boxes that it leads to are shut for good). -/
set_option linter.unusedVariables false
set_option linter.unusedSimpArgs false
namespace Go.Proofs.YtdejdblopmfjfaaGreatDoor
open Go.Am

theorem wkData {E : Env} {s : St} {t : Nat} {v u : V} {ids : List Nat} (ht : get s.env t = some v) (hd : toDs s.fs.b [v] = some ([u], ids)) : Wk E s ((s.eff { v := nothing, wb := Am.freeze s.fs.b ids }).put (some t) u) := by
  intro a w h R
  obtain ⟨q1, q2, _⟩ := R.1.env t _ (by rw [fs_g]; exact ht)
  obtain ⟨h1, R1, ext, b1, g1, y1, hrep⟩ := args_data R.1 hd
  have rd : RepD w h1.φ u (a.tmps.getD t undef) := (hrep #[a.tmps.getD t undef] rfl (fun i v' x e1 e2 => by
    cases i with
    | zero => simp at e1 e2; subst e1 e2; simpa using q2
    | succ i => simp at e1)).2 0 u _ rfl rfl
  have R2 := R1.put (d := t) q1 (.data rd) (GrowV.of_data rd)
  rw [put_self (by rw [R.1.size]; exact q1)] at R2
  refine ⟨h1, ⟨?_, by rw [y1]; exact R.2⟩, y1⟩
  have e : ((s.eff { v := nothing, wb := Am.freeze s.fs.b ids }).put (some t) u).fs = (((Am.freeze s.fs.b ids).foldl (fun τ p => τ.set (.bx p.1) (.b p.2)) s.fs)).set (.slot t) (.v u) := by
    rw [fs_put, fs_eff]; rfl
  have e2 : ∀ (l : List (Nat × Box)) (s : St), (l.foldl (fun s p => s.setB p.1 p.2) s).log = s.log ∧ (l.foldl (fun s p => s.setB p.1 p.2) s).stp = s.stp := by
    intro l
    induction l with
    | nil => intro s; exact ⟨rfl, rfl⟩
    | cons p l ih => intro s; exact ih _
  have e3 := e2 (Am.freeze s.fs.b ids) s
  show Rel E.nt E.S _ _ _ a w h1
  rw [e]
  have e4 : ((s.eff { v := nothing, wb := Am.freeze s.fs.b ids }).put (some t) u).log = s.log := e3.1
  have e5 : ((s.eff { v := nothing, wb := Am.freeze s.fs.b ids }).put (some t) u).stp = s.stp := e3.2
  rw [e4, e5]
  exact R2

/-- Weakening inside a region. -/
theorem stepsWk {E : Env} {s s' : St} {i : Ins} {r : List Ins} {K : St → Prop} (h : Wk E s s') (k : Am.Steps E (i :: r) K s') : Am.Steps E (i :: r) K s := by
  refine Step1.raw fun slots ops o j ro n a w hh hc hs hi R Q next hn => ?_
  obtain ⟨h', R', hy⟩ := h a w hh R
  exact step_ok (k : Step1 E i (Am.Steps E r K) s') hc hs hi R' fun s'' a' w' h'' k R ey => hn s'' a' w' h'' k R (ey.trans hy)

end Go.Proofs.YtdejdblopmfjfaaGreatDoor


/-! Contracts: the places of a region; pairs; layouts, laid. -/
set_option linter.unusedVariables false
set_option linter.unusedSimpArgs false
set_option maxRecDepth 20000
set_option maxHeartbeats 2000000
namespace Go.Proofs.YtdejdblopmfjfaaGreatDoor
open Go.Am
attribute [local simp] cells scalar mkv splice under2 under dem dem1 eB gridC sB fourC eF layC
/-! ### All places of a region -/
def ptsN (x : Int) : Nat → Int → List (Int × Int)
  | 0, _ => []
  | n + 1, y => (x, y) :: ptsN x n (y + 1)
def colP (r : Int × Int × Int) : List (Int × Int) := ptsN r.1 (r.2.2 + 1 - r.2.1).toNat r.2.1
def placesL (f : Fr) : List (Int × Int) := (rowsL f).flatMap colP
def colAt (f : Fr) (x : Int) : List (Int × Int) := ptsN x (highY f x + 1 - lowY f x).toNat (lowY f x)

theorem ptsN_len (x : Int) : ∀ (n : Nat) (y : Int), (ptsN x n y).length = n
  | 0, _ => rfl
  | n + 1, y => by simp [ptsN, ptsN_len x n]

theorem rowsN_flat (f : Fr) (n : Nat) (x : Int) : (rowsN f (n + 1) x).flatMap colP = colAt f x ++ (rowsN f n (x + 1)).flatMap colP := by
  simp only [rowsN]
  split
  · rfl
  · have : (highY f x + 1 - lowY f x).toNat = 0 := by omega
    unfold colAt
    rw [this]; rfl

theorem count_len {f : Fr} (hm : midF f) : ((placesL f).length : Int) = countN f := by
  have key : ∀ (l : List (Int × Int × Int)) (a : Int), (∀ r ∈ l, r.2.1 ≤ r.2.2) → a + ((l.flatMap colP).length : Int) = (l.map rowM).foldl (· + ·) a := by
    intro l
    induction l with
    | nil => intro a _; simp
    | cons r l ih =>
      intro a h
      have h1 := h r (by simp)
      rw [List.map_cons, List.foldl_cons, ← ih (a + rowM r) (fun r hr => h r (by simp [hr])), List.flatMap_cons, List.length_append, colP, ptsN_len]
      unfold rowM
      push_cast
      omega
  have := key (rowsL f) 0 (fun r hr => (rows_bd hm _ _ r hr).2.1)
  unfold placesL countN
  omega

theorem c_places {f : Fr} (h : nodeOk f = true) : C Tryz.prog F.bin_places [.agg (fourC f)] (.slice 0 2 ((placesL f).map eB)) := by
  simp only [nodeOk, Bool.and_eq_true, btw_iff] at h
  have hm := mid_of h.1
  have hcl := count_len hm
  have hPl : (placesL f).length ≤ 64 := by omega
  obtain ⟨⟨⟨hx1, hx2⟩, hx3, hx4⟩, ⟨⟨hy1, hy2⟩, hy3, hy4⟩, ⟨⟨hs1, hs2⟩, hs3, hs4⟩, ⟨hd1, hd2⟩, hd3, hd4⟩ := hm
  refine C_of mixed chk.bin_places (by simp) fun S ok => ?_
  refine Tr.seqR rfl (by simp) (Tr.seqR rfl (by simp) (Tr.seq (Tr.seqR rfl (by simp) (Tr.block ?_))))
  refine Tr.loop (α := Nat × List (Int × Int)) (fun p s => (p.1 ≤ (f.x.2 + 1 - f.x.1).toNat ∧ p.2 ++ (rowsN f ((f.x.2 + 1 - f.x.1).toNat - p.1) (f.x.1 + p.1)).flatMap colP = placesL f) ∧
      s = { env := [(1, .ptr 1 0), (3, .slice 54 2 (p.2.map eB)), (4, I (f.x.1 + p.1))], bx := [(1, ⟨fourC f, false⟩)], rw := [(53, p.2.length, 2, 23)], log := [], stp := false }) (fun p => (f.x.2 + 1 - f.x.1).toNat - p.1) (0, [])
    (Wk.le (.cons rfl (.refl _) (.cons rfl (.nil 54 2) (.cons rfl (VLe.i (by simp)) .nil))) (.cons rfl (LLe.refl _) .nil) (.new rfl .nil) rfl rfl) ⟨⟨by simp, by simp [placesL, rowsL]⟩, rfl⟩ ?_
  rintro ⟨k, out⟩ s ⟨⟨hk, hl⟩, rfl⟩
  simp only at hk hl
  refine Tr.seq (Tr.seqR rfl (by simp) (Tr.cond rfl rfl (fun h1 => Tr.skip ?_) (fun h1 => Tr.exit ?_)))
  · have h1 : f.x.1 + (k : Int) ≤ f.x.2 := by simpa using h1
    obtain ⟨x, hx⟩ : ∃ x, f.x.1 + (k : Int) = x := ⟨_, rfl⟩
    obtain ⟨n, hn⟩ : ∃ n, (f.x.2 + 1 - f.x.1).toNat - k = n + 1 := ⟨(f.x.2 + 1 - f.x.1).toNat - k - 1, by omega⟩
    have hn2 : (f.x.2 + 1 - f.x.1).toNat - (k + 1) = n := by omega
    have hx' : f.x.1 + ((k + 1 : Nat) : Int) = x + 1 := by omega
    rw [hn, hx, rowsN_flat] at hl
    rw [hx] at h1
    rw [hx]
    refine Tr.seq (Tr.block (Tr.seqR rfl (by simp) (Tr.block ?_)))
    obtain ⟨M, hM⟩ : ∃ M, (highY f x + 1 - lowY f x).toNat = M := ⟨_, rfl⟩
    have hcol : colAt f x = ptsN x M (lowY f x) := by unfold colAt; rw [hM]
    rw [hcol] at hl
    have hlow : -1000000 ≤ lowY f x ∧ highY f x ≤ 1000000 := by unfold lowY highY; omega
    have hlow2 : lowY f x ≤ 3000000 ∧ -3000000 ≤ highY f x := by unfold lowY highY; omega
    refine Tr.loop (α := Nat × List (Int × Int)) (fun p s => (p.1 ≤ M ∧ p.2 ++ (ptsN x (M - p.1) (lowY f x + p.1) ++ (rowsN f n (x + 1)).flatMap colP) = placesL f) ∧
        s = { env := [(1, .ptr 1 0), (3, .slice 54 2 (p.2.map eB)), (4, I (x)), (5, I (lowY f x + p.1))], bx := [(1, ⟨fourC f, false⟩)], rw := [(53, p.2.length, 2, 23)], log := [], stp := false }) (fun p => M - p.1) (0, out)
      (Wk.le (.cons rfl (.refl _) (.cons rfl (.refl _) (.cons rfl (.refl _) (.cons rfl (VLe.i ?_) .nil)))) (.cons rfl (LLe.refl _) .nil) (.cons rfl .nil) rfl rfl) ⟨⟨by simp, by simpa using hl⟩, rfl⟩ ?_
    · simp (disch := omega) only [cond_true, cond_false, ite_max, ite_min, w64]
      unfold lowY; omega
    rintro ⟨j, o2⟩ s ⟨⟨hj, hl2⟩, rfl⟩
    simp only at hj hl2
    have ho2 : o2.length ≤ 64 := by
      have := congrArg List.length hl2
      rw [List.length_append] at this; omega
    refine Tr.seq (Tr.seqN 15 rfl (by simp) ?_)
    refine stepsWk (s' := { env := [(1, .ptr 1 0), (3, .slice 54 2 (o2.map eB)), (4, I (x)), (5, I (lowY f x + j)), (30, I (lowY f x + j)), (44, I (highY f x))], bx := [(1, ⟨fourC f, false⟩)], rw := [(53, o2.length, 2, 23)], log := [], stp := false })
      (Wk.le (.cons rfl (.refl _) (.cons rfl (.refl _) (.cons rfl (.refl _) (.cons rfl (.refl _) (.cons rfl (.refl _) (.cons rfl (VLe.i ?_) .nil)))))) (.cons rfl (LLe.refl _) .nil) (.cons rfl .nil) rfl rfl) ?_
    · simp (disch := omega) only [cond_true, cond_false, ite_max, ite_min, w64, highY]
    refine Steps.fin rfl (by simp) (Tr.cond rfl rfl (fun h2 => Tr.skip ?_) (fun h2 => Tr.exit ?_))
    · have h2 : lowY f x + (j : Int) ≤ highY f x := by simpa using h2
      obtain ⟨q, hq⟩ : ∃ q, M - j = q + 1 := ⟨M - j - 1, by omega⟩
      have hq2 : M - (j + 1) = q := by omega
      have e1 : lowY f x + ((j + 1 : Nat) : Int) = lowY f x + j + 1 := by omega
      refine Tr.seq (Tr.block (Tr.regR rfl (by simp; omega) (Tr.regR rfl (by simp) ?_)))
      refine ⟨(j + 1, o2 ++ [(x, lowY f x + j)]), _, Wk.le (.cons rfl (.refl _) (.cons rfl (.of_eq (by simp)) (.cons rfl (.refl _) (.cons rfl (VLe.i ?_) .nil)))) (.cons rfl (LLe.refl _) .nil) (.cons ?_ .nil) rfl rfl, ⟨⟨by simp only; omega, ?_⟩, rfl⟩, by simp only; omega⟩
      · show IntKind.wrap .i64 (lowY f x + (j : Int) + 1) = _
        rw [w64 (by omega) (by omega)]; simp only; omega
      · show some _ = some _
        simp
      · simp only
        rw [hq2, e1, ← hl2, hq]
        simp [ptsN]
    · have h2 : ¬ lowY f x + (j : Int) ≤ highY f x := by simpa using h2
      rw [show M - j = 0 by omega] at hl2
      refine Tr.regR rfl (by simp) ?_
      refine ⟨(k + 1, o2), _, Wk.le (.cons rfl (.refl _) (.cons rfl (.refl _) (.cons rfl (VLe.i ?_) .nil))) (.cons rfl (LLe.refl _) .nil) (.cons rfl .nil) rfl rfl, ⟨⟨by simp only; omega, ?_⟩, rfl⟩, by simp only; omega⟩
      · show IntKind.wrap .i64 (x + 1) = f.x.1 + ((k + 1 : Nat) : Int)
        rw [w64 (by omega) (by omega)]; omega
      · simp only
        rw [hn2, hx']
        simpa [ptsN] using hl2
  · have h1 : ¬ f.x.1 + (k : Int) ≤ f.x.2 := by simpa using h1
    rw [show (f.x.2 + 1 - f.x.1).toNat - k = 0 by omega] at hl
    have e : out = placesL f := by simpa [rowsN] using hl
    refine Tr.seqR rfl (by simp) (Tr.retX rfl rfl rfl ?_ trivial)
    rw [← e]; rfl

end Go.Proofs.YtdejdblopmfjfaaGreatDoor


/-! Contracts: pairs; layouts, laid. -/
set_option linter.unusedVariables false
set_option linter.unusedSimpArgs false
set_option maxRecDepth 20000
set_option maxHeartbeats 2000000
namespace Go.Proofs.YtdejdblopmfjfaaGreatDoor
open Go.Am
attribute [local simp] cells scalar mkv splice under2 under dem dem1 eB gridC sB fourC eF layC
def pairsL (l m : List (Int × Int)) : List ((Int × Int) × (Int × Int)) := l.flatMap fun a => m.map fun b => (a, b)
def eP2 (p : (Int × Int) × (Int × Int)) : List V := [eB p.1, eB p.2]

theorem pairs_drop {l m : List (Int × Int)} {k : Nat} (h : k < l.length) : pairsL (l.drop k) m = (m.map fun b => (l[k], b)) ++ pairsL (l.drop (k + 1)) m := by
  rw [List.drop_eq_getElem_cons h]; rfl

theorem c_pairs (l m : List (Int × Int)) : C Tryz.prog F.bin_pairs [sB l, sB m] (.func (.func F.bin_pairs_1) [] [.vptr [sB l] 0, .vptr [sB m] 0]) := by
  refine C_of mixed chk.bin_pairs (by simp) fun S ok => ?_
  exact Tr.seqR rfl (by simp) (Tr.seqR rfl (by simp) (Tr.retQ rfl rfl rfl trivial))

theorem i_pairs {l m : List (Int × Int)} (hl : l.length ≤ 1000000) (hm : m.length ≤ 1000000) : Iter Tryz.prog F.bin_pairs_1 [.vptr [sB l] 0, .vptr [sB m] 0] ((pairsL l m).map eP2) := by
  refine Iter_of mixed chk.bin_pairs_1 (by simp) fun S ok => ?_
  refine Tr.seqR rfl (by simp) (Tr.block ?_)
  refine Tr.loop (α := Nat × List (List V)) (fun p s => (p.1 ≤ l.length ∧ p.2 ++ (pairsL (l.drop p.1) m).map eP2 = (pairsL l m).map eP2) ∧
      s = { env := [(0, .yld), (1, .vptr [sB l] 0), (2, .vptr [sB m] 0), (8, sB l), (9, I (l.length : Nat)), (10, I (p.1 : Nat))], bx := [], rw := [], log := p.2, stp := false }) (fun p => l.length - p.1) (0, [])
    (Wk.le (.cons rfl (.refl _) (.cons rfl (.refl _) (.cons rfl (.refl _) (.cons rfl (.refl _) (.cons rfl (VLe.i (by simp)) (.cons rfl (.refl _) .nil)))))) .nil .nil rfl rfl) ⟨⟨by simp, by simp⟩, rfl⟩ ?_
  rintro ⟨k, lg⟩ s ⟨⟨hk, hf⟩, rfl⟩
  simp only at hk hf
  refine Tr.seqR rfl (by simp) (Tr.seqI rfl (fun h1 => ?_) (fun h1 => ?_))
  · have h1 : k < l.length := by simpa using h1
    rw [pairs_drop h1, List.map_append, ← List.append_assoc] at hf
    have hf' : lg ++ ((m.drop 0).map fun b => eP2 (l[k], b)) ++ (pairsL (l.drop (k + 1)) m).map eP2 = (pairsL l m).map eP2 := by
      rw [List.map_map] at hf; rw [List.drop_zero]; exact hf
    refine Tr.skipT (Tr.seq (Tr.block (Tr.seq (Tr.reg (Steps.runN 1 rfl (by simp; omega) ?_)))))
    rw [getD_map h1]
    refine Steps.fin rfl (by simp) ?_
    refine Tr.seqR rfl (by simp) (Tr.block ?_)
    refine Tr.loop (α := Nat × List (List V)) (fun p s => (p.1 ≤ m.length ∧ p.2 ++ ((m.drop p.1).map fun b => eP2 (l[k], b)) ++ (pairsL (l.drop (k + 1)) m).map eP2 = (pairsL l m).map eP2) ∧
        s = { env := [(0, .yld), (1, .vptr [sB l] 0), (2, .vptr [sB m] 0), (8, sB l), (9, I (l.length : Nat)), (10, I (k : Nat)), (5, .ptr 5 0), (14, sB m), (15, I (m.length : Nat)), (16, I (p.1 : Nat))], bx := [(5, ⟨[I l[k].1, I l[k].2], false⟩)], rw := [], log := p.2, stp := false }) (fun p => m.length - p.1) (0, lg)
      (Wk.le (.cons rfl (.refl _) (.cons rfl (.refl _) (.cons rfl (.refl _) (.cons rfl (.refl _) (.cons rfl (.refl _) (.cons rfl (.refl _) (.cons rfl (.refl _) (.cons rfl (.refl _) (.cons rfl (VLe.i (by show ((m.map eB).length : Int) = (m.length : Int); rw [List.length_map])) (.cons rfl (.refl _) .nil)))))))))) (.cons rfl (LLe.refl _) .nil) .nil rfl rfl) ⟨⟨Nat.zero_le _, hf'⟩, rfl⟩ ?_
    rintro ⟨j, lg2⟩ s ⟨⟨hj, hf2⟩, rfl⟩
    simp only at hj hf2
    refine Tr.seqR rfl (by simp) (Tr.seqI rfl (fun h2 => ?_) (fun h2 => ?_))
    · have h2 : j < m.length := by simpa using h2
      have hp : lg2 ++ [eP2 (l[k], m[j])] ++ ((m.drop (j + 1)).map fun b => eP2 (l[k], b)) ++ (pairsL (l.drop (k + 1)) m).map eP2 = (pairsL l m).map eP2 := by
        rw [← hf2, List.drop_eq_getElem_cons h2, List.map_cons]
        simp only [List.append_assoc, List.cons_append, List.nil_append]
      refine Tr.skipT (Tr.seq (Tr.block (Tr.seq (Tr.reg (Steps.runN 1 rfl (by simp; omega) ?_)))))
      rw [getD_map h2]
      refine Steps.fin rfl (by simp) ?_
      refine Tr.seqC rfl (by simp) (Steps.yield rfl (by simp) rfl ⟨_, by rw [List.append_assoc] at hp; exact hp⟩ rfl (fun b => Steps.fin rfl (by simp) ?_))
      cases b with
      | false => exact Tr.condT rfl (Tr.ret ⟨.inl rfl, [], [], [], rfl, rfl, rfl⟩)
      | true =>
        refine Tr.condF rfl (Tr.skip (Tr.regR rfl (by simp) ?_))
        exact ⟨(j + 1, lg2 ++ [eP2 (l[k], m[j])]), _, Wk.le (.cons rfl (.refl _) (.cons rfl (.refl _) (.cons rfl (.refl _) (.cons rfl (.refl _) (.cons rfl (.refl _) (.cons rfl (.refl _) (.cons rfl (.refl _) (.cons rfl (.refl _) (.cons rfl (.refl _) (.cons rfl (VLe.i (w64 (by omega) (by omega))) .nil)))))))))) (.cons rfl (LLe.refl _) .nil) .nil rfl rfl, ⟨⟨by simp only; omega, hp⟩, rfl⟩, by simp only; omega⟩
    · have h2 : j = m.length := by simp at h2; omega
      subst h2
      rw [List.drop_length] at hf2
      refine Tr.exit (Tr.regR rfl (by simp) ?_)
      exact ⟨(k + 1, lg2), _, Wk.le (.cons rfl (.refl _) (.cons rfl (.refl _) (.cons rfl (.refl _) (.cons rfl (.refl _) (.cons rfl (.refl _) (.cons rfl (VLe.i (w64 (by omega) (by omega))) .nil)))))) .nil .nil rfl rfl, ⟨⟨by simp only; omega, by simpa using hf2⟩, rfl⟩, by simp only; omega⟩
  · have h1 : k = l.length := by simp at h1; omega
    subst h1
    rw [List.drop_length] at hf
    refine Tr.exit ⟨.inr ?_, [], [], [], rfl, rfl, rfl⟩
    have e : lg = (pairsL l m).map eP2 := by simpa [pairsL] using hf
    exact e

/-! ### Laid -/
structure Ld where
  g : Gd
  traces : List (Int × Int)
  places : List (List (Int × Int))

def laidC (l : Ld) : List V := gridC l.g ++ [sB l.traces, .slice 0 1 (l.places.map sB)]
def layD (g : Gd) (s : Ly) : Ld := ⟨g, s.traces, s.nodes.map placesL⟩

theorem layOk_spec {s : Ly} (h : layOk s = true) : (s.nodes.length ≤ 16 ∧ s.traces.length ≤ 64) ∧ (∀ f ∈ s.nodes, nodeOk f = true) ∧ ∀ t ∈ s.traces, traceOk s.nodes.length t = true := by
  simp only [layOk, Bool.and_eq_true, decide_eq_true_eq, List.all_eq_true] at h
  exact ⟨h.1.1, h.1.2, h.2⟩

theorem c_lay (g : Gd) {s : Ly} (h : layOk s = true) : C Tryz.prog F.bin_lay [.agg (gridC g), .agg (layC s)] (.agg (laidC (layD g s))) := by
  obtain ⟨⟨hn, ht⟩, hN, hT⟩ := layOk_spec h
  refine C_of mixed chk.bin_lay (by simp) fun S ok => ?_
  refine Tr.seqR rfl (by simp) (Tr.seqR rfl (by simp) (Tr.seq (Tr.seqR rfl (by simp) (Tr.block ?_))))
  refine Tr.loop (fun (k : Nat) st => k ≤ s.nodes.length ∧ st = { env := [(4, .ptr 4 0), (5, .ptr 5 0), (13, .slice 0 8 (s.nodes.map eF)), (14, I (s.nodes.length : Nat)), (15, I (k : Nat))], bx := [(4, ⟨[I 0, I 0, I 0, I 0, I 0, .nils, .nils, .nils], false⟩), (5, ⟨gridC g ++ [sB s.traces, .slice 25 1 (((s.nodes.take k).map placesL).map sB)], false⟩)], rw := [(24, k, 1, 88)], log := [], stp := false }) (fun k => s.nodes.length - k) 0
    (Wk.le (.cons rfl (.refl _) (.cons rfl (.refl _) (.cons rfl (.refl _) (.cons rfl (VLe.i (by simp)) (.cons rfl (.refl _) .nil))))) (.cons rfl (LLe.refl _) (.cons rfl (.cons (.refl _) (.cons (.refl _) (.cons (.refl _) (.cons (.refl _) (.cons (.refl _) (.cons (.refl _) (.cons (.refl _) (.cons (.nil 25 1) .nil)))))))) .nil)) (.new rfl .nil) rfl rfl) ⟨by omega, rfl⟩ ?_
  rintro k st ⟨hk, rfl⟩
  refine Tr.seqR rfl (by simp) (Tr.seqI rfl (fun h1 => ?_) (fun h1 => ?_))
  · have h1 : k < s.nodes.length := by simpa using h1
    have hlen : (((s.nodes.take k).map placesL).map sB).length = k := by simp; omega
    refine Tr.skipT (Tr.seq (Tr.block (Tr.seq (Tr.reg (Steps.runN 1 rfl (by simp; omega) ?_)))))
    rw [getD_map h1]
    refine Steps.fin rfl (by simp) ?_
    refine Tr.drawK (TraceK.run rfl (by simp) (TraceK.call rfl rfl (c_places (hN _ (List.getElem_mem h1))) ?_))
    refine TraceK.run rfl (by simp; omega) (.done ⟨by kernel_rfl, by kernel_rfl, ?_⟩)
    refine Tr.regR rfl (by simp) ?_
    have e : ((s.nodes.take (k + 1)).map placesL).map sB = ((s.nodes.take k).map placesL).map sB ++ [sB (placesL s.nodes[k])] := by
      rw [List.take_add_one, List.getElem?_eq_getElem h1, List.map_append, List.map_append]; rfl
    refine ⟨k + 1, _, Wk.le (.cons rfl (.refl _) (.cons rfl (.refl _) (.cons rfl (.refl _) (.cons rfl (.refl _) (.cons rfl (VLe.i (w64 (by omega) (by omega))) .nil))))) (.cons rfl (LLe.refl _) (.cons rfl (.cons (.refl _) (.cons (.refl _) (.cons (.refl _) (.cons (.refl _) (.cons (.refl _) (.cons (.refl _) (.cons (.refl _) (.cons (.of_eq ?_) .nil)))))))) .nil)) (.cons ?_ .nil) rfl rfl, ⟨h1, rfl⟩, by omega⟩
    · rw [e]; rfl
    · show some _ = some _
      simp; omega
  · have h1 : k = s.nodes.length := by simp at h1; omega
    subst h1
    rw [List.take_length]
    exact Tr.exit (Tr.seqR rfl (by simp) (Tr.retX rfl rfl rfl rfl trivial))

theorem c_begun {g : Gd} {s : Ly} (hl : g.cls.length ≤ 9223372036854775807) (hn : s.nodes.length ≤ 9223372036854775807) (ht : s.traces.length ≤ 9223372036854775807) : C Tryz.prog F.bin_begun [.agg (gridC g), .agg (layC s)]
    (if gridOk g then (if layOk s then .tuple [.agg (laidC (layD g s)), I 0] else .tuple [.agg [I 0, I 0, I 0, I 0, I 0, .nils, .nils, .nils], I 71]) else .tuple [.agg [I 0, I 0, I 0, I 0, I 0, .nils, .nils, .nils], I 70]) := by
  have kg := c_CheckGrid (g := g) hl
  have ks := c_CheckLayout (s := s) hn ht
  refine C_of mixed chk.bin_begun (by simp) fun S ok => ?_
  refine Tr.seqR rfl (by simp) ?_
  by_cases hg : gridOk g = true
  rotate_left
  · rw [if_neg hg] at kg ⊢
    refine Tr.seq (Tr.seqC rfl (by simp) (Steps.call rfl rfl kg (Steps.fin rfl (by simp) (Tr.seqR rfl (by simp) (Tr.condT rfl ?_)))))
    exact Tr.seqR rfl (by simp) (Tr.retX rfl rfl rfl rfl trivial)
  rw [if_pos hg] at kg ⊢
  refine Tr.seq (Tr.seqC rfl (by simp) (Steps.call rfl rfl kg (Steps.fin rfl (by simp) (Tr.seqR rfl (by simp) (Tr.condF rfl (Tr.skip ?_))))))
  by_cases hs : layOk s = true
  rotate_left
  · rw [if_neg hs] at ks ⊢
    refine Tr.seq (Tr.seqC rfl (by simp) (Steps.call rfl rfl ks (Steps.fin rfl (by simp) (Tr.seqR rfl (by simp) (Tr.condT rfl ?_)))))
    exact Tr.seqR rfl (by simp) (Tr.retX rfl rfl rfl rfl trivial)
  rw [if_pos hs] at ks ⊢
  refine Tr.seq (Tr.seqC rfl (by simp) (Steps.call rfl rfl ks (Steps.fin rfl (by simp) (Tr.seqR rfl (by simp) (Tr.condF rfl (Tr.skip ?_))))))
  exact Tr.seqC rfl (by simp) (Steps.call rfl rfl (c_lay g hs) (Steps.fin rfl (by simp [laidC]) (Tr.retX rfl rfl rfl rfl trivial)))

/-! ### Needs -/
def needOk (g : Gd) (l : List Int) : Bool := decide (l.length = g.cls.length) && !(l.any fun n => !btw n 0 100)

theorem c_need1 (n : Int) : C Tryz.prog F.bin_needed_1 [I n] (.bool (!btw n 0 100)) := by
  refine C_of mixed chk.bin_needed_1 (by simp) fun S ok => ?_
  exact Tr.seqR rfl (by simp) (Tr.seqC rfl (by simp) (Steps.call rfl rfl (c_within n 0 100) (Steps.fin rfl (by simp) (Tr.retX rfl rfl rfl rfl trivial))))

theorem c_needed {g : Gd} {l : List Int} (hl : l.length ≤ 9223372036854775807) : C Tryz.prog F.bin_needed [.agg (gridC g), intsV l] (.bool (needOk g l)) := by
  refine C_of mixed chk.bin_needed (by simp) fun S ok => ?_
  refine Tr.seqR rfl (by simp) ?_
  refine Tr.seqC rfl (by simp [intsV]) (Steps.gcall rfl rfl rfl rfl (by simp) (fun _ => c_containsI hl fun n _ => c_need1 n) (Steps.fin rfl (by simp) (Tr.retX rfl rfl rfl ?_ trivial)))
  show V.bool (needOk g l) = .bool (bif (((l.map I).length : Int) == ((g.cls.map eB).length : Int)) then !(l.any fun n => !btw n 0 100) else false)
  unfold needOk
  congr 1
  by_cases h : l.length = g.cls.length
  · simp [h]
  · have : ¬ ((l.length : Int) = (g.cls.length : Int)) := by omega
    simp [h, this]

end Go.Proofs.YtdejdblopmfjfaaGreatDoor


/-! Contracts: copies; infills, checked. -/
set_option linter.unusedVariables false
set_option linter.unusedSimpArgs false
set_option maxRecDepth 20000
set_option maxHeartbeats 2000000
namespace Go.Proofs.YtdejdblopmfjfaaGreatDoor
open Go.Am
attribute [local simp] cells scalar mkv splice under2 under dem dem1 eB
theorem c_CloneI {l : List Int} (hne : l ≠ []) (hl : l.length ≤ 2 ^ 24) : CO Tryz.prog F.slices_Clone_int_int [intsV l] 1 (l.map I) := by
  refine CO_of mixed chk.slices_Clone_int_int (by simp) fun S ok => ?_
  refine Tr.seqR rfl (by simp) (Tr.seq (Tr.seq (Tr.reg (Steps.runN 1 rfl (by simp) ?_))))
  refine Steps.nilS rfl fun b hb => ?_
  obtain rfl := hb (by simpa using hne)
  refine Steps.fin rfl (by simp) (Tr.condF rfl (Tr.skip (Tr.seq (Tr.reg ?_))))
  refine Steps.mkE rfl fun blk => Steps.runN 1 rfl (by simp) ?_
  refine Steps.appendE (r := 0) (sz := 1) (ys := l.map I) rfl rfl (by omega) (by simp; omega) (by simp; omega) (by simpa using hne) ?_
  refine Steps.fin rfl (by simp) (Tr.ret ?_)
  exact ⟨7, rfl, rfl, by rw [flat_ints]; exact ints_isD l⟩

theorem c_CloneI0 : C Tryz.prog F.slices_Clone_int_int [intsV []] (intsV []) := by
  refine C_of mixed chk.slices_Clone_int_int (by simp) fun S ok => ?_
  refine Tr.seqR rfl (by simp) (Tr.seq (Tr.seq (Tr.reg (Steps.runN 1 rfl (by simp) ?_))))
  refine Steps.nilS rfl fun b hb => ?_
  cases b with
  | true =>
    refine Steps.fin rfl (by simp) (Tr.condT rfl (Tr.seqR rfl (by simp) ?_))
    exact Tr.weak (s' := { env := [(2, intsV [])], bx := [], rw := [], log := [], stp := false }) (Wk.le (.cons rfl (.nil 0 1) .nil) .nil .nil rfl rfl) (Tr.retX rfl rfl rfl rfl trivial)
  | false =>
    refine Steps.fin rfl (by simp) (Tr.condF rfl (Tr.skip (Tr.seq (Tr.reg ?_))))
    refine Steps.mkE rfl fun blk => Steps.runN 1 rfl (by simp) ?_
    refine Steps.appendE0 (r := 0) (sz := 1) rfl ?_
    exact Steps.fin rfl (by simp) (Tr.retX rfl rfl rfl rfl trivial)

/-! ### Infills -/
structure Ps where
  cost : Int
  adds : List Int

structure Nf where
  lacks : List Int
  passes : List Ps

def eQ (p : Ps) : V := .agg [I p.cost, intsV p.adds]
def nfC (x : Nf) : List V := [intsV x.lacks, .slice 0 2 (x.passes.map eQ)]
attribute [local simp] eQ nfC intsV
def passOk (n : Nat) (p : Ps) : Bool := btw p.cost 1 1000 && decide (p.adds.length = n) && !(p.adds.any fun n => !btw n 0 100)
def nfOk (x : Nf) : Bool := decide (x.lacks.length ≤ 16) && decide (x.passes.length ≤ 10) && x.lacks.all (btw · 1 100) && x.passes.all (passOk x.lacks.length)

theorem c_inf1 (n : Int) : C Tryz.prog F.bin_CheckInfill_1 [I n] (.bool (!btw n 0 100)) := by
  refine C_of mixed chk.bin_CheckInfill_1 (by simp) fun S ok => ?_
  exact Tr.seqR rfl (by simp) (Tr.seqC rfl (by simp) (Steps.call rfl rfl (c_within n 0 100) (Steps.fin rfl (by simp) (Tr.retX rfl rfl rfl rfl trivial))))

theorem c_CheckInfill {x : Nf} (hx : ∀ p ∈ x.passes, p.adds.length ≤ 9223372036854775807) : C Tryz.prog F.bin_CheckInfill [.agg (nfC x)] (I (if nfOk x then 0 else 74)) := by
  refine C_of mixed chk.bin_CheckInfill (by simp) fun S ok => ?_
  refine Tr.seqR rfl (by simp) (Tr.seq (Tr.seqR rfl (by simp) (Tr.cond rfl rfl (fun h1 => ?_) (fun h1 => Tr.skip ?_))))
  · refine Tr.seqR rfl (by simp) (Tr.retX rfl rfl rfl ?_ trivial)
    have h1 : (bif decide (((x.lacks.map I).length : Int) > 16) then true else decide (((x.passes.map eQ).length : Int) > 10)) = true := h1
    have : nfOk x = false := by
      unfold nfOk
      by_cases a1 : x.lacks.length ≤ 16
      · by_cases a2 : x.passes.length ≤ 10
        · simp at h1; omega
        · simp [a2]
      · simp [a1]
    rw [this]; rfl
  have h1 : (bif decide (((x.lacks.map I).length : Int) > 16) then true else decide (((x.passes.map eQ).length : Int) > 10)) = false := h1
  have hnl : x.lacks.length ≤ 16 ∧ x.passes.length ≤ 10 := by
    simp at h1; omega
  refine Tr.seq (Tr.seqR rfl (by simp) (Tr.block ?_))
  refine Tr.loop (fun (k : Nat) st => (k ≤ x.lacks.length ∧ (x.lacks.take k).all (btw · 1 100) = true) ∧ st = { env := [(1, .ptr 1 0), (18, intsV x.lacks), (19, I (x.lacks.length : Nat)), (20, I (k : Nat))], bx := [(1, ⟨nfC x, false⟩)], rw := [], log := [], stp := false }) (fun k => x.lacks.length - k) 0
    (Wk.le (.cons rfl (.refl _) (.cons rfl (.refl _) (.cons rfl (VLe.i (by simp)) (.cons rfl (.refl _) .nil)))) (.cons rfl (LLe.refl _) .nil) .nil rfl rfl) ⟨⟨by omega, by simp⟩, rfl⟩ ?_
  rintro k st ⟨⟨hk, hall⟩, rfl⟩
  refine Tr.seqR rfl (by simp) (Tr.seqI rfl (fun h2 => ?_) (fun h2 => ?_))
  · have h2 : k < x.lacks.length := by simpa using h2
    refine Tr.skipT (Tr.seq (Tr.block (Tr.seq (Tr.reg (Steps.runN 1 rfl (by simp; omega) ?_)))))
    rw [getD_map h2]
    refine Steps.fin rfl (by simp) ?_
    refine Tr.seqC rfl (by simp) (Steps.call rfl rfl (c_within x.lacks[k] 1 100) (Steps.fin rfl (by simp) ?_))
    refine Tr.cond rfl rfl (fun h3 => ?_) (fun h3 => Tr.skip (Tr.regR rfl (by simp) ?_))
    · have h3 : btw x.lacks[k] 1 100 = false := by simpa using h3
      refine Tr.seqR rfl (by simp) (Tr.retX rfl rfl rfl ?_ trivial)
      have : nfOk x = false := by
        unfold nfOk
        rw [all_false (p := fun n => btw n 1 100) h2 h3]; simp
      rw [this]; rfl
    · have h3 : btw x.lacks[k] 1 100 = true := by simpa using h3
      exact ⟨k + 1, _, Wk.le (.cons rfl (.refl _) (.cons rfl (.refl _) (.cons rfl (.refl _) (.cons rfl (VLe.i (w64 (by omega) (by omega))) .nil)))) (.cons rfl (LLe.refl _) .nil) .nil rfl rfl, ⟨⟨h2, by rw [all_take_succ h2, hall, h3]; rfl⟩, rfl⟩, by omega⟩
  have h2 : k = x.lacks.length := by simp at h2; omega
  subst h2
  rw [List.take_length] at hall
  refine Tr.exit (Tr.seq (Tr.seqR rfl (by simp) (Tr.block ?_)))
  refine Tr.loop (fun (k : Nat) st => (k ≤ x.passes.length ∧ (x.passes.take k).all (passOk x.lacks.length) = true) ∧ st = { env := [(1, .ptr 1 0), (29, .slice 0 2 (x.passes.map eQ)), (30, I (x.passes.length : Nat)), (31, I (k : Nat))], bx := [(1, ⟨nfC x, false⟩)], rw := [], log := [], stp := false }) (fun k => x.passes.length - k) 0
    (Wk.le (.cons rfl (.refl _) (.cons rfl (.refl _) (.cons rfl (VLe.i (by simp)) (.cons rfl (.refl _) .nil)))) (.cons rfl (LLe.refl _) .nil) .nil rfl rfl) ⟨⟨by omega, by simp⟩, rfl⟩ ?_
  rintro k st ⟨⟨hk, hallT⟩, rfl⟩
  refine Tr.seqR rfl (by simp) (Tr.seqI rfl (fun h2 => ?_) (fun h2 => ?_))
  · have h2 : k < x.passes.length := by simpa using h2
    refine Tr.skipT (Tr.seq (Tr.block (Tr.seq (Tr.reg (Steps.runN 1 rfl (by simp; omega) ?_)))))
    rw [getD_map h2]
    refine Steps.fin rfl (by simp) ?_
    have hpl := hx _ (List.getElem_mem h2)
    refine Tr.seqC rfl (by simp) (Steps.call rfl rfl (c_within x.passes[k].cost 1 1000) (Steps.run rfl (by simp) ?_))
    refine Steps.gcall rfl rfl rfl rfl (by simp) (fun _ => c_containsI hpl fun n _ => c_inf1 n) (Steps.fin rfl (by simp) ?_)
    have hT : passOk x.lacks.length x.passes[k] = (btw x.passes[k].cost 1 1000 && decide (x.passes[k].adds.length = x.lacks.length) && !(x.passes[k].adds.any fun n => !btw n 0 100)) := rfl
    have hne : ((((x.passes[k].adds.map I).length : Int)) != (((x.lacks.map I).length : Int))) = !decide (x.passes[k].adds.length = x.lacks.length) := by
      by_cases h : x.passes[k].adds.length = x.lacks.length
      · simp [h]
      · have : ¬ ((x.passes[k].adds.length : Int) = (x.lacks.length : Int)) := by omega
        simp [h, this]
    refine Tr.cond rfl rfl (fun h3 => ?_) (fun h3 => Tr.skip (Tr.regR rfl (by simp) ?_))
    · refine Tr.seqR rfl (by simp) (Tr.retX rfl rfl rfl ?_ trivial)
      have hf : passOk x.lacks.length x.passes[k] = false := by
        rw [hT]
        revert h3
        simp only [hne]
        cases btw x.passes[k].cost 1 1000 <;> cases decide (x.passes[k].adds.length = x.lacks.length) <;> cases (x.passes[k].adds.any fun n => !btw n 0 100) <;> first | (intro _; rfl) | (intro h; cases h)
      have : nfOk x = false := by
        unfold nfOk
        rw [all_false (p := passOk x.lacks.length) h2 hf]; simp
      rw [this]; rfl
    · have hf : passOk x.lacks.length x.passes[k] = true := by
        rw [hT]
        revert h3
        simp only [hne]
        cases btw x.passes[k].cost 1 1000 <;> cases decide (x.passes[k].adds.length = x.lacks.length) <;> cases (x.passes[k].adds.any fun n => !btw n 0 100) <;> first | (intro _; rfl) | (intro h; cases h)
      exact ⟨k + 1, _, Wk.le (.cons rfl (.refl _) (.cons rfl (.refl _) (.cons rfl (.refl _) (.cons rfl (VLe.i (w64 (by omega) (by omega))) .nil)))) (.cons rfl (LLe.refl _) .nil) .nil rfl rfl, ⟨⟨h2, by rw [all_take_succ h2, hallT, hf]; rfl⟩, rfl⟩, by omega⟩
  have h2 : k = x.passes.length := by simp at h2; omega
  subst h2
  rw [List.take_length] at hallT
  refine Tr.exit (Tr.seqR rfl (by simp) (Tr.retX rfl rfl rfl ?_ trivial))
  have : nfOk x = true := by
    unfold nfOk
    rw [hall, hallT, decide_eq_true hnl.1, decide_eq_true hnl.2]; rfl
  rw [this]; rfl

end Go.Proofs.YtdejdblopmfjfaaGreatDoor


/-! Contracts: choices as numbers; sums; costs. -/
set_option linter.unusedVariables false
set_option linter.unusedSimpArgs false
set_option maxRecDepth 20000
set_option maxHeartbeats 2000000
namespace Go.Proofs.YtdejdblopmfjfaaGreatDoor
open Go.Am
attribute [local simp] cells scalar mkv splice under2 under dem dem1 eB eQ nfC intsV
/-! ### Bits -/
theorem bit_shr (b k : Nat) (hk : k < 64) : ((b : Int).fdiv (2 ^ (min (k : Int).toNat 64))).tmod 2 = if b.testBit k then 1 else 0 := by
  have e1 : min (k : Int).toNat 64 = k := by omega
  rw [e1, Nat.testBit_eq_decide_div_mod_eq]
  have e2 : ((2 : Int) ^ k) = ((2 ^ k : Nat) : Int) := by simp
  rw [e2]
  generalize 2 ^ k = m
  rw [Int.fdiv_eq_ediv_of_nonneg _ (Int.natCast_nonneg _), ← Int.natCast_ediv]
  generalize b / m = q
  have : ((q : Int)).tmod 2 = ((q % 2 : Nat) : Int) := by
    rw [Int.tmod_eq_emod_of_nonneg (Int.natCast_nonneg _)]; simp
  rw [this]
  have := Nat.mod_lt q (show 0 < 2 by omega)
  by_cases h : q % 2 = 1
  · simp [h]
  · have h0 : q % 2 = 0 := by omega
    simp [h0]

theorem bits_or (a b : Nat) (ha : a < 2 ^ 62) (hb : b < 2 ^ 62) : bitsV .or .i64 a b = ((a ||| b : Nat) : Int) := by
  have hlt : a ||| b < 2 ^ 62 := Nat.or_lt_two_pow ha hb
  show IntKind.wrap .i64 ((BitVec.ofInt 64 (a : Int) ||| BitVec.ofInt 64 (b : Int)).toNat : Int) = _
  have e : (BitVec.ofInt 64 (a : Int) ||| BitVec.ofInt 64 (b : Int)).toNat = a ||| b := by
    rw [BitVec.toNat_or, BitVec.ofInt_natCast, BitVec.ofInt_natCast, BitVec.toNat_ofNat, BitVec.toNat_ofNat, Nat.mod_eq_of_lt (by omega), Nat.mod_eq_of_lt (by omega)]
  rw [e, w64 (by omega) (by omega)]

theorem bits_and (a b : Nat) (ha : a < 2 ^ 62) (hb : b < 2 ^ 62) : bitsV .and .i64 a b = ((a &&& b : Nat) : Int) := by
  have hlt : a &&& b < 2 ^ 62 := Nat.lt_of_le_of_lt Nat.and_le_left ha
  show IntKind.wrap .i64 ((BitVec.ofInt 64 (a : Int) &&& BitVec.ofInt 64 (b : Int)).toNat : Int) = _
  have e : (BitVec.ofInt 64 (a : Int) &&& BitVec.ofInt 64 (b : Int)).toNat = a &&& b := by
    rw [BitVec.toNat_and, BitVec.ofInt_natCast, BitVec.ofInt_natCast, BitVec.toNat_ofNat, BitVec.toNat_ofNat, Nat.mod_eq_of_lt (by omega), Nat.mod_eq_of_lt (by omega)]
  rw [e, w64 (by omega) (by omega)]

theorem bit_shl (k : Nat) (hk : k ≤ 61) : IntKind.wrap .i64 (1 * 2 ^ (min (k : Int).toNat 64)) = ((2 ^ k : Nat) : Int) := by
  have e1 : min (k : Int).toNat 64 = k := by omega
  have h : 2 ^ k ≤ 2 ^ 61 := Nat.pow_le_pow_right (by omega) hk
  rw [e1, Int.one_mul]
  have e2 : ((2 : Int) ^ k) = ((2 ^ k : Nat) : Int) := by simp
  rw [e2]
  generalize 2 ^ k = m at h
  rw [w64 (by omega) (by omega)]

/-- A number as a choice. -/
def choiceN (b : Nat) : List Nat := (List.range 10).filter fun i => b.testBit i
def castL (l : List Nat) : List Int := l.map fun (i : Nat) => (i : Int)
def choiceL (b : Nat) : List Int := castL (choiceN b)

theorem c_choice (b : Nat) : C Tryz.prog F.bin_choice [I (b : Nat)] (intsV (choiceL b)) := by
  refine C_of mixed chk.bin_choice (by simp) fun S ok => ?_
  refine Tr.seqR rfl (by simp) (Tr.seqR rfl (by simp) (Tr.seq (Tr.seqR rfl (by simp) (Tr.block ?_))))
  refine Tr.loop (fun (k : Nat) st => k ≤ 10 ∧ st = { env := [(0, I (b : Nat)), (3, .slice 17 1 ((castL ((List.range k).filter fun i => b.testBit i)).map I)), (5, I (k : Nat))], bx := [], rw := [(16, (castL ((List.range k).filter fun i => b.testBit i)).length, 1, 3)], log := [], stp := false }) (fun k => 10 - k) 0
    (Wk.le (.cons rfl (.refl _) (.cons rfl (.nil 17 1) (.cons rfl (.refl _) .nil))) .nil (.new rfl .nil) rfl rfl) ⟨by omega, rfl⟩ ?_
  rintro k st ⟨hk, rfl⟩
  refine Tr.seqR rfl (by simp) (Tr.seqI rfl (fun h1 => ?_) (fun h1 => ?_))
  · have h1 : k < 10 := by
      have h1 : decide ((k : Int) < 10) = true := h1
      simp at h1; omega
    have hlen : (castL ((List.range k).filter fun i => b.testBit i)).length ≤ 10 := by
      have := List.length_filter_le (fun i => b.testBit i) (List.range k)
      simp [castL] at this ⊢; omega
    have e : ((List.range (k + 1)).filter fun i => b.testBit i) = ((List.range k).filter fun i => b.testBit i) ++ (if b.testBit k then [k] else []) := by
      rw [List.range_succ, List.filter_append]
      congr 1
      by_cases h : b.testBit k <;> simp [h]
    refine Tr.skipT (Tr.seq (Tr.block (Tr.seqR rfl (by simp) (Tr.seqR rfl (by simp) ?_))))
    have hb := bit_shr b k (by omega)
    refine Tr.cond rfl rfl (fun h2 => ?_) (fun h2 => Tr.skip ?_)
    · have h2 : ((((b : Int).fdiv (2 ^ (min (k : Int).toNat 64))).tmod 2) == 1) = true := h2
      have ht : b.testBit k = true := by
        rw [hb] at h2
        by_cases h : b.testBit k
        · exact h
        · simp [h] at h2
      refine Tr.regR rfl (by simp; omega) (Tr.regR rfl (by simp) ?_)
      rw [ht] at e
      refine ⟨k + 1, _, Wk.le (.cons rfl (.refl _) (.cons rfl (.of_eq ?_) (.cons rfl (VLe.i (w64 (by omega) (by omega))) .nil))) .nil (.cons ?_ .nil) rfl rfl, ⟨h1, rfl⟩, by omega⟩
      · rw [e]; simp [castL]
      · rw [e]
        show some _ = some _
        simp [castL]
    · have h2 : ((((b : Int).fdiv (2 ^ (min (k : Int).toNat 64))).tmod 2) == 1) = false := h2
      have ht : b.testBit k = false := by
        rw [hb] at h2
        by_cases h : b.testBit k
        · simp [h] at h2
        · simpa using h
      refine Tr.regR rfl (by simp) ?_
      rw [ht] at e
      refine ⟨k + 1, _, Wk.le (.cons rfl (.refl _) (.cons rfl (.of_eq ?_) (.cons rfl (VLe.i (w64 (by omega) (by omega))) .nil))) .nil (.cons ?_ .nil) rfl rfl, ⟨h1, rfl⟩, by omega⟩
      · rw [e]; simp
      · rw [e]
        show some _ = some _
        simp [castL]
  · have h1 : k = 10 := by
      have h1 : decide ((k : Int) < 10) = false := h1
      simp at h1; omega
    subst h1
    exact Tr.exit (Tr.seqR rfl (by simp) (Tr.retX rfl rfl rfl rfl trivial))

/-! ### Sums -/
def sumF (v : Int → Int) (l : List Int) : Int := (l.map v).foldl (· + ·) 0

theorem sumF_bd {v : Int → Int} {m : Int} : ∀ (l : List Int) (a : Int), (∀ n ∈ l, 0 ≤ v n ∧ v n ≤ m) → a ≤ (l.map v).foldl (· + ·) a ∧ (l.map v).foldl (· + ·) a ≤ a + l.length * m
  | [], a, _ => by simp
  | n :: l, a, h => by
    have h1 := h n (by simp)
    have h2 := sumF_bd l (a + v n) (fun r hr => h r (by simp [hr]))
    simp only [List.map_cons, List.foldl_cons, List.length_cons]
    have : ((l.length + 1 : Nat) : Int) * m = l.length * m + m := by push_cast; rw [Int.add_mul]; omega
    omega

theorem c_sum {f : FuncId} {us : List V} {v : Int → Int} {l : List Int} (hpl : Plain us) (hl : l.length ≤ 16) (hv : ∀ n ∈ l, 0 ≤ v n ∧ v n ≤ 1000) (hf : ∀ n ∈ l, C Tryz.prog f (I n :: us) (I (v n))) :
    C Tryz.prog F.bin_sum_int [intsV l, .func (.func f) [] us] (I (sumF v l)) := by
  refine C_of mixed chk.bin_sum_int (by simp) fun S ok => ?_
  refine Tr.seqR rfl (by simp) (Tr.seqR rfl (by simp) (Tr.seq (Tr.seqR rfl (by simp) (Tr.block ?_))))
  refine Tr.loop (fun (k : Nat) st => k ≤ l.length ∧ st = { env := [(1, .func (.func f) [] us), (5, I (sumF v (l.take k))), (8, intsV l), (9, I (l.length : Nat)), (10, I (k : Nat))], bx := [], rw := [], log := [], stp := false }) (fun k => l.length - k) 0
    (Wk.le (.cons rfl (.refl _) (.cons rfl (.refl _) (.cons rfl (.refl _) (.cons rfl (VLe.i (by simp)) (.cons rfl (.refl _) .nil))))) .nil .nil (by simp only [okRefs, List.all_cons, refs_plain hpl]; rfl) rfl) ⟨by omega, rfl⟩ ?_
  rintro k st ⟨hk, rfl⟩
  refine Tr.seqR rfl (by simp) (Tr.seqI rfl (fun h1 => ?_) (fun h1 => ?_))
  · have h1 : k < l.length := by simpa using h1
    refine Tr.skipT (Tr.seq (Tr.block (Tr.seq (Tr.reg (Steps.runN 1 rfl (by simp; omega) ?_)))))
    rw [getD_map h1]
    refine Steps.fin rfl (by simp) ?_
    refine Tr.reg (Steps.run rfl (by simp) (Steps.callv (us := I l[k] :: us) (ids := []) rfl ?_ (hf _ (List.getElem_mem h1)) (Steps.fin rfl (by simp) (Tr.regR rfl (by simp) ?_))))
    · show cons2 _ (toDs _ us) = _
      rw [hpl.d]; rfl
    have hb := sumF_bd (l.take k) 0 (v := v) (m := 1000) (fun n hn => hv n (List.mem_of_mem_take hn))
    have hb2 := hv _ (List.getElem_mem h1)
    have hlt : (l.take k).length = k := by simp; omega
    rw [hlt] at hb
    have e : sumF v (l.take (k + 1)) = sumF v (l.take k) + v l[k] := by
      unfold sumF
      rw [List.take_add_one, List.getElem?_eq_getElem h1, List.map_append, List.foldl_append]; rfl
    refine ⟨k + 1, _, Wk.le (.cons rfl (.refl _) (.cons rfl (VLe.i ?_) (.cons rfl (.refl _) (.cons rfl (.refl _) (.cons rfl (VLe.i (w64 (by omega) (by omega))) .nil))))) .nil .nil (by simp only [okRefs, List.all_cons, refs_plain hpl]; rfl) rfl, ⟨h1, rfl⟩, by omega⟩
    rw [e]
    unfold sumF
    exact w64 (by omega) (by omega)
  · have h1 : k = l.length := by simp at h1; omega
    subst h1
    rw [List.take_length]
    exact Tr.exit (Tr.seqR rfl (by simp) (Tr.retX rfl rfl rfl rfl trivial))

theorem plain_nil : Plain [] := ⟨fun _ => rfl, fun _ _ => rfl⟩

theorem c_covers1 (n : Int) : C Tryz.prog F.bin_covers_1 [I n] (I n) := by
  refine C_of mixed chk.bin_covers_1 (by simp) fun S ok => ?_
  exact Tr.seqR rfl (by simp) (Tr.seqR rfl (by simp) (Tr.retX rfl rfl rfl rfl trivial))

/-! ### Infills that are such -/
theorem nfOk_spec {x : Nf} (h : nfOk x = true) : (x.lacks.length ≤ 16 ∧ x.passes.length ≤ 10) ∧ (∀ n ∈ x.lacks, 1 ≤ n ∧ n ≤ 100) ∧ ∀ p ∈ x.passes, (1 ≤ p.cost ∧ p.cost ≤ 1000) ∧ p.adds.length = x.lacks.length ∧ ∀ n ∈ p.adds, 0 ≤ n ∧ n ≤ 100 := by
  simp only [nfOk, passOk, Bool.and_eq_true, decide_eq_true_eq, List.all_eq_true, btw_iff, Bool.not_eq_true', List.any_eq_false, Bool.not_eq_true, Bool.not_eq_false'] at h
  obtain ⟨⟨h1, h2⟩, h3⟩ := h
  refine ⟨h1, h2, fun p hp => ⟨(h3 p hp).1.1, (h3 p hp).1.2, fun n hn => ?_⟩⟩
  have := (h3 p hp).2 n hn
  simpa [btw_iff] using this

def p0 : Ps := ⟨0, []⟩
def costOf (x : Nf) (i : Nat) : Int := (x.passes.getD i p0).cost
def costB (x : Nf) (b : Nat) : Int := sumF (fun i => costOf x i.toNat) (choiceL b)

theorem mem_choice {b i : Nat} : i ∈ choiceN b ↔ i < 10 ∧ b.testBit i = true := by simp [choiceN]

theorem bit_lt {b i m : Nat} (h : b < 2 ^ m) (hi : b.testBit i = true) : i < m := by
  rcases Nat.lt_or_ge i m with h1 | h1
  · exact h1
  · have := Nat.testBit_lt_two_pow (i := i) (Nat.lt_of_lt_of_le h (Nat.pow_le_pow_right (by omega) h1))
    rw [hi] at this; cases this

theorem choice_lt {b : Nat} {x : Nf} (h : b < 2 ^ x.passes.length) {n : Int} (hn : n ∈ choiceL b) : ∃ i : Nat, n = (i : Nat) ∧ i < x.passes.length := by
  obtain ⟨i, hi, rfl⟩ := List.mem_map.1 hn
  exact ⟨i, rfl, bit_lt h (mem_choice.1 hi).2⟩

theorem choiceN_len (b : Nat) : (choiceN b).length ≤ 10 := by
  have := List.length_filter_le (fun i => b.testBit i) (List.range 10)
  simpa [choiceN] using this

theorem choiceL_len (b : Nat) : (choiceL b).length ≤ 10 := by
  have := choiceN_len b
  simpa [choiceL, castL] using this

theorem c_cost1 {x : Nf} {i : Nat} (hi : i < x.passes.length) : C Tryz.prog F.bin_cost_1 [I (i : Nat), .vptr (nfC x) 0] (I (costOf x i)) := by
  refine C_of mixed chk.bin_cost_1 (by simp) fun S ok => ?_
  refine Tr.seqR rfl (by simp) (Tr.seq (Tr.reg (Steps.runN 4 rfl (by simp; omega) ?_)))
  rw [getD_map hi]
  refine Steps.fin rfl (by simp) (Tr.retX rfl rfl rfl ?_ trivial)
  simp [packR, costOf, hi]

theorem plain_vptr (x : Nf) : Plain [.vptr (nfC x) 0] := ⟨fun _ => rfl, fun _ _ => rfl⟩

theorem c_cost {x : Nf} (hx : nfOk x = true) {b : Nat} (hb : b < 2 ^ x.passes.length) : C Tryz.prog F.bin_cost [.agg (nfC x), I (b : Nat)] (I (costB x b)) := by
  have hs := nfOk_spec hx
  have hC : ∀ n ∈ choiceL b, 0 ≤ costOf x n.toNat ∧ costOf x n.toNat ≤ 1000 := fun n hn => by
    obtain ⟨i, rfl, hi⟩ := choice_lt hb hn
    have := (hs.2.2 _ (List.getElem_mem hi)).1
    simp [costOf, hi]; omega
  have k := c_sum (f := F.bin_cost_1) (us := [.vptr (nfC x) 0]) (v := fun i => costOf x i.toNat) (l := choiceL b) (plain_vptr x) (by have := choiceL_len b; omega) hC fun n hn => by
    obtain ⟨i, rfl, hi⟩ := choice_lt hb hn
    exact c_cost1 hi
  refine C_of mixed chk.bin_cost (by simp) fun S ok => ?_
  refine Tr.seqR rfl (by simp) (Tr.seqC rfl (by simp) (Steps.call rfl rfl (c_choice b) (Steps.run rfl (by simp) (Steps.call rfl rfl k (Steps.fin rfl (by simp) (Tr.retX rfl rfl rfl rfl trivial))))))

end Go.Proofs.YtdejdblopmfjfaaGreatDoor


/-! Contracts: what a choice leaves; whether it covers. -/
set_option linter.unusedVariables false
set_option linter.unusedSimpArgs false
set_option maxRecDepth 20000
set_option maxHeartbeats 2000000
namespace Go.Proofs.YtdejdblopmfjfaaGreatDoor
open Go.Am
attribute [local simp] cells scalar mkv splice under2 under dem dem1 eB eQ nfC intsV
def addsOf (x : Nf) (i : Nat) : List Int := (x.passes.getD i p0).adds
def restN (c a : List Int) : List Int := List.zipWith (fun m n => max 0 (m - n)) c a
def restsL (x : Nf) (l : List Nat) : List Int := l.foldl (fun c i => restN c (addsOf x i)) x.lacks
def small (n : Nat) (c : List Int) : Prop := c.length = n ∧ ∀ m ∈ c, 0 ≤ m ∧ m ≤ 100

theorem restN_small {n : Nat} {c a : List Int} (hc : small n c) (ha : a.length = n ∧ ∀ m ∈ a, 0 ≤ m ∧ m ≤ 100) : small n (restN c a) := by
  refine ⟨by simp [restN, hc.1, ha.1], fun m hm => ?_⟩
  unfold restN at hm
  obtain ⟨i, hi, rfl⟩ := List.getElem_of_mem hm
  simp only [List.length_zipWith] at hi
  rw [List.getElem_zipWith]
  have h1 := hc.2 _ (List.getElem_mem (show i < c.length by omega))
  have h2 := ha.2 _ (List.getElem_mem (show i < a.length by omega))
  omega

theorem adds_small {x : Nf} (hx : nfOk x = true) {i : Nat} (hi : i < x.passes.length) : (addsOf x i).length = x.lacks.length ∧ ∀ m ∈ addsOf x i, 0 ≤ m ∧ m ≤ 100 := by
  have := (nfOk_spec hx).2.2 _ (List.getElem_mem hi)
  have e : addsOf x i = x.passes[i].adds := by simp [addsOf, hi]
  rw [e]; exact this.2

theorem foldl_small {x : Nf} (hx : nfOk x = true) : ∀ (l : List Nat) (c : List Int), small x.lacks.length c → (∀ i ∈ l, i < x.passes.length) → small x.lacks.length (l.foldl (fun c i => restN c (addsOf x i)) c)
  | [], c, h, _ => h
  | i :: l, c, h, hl => foldl_small hx l _ (restN_small h (adds_small hx (hl i (by simp)))) fun j hj => hl j (by simp [hj])

theorem restsL_small {x : Nf} (hx : nfOk x = true) {l : List Nat} (hl : ∀ i ∈ l, i < x.passes.length) : small x.lacks.length (restsL x l) :=
  foldl_small hx l _ ⟨rfl, fun m hm => by have := (nfOk_spec hx).2.1 m hm; omega⟩ hl

theorem choiceN_lt {b m : Nat} (h : b < 2 ^ m) : ∀ i ∈ choiceN b, i < m := fun i hi => bit_lt h (mem_choice.1 hi).2

theorem c_rests0 {x : Nf} (hx : nfOk x = true) (h0 : x.lacks = []) {b : Nat} (hb : b < 2 ^ x.passes.length) : C Tryz.prog F.bin_rests [.agg (nfC x), I (b : Nat)] (intsV []) := by
  have hcl := choiceL_len b
  refine C_of mixed chk.bin_rests (by simp) fun S ok => ?_
  have kc : C Tryz.prog F.slices_Clone_int_int [intsV x.lacks] (intsV []) := by rw [h0]; exact c_CloneI0
  refine Tr.seqR rfl (by simp) (Tr.seqC rfl (by simp) (Steps.call rfl rfl kc (Steps.fin rfl (by simp) ?_)))
  refine Tr.seq (Tr.seqC rfl (by simp) (Steps.call rfl rfl (c_choice b) (Steps.fin rfl (by simp) (Tr.block ?_))))
  refine Tr.loop (fun (k : Nat) st => k ≤ (choiceL b).length ∧ st = { env := [(2, .ptr 2 0), (5, intsV []), (14, intsV (choiceL b)), (15, I ((choiceL b).length : Nat)), (16, I (k : Nat))], bx := [(2, ⟨nfC x, false⟩)], rw := [], log := [], stp := false }) (fun k => (choiceL b).length - k) 0
    (Wk.le (.cons rfl (.refl _) (.cons rfl (.refl _) (.cons rfl (.refl _) (.cons rfl (VLe.i (by simp)) (.cons rfl (.refl _) .nil))))) (.cons rfl (LLe.refl _) .nil) .nil rfl rfl) ⟨by omega, rfl⟩ ?_
  rintro k st ⟨hk, rfl⟩
  refine Tr.seqR rfl (by simp) (Tr.seqI rfl (fun h1 => ?_) (fun h1 => ?_))
  · have h1 : k < (choiceL b).length := by simpa using h1
    obtain ⟨i, hi, hip⟩ := choice_lt hb (List.getElem_mem h1)
    refine Tr.skipT (Tr.seq (Tr.block (Tr.seq (Tr.reg (Steps.runN 1 rfl (by simp; omega) ?_)))))
    rw [getD_map h1, hi]
    refine Steps.fin rfl (by simp) (Tr.seq (Tr.reg (Steps.runN 4 rfl (by simp; omega) ?_)))
    rw [getD_map hip]
    refine Steps.fin rfl (by simp) (Tr.block ?_)
    have ha := (adds_small hx hip).1
    have e : addsOf x i = x.passes[i].adds := by simp [addsOf, hip]
    rw [e, h0] at ha
    have ha : x.passes[i].adds = [] := List.length_eq_zero_iff.1 ha
    rw [ha]
    refine Tr.rounds 1 (TrN.succ ?_)
    refine Tr.seqR rfl (by simp) (Tr.seq (Tr.condF rfl (Tr.exit ?_)))
    refine Tr.regR rfl (by simp) ?_
    exact ⟨k + 1, _, Wk.le (.cons rfl (.refl _) (.cons rfl (.refl _) (.cons rfl (.refl _) (.cons rfl (.refl _) (.cons rfl (VLe.i (w64 (by omega) (by omega))) .nil))))) (.cons rfl (LLe.refl _) .nil) .nil rfl rfl, ⟨h1, rfl⟩, by omega⟩
  · have h1 : k = (choiceL b).length := by simp at h1; omega
    subst h1
    exact Tr.exit (Tr.seqR rfl (by simp) (Tr.retX rfl rfl rfl rfl trivial))

theorem foldl_take {α β : Type} (f : β → α → β) (l : List α) (z : β) {k : Nat} (h : k < l.length) : (l.take (k + 1)).foldl f z = f ((l.take k).foldl f z) l[k] := by
  rw [List.take_add_one, List.getElem?_eq_getElem h, List.foldl_append]; rfl

theorem c_rests1 {x : Nf} (hx : nfOk x = true) (h0 : x.lacks ≠ []) {b : Nat} (hb : b < 2 ^ x.passes.length) : C Tryz.prog F.bin_rests [.agg (nfC x), I (b : Nat)] (intsV (restsL x (choiceN b))) := by
  have hcl := choiceL_len b
  have hsp := nfOk_spec hx
  have hcN : (choiceN b).length = (choiceL b).length := by simp [choiceL, castL]
  have kc := c_CloneI h0 (by omega)
  have hw := choiceN_lt hb
  refine C_of mixed chk.bin_rests (by simp) fun S ok => ?_
  refine Tr.seqR rfl (by simp) (Tr.seq (Tr.reg (Steps.run rfl (by simp) (Steps.callO rfl (fun _ => rfl) kc rfl (Steps.fin rfl (by simp) ?_)))))
  refine Tr.seq (Tr.seqC rfl (by simp) (Steps.call rfl rfl (c_choice b) (Steps.fin rfl (by simp) (Tr.block ?_))))
  have hsm : ∀ k, k ≤ (choiceN b).length → small x.lacks.length (restsL x ((choiceN b).take k)) := fun k hk => restsL_small hx fun i hi => hw i (List.mem_of_mem_take hi)
  refine Tr.loop (fun (k : Nat) st => k ≤ (choiceL b).length ∧ st = { env := [(2, .ptr 2 0), (5, .bsl 12 0 1 x.lacks.length), (14, intsV (choiceL b)), (15, I ((choiceL b).length : Nat)), (16, I (k : Nat))], bx := [(12, ⟨(restsL x ((choiceN b).take k)).map I, false⟩), (2, ⟨nfC x, false⟩)], rw := [], log := [], stp := false }) (fun k => (choiceL b).length - k) 0
    (Wk.le (.cons rfl (.refl _) (.cons rfl (.of_eq (by simp)) (.cons rfl (.refl _) (.cons rfl (VLe.i (by simp)) (.cons rfl (.refl _) .nil))))) (.cons rfl (by rw [flat_ints]; exact LLe.refl _) (.cons rfl (LLe.refl _) .nil)) .nil (okI rfl) rfl) ⟨by omega, rfl⟩ ?_
  rintro k st ⟨hk, rfl⟩
  refine Tr.seqR rfl (by simp) (Tr.seqI rfl (fun h1 => ?_) (fun h1 => ?_))
  · have h1 : k < (choiceL b).length := by simpa using h1
    have h1N : k < (choiceN b).length := by omega
    have hip := hw _ (List.getElem_mem h1N)
    have hi : (choiceL b)[k] = (((choiceN b)[k] : Nat) : Int) := by simp [choiceL, castL]
    obtain ⟨i, ei⟩ : ∃ i, (choiceN b)[k] = i := ⟨_, rfl⟩
    rw [ei] at hip hi
    refine Tr.skipT (Tr.seq (Tr.block (Tr.seq (Tr.reg (Steps.runN 1 rfl (by simp; omega) ?_)))))
    rw [getD_map h1, hi]
    refine Steps.fin rfl (by simp) (Tr.seq (Tr.reg (Steps.runN 4 rfl (by simp; omega) ?_)))
    rw [getD_map hip]
    refine Steps.fin rfl (by simp) (Tr.block ?_)
    have ha := adds_small hx hip
    have e : addsOf x i = x.passes[i].adds := by simp [addsOf, hip]
    have hst : restsL x ((choiceN b).take (k + 1)) = restN (restsL x ((choiceN b).take k)) x.passes[i].adds := by
      unfold restsL
      rw [foldl_take _ _ _ h1N, ei, e]
    have hs0 := hsm k (by omega)
    rw [e] at ha
    generalize restsL x ((choiceN b).take k) = c0 at hs0 hst
    refine Tr.loop (fun (j : Nat) st => j ≤ x.passes[i].adds.length ∧ st = { env := [(2, .ptr 2 0), (5, .bsl 12 0 1 x.lacks.length), (14, intsV (choiceL b)), (15, I ((choiceL b).length : Nat)), (16, I (k : Nat)), (25, intsV x.passes[i].adds), (26, I (x.passes[i].adds.length : Nat)), (27, I (j : Nat))], bx := [(12, ⟨((restN c0 x.passes[i].adds).take j ++ c0.drop j).map I, false⟩), (2, ⟨nfC x, false⟩)], rw := [], log := [], stp := false }) (fun j => x.passes[i].adds.length - j) 0
      (Wk.le (.cons rfl (.refl _) (.cons rfl (.refl _) (.cons rfl (.refl _) (.cons rfl (.refl _) (.cons rfl (.refl _) (.cons rfl (.refl _) (.cons rfl (VLe.i ?_) (.cons rfl (.refl _) .nil)))))))) (.cons rfl ?_ (.cons rfl (LLe.refl _) .nil)) .nil (okI rfl) rfl) ⟨by omega, rfl⟩ ?_
    · show ((x.passes[i].adds.map I).length : Int) = _
      rw [List.length_map]
    · rw [List.take_zero, List.nil_append, List.drop_zero]; exact LLe.refl _
    rintro j st ⟨hj, rfl⟩
    have hrl : (restN c0 x.passes[i].adds).length = x.passes[i].adds.length := by simp [restN, hs0.1, ha.1]
    refine Tr.seqR rfl (by simp) (Tr.seqI rfl (fun h2 => ?_) (fun h2 => ?_))
    · have h2 : j < x.passes[i].adds.length := by simpa using h2
      have hj0 : j < c0.length := by rw [hs0.1, ← ha.1]; exact h2
      have hmt : ((restN c0 x.passes[i].adds).take j).length = j := by rw [List.length_take]; omega
      have hml : ((restN c0 x.passes[i].adds).take j ++ c0.drop j).length = x.lacks.length := by rw [List.length_append, hmt, List.length_drop]; have := hs0.1; omega
      have hk0 : 0 + (j : Int).toNat * 1 = j := by omega
      have hdr : (((restN c0 x.passes[i].adds).take j ++ c0.drop j).map I).drop j = I c0[j] :: (c0.drop (j + 1)).map I := by
        rw [← List.map_drop, List.drop_append_of_le_length (by omega), List.drop_eq_nil_of_le (by omega), List.nil_append, List.drop_eq_getElem_cons hj0]; rfl
      have hv : (restN c0 x.passes[i].adds)[j]'(by omega) = max 0 (c0[j] - x.passes[i].adds[j]) := by simp [restN]
      have hb1 := hs0.2 _ (List.getElem_mem hj0)
      have hb2 := ha.2 _ (List.getElem_mem h2)
      have hnew : List.take j (((restN c0 x.passes[i].adds).take j ++ c0.drop j).map I) ++ [I (if IntKind.wrap .i64 (c0[j] - x.passes[i].adds[j]) > 0 then IntKind.wrap .i64 (c0[j] - x.passes[i].adds[j]) else 0)] ++ List.drop (j + 1) (((restN c0 x.passes[i].adds).take j ++ c0.drop j).map I) = ((restN c0 x.passes[i].adds).take (j + 1) ++ c0.drop (j + 1)).map I := by
        have e1 : (((restN c0 x.passes[i].adds).take j ++ c0.drop j).map I).drop (j + 1) = (c0.drop (j + 1)).map I := by
          have := congrArg (List.drop 1) hdr
          rw [List.drop_drop] at this
          simpa using this
        rw [ite_max, w64 (n := c0[j] - x.passes[i].adds[j]) (by omega) (by omega), e1, ← List.map_take, List.take_append_of_le_length (by omega), List.take_take, Nat.min_self, List.take_add_one, List.getElem?_eq_getElem (by omega), hv]
        simp
      refine Tr.skipT (Tr.seq (Tr.block (Tr.seq (Tr.reg (Steps.runN 2 rfl (by simp; omega) ?_)))))
      rw [getD_map h2]
      refine Steps.fin rfl (by simp) (Tr.reg (Steps.runN 5 rfl (by simp; omega) ?_))
      rw [hk0]
      refine Steps.runN 1 rfl (by simp; omega) ?_
      rw [hdr]
      refine Steps.runN 4 rfl (by simp; omega) ?_
      rw [hk0]
      refine Steps.fin rfl (by simp; omega) ?_
      refine Tr.regR rfl (by simp) ?_
      refine ⟨j + 1, _, Wk.le (.cons rfl (.refl _) (.cons rfl (.refl _) (.cons rfl (.refl _) (.cons rfl (.refl _) (.cons rfl (.refl _) (.cons rfl (.refl _) (.cons rfl (.refl _) (.cons rfl (VLe.i (w64 (by omega) (by omega))) .nil)))))))) (.cons rfl ?_ (.cons rfl (LLe.refl _) .nil)) .nil (okI rfl) rfl, ⟨h2, rfl⟩, by omega⟩
      rw [← hnew]
      exact LLe.refl _
    · have h2 : j = x.passes[i].adds.length := by simp at h2; omega
      subst h2
      have hc : c0.length = x.passes[i].adds.length := by rw [hs0.1, ha.1]
      have e1 : (restN c0 x.passes[i].adds).take x.passes[i].adds.length ++ c0.drop x.passes[i].adds.length = restN c0 x.passes[i].adds := by rw [List.take_of_length_le (by omega), List.drop_eq_nil_of_le (by omega), List.append_nil]
      rw [e1]
      refine Tr.exit (Tr.regR rfl (by simp) ?_)
      exact ⟨k + 1, _, Wk.le (.cons rfl (.refl _) (.cons rfl (.refl _) (.cons rfl (.refl _) (.cons rfl (.refl _) (.cons rfl (VLe.i (w64 (by omega) (by omega))) .nil))))) (.cons rfl (by rw [hst]; exact LLe.refl _) (.cons rfl (LLe.refl _) .nil)) .nil (okI rfl) rfl, ⟨h1, rfl⟩, by omega⟩
  · have h1 : k = (choiceL b).length := by simp at h1; omega
    subst h1
    rw [← hcN, List.take_length]
    refine Tr.exit ?_
    refine Tr.weak (s' := { env := [(5, .bsl 12 0 1 x.lacks.length)], bx := [(12, ⟨(restsL x (choiceN b)).map I, false⟩)], rw := [], log := [], stp := false }) (Wk.le (.cons rfl (.refl _) .nil) (.cons rfl (LLe.refl _) .nil) .nil (okI rfl) rfl) ?_
    have hs0 := restsL_small hx hw
    refine Tr.weak (Wk.bsl (t := 5) rfl rfl (by rw [← hs0.1]; exact holds_ints _)) ?_
    exact (Tr.seqR rfl (by simp) (Tr.retX rfl rfl rfl rfl trivial))

theorem c_rests {x : Nf} (hx : nfOk x = true) {b : Nat} (hb : b < 2 ^ x.passes.length) : C Tryz.prog F.bin_rests [.agg (nfC x), I (b : Nat)] (intsV (restsL x (choiceN b))) := by
  by_cases h0 : x.lacks = []
  · have h := c_rests0 hx h0 hb
    have hs0 := (restsL_small hx (choiceN_lt hb)).1
    rw [h0] at hs0
    rw [List.length_eq_zero_iff.1 hs0]
    exact h
  · exact c_rests1 hx h0 hb

def coversB (x : Nf) (b : Nat) : Bool := decide (sumF id (restsL x (choiceN b)) = 0)

theorem c_covers {x : Nf} (hx : nfOk x = true) {b : Nat} (hb : b < 2 ^ x.passes.length) : C Tryz.prog F.bin_covers [.agg (nfC x), I (b : Nat)] (.bool (coversB x b)) := by
  have hs0 := restsL_small hx (choiceN_lt hb)
  have hn := (nfOk_spec hx).1.1
  have k := c_sum (f := F.bin_covers_1) (us := []) (v := id) (l := restsL x (choiceN b)) plain_nil (by rw [hs0.1]; exact hn) (fun n h => by have := hs0.2 n h; simp only [id]; omega) fun n _ => c_covers1 n
  refine C_of mixed chk.bin_covers (by simp) fun S ok => ?_
  refine Tr.seqR rfl (by simp) (Tr.seqC rfl (by simp) (Steps.call rfl rfl (c_rests hx hb) (Steps.run rfl (by simp) (Steps.call rfl rfl k (Steps.fin rfl (by simp) (Tr.retX rfl rfl rfl ?_ trivial))))))
  show V.bool (coversB x b) = .bool (sumF id (restsL x (choiceN b)) == 0)
  unfold coversB
  by_cases h : sumF id (restsL x (choiceN b)) = 0
  · rw [h]; rfl
  · simp [h]

end Go.Proofs.YtdejdblopmfjfaaGreatDoor


/-! Contracts: lists compared; the best choice. -/
set_option linter.unusedVariables false
set_option linter.unusedSimpArgs false
set_option maxRecDepth 40000
set_option maxHeartbeats 4000000
namespace Go.Proofs.YtdejdblopmfjfaaGreatDoor
open Go.Am
attribute [local simp] cells scalar mkv splice under2 under dem dem1 eB eQ nfC intsV
theorem c_isNaN (n : Int) : C Tryz.prog F.cmp_isNaN_int [I n] (.bool false) := by
  refine C_of mixed chk.cmp_isNaN_int (by simp) fun S ok => ?_
  refine Tr.seqR rfl (by simp) (Tr.seqR rfl (by simp) (Tr.retX rfl rfl rfl ?_ trivial))
  show V.bool false = .bool (n != n)
  simp

def cmpI (a b : Int) : Int := if a < b then -1 else if a > b then 1 else 0

theorem c_Cmp (a b : Int) : C Tryz.prog F.cmp_Compare_int [I a, I b] (I (cmpI a b)) := by
  refine C_of mixed chk.cmp_Compare_int (by simp) fun S ok => ?_
  refine Tr.seqR rfl (by simp) (Tr.seqC rfl (by simp) (Steps.call rfl rfl (c_isNaN a) (Steps.fin rfl (by simp) ?_)))
  refine Tr.seqC rfl (by simp) (Steps.call rfl rfl (c_isNaN b) (Steps.fin rfl (by simp) ?_))
  refine Tr.seq (Tr.seqR rfl (by simp) (Tr.condF rfl (Tr.skip ?_)))
  refine Tr.seq (Tr.seqR rfl (by simp) (Tr.condF rfl (Tr.skip ?_)))
  refine Tr.seq (Tr.seqR rfl (by simp) (Tr.cond rfl rfl (fun h => ?_) (fun h => Tr.skip ?_)))
  · have h : a < b := by
      have h : decide (a < b) = true := h
      simpa using h
    exact Tr.seqR rfl (by simp) (Tr.retX rfl rfl rfl (by unfold cmpI; rw [if_pos h]; rfl) trivial)
  have h : ¬ a < b := by
    have h : decide (a < b) = false := h
    simpa using h
  refine Tr.seq (Tr.seqR rfl (by simp) (Tr.cond rfl rfl (fun h2 => ?_) (fun h2 => Tr.skip ?_)))
  · have h2 : a > b := by
      have h2 : decide (a > b) = true := h2
      simpa using h2
    exact Tr.seqR rfl (by simp) (Tr.retX rfl rfl rfl (by unfold cmpI; rw [if_neg h, if_pos h2]; rfl) trivial)
  have h2 : ¬ a > b := by
    have h2 : decide (a > b) = false := h2
    simpa using h2
  exact Tr.seqR rfl (by simp) (Tr.retX rfl rfl rfl (by unfold cmpI; rw [if_neg h, if_neg h2]; rfl) trivial)

def cmpL : List Int → List Int → Int
  | [], [] => 0
  | [], _ :: _ => -1
  | _ :: _, [] => 1
  | a :: l, b :: m => if cmpI a b ≠ 0 then cmpI a b else cmpL l m

theorem c_CompareL {l m : List Int} (hl : l.length ≤ 1000000) : C Tryz.prog F.slices_Compare_int_int [intsV l, intsV m] (I (cmpL l m)) := by
  refine C_of mixed chk.slices_Compare_int_int (by simp) fun S ok => ?_
  refine Tr.seqR rfl (by simp) (Tr.seq (Tr.seqR rfl (by simp) (Tr.block ?_)))
  refine Tr.loop (fun (k : Nat) st => (k ≤ l.length ∧ k ≤ m.length ∧ cmpL l m = cmpL (l.drop k) (m.drop k)) ∧ st = { env := [(0, intsV l), (1, intsV m), (9, intsV l), (10, I (l.length : Nat)), (11, I (k : Nat))], bx := [], rw := [], log := [], stp := false }) (fun k => l.length - k) 0
    (Wk.le (.cons rfl (.refl _) (.cons rfl (.refl _) (.cons rfl (.refl _) (.cons rfl (VLe.i (by simp)) (.cons rfl (.refl _) .nil))))) .nil .nil rfl rfl) ⟨⟨by omega, by omega, by simp⟩, rfl⟩ ?_
  rintro k st ⟨⟨hk, hkm, he⟩, rfl⟩
  refine Tr.seqR rfl (by simp) (Tr.seqI rfl (fun h1 => ?_) (fun h1 => ?_))
  · have h1 : k < l.length := by simpa using h1
    refine Tr.skipT (Tr.seq (Tr.block (Tr.seq (Tr.reg (Steps.runN 2 rfl (by simp; omega) ?_)))))
    rw [getD_map h1]
    refine Steps.fin rfl (by simp) (Tr.seq (Tr.seqR rfl (by simp) (Tr.cond rfl rfl (fun h2 => ?_) (fun h2 => Tr.skip ?_))))
    · have h2 : k = m.length := by
        have h2 : decide ((k : Int) ≥ ((m.map I).length : Int)) = true := h2
        simp at h2; omega
      refine Tr.seqR rfl (by simp) (Tr.retX rfl rfl rfl ?_ trivial)
      rw [he, h2, List.drop_length, List.drop_eq_getElem_cons (by omega)]; rfl
    have h2 : k < m.length := by
      have h2 : decide ((k : Int) ≥ ((m.map I).length : Int)) = false := h2
      simp at h2; omega
    refine Tr.seq (Tr.reg (Steps.runN 3 rfl (by simp; omega) ?_))
    rw [getD_map h2]
    refine Steps.fin rfl (by simp) (Tr.seqC rfl (by simp) (Steps.call rfl rfl (c_Cmp l[k] m[k]) (Steps.fin rfl (by simp) ?_)))
    have hd : cmpL l m = if cmpI l[k] m[k] ≠ 0 then cmpI l[k] m[k] else cmpL (l.drop (k + 1)) (m.drop (k + 1)) := by
      rw [he, List.drop_eq_getElem_cons h1, List.drop_eq_getElem_cons h2]; rfl
    refine Tr.seqR rfl (by simp) (Tr.cond rfl rfl (fun h3 => ?_) (fun h3 => Tr.skip (Tr.regR rfl (by simp) ?_)))
    · have h3 : cmpI l[k] m[k] ≠ 0 := by
        have h3 : (cmpI l[k] m[k] != 0) = true := h3
        simpa using h3
      rw [if_pos h3] at hd
      exact Tr.seqR rfl (by simp) (Tr.retX rfl rfl rfl (by rw [hd]; rfl) trivial)
    · have h3 : ¬ cmpI l[k] m[k] ≠ 0 := by
        have h3 : (cmpI l[k] m[k] != 0) = false := h3
        simpa using h3
      rw [if_neg h3] at hd
      exact ⟨k + 1, _, Wk.le (.cons rfl (.refl _) (.cons rfl (.refl _) (.cons rfl (.refl _) (.cons rfl (.refl _) (.cons rfl (VLe.i (w64 (by omega) (by omega))) .nil))))) .nil .nil rfl rfl, ⟨⟨h1, h2, hd⟩, rfl⟩, by omega⟩
  · have h1 : k = l.length := by simp at h1; omega
    subst h1
    rw [List.drop_length] at he
    refine Tr.exit (Tr.seq (Tr.seqR rfl (by simp) (Tr.cond rfl rfl (fun h2 => ?_) (fun h2 => Tr.skip ?_))))
    · have h2 : l.length < m.length := by
        have h2 : decide (((l.map I).length : Int) < ((m.map I).length : Int)) = true := h2
        simpa using h2
      refine Tr.seqR rfl (by simp) (Tr.retX rfl rfl rfl ?_ trivial)
      rw [he, List.drop_eq_getElem_cons h2]; rfl
    · have h2 : m.length = l.length := by
        have h2 : decide (((l.map I).length : Int) < ((m.map I).length : Int)) = false := h2
        simp at h2; omega
      refine Tr.seqR rfl (by simp) (Tr.retX rfl rfl rfl ?_ trivial)
      rw [he, ← h2, List.drop_length]; rfl

/-! ### The best choice -/
def better (x : Nf) (b o : Nat) : Bool :=
  if costB x b ≠ costB x o then decide (costB x b < costB x o)
  else if (choiceL b).length ≠ (choiceL o).length then decide ((choiceL b).length < (choiceL o).length)
  else decide (cmpL (choiceL b) (choiceL o) < 0)
def skips (x : Nf) (wo b : Nat) : Bool := decide (b &&& wo ≠ 0) || !coversB x b
def bestStep (x : Nf) (wo : Nat) (p : Nat × Bool) (b : Nat) : Nat × Bool := if skips x wo b then p else if !p.2 then (b, true) else if better x b p.1 then (b, true) else p
def bestN (x : Nf) (wo : Nat) : Nat × Bool := (List.range (2 ^ x.passes.length)).foldl (bestStep x wo) (0, false)

theorem drop_ints {L : List Int} {k : Nat} (h : k < L.length) {v : Int} (hv : L[k] = v) : (L.map I).drop k = I v :: (L.map I).drop (k + 1) := by
  rw [List.drop_eq_getElem_cons (by simpa using h)]; simp [hv]

theorem splice_ints {L : List Int} {k : Nat} (h : k < L.length) (v : Int) : splice (L.map I) k [I v] = (L.set k v).map I := by
  unfold splice
  rw [List.set_eq_take_append_cons_drop, if_pos h]
  simp

theorem costB_bd {x : Nf} (hx : nfOk x = true) {b : Nat} (hb : b < 2 ^ x.passes.length) : 0 ≤ costB x b ∧ costB x b ≤ 10000 := by
  have h := sumF_bd (v := fun i => costOf x i.toNat) (m := 1000) (choiceL b) 0 (fun n hn => by
    obtain ⟨i, rfl, hi⟩ := choice_lt hb hn
    have := ((nfOk_spec hx).2.2 _ (List.getElem_mem hi)).1
    simp [costOf, hi]; omega)
  have hl := choiceL_len b
  unfold costB sumF
  omega

theorem c_best {x : Nf} (hx : nfOk x = true) {wo : Nat} (hwo : wo < 2 ^ 62) : C Tryz.prog F.bin_best [.agg (nfC x), I (wo : Nat)] (.tuple [I ((bestN x wo).1 : Nat), .bool (bestN x wo).2]) := by
  have hm := (nfOk_spec hx).1.2
  have hm2 : 2 ^ x.passes.length ≤ 1024 := Nat.pow_le_pow_right (n := 2) (by omega) hm
  refine C_of mixed chk.bin_best (by simp) fun S ok => ?_
  refine Tr.seqR rfl (by simp) (Tr.seqR rfl (by simp) (Tr.seqR rfl (by simp) (Tr.seq (Tr.seqR rfl (by simp) (Tr.block ?_)))))
  refine Tr.loop (α := Nat × List Int) (fun p st => (p.1 ≤ 2 ^ x.passes.length ∧ p.2.length = 1024 ∧ (((List.range p.1).foldl (bestStep x wo) (0, false)).2 = true → ((List.range p.1).foldl (bestStep x wo) (0, false)).1 < p.1 ∧ p.2[((List.range p.1).foldl (bestStep x wo) (0, false)).1]? = some (costB x ((List.range p.1).foldl (bestStep x wo) (0, false)).1))) ∧
      st = { env := [(1, I (wo : Nat)), (2, .ptr 2 0), (6, .ptr 6 0), (7, I (((List.range p.1).foldl (bestStep x wo) (0, false)).1 : Nat)), (8, .bool ((List.range p.1).foldl (bestStep x wo) (0, false)).2), (15, I ((2 ^ x.passes.length : Nat) : Int)), (16, I (p.1 : Nat))], bx := [(6, ⟨p.2.map I, false⟩), (2, ⟨nfC x, false⟩)], rw := [], log := [], stp := false }) (fun p => 2 ^ x.passes.length - p.1) (0, List.replicate 1024 0)
    (Wk.le (.cons rfl (.refl _) (.cons rfl (.refl _) (.cons rfl (.refl _) (.cons rfl (.refl _) (.cons rfl (.refl _) (.cons rfl (VLe.i ?_) (.cons rfl (.refl _) .nil))))))) (.cons rfl ?_ (.cons rfl (LLe.refl _) .nil)) .nil (okI rfl) rfl) ⟨⟨Nat.zero_le _, by simp, fun h => by cases h⟩, rfl⟩ ?_
  · show IntKind.wrap .i64 (1 * 2 ^ (min ((x.passes.map eQ).length : Int).toNat 64)) = _
    rw [List.length_map]
    exact bit_shl _ (by omega)
  · rw [List.map_replicate]; exact LLe.refl _
  rintro ⟨b, L⟩ st ⟨⟨hk, hL, hout⟩, rfl⟩
  simp only at hk hL hout
  obtain ⟨⟨o, so⟩, hos⟩ : ∃ p, (List.range b).foldl (bestStep x wo) (0, false) = p := ⟨_, rfl⟩
  rw [hos] at hout
  simp only at hout
  refine Tr.seqR rfl (by simp) (Tr.seqI rfl (fun h1 => ?_) (fun h1 => ?_))
  rotate_left
  · have h1 : b = 2 ^ x.passes.length := by
      have h1 : decide ((b : Int) < ((2 ^ x.passes.length : Nat) : Int)) = false := h1
      rw [decide_eq_false_iff_not, Int.ofNat_lt] at h1; omega
    subst h1
    refine Tr.exit (Tr.seqR rfl (by simp) (Tr.retX rfl rfl rfl ?_ trivial))
    rfl
  have h1 : b < 2 ^ x.passes.length := by
    have h1 : decide ((b : Int) < ((2 ^ x.passes.length : Nat) : Int)) = true := h1
    rw [decide_eq_true_eq, Int.ofNat_lt] at h1; exact h1
  have hb62 : b < 2 ^ 62 := by omega
  have hfold : (List.range (b + 1)).foldl (bestStep x wo) (0, false) = bestStep x wo (o, so) b := by
    rw [List.range_succ, List.foldl_append, hos]; rfl
  obtain ⟨p', hp'⟩ : ∃ p', bestStep x wo (o, so) b = p' := ⟨_, rfl⟩
  obtain ⟨L', hL'⟩ : ∃ L', (if skips x wo b then L else L.set b (costB x b)) = L' := ⟨_, rfl⟩
  have hfin : L'.length = 1024 ∧ (p'.2 = true → p'.1 < b + 1 ∧ L'[p'.1]? = some (costB x p'.1)) := by
    subst hp' hL'
    unfold bestStep
    by_cases hs : skips x wo b = true
    · rw [if_pos hs, if_pos hs]
      exact ⟨hL, fun h => by have := hout h; exact ⟨by simp only; omega, this.2⟩⟩
    · rw [if_neg hs, if_neg hs]
      have hbs : (L.set b (costB x b))[b]? = some (costB x b) := by rw [List.getElem?_set_self (by omega)]
      refine ⟨by rw [List.length_set]; exact hL, fun h => ?_⟩
      cases so with
      | false => exact ⟨by simp, by simpa using hbs⟩
      | true =>
        simp only [Bool.not_true, Bool.false_eq_true, if_false] at h ⊢
        by_cases hbt : better x b o = true
        · rw [if_pos hbt]; exact ⟨by simp only; omega, hbs⟩
        · rw [if_neg hbt]
          have h2 := hout rfl
          exact ⟨by simp only; omega, by rw [List.getElem?_set_ne (by omega)]; exact h2.2⟩
  rw [hos]
  refine Tr.skipT (Tr.meet { env := [(1, I (wo : Nat)), (2, .ptr 2 0), (6, .ptr 6 0), (7, I (p'.1 : Nat)), (8, .bool p'.2), (15, I ((2 ^ x.passes.length : Nat) : Int)), (16, I (b : Nat))], bx := [(6, ⟨L'.map I, false⟩), (2, ⟨nfC x, false⟩)], rw := [], log := [], stp := false } (Tr.block ?_) (Tr.regR rfl (by simp) ?_))
  rotate_left
  · refine ⟨(b + 1, L'), _, Wk.le (.cons rfl (.refl _) (.cons rfl (.refl _) (.cons rfl (.refl _) (.cons rfl (.of_eq (by rw [hfold, hp'])) (.cons rfl (.of_eq (by rw [hfold, hp'])) (.cons rfl (.refl _) (.cons rfl (VLe.i (w64 (by omega) (by omega))) .nil))))))) (.cons rfl (LLe.refl _) (.cons rfl (LLe.refl _) .nil)) .nil (okI rfl) rfl, ⟨⟨h1, hfin.1, ?_⟩, rfl⟩, by simp only; omega⟩
    simp only [hfold, hp']; exact hfin.2
  refine Tr.seqR rfl (by simp) (Tr.seq (Tr.seqC rfl (by simp) (Steps.gcall rfl rfl rfl rfl (by simp) (fun _ => c_covers hx h1) (Steps.fin rfl (by simp) ?_))))
  have hsk : (bif (bitsV .and .i64 (b : Int) (wo : Int) != 0) then true else !(coversB x b)) = skips x wo b := by
    rw [bits_and _ _ hb62 hwo]
    unfold skips
    by_cases h : b &&& wo = 0
    · simp [h]
    · simp [h]
  refine Tr.cond rfl rfl (fun h2 => ?_) (fun h2 => Tr.skip ?_)
  · have h2 : (bif (bitsV .and .i64 (b : Int) (wo : Int) != 0) then true else !(coversB x b)) = true := h2
    rw [hsk] at h2
    have e1 : p' = (o, so) := by rw [← hp']; unfold bestStep; rw [if_pos h2]
    have e2 : L' = L := by rw [← hL', if_pos h2]
    subst e1 e2
    exact Tr.exit (Wk.le (.cons rfl (.refl _) (.cons rfl (.refl _) (.cons rfl (.refl _) (.cons rfl (.refl _) (.cons rfl (.refl _) (.cons rfl (.refl _) (.cons rfl (.refl _) .nil))))))) (.cons rfl (LLe.refl _) (.cons rfl (LLe.refl _) .nil)) .nil (okI rfl) rfl)
  have h2 : (bif (bitsV .and .i64 (b : Int) (wo : Int) != 0) then true else !(coversB x b)) = false := h2
  rw [hsk] at h2
  have e2 : L' = L.set b (costB x b) := by rw [← hL', if_neg (by simp [h2])]
  have e1 : p' = if !so then (b, true) else if better x b o then (b, true) else (o, so) := by rw [← hp']; unfold bestStep; rw [if_neg (by simp [h2])]
  have hbL : b < L.length := by omega
  have hk0 : 0 + (b : Int).toNat * 1 = b := by omega
  refine Tr.seq (Tr.reg (Steps.run rfl (by simp) (Steps.call rfl rfl (c_cost hx h1) (Steps.runN 1 rfl (by simp; omega) ?_))))
  rw [hk0]
  refine Steps.fin rfl (by simp; omega) ?_
  have hin : b < L'.length := by rw [e2, List.length_set]; omega
  refine Tr.weak (s' := { env := [(1, I (wo : Nat)), (2, .ptr 2 0), (6, .ptr 6 0), (7, I (o : Nat)), (8, .bool so), (9, I (b : Nat)), (15, I ((2 ^ x.passes.length : Nat) : Int)), (16, I (b : Nat))], bx := [(6, ⟨L'.map I, false⟩), (2, ⟨nfC x, false⟩)], rw := [], log := [], stp := false })
    (Wk.le (.cons rfl (.refl _) (.cons rfl (.refl _) (.cons rfl (.refl _) (.cons rfl (.refl _) (.cons rfl (.refl _) (.cons rfl (.refl _) (.cons rfl (.refl _) (.cons rfl (.refl _) .nil)))))))) (.cons rfl (by rw [e2, ← splice_ints hbL]; exact LLe.refl _) (.cons rfl (LLe.refl _) .nil)) .nil (okI rfl) rfl) ?_
  refine Tr.seq (Tr.seqR rfl (by simp) (Tr.cond rfl rfl (fun h3 => ?_) (fun h3 => Tr.skip ?_)))
  · have h3 : (!so) = true := h3
    rw [if_pos h3] at e1
    subst e1
    refine Tr.seqR rfl (by simp) (Tr.exit ?_)
    exact Wk.le (.cons rfl (.refl _) (.cons rfl (.refl _) (.cons rfl (.refl _) (.cons rfl (.refl _) (.cons rfl (.refl _) (.cons rfl (.refl _) (.cons rfl (.refl _) .nil))))))) (.cons rfl (LLe.refl _) (.cons rfl (LLe.refl _) .nil)) .nil (okI rfl) rfl
  have h3 : (!so) = false := h3
  obtain rfl : so = true := by simpa using h3
  have h4 := hout rfl
  have hoL : o < L'.length := by omega
  have hvb : L'[b] = costB x b := by simp [e2]
  have hvo : L'[o] = costB x o := by
    have h5 := h4.2
    rw [List.getElem?_eq_getElem (by omega)] at h5
    simp only [e2]
    rw [List.getElem_set_ne (by omega)]
    simpa using h5
  have e1 : p' = if better x b o then (b, true) else (o, true) := by rw [e1]; rfl
  have yes : better x b o = true → p' = (b, true) := fun h => by rw [e1, if_pos h]
  have no : better x b o = false → p' = (o, true) := fun h => by rw [e1, if_neg (by simp [h])]
  refine Tr.seqC rfl (by simp) (Steps.call rfl rfl (c_choice b) (Steps.run rfl (by simp) (Steps.call rfl rfl (c_choice o) (Steps.fin rfl (by simp) (Tr.block ?_)))))
  have ho0 : 0 + (o : Int).toNat * 1 = o := by omega
  refine Tr.seq (Tr.drawK (TraceK.runN 2 rfl (by simp; omega) ?_))
  rw [hk0]
  refine TraceK.runN 1 rfl (by simp; omega) ?_
  rw [drop_ints hin hvb]
  refine TraceK.runN 2 rfl (by simp; omega) ?_
  rw [ho0]
  refine TraceK.runN 1 rfl (by simp; omega) ?_
  rw [drop_ints hoL hvo]
  refine TraceK.run rfl (by simp) (.done ⟨by kernel_rfl, by kernel_rfl, ?_⟩)
  refine Tr.cond rfl rfl (fun h5 => ?_) (fun h5 => ?_)
  · have h5 : (costB x b != costB x o) = true := h5
    have h5 : costB x b ≠ costB x o := by simpa using h5
    have hbt : better x b o = decide (costB x b < costB x o) := by unfold better; rw [if_pos h5]
    refine Tr.seq (Tr.drawK (TraceK.runN 2 rfl (by simp; omega) ?_))
    rw [hk0]
    refine TraceK.runN 1 rfl (by simp; omega) ?_
    rw [drop_ints hin hvb]
    refine TraceK.runN 2 rfl (by simp; omega) ?_
    rw [ho0]
    refine TraceK.runN 1 rfl (by simp; omega) ?_
    rw [drop_ints hoL hvo]
    refine TraceK.run rfl (by simp) (.done ⟨by kernel_rfl, by kernel_rfl, ?_⟩)
    refine Tr.cond rfl rfl (fun h6 => ?_) (fun h6 => Tr.skip ?_)
    · have h6 : decide (costB x b < costB x o) = true := h6
      rw [yes (by rw [hbt, h6])]
      refine Tr.regR rfl (by simp) ?_
      exact Wk.le (.cons rfl (.refl _) (.cons rfl (.refl _) (.cons rfl (.refl _) (.cons rfl (.refl _) (.cons rfl (.refl _) (.cons rfl (.refl _) (.cons rfl (.refl _) .nil))))))) (.cons rfl (LLe.refl _) (.cons rfl (LLe.refl _) .nil)) .nil (okI rfl) rfl
    · have h6 : decide (costB x b < costB x o) = false := h6
      rw [no (by rw [hbt, h6])]
      exact Wk.le (.cons rfl (.refl _) (.cons rfl (.refl _) (.cons rfl (.refl _) (.cons rfl (.refl _) (.cons rfl (.refl _) (.cons rfl (.refl _) (.cons rfl (.refl _) .nil))))))) (.cons rfl (LLe.refl _) (.cons rfl (LLe.refl _) .nil)) .nil (okI rfl) rfl
  have h5 : (costB x b != costB x o) = false := h5
  have h5 : ¬ costB x b ≠ costB x o := by simpa using h5
  have hlens : ∀ c : Nat, (((choiceL c).map I).length : Int) = ((choiceL c).length : Int) := fun c => by rw [List.length_map]
  refine Tr.seqR rfl (by simp) (Tr.cond rfl rfl (fun h6 => ?_) (fun h6 => ?_))
  · have h6 : ((((choiceL b).map I).length : Int) != (((choiceL o).map I).length : Int)) = true := h6
    have h6 : (choiceL b).length ≠ (choiceL o).length := by
      rw [hlens, hlens] at h6
      intro h; rw [h] at h6; simp at h6
    have hbt : better x b o = decide ((choiceL b).length < (choiceL o).length) := by unfold better; rw [if_neg h5, if_pos h6]
    refine Tr.seqR rfl (by simp) (Tr.cond rfl rfl (fun h7 => ?_) (fun h7 => Tr.skip ?_))
    · have h7 : decide ((((choiceL b).map I).length : Int) < (((choiceL o).map I).length : Int)) = true := h7
      rw [hlens, hlens, decide_eq_true_eq, Int.ofNat_lt] at h7
      rw [yes (by rw [hbt, decide_eq_true h7])]
      refine Tr.regR rfl (by simp) ?_
      exact Wk.le (.cons rfl (.refl _) (.cons rfl (.refl _) (.cons rfl (.refl _) (.cons rfl (.refl _) (.cons rfl (.refl _) (.cons rfl (.refl _) (.cons rfl (.refl _) .nil))))))) (.cons rfl (LLe.refl _) (.cons rfl (LLe.refl _) .nil)) .nil (okI rfl) rfl
    · have h7 : decide ((((choiceL b).map I).length : Int) < (((choiceL o).map I).length : Int)) = false := h7
      rw [hlens, hlens, decide_eq_false_iff_not, Int.ofNat_lt] at h7
      rw [no (by rw [hbt, decide_eq_false h7])]
      exact Wk.le (.cons rfl (.refl _) (.cons rfl (.refl _) (.cons rfl (.refl _) (.cons rfl (.refl _) (.cons rfl (.refl _) (.cons rfl (.refl _) (.cons rfl (.refl _) .nil))))))) (.cons rfl (LLe.refl _) (.cons rfl (LLe.refl _) .nil)) .nil (okI rfl) rfl
  have h6 : ((((choiceL b).map I).length : Int) != (((choiceL o).map I).length : Int)) = false := h6
  have h6 : ¬ (choiceL b).length ≠ (choiceL o).length := by
    rw [hlens, hlens] at h6
    simp at h6; omega
  have hbt : better x b o = decide (cmpL (choiceL b) (choiceL o) < 0) := by unfold better; rw [if_neg h5, if_neg h6]
  refine Tr.seqC rfl (by simp) (Steps.call rfl rfl (c_CompareL (by have := choiceL_len b; omega)) (Steps.fin rfl (by simp) ?_))
  refine Tr.cond rfl rfl (fun h7 => ?_) (fun h7 => Tr.skip ?_)
  · have h7 : decide (cmpL (choiceL b) (choiceL o) < 0) = true := h7
    rw [yes (by rw [hbt, h7])]
    refine Tr.regR rfl (by simp) ?_
    exact Wk.le (.cons rfl (.refl _) (.cons rfl (.refl _) (.cons rfl (.refl _) (.cons rfl (.refl _) (.cons rfl (.refl _) (.cons rfl (.refl _) (.cons rfl (.refl _) .nil))))))) (.cons rfl (LLe.refl _) (.cons rfl (LLe.refl _) .nil)) .nil (okI rfl) rfl
  · have h7 : decide (cmpL (choiceL b) (choiceL o) < 0) = false := h7
    rw [no (by rw [hbt, h7])]
    exact Wk.le (.cons rfl (.refl _) (.cons rfl (.refl _) (.cons rfl (.refl _) (.cons rfl (.refl _) (.cons rfl (.refl _) (.cons rfl (.refl _) (.cons rfl (.refl _) .nil))))))) (.cons rfl (LLe.refl _) (.cons rfl (LLe.refl _) .nil)) .nil (okI rfl) rfl

theorem bestN_lt (x : Nf) (wo : Nat) : (bestN x wo).1 < 2 ^ x.passes.length := by
  have key : ∀ n, (((List.range n).foldl (bestStep x wo) (0, false)).1 < n ∨ ((List.range n).foldl (bestStep x wo) (0, false)).1 = 0) := by
    intro n
    induction n with
    | zero => exact .inr rfl
    | succ n ih =>
      rw [List.range_succ, List.foldl_append]
      simp only [List.foldl_cons, List.foldl_nil]
      generalize (List.range n).foldl (bestStep x wo) (0, false) = p at ih ⊢
      unfold bestStep
      split
      · omega
      · split
        · exact .inl (by simp only; omega)
        · split
          · exact .inl (by simp only; omega)
          · omega
  have h := key (2 ^ x.passes.length)
  have hp : 0 < 2 ^ x.passes.length := Nat.two_pow_pos _
  unfold bestN
  omega

/-- What Best returns. -/
def BestR (x : Nf) : V := if nfOk x then (if (bestN x 0).2 then .tuple [intsV (choiceL (bestN x 0).1), I (costB x (bestN x 0).1), I 0] else .tuple [intsV [], I 0, I 4]) else .tuple [intsV [], I 0, I 74]

theorem c_Best {x : Nf} (hx : ∀ p ∈ x.passes, p.adds.length ≤ 9223372036854775807) : C Tryz.prog F.bin_Best [.agg (nfC x)] (BestR x) := by
  have kc := c_CheckInfill hx
  unfold BestR
  refine C_of mixed chk.bin_Best (by simp) fun S ok => ?_
  refine Tr.seqR rfl (by simp) ?_
  by_cases hk : nfOk x = true
  rotate_left
  · rw [if_neg hk] at kc ⊢
    refine Tr.seq (Tr.seqC rfl (by simp) (Steps.call rfl rfl kc (Steps.fin rfl (by simp) (Tr.seqR rfl (by simp) (Tr.condT rfl (Tr.seqR rfl (by simp) ?_))))))
    exact Tr.weak (s' := { env := [(2, intsV []), (3, I 0), (4, I 74)], bx := [], rw := [], log := [], stp := false }) (Wk.le (.cons rfl (.nil 0 1) (.cons rfl (.refl _) (.cons rfl (.refl _) .nil))) .nil .nil rfl rfl) (Tr.retX rfl rfl rfl rfl trivial)
  rw [if_pos hk] at kc ⊢
  refine Tr.seq (Tr.seqC rfl (by simp) (Steps.call rfl rfl kc (Steps.fin rfl (by simp) (Tr.seqR rfl (by simp) (Tr.condF rfl (Tr.skip ?_))))))
  have kb := c_best (wo := 0) hk (by omega)
  have hlt := bestN_lt x 0
  obtain ⟨⟨o, so⟩, hos⟩ : ∃ p, bestN x 0 = p := ⟨_, rfl⟩
  rw [hos] at kb hlt ⊢
  refine Tr.seqC rfl (by simp) (Steps.call rfl rfl kb (Steps.fin rfl (by simp) ?_))
  refine Tr.seq (Tr.seqR rfl (by simp) (Tr.cond rfl rfl (fun h => ?_) (fun h => Tr.skip ?_)))
  · have h : (!so) = true := h
    obtain rfl : so = false := by simpa using h
    refine Tr.seqR rfl (by simp) ?_
    exact Tr.weak (s' := { env := [(2, intsV []), (3, I 0), (4, I 4)], bx := [], rw := [], log := [], stp := false }) (Wk.le (.cons rfl (.nil 0 1) (.cons rfl (.refl _) (.cons rfl (.refl _) .nil))) .nil .nil rfl rfl) (Tr.retX rfl rfl rfl rfl trivial)
  · have h : (!so) = false := h
    obtain rfl : so = true := by simpa using h
    refine Tr.seq (Tr.drawK (TraceK.run rfl (by simp) (TraceK.call rfl rfl (c_choice o) (TraceK.run rfl (by simp) (TraceK.call rfl rfl (c_cost hk hlt) (TraceK.run rfl (by simp) (.done ⟨by kernel_rfl, by kernel_rfl, ?_⟩)))))))
    exact Tr.retX rfl rfl rfl rfl trivial

/-- What Without returns. -/
def WithoutR (x : Nf) (p : Int) : V := if nfOk x then (if btw p 0 ((x.passes.length : Int) - 1) then (if (bestN x (2 ^ p.toNat)).2 then .tuple [I (costB x (bestN x (2 ^ p.toNat)).1 - costB x (bestN x 0).1), I 0] else .tuple [I 0, I 4]) else .tuple [I 0, I 75]) else .tuple [I 0, I 74]

theorem c_Without {x : Nf} (hx : ∀ p ∈ x.passes, p.adds.length ≤ 9223372036854775807) (p : Int) : C Tryz.prog F.bin_Without [.agg (nfC x), I p] (WithoutR x p) := by
  have kc := c_CheckInfill hx
  unfold WithoutR
  refine C_of mixed chk.bin_Without (by simp) fun S ok => ?_
  refine Tr.seqR rfl (by simp) ?_
  by_cases hk : nfOk x = true
  rotate_left
  · rw [if_neg hk] at kc ⊢
    refine Tr.seq (Tr.seqC rfl (by simp) (Steps.call rfl rfl kc (Steps.fin rfl (by simp) (Tr.seqR rfl (by simp) (Tr.condT rfl (Tr.seqR rfl (by simp) ?_))))))
    exact Tr.retX rfl rfl rfl rfl trivial
  rw [if_pos hk] at kc ⊢
  have hm := (nfOk_spec hk).1.2
  refine Tr.seq (Tr.seqC rfl (by simp) (Steps.call rfl rfl kc (Steps.fin rfl (by simp) (Tr.seqR rfl (by simp) (Tr.condF rfl (Tr.skip ?_))))))
  have kw := c_within p 0 (IntKind.wrap .i64 (((x.passes.map eQ).length : Int) - 1))
  have hw1 : IntKind.wrap .i64 (((x.passes.map eQ).length : Int) - 1) = (x.passes.length : Int) - 1 := by rw [List.length_map, w64 (by omega) (by omega)]
  refine Tr.seq (Tr.seqC rfl (by simp) (Steps.call rfl rfl kw (Steps.fin rfl (by simp) (Tr.cond rfl rfl (fun h => ?_) (fun h => Tr.skip ?_)))))
  · have h : (!btw p 0 (IntKind.wrap .i64 (((x.passes.map eQ).length : Int) - 1))) = true := h
    rw [hw1] at h
    rw [if_neg (by simpa using h)]
    exact Tr.seqR rfl (by simp) (Tr.retX rfl rfl rfl rfl trivial)
  have h : (!btw p 0 (IntKind.wrap .i64 (((x.passes.map eQ).length : Int) - 1))) = false := h
  rw [hw1] at h
  have h : btw p 0 ((x.passes.length : Int) - 1) = true := by simpa using h
  rw [if_pos h]
  rw [btw_iff] at h
  obtain ⟨q, rfl⟩ : ∃ q : Nat, p = (q : Int) := ⟨p.toNat, by omega⟩
  have hq : q < 10 := by omega
  have e2 : ((q : Int)).toNat = q := by omega
  rw [e2]
  have hqp : 2 ^ q ≤ 2 ^ 10 := Nat.pow_le_pow_right (by omega) (by omega)
  have kb := c_best (wo := 2 ^ q) hk (by omega)
  have kb0 := c_best (wo := 0) hk (by omega)
  have hlt := bestN_lt x (2 ^ q)
  have hlt0 := bestN_lt x 0
  obtain ⟨⟨o, so⟩, hos⟩ : ∃ p, bestN x (2 ^ q) = p := ⟨_, rfl⟩
  obtain ⟨⟨o0, so0⟩, hos0⟩ : ∃ p, bestN x 0 = p := ⟨_, rfl⟩
  rw [hos] at kb hlt ⊢
  rw [hos0] at kb0 hlt0 ⊢
  have hsh := bit_shl q (by omega)
  rw [← hsh] at kb
  refine Tr.seq (Tr.drawK (TraceK.run rfl (by simp) ?_))
  refine TraceK.call rfl rfl kb (TraceK.run rfl (by simp) (.done ⟨by kernel_rfl, by kernel_rfl, ?_⟩))
  refine Tr.seq (Tr.seqR rfl (by simp) (Tr.cond rfl rfl (fun h => ?_) (fun h => Tr.skip ?_)))
  · have h : (!so) = true := h
    obtain rfl : so = false := by simpa using h
    exact Tr.seqR rfl (by simp) (Tr.retX rfl rfl rfl rfl trivial)
  · have h : (!so) = false := h
    obtain rfl : so = true := by simpa using h
    refine Tr.seqC rfl (by simp) (Steps.call rfl rfl kb0 (Steps.fin rfl (by simp) ?_))
    refine Tr.seq (Tr.drawK (TraceK.run rfl (by simp) (TraceK.call rfl rfl (c_cost hk hlt) (TraceK.run rfl (by simp) (TraceK.call rfl rfl (c_cost hk hlt0) (TraceK.run rfl (by simp) (.done ⟨by kernel_rfl, by kernel_rfl, ?_⟩)))))))
    have b1 : 0 ≤ costB x o ∧ costB x o ≤ 10000 := costB_bd hk hlt
    have b2 : 0 ≤ costB x o0 ∧ costB x o0 ≤ 10000 := costB_bd hk hlt0
    refine Tr.retX rfl rfl rfl ?_ trivial
    show V.tuple [I (costB x o - costB x o0), I 0] = .tuple [I (IntKind.wrap .i64 (costB x o - costB x o0)), I 0]
    rw [w64 (by omega) (by omega)]

end Go.Proofs.YtdejdblopmfjfaaGreatDoor


/-! Contracts: the bound of a leaf. -/
set_option linter.unusedVariables false
set_option linter.unusedSimpArgs false
set_option maxRecDepth 40000
set_option maxHeartbeats 4000000
namespace Go.Proofs.YtdejdblopmfjfaaGreatDoor
open Go.Am
attribute [local simp] cells scalar mkv splice under2 under dem dem1 eB eQ nfC intsV
def dotL (a b : List Int) (z : Int) : Int := (List.zipWith (· * ·) a b).foldl (· + ·) z
def minL (a b : List Int) : List Int := List.zipWith min a b
def gainN (x : Nf) (pr R : List Int) (i : Nat) : Int := dotL pr (minL (addsOf x i) R) (-costOf x i)
def leafStep (x : Nf) (pr R : List Int) (d : Nat) (n : Int) (i : Nat) : Int := if d.testBit i then n else n - max 0 (gainN x pr R i)
def leafN (x : Nf) (pr : List Int) (c d : Nat) : Int := (List.range x.passes.length).foldl (leafStep x pr (restsL x (choiceN c)) d) (dotL pr (restsL x (choiceN c)) (costB x c))

theorem dot_bd : ∀ (a b : List Int) (z : Int), (∀ m ∈ a, 0 ≤ m ∧ m ≤ 1000000) → (∀ m ∈ b, 0 ≤ m ∧ m ≤ 100) → z ≤ dotL a b z ∧ dotL a b z ≤ z + a.length * 100000000
  | [], b, z, _, _ => by simp [dotL]
  | m :: a, [], z, h1, _ => by
    have : (0 : Int) ≤ ((m :: a).length : Int) * 100000000 := by omega
    simp only [dotL, List.zipWith_nil_right, List.foldl_nil]; omega
  | m :: a, n :: b, z, h1, h2 => by
    have hm := h1 m (by simp)
    have hn := h2 n (by simp)
    have ih := dot_bd a b (z + m * n) (fun p hp => h1 p (by simp [hp])) (fun p hp => h2 p (by simp [hp]))
    have e : dotL (m :: a) (n :: b) z = dotL a b (z + m * n) := rfl
    have q1 : 0 ≤ m * n := Int.mul_nonneg hm.1 hn.1
    have q2 : m * n ≤ 1000000 * 100 := Int.mul_le_mul hm.2 hn.2 hn.1 (by omega)
    rw [e, List.length_cons]
    push_cast
    omega

theorem dot_take (a b : List Int) (z : Int) {k : Nat} (ha : k < a.length) (hb : k < b.length) : dotL (a.take (k + 1)) (b.take (k + 1)) z = dotL (a.take k) (b.take k) z + a[k] * b[k] := by
  unfold dotL
  rw [← List.take_zipWith, ← List.take_zipWith, foldl_take _ _ _ (by simp; omega)]
  simp

theorem minL_small {n : Nat} {a R : List Int} (ha : a.length = n ∧ ∀ m ∈ a, 0 ≤ m ∧ m ≤ 100) (hR : small n R) : small n (minL a R) := by
  refine ⟨by simp [minL, hR.1, ha.1], fun m hm => ?_⟩
  unfold minL at hm
  obtain ⟨i, hi, rfl⟩ := List.getElem_of_mem hm
  simp only [List.length_zipWith] at hi
  rw [List.getElem_zipWith]
  have h1 := hR.2 _ (List.getElem_mem (show i < R.length by omega))
  have h2 := ha.2 _ (List.getElem_mem (show i < a.length by omega))
  omega

theorem gain_bd {x : Nf} (hx : nfOk x = true) {pr R : List Int} (hp : ∀ m ∈ pr, 0 ≤ m ∧ m ≤ 1000000) (hl : pr.length = x.lacks.length) (hR : small x.lacks.length R) {i : Nat} (hi : i < x.passes.length) : -1000 ≤ gainN x pr R i ∧ gainN x pr R i ≤ 1600000000 := by
  have h := dot_bd pr (minL (addsOf x i) R) (-costOf x i) hp (minL_small (adds_small hx hi) hR).2
  have hn := (nfOk_spec hx).1.1
  have hc := ((nfOk_spec hx).2.2 _ (List.getElem_mem hi)).1
  have e : costOf x i = x.passes[i].cost := by simp [costOf, hi]
  unfold gainN
  rw [e] at h ⊢
  omega

theorem leaf_bd {x : Nf} (hx : nfOk x = true) {pr R : List Int} (hp : ∀ m ∈ pr, 0 ≤ m ∧ m ≤ 1000000) (hl : pr.length = x.lacks.length) (hR : small x.lacks.length R) (d : Nat) (z : Int) : ∀ n, n ≤ x.passes.length → z - n * 1600000000 ≤ (List.range n).foldl (leafStep x pr R d) z ∧ (List.range n).foldl (leafStep x pr R d) z ≤ z
  | 0, _ => by simp
  | n + 1, h => by
    have ih := leaf_bd hx hp hl hR d z n (by omega)
    have hg := gain_bd hx hp hl hR (show n < x.passes.length by omega)
    rw [List.range_succ, List.foldl_append]
    simp only [List.foldl_cons, List.foldl_nil]
    generalize (List.range n).foldl (leafStep x pr R d) z = s at ih ⊢
    unfold leafStep
    push_cast
    split <;> omega

theorem c_leaf {x : Nf} (hx : nfOk x = true) {pr : List Int} (hp : ∀ m ∈ pr, 0 ≤ m ∧ m ≤ 1000000) (hl : pr.length = x.lacks.length) {c d : Nat} (hc : c < 2 ^ x.passes.length) :
    C Tryz.prog F.bin_leaf [.agg (nfC x), intsV pr, I (c : Nat), I (d : Nat)] (I (leafN x pr c d)) := by
  have hm := (nfOk_spec hx).1
  have hR := restsL_small hx (choiceN_lt hc)
  have hcb := costB_bd hx hc
  unfold leafN
  have kr := c_rests hx hc
  obtain ⟨R, eR⟩ : ∃ R, restsL x (choiceN c) = R := ⟨_, rfl⟩
  rw [eR] at kr hR ⊢
  refine C_of mixed chk.bin_leaf (by simp) fun S ok => ?_
  refine Tr.seqR rfl (by simp) (Tr.seqC rfl (by simp) (Steps.call rfl rfl kr (Steps.fin rfl (by simp) ?_)))
  refine Tr.seqC rfl (by simp) (Steps.call rfl rfl (c_cost hx hc) (Steps.fin rfl (by simp) ?_))
  refine Tr.seq (Tr.seqR rfl (by simp) (Tr.block ?_))
  refine Tr.loop (fun (k : Nat) st => k ≤ pr.length ∧ st = { env := [(1, intsV pr), (3, I (d : Nat)), (4, .ptr 4 0), (9, intsV R), (10, I (dotL (pr.take k) (R.take k) (costB x c))), (24, intsV pr), (25, I (pr.length : Nat)), (26, I (k : Nat))], bx := [(4, ⟨nfC x, false⟩)], rw := [], log := [], stp := false }) (fun k => pr.length - k) 0
    (Wk.le (.cons rfl (.refl _) (.cons rfl (.refl _) (.cons rfl (.refl _) (.cons rfl (.refl _) (.cons rfl (.refl _) (.cons rfl (.refl _) (.cons rfl (VLe.i (by simp)) (.cons rfl (.refl _) .nil)))))))) (.cons rfl (LLe.refl _) .nil) .nil rfl rfl) ⟨by omega, rfl⟩ ?_
  rintro k st ⟨hk, rfl⟩
  have hdb : ∀ k, k ≤ pr.length → 0 ≤ dotL (pr.take k) (R.take k) (costB x c) ∧ dotL (pr.take k) (R.take k) (costB x c) ≤ 1700000000 := fun k hk => by
    have := dot_bd (pr.take k) (R.take k) (costB x c) (fun m hm => hp m (List.mem_of_mem_take hm)) (fun m hm => hR.2 m (List.mem_of_mem_take hm))
    have e : (pr.take k).length = k := by rw [List.length_take]; omega
    rw [e] at this
    omega
  refine Tr.seqR rfl (by simp) (Tr.seqI rfl (fun h1 => ?_) (fun h1 => ?_))
  · have h1 : k < pr.length := by simpa using h1
    have h1R : k < R.length := by rw [hR.1, ← hl]; exact h1
    refine Tr.skipT (Tr.seq (Tr.block (Tr.seq (Tr.reg (Steps.runN 2 rfl (by simp; omega) ?_)))))
    rw [getD_map h1]
    refine Steps.fin rfl (by simp) (Tr.reg (Steps.runN 5 rfl (by simp; omega) ?_))
    rw [getD_map h1R]
    refine Steps.fin rfl (by simp) (Tr.regR rfl (by simp) ?_)
    have b1 := hp _ (List.getElem_mem h1)
    have b2 := hR.2 _ (List.getElem_mem h1R)
    have q1 : 0 ≤ pr[k] * R[k] := Int.mul_nonneg b1.1 b2.1
    have q2 : pr[k] * R[k] ≤ 1000000 * 100 := Int.mul_le_mul b1.2 b2.2 b2.1 (by omega)
    have b3 := hdb k (by omega)
    refine ⟨k + 1, _, Wk.le (.cons rfl (.refl _) (.cons rfl (.refl _) (.cons rfl (.refl _) (.cons rfl (.refl _) (.cons rfl (VLe.i ?_) (.cons rfl (.refl _) (.cons rfl (.refl _) (.cons rfl (VLe.i (w64 (by omega) (by omega))) .nil)))))))) (.cons rfl (LLe.refl _) .nil) .nil rfl rfl, ⟨h1, rfl⟩, by omega⟩
    rw [dot_take _ _ _ h1 h1R]
    show IntKind.wrap .i64 (dotL (pr.take k) (R.take k) (costB x c) + IntKind.wrap .i64 (pr[k] * R[k])) = _
    rw [w64 (n := pr[k] * R[k]) (by omega) (by omega), w64 (by omega) (by omega)]
  have h1 : k = pr.length := by simp at h1; omega
  subst h1
  rw [List.take_length, List.take_of_length_le (show R.length ≤ pr.length by rw [hR.1, ← hl]; omega)]
  have hz : 0 ≤ dotL pr R (costB x c) ∧ dotL pr R (costB x c) ≤ 1700000000 := by
    have := hdb pr.length (by omega)
    rwa [List.take_length, List.take_of_length_le (show R.length ≤ pr.length by rw [hR.1, ← hl]; omega)] at this
  generalize dotL pr R (costB x c) = z at hz ⊢
  refine Tr.exit (Tr.seq (Tr.seqR rfl (by simp) (Tr.block ?_)))
  refine Tr.loop (fun (i : Nat) st => i ≤ x.passes.length ∧ st = { env := [(1, intsV pr), (3, I (d : Nat)), (4, .ptr 4 0), (9, intsV R), (10, I ((List.range i).foldl (leafStep x pr R d) z)), (41, .slice 0 2 (x.passes.map eQ)), (42, I (x.passes.length : Nat)), (43, I (i : Nat))], bx := [(4, ⟨nfC x, false⟩)], rw := [], log := [], stp := false }) (fun i => x.passes.length - i) 0
    (Wk.le (.cons rfl (.refl _) (.cons rfl (.refl _) (.cons rfl (.refl _) (.cons rfl (.refl _) (.cons rfl (.refl _) (.cons rfl (.refl _) (.cons rfl (VLe.i (by simp)) (.cons rfl (.refl _) .nil)))))))) (.cons rfl (LLe.refl _) .nil) .nil rfl rfl) ⟨by omega, rfl⟩ ?_
  rintro i st ⟨hi, rfl⟩
  have hlb := leaf_bd hx hp hl hR d z i hi
  have hst : (List.range (i + 1)).foldl (leafStep x pr R d) z = leafStep x pr R d ((List.range i).foldl (leafStep x pr R d) z) i := by
    rw [List.range_succ, List.foldl_append]; rfl
  generalize hs0 : (List.range i).foldl (leafStep x pr R d) z = s0 at hlb hst ⊢
  refine Tr.seqR rfl (by simp) (Tr.seqI rfl (fun h2 => ?_) (fun h2 => ?_))
  rotate_left
  · have h2 : i = x.passes.length := by simp at h2; omega
    subst h2
    exact Tr.exit (Tr.seqR rfl (by simp) (Tr.retX rfl rfl rfl (by rw [hs0]; rfl) trivial))
  have h2 : i < x.passes.length := by simpa using h2
  have hbit := bit_shr d i (by omega)
  refine Tr.skipT (Tr.meet { env := [(1, intsV pr), (3, I (d : Nat)), (4, .ptr 4 0), (9, intsV R), (10, I (leafStep x pr R d s0 i)), (41, .slice 0 2 (x.passes.map eQ)), (42, I (x.passes.length : Nat)), (43, I (i : Nat))], bx := [(4, ⟨nfC x, false⟩)], rw := [], log := [], stp := false } (Tr.block ?_) (Tr.regR rfl (by simp) ?_))
  rotate_left
  · exact ⟨i + 1, _, Wk.le (.cons rfl (.refl _) (.cons rfl (.refl _) (.cons rfl (.refl _) (.cons rfl (.refl _) (.cons rfl (.of_eq (by rw [hst])) (.cons rfl (.refl _) (.cons rfl (.refl _) (.cons rfl (VLe.i (w64 (by omega) (by omega))) .nil)))))))) (.cons rfl (LLe.refl _) .nil) .nil rfl rfl, ⟨h2, rfl⟩, by omega⟩
  refine Tr.seq (Tr.reg (Steps.runN 2 rfl (by simp; omega) ?_))
  rw [getD_map h2]
  refine Steps.fin rfl (by simp) ?_
  have ha := adds_small hx h2
  have ea : addsOf x i = x.passes[i].adds := by simp [addsOf, h2]
  have ec : costOf x i = x.passes[i].cost := by simp [costOf, h2]
  have hco := ((nfOk_spec hx).2.2 _ (List.getElem_mem h2)).1
  refine Tr.seq (Tr.seqR rfl (by simp) (Tr.cond rfl rfl (fun h3 => ?_) (fun h3 => Tr.skip ?_)))
  · have h3 : ((((d : Int).fdiv (2 ^ (min (i : Int).toNat 64))).tmod 2) == 1) = true := h3
    rw [hbit] at h3
    have hd : d.testBit i = true := by
      by_cases h : d.testBit i = true
      · exact h
      · rw [if_neg h] at h3; cases h3
    have e : leafStep x pr R d s0 i = s0 := by unfold leafStep; rw [if_pos hd]
    rw [e]
    exact Tr.exit (Wk.le (.cons rfl (.refl _) (.cons rfl (.refl _) (.cons rfl (.refl _) (.cons rfl (.refl _) (.cons rfl (.refl _) (.cons rfl (.refl _) (.cons rfl (.refl _) (.cons rfl (.refl _) .nil)))))))) (.cons rfl (LLe.refl _) .nil) .nil rfl rfl)
  have h3 : ((((d : Int).fdiv (2 ^ (min (i : Int).toNat 64))).tmod 2) == 1) = false := h3
  rw [hbit] at h3
  have hd : ¬ d.testBit i = true := by
    intro h
    rw [if_pos h] at h3; cases h3
  have e : leafStep x pr R d s0 i = s0 - max 0 (gainN x pr R i) := by unfold leafStep; rw [if_neg hd]
  have hgb := gain_bd hx hp hl hR h2
  rw [e]
  refine Tr.seqR rfl (by simp) ?_
  rw [ea] at ha
  have hml := minL_small ha hR
  have hge : gainN x pr R i = dotL pr (minL x.passes[i].adds R) (-x.passes[i].cost) := by unfold gainN; rw [ea, ec]
  refine Tr.seq (Tr.seqR rfl (by simp) (Tr.block ?_))
  refine Tr.loop (fun (k : Nat) st => k ≤ x.passes[i].adds.length ∧ st = { env := [(1, intsV pr), (3, I (d : Nat)), (4, .ptr 4 0), (9, intsV R), (10, I s0), (15, I (dotL (pr.take k) ((minL x.passes[i].adds R).take k) (-x.passes[i].cost))), (41, .slice 0 2 (x.passes.map eQ)), (42, I (x.passes.length : Nat)), (43, I (i : Nat)), (57, intsV x.passes[i].adds), (58, I (x.passes[i].adds.length : Nat)), (59, I (k : Nat))], bx := [(4, ⟨nfC x, false⟩)], rw := [], log := [], stp := false }) (fun k => x.passes[i].adds.length - k) 0
    (Wk.le (.cons rfl (.refl _) (.cons rfl (.refl _) (.cons rfl (.refl _) (.cons rfl (.refl _) (.cons rfl (.refl _) (.cons rfl (VLe.i ?_) (.cons rfl (.refl _) (.cons rfl (.refl _) (.cons rfl (.refl _) (.cons rfl (.refl _) (.cons rfl (VLe.i ?_) (.cons rfl (.refl _) .nil)))))))))))) (.cons rfl (LLe.refl _) .nil) .nil rfl rfl) ⟨by omega, rfl⟩ ?_
  · show IntKind.wrap .i64 (0 - x.passes[i].cost) = _
    rw [w64 (by omega) (by omega)]
    simp [dotL]
  · show ((x.passes[i].adds.map I).length : Int) = _
    rw [List.length_map]
  rintro k st ⟨hk, rfl⟩
  have hdb2 : ∀ k, k ≤ pr.length → -1000 ≤ dotL (pr.take k) ((minL x.passes[i].adds R).take k) (-x.passes[i].cost) ∧ dotL (pr.take k) ((minL x.passes[i].adds R).take k) (-x.passes[i].cost) ≤ 1700000000 := fun k hk => by
    have := dot_bd (pr.take k) ((minL x.passes[i].adds R).take k) (-x.passes[i].cost) (fun m hm => hp m (List.mem_of_mem_take hm)) (fun m hm => hml.2 m (List.mem_of_mem_take hm))
    have e : (pr.take k).length = k := by rw [List.length_take]; omega
    rw [e] at this
    omega
  have hal : x.passes[i].adds.length = pr.length := by rw [ha.1, hl]
  refine Tr.seqR rfl (by simp) (Tr.seqI rfl (fun h4 => ?_) (fun h4 => ?_))
  · have h4 : k < x.passes[i].adds.length := by simpa using h4
    have h4p : k < pr.length := by omega
    have h4R : k < R.length := by rw [hR.1, ← hl]; omega
    have h4m : k < (minL x.passes[i].adds R).length := by rw [hml.1, ← hl]; omega
    refine Tr.skipT (Tr.seq (Tr.block (Tr.seq (Tr.reg (Steps.runN 2 rfl (by simp; omega) ?_)))))
    rw [getD_map h4]
    refine Steps.fin rfl (by simp) (Tr.drawK (TraceK.runN 4 rfl (by simp; omega) ?_))
    rw [getD_map h4p]
    refine TraceK.runN 5 rfl (by simp; omega) ?_
    rw [getD_map h4R]
    refine TraceK.run rfl (by simp) (.done ⟨by kernel_rfl, by kernel_rfl, ?_⟩)
    refine Tr.regR rfl (by simp) ?_
    have b1 := hp _ (List.getElem_mem h4p)
    have b2 := hml.2 _ (List.getElem_mem h4m)
    have q1 : 0 ≤ pr[k] * (minL x.passes[i].adds R)[k] := Int.mul_nonneg b1.1 b2.1
    have q2 : pr[k] * (minL x.passes[i].adds R)[k] ≤ 1000000 * 100 := Int.mul_le_mul b1.2 b2.2 b2.1 (by omega)
    have b3 := hdb2 k (by omega)
    refine ⟨k + 1, _, Wk.le (.cons rfl (.refl _) (.cons rfl (.refl _) (.cons rfl (.refl _) (.cons rfl (.refl _) (.cons rfl (.refl _) (.cons rfl (VLe.i ?_) (.cons rfl (.refl _) (.cons rfl (.refl _) (.cons rfl (.refl _) (.cons rfl (.refl _) (.cons rfl (.refl _) (.cons rfl (VLe.i (w64 (by omega) (by omega))) .nil)))))))))))) (.cons rfl (LLe.refl _) .nil) .nil rfl rfl, ⟨h4, rfl⟩, by omega⟩
    rw [dot_take _ _ _ h4p h4m]
    have em : (minL x.passes[i].adds R)[k] = min x.passes[i].adds[k] R[k] := by simp [minL]
    show IntKind.wrap .i64 (dotL (pr.take k) ((minL x.passes[i].adds R).take k) (-x.passes[i].cost) + IntKind.wrap .i64 (pr[k] * (if R[k] < x.passes[i].adds[k] then R[k] else x.passes[i].adds[k]))) = _
    rw [ite_min, ← em, w64 (n := pr[k] * _) (by omega) (by omega), w64 (by omega) (by omega)]
  have h4 : k = x.passes[i].adds.length := by simp at h4; omega
  subst h4
  have hge2 : dotL (pr.take x.passes[i].adds.length) ((minL x.passes[i].adds R).take x.passes[i].adds.length) (-x.passes[i].cost) = gainN x pr R i := by
    rw [hge, List.take_of_length_le (by omega), List.take_of_length_le (by rw [hml.1, ha.1]; omega)]
  rw [hge2]
  refine Tr.exit (Tr.regR rfl (by simp) ?_)
  refine Wk.le (.cons rfl (.refl _) (.cons rfl (.refl _) (.cons rfl (.refl _) (.cons rfl (.refl _) (.cons rfl (VLe.i ?_) (.cons rfl (.refl _) (.cons rfl (.refl _) (.cons rfl (.refl _) .nil)))))))) (.cons rfl (LLe.refl _) .nil) .nil rfl rfl
  show IntKind.wrap .i64 (s0 - (if gainN x pr R i > 0 then gainN x pr R i else 0)) = _
  rw [ite_max, w64 (by omega) (by omega)]

end Go.Proofs.YtdejdblopmfjfaaGreatDoor


/-! Contracts: the bound of a proof. -/
set_option linter.unusedVariables false
set_option linter.unusedSimpArgs false
set_option maxRecDepth 40000
set_option maxHeartbeats 4000000
namespace Go.Proofs.YtdejdblopmfjfaaGreatDoor
open Go.Am
attribute [local simp] cells scalar mkv splice under2 under dem dem1 eB eQ nfC intsV
structure Ct where
  split : Int
  prices : List Int

def eC (c : Ct) : V := .agg [I c.split, intsV c.prices]
def cutsV (p : List Ct) : V := .slice 0 2 (p.map eC)
attribute [local simp] eC cutsV
structure Rd where
  ok : Bool
  at_ : Nat
  some : Bool
  least : Int

def pricesOk (x : Nf) (l : List Int) : Bool := decide (l.length = x.lacks.length) && l.all (btw · 0 1000000)
def splitOk (x : Nf) (k : Ct) (d : Nat) : Bool := btw k.split 0 ((x.passes.length : Int) - 1) && !d.testBit k.split.toNat && decide (k.prices.length = 0)

def readN (x : Nf) (pf : List Ct) : Nat → Nat → Nat → Rd → Rd
  | 0, _, _, s => { s with ok := false }
  | n + 1, c, d, s =>
    if h : s.ok = true ∧ s.at_ < pf.length then
      let k := pf[s.at_]
      let s1 := { s with at_ := s.at_ + 1 }
      if k.split ≠ -1 then
        if splitOk x k d then readN x pf n c (d ||| 2 ^ k.split.toNat) (readN x pf n (c ||| 2 ^ k.split.toNat) (d ||| 2 ^ k.split.toNat) { s1 with ok := true })
        else { s1 with ok := false }
      else if pricesOk x k.prices then
        (if (!s.some || decide (leafN x k.prices c d < s.least)) then { s1 with ok := true, least := leafN x k.prices c d, some := true } else { s1 with ok := true })
      else { s1 with ok := false }
    else { s with ok := false }

theorem readN_at (x : Nf) (pf : List Ct) : ∀ (n c d : Nat) (s : Rd), s.at_ ≤ pf.length → s.at_ ≤ (readN x pf n c d s).at_ ∧ (readN x pf n c d s).at_ ≤ pf.length
  | 0, c, d, s, h => ⟨Nat.le_refl _, h⟩
  | n + 1, c, d, s, h => by
    simp only [readN]
    split
    · rename_i h1
      split
      · split
        · have i1 := readN_at x pf n (c ||| 2 ^ (pf[s.at_]'h1.2).split.toNat) (d ||| 2 ^ (pf[s.at_]'h1.2).split.toNat) { s with at_ := s.at_ + 1, ok := true } (by simp only; omega)
          have i2 := readN_at x pf n c (d ||| 2 ^ (pf[s.at_]'h1.2).split.toNat) (readN x pf n (c ||| 2 ^ (pf[s.at_]'h1.2).split.toNat) (d ||| 2 ^ (pf[s.at_]'h1.2).split.toNat) { s with at_ := s.at_ + 1, ok := true }) i1.2
          simp only at i1
          exact ⟨by omega, i2.2⟩
        · exact ⟨by simp only; omega, by simp only; omega⟩
      · split
        · split
          · exact ⟨by simp only; omega, by simp only; omega⟩
          · exact ⟨by simp only; omega, by simp only; omega⟩
        · exact ⟨by simp only; omega, by simp only; omega⟩
    · exact ⟨Nat.le_refl _, h⟩

/-- The variables of the reading. -/
def rdA (b9 b10 b8 b7 : Nat) (s : Rd) : Arena := [(b10, .cells [I (s.at_ : Nat)]), (b9, .cells [.bool s.ok]), (b8, .cells [.bool s.some]), (b7, .cells [I s.least])]
def readV (x : Nf) (pf : List Ct) (b9 b10 b11 b8 b7 : Nat) : V := .func (.func F.bin_Bound_1) [] [.rptr b9 0, .rptr b10 0, .vptr [cutsV pf] 0, .vptr (nfC x) 0, .rptr b11 0, .rptr b8 0, .rptr b7 0]

theorem setA_at {b9 b10 b8 b7 : Nat} (hn : [b10, b9, b8, b7].Nodup) (s : Rd) (n : Nat) : setA (rdA b9 b10 b8 b7 s) b10 (.cells [I (n : Nat)]) = rdA b9 b10 b8 b7 { s with at_ := n } := by
  simp only [List.nodup_cons, List.mem_cons, List.not_mem_nil, or_false, not_or] at hn
  obtain ⟨⟨h1, h2, h3⟩, ⟨h4, h5⟩, h6, _⟩ := hn
  simp [setA, rdA, h1, h2, h3, h4, h5, h6, Ne.symm h1, Ne.symm h2, Ne.symm h3, Ne.symm h4, Ne.symm h5, Ne.symm h6]

theorem setA_ok {b9 b10 b8 b7 : Nat} (hn : [b10, b9, b8, b7].Nodup) (s : Rd) (n : Bool) : setA (rdA b9 b10 b8 b7 s) b9 (.cells [.bool n]) = rdA b9 b10 b8 b7 { s with ok := n } := by
  simp only [List.nodup_cons, List.mem_cons, List.not_mem_nil, or_false, not_or] at hn
  obtain ⟨⟨h1, h2, h3⟩, ⟨h4, h5⟩, h6, _⟩ := hn
  simp [setA, rdA, h1, h2, h3, h4, h5, h6, Ne.symm h1, Ne.symm h2, Ne.symm h3, Ne.symm h4, Ne.symm h5, Ne.symm h6]

theorem setA_some {b9 b10 b8 b7 : Nat} (hn : [b10, b9, b8, b7].Nodup) (s : Rd) (n : Bool) : setA (rdA b9 b10 b8 b7 s) b8 (.cells [.bool n]) = rdA b9 b10 b8 b7 { s with some := n } := by
  simp only [List.nodup_cons, List.mem_cons, List.not_mem_nil, or_false, not_or] at hn
  obtain ⟨⟨h1, h2, h3⟩, ⟨h4, h5⟩, h6, _⟩ := hn
  simp [setA, rdA, h1, h2, h3, h4, h5, h6, Ne.symm h1, Ne.symm h2, Ne.symm h3, Ne.symm h4, Ne.symm h5, Ne.symm h6]

theorem setA_least {b9 b10 b8 b7 : Nat} (hn : [b10, b9, b8, b7].Nodup) (s : Rd) (n : Int) : setA (rdA b9 b10 b8 b7 s) b7 (.cells [I n]) = rdA b9 b10 b8 b7 { s with least := n } := by
  simp only [List.nodup_cons, List.mem_cons, List.not_mem_nil, or_false, not_or] at hn
  obtain ⟨⟨h1, h2, h3⟩, ⟨h4, h5⟩, h6, _⟩ := hn
  simp [setA, rdA, h1, h2, h3, h4, h5, h6, Ne.symm h1, Ne.symm h2, Ne.symm h3, Ne.symm h4, Ne.symm h5, Ne.symm h6]

section
variable {E : Env} {S1 : Sur} {l0 : List (List V)} {s0 : Bool} {b9 b10 b8 b7 : Nat} {K : St → Prop} {s : St} {rest : List Ins} {x y : X} {d : Nat} {r : Rd}

theorem ld_ok (hA : InA E S1 l0 s0) (hl : s.log = encA (rdA b9 b10 b8 b7 r)) (hx : evXs s.env [x] = some [.rptr b9 0]) (hk : Go.Am.Steps E rest K (s.put (some d) (.bool r.ok))) : Go.Am.Steps E (⟨some d, .load 1 false, [x], none⟩ :: rest) K s :=
  Steps.aload (blk := b9) (off := 0) (cs := [.bool r.ok]) hA hx hl (by simp [rdA]) rfl hk
theorem ld_at (hA : InA E S1 l0 s0) (hl : s.log = encA (rdA b9 b10 b8 b7 r)) (hx : evXs s.env [x] = some [.rptr b10 0]) (hk : Go.Am.Steps E rest K (s.put (some d) (I (r.at_ : Nat)))) : Go.Am.Steps E (⟨some d, .load 1 false, [x], none⟩ :: rest) K s :=
  Steps.aload (blk := b10) (off := 0) (cs := [I (r.at_ : Nat)]) hA hx hl (by simp [rdA]) rfl hk
theorem ld_some (hA : InA E S1 l0 s0) (hl : s.log = encA (rdA b9 b10 b8 b7 r)) (hx : evXs s.env [x] = some [.rptr b8 0]) (hk : Go.Am.Steps E rest K (s.put (some d) (.bool r.some))) : Go.Am.Steps E (⟨some d, .load 1 false, [x], none⟩ :: rest) K s :=
  Steps.aload (blk := b8) (off := 0) (cs := [.bool r.some]) hA hx hl (by simp [rdA]) rfl hk
theorem gld_at {t : Nat} {want : Bool} {gv : V} (hA : InA E S1 l0 s0) (hl : s.log = encA (rdA b9 b10 b8 b7 r)) (hgv : get s.env t = some gv) (hgb : guardOf want gv = some true) (hx : evXs s.env [x] = some [.rptr b10 0]) (hk : Go.Am.Steps E rest K (s.put (some d) (.cond true (I (r.at_ : Nat))))) : Go.Am.Steps E (⟨some d, .load 1 false, [x], some (t, want)⟩ :: rest) K s :=
  Steps.gaload (blk := b10) (off := 0) (cs := [I (r.at_ : Nat)]) hA hgv hgb hx hl (by simp [rdA]) rfl hk
theorem gld_least {t : Nat} {want : Bool} {gv : V} (hA : InA E S1 l0 s0) (hl : s.log = encA (rdA b9 b10 b8 b7 r)) (hgv : get s.env t = some gv) (hgb : guardOf want gv = some true) (hx : evXs s.env [x] = some [.rptr b7 0]) (hk : Go.Am.Steps E rest K (s.put (some d) (.cond true (I r.least)))) : Go.Am.Steps E (⟨some d, .load 1 false, [x], some (t, want)⟩ :: rest) K s :=
  Steps.gaload (blk := b7) (off := 0) (cs := [I r.least]) hA hgv hgb hx hl (by simp [rdA]) rfl hk
theorem st_ok (hn : [b10, b9, b8, b7].Nodup) (hA : InA E S1 l0 s0) (hl : s.log = encA (rdA b9 b10 b8 b7 r)) {v : Bool} (hx : evXs s.env [x, y] = some [.rptr b9 0, .bool v]) (hk : Go.Am.Steps E rest K { s with log := encA (rdA b9 b10 b8 b7 { r with ok := v }) }) : Go.Am.Steps E (⟨none, .store 1, [x, y], none⟩ :: rest) K s :=
  Steps.astore (blk := b9) (off := 0) (cs := [.bool r.ok]) hA hx hl (by simp [rdA]) (by simp) rfl rfl (by rw [← setA_ok hn] at hk; exact hk)
theorem st_at (hn : [b10, b9, b8, b7].Nodup) (hA : InA E S1 l0 s0) (hl : s.log = encA (rdA b9 b10 b8 b7 r)) {v : Int} {n : Nat} (hv : v = (n : Int)) (hx : evXs s.env [x, y] = some [.rptr b10 0, I v]) (hk : Go.Am.Steps E rest K { s with log := encA (rdA b9 b10 b8 b7 { r with at_ := n }) }) : Go.Am.Steps E (⟨none, .store 1, [x, y], none⟩ :: rest) K s := by
  subst hv
  exact Steps.astore (blk := b10) (off := 0) (cs := [I (r.at_ : Nat)]) hA hx hl (by simp [rdA]) (by simp) rfl rfl (by rw [← setA_at hn] at hk; exact hk)
theorem st_some (hn : [b10, b9, b8, b7].Nodup) (hA : InA E S1 l0 s0) (hl : s.log = encA (rdA b9 b10 b8 b7 r)) {v : Bool} (hx : evXs s.env [x, y] = some [.rptr b8 0, .bool v]) (hk : Go.Am.Steps E rest K { s with log := encA (rdA b9 b10 b8 b7 { r with some := v }) }) : Go.Am.Steps E (⟨none, .store 1, [x, y], none⟩ :: rest) K s :=
  Steps.astore (blk := b8) (off := 0) (cs := [.bool r.some]) hA hx hl (by simp [rdA]) (by simp) rfl rfl (by rw [← setA_some hn] at hk; exact hk)
theorem st_least (hn : [b10, b9, b8, b7].Nodup) (hA : InA E S1 l0 s0) (hl : s.log = encA (rdA b9 b10 b8 b7 r)) {v : Int} (hx : evXs s.env [x, y] = some [.rptr b7 0, I v]) (hk : Go.Am.Steps E rest K { s with log := encA (rdA b9 b10 b8 b7 { r with least := v }) }) : Go.Am.Steps E (⟨none, .store 1, [x, y], none⟩ :: rest) K s :=
  Steps.astore (blk := b7) (off := 0) (cs := [I r.least]) hA hx hl (by simp [rdA]) (by simp) rfl rfl (by rw [← setA_least hn] at hk; exact hk)
end

theorem c_stop {x : Nf} {pf : List Ct} (hpf : pf.length ≤ 2048) {b9 b10 b11 b8 b7 : Nat} (hn : [b10, b9, b8, b7].Nodup) (c d : Nat) (s : Rd) (hs : ¬ (s.ok = true ∧ s.at_ < pf.length)) :
    CA Tryz.prog F.bin_Bound_1 (rdA b9 b10 b8 b7 s) [(b11, [readV x pf b9 b10 b11 b8 b7])] [I (c : Nat), I (d : Nat), .rptr b9 0, .rptr b10 0, .vptr [cutsV pf] 0, .vptr (nfC x) 0, .rptr b11 0, .rptr b8 0, .rptr b7 0] (.tuple []) (rdA b9 b10 b8 b7 { s with ok := false }) := by
  refine CA_of mixed chk.bin_Bound_1 (by simp) fun S ok S1 hA hK => ?_
  refine Tr.scope (Tr.seq (Tr.seq (Tr.reg ?_)))
  refine ld_ok (r := s) hA rfl rfl ?_
  by_cases hok : s.ok = true
  · have hat : pf.length ≤ s.at_ := by
      rcases Nat.lt_or_ge s.at_ pf.length with h | h
      · exact absurd ⟨hok, h⟩ hs
      · exact h
    rw [hok]
    refine Steps.run rfl (by simp) (gld_at (r := s) hA rfl rfl rfl rfl (Steps.fin rfl (by simp) (Tr.cond rfl rfl (fun h => ?_) (fun h => ?_))))
    · refine Tr.seq (Tr.reg (st_ok hn (r := s) (v := false) hA rfl rfl ?_))
      exact Steps.fin rfl (by simp) (Tr.retX rfl rfl rfl rfl rfl)
    · exfalso
      have h : (decide ((s.at_ : Int) ≥ ((pf.map eC).length : Int))) = false := h
      simp at h; omega
  · have hok : s.ok = false := by simpa using hok
    rw [hok]
    refine Steps.run rfl (by simp) (Steps.off (want := false) (I 0) rfl rfl rfl (Steps.fin rfl (by simp) (Tr.condT rfl ?_)))
    refine Tr.seq (Tr.reg (st_ok hn (r := s) (v := false) hA rfl rfl ?_))
    exact Steps.fin rfl (by simp) (Tr.retX rfl rfl rfl rfl rfl)

theorem pricesOk_spec {x : Nf} {l : List Int} (h : pricesOk x l = true) : l.length = x.lacks.length ∧ ∀ m ∈ l, 0 ≤ m ∧ m ≤ 1000000 := by
  simp only [pricesOk, Bool.and_eq_true, decide_eq_true_eq, List.all_eq_true, btw_iff] at h
  exact h

theorem c_read {x : Nf} (hx : nfOk x = true) {pf : List Ct} (hpf : pf.length ≤ 2048) (hpl : ∀ k ∈ pf, k.prices.length ≤ 9223372036854775807) {b9 b10 b11 b8 b7 : Nat} (hn : [b10, b9, b8, b7].Nodup) (h11 : b11 ∉ [b10, b9, b8, b7]) : ∀ (n c d : Nat) (s : Rd), c < 2 ^ x.passes.length → d < 2 ^ x.passes.length → s.at_ ≤ pf.length → pf.length - s.at_ ≤ n →
    CA Tryz.prog F.bin_Bound_1 (rdA b9 b10 b8 b7 s) [(b11, [readV x pf b9 b10 b11 b8 b7])] [I (c : Nat), I (d : Nat), .rptr b9 0, .rptr b10 0, .vptr [cutsV pf] 0, .vptr (nfC x) 0, .rptr b11 0, .rptr b8 0, .rptr b7 0] (.tuple []) (rdA b9 b10 b8 b7 (readN x pf n c d s)) := by
  have hm := (nfOk_spec hx).1.2
  have hm2 : 2 ^ x.passes.length ≤ 1024 := Nat.pow_le_pow_right (n := 2) (by omega) hm
  intro n
  induction n with
  | zero =>
    intro c d s hc hd ha hl
    exact c_stop hpf hn c d s (by omega)
  | succ n ih =>
    intro c d s hc hd ha hl
    by_cases hs : s.ok = true ∧ s.at_ < pf.length
    rotate_left
    · have := c_stop (x := x) (b11 := b11) hpf hn c d s hs
      simp only [readN, dif_neg hs]
      exact this
    simp only [readN, dif_pos hs]
    obtain ⟨hok, hat⟩ := hs
    obtain ⟨k, ek⟩ : ∃ k, pf[s.at_] = k := ⟨_, rfl⟩
    have hpk : k.prices.length ≤ 9223372036854775807 := hpl k (ek ▸ List.getElem_mem hat)
    rw [ek]
    refine CA_of mixed chk.bin_Bound_1 (by simp) fun S ok S1 hA hK => ?_
    refine Tr.scope (Tr.seq (Tr.seq (Tr.reg ?_)))
    refine ld_ok (r := s) hA rfl rfl ?_
    rw [hok]
    refine Steps.run rfl (by simp) (gld_at (r := s) hA rfl rfl rfl rfl (Steps.fin rfl (by simp) (Tr.cond rfl rfl (fun h => ?_) (fun h => Tr.skip ?_))))
    · exfalso
      have h : (decide ((s.at_ : Int) ≥ ((pf.map eC).length : Int))) = true := h
      simp at h; omega
    refine Tr.seq (Tr.reg (Steps.run rfl (by simp) (ld_at (r := s) hA rfl rfl (Steps.runN 1 rfl (by simp; omega) ?_))))
    rw [getD_map hat, ek]
    refine Steps.fin rfl (by simp) ?_
    refine Tr.seq (Tr.reg (ld_at (r := s) hA rfl rfl (Steps.run rfl (by simp) ?_)))
    refine st_at hn (r := s) (n := s.at_ + 1) hA rfl (w64 (n := (s.at_ : Int) + 1) (by omega) (by omega)) rfl ?_
    refine Steps.fin rfl (by simp) ?_
    obtain ⟨s1, hs1⟩ : ∃ s1 : Rd, { s with at_ := s.at_ + 1 } = s1 := ⟨_, rfl⟩
    rw [hs1]
    have e1 : s1.at_ = s.at_ + 1 := by rw [← hs1]
    have e2 : s1.some = s.some := by rw [← hs1]
    have e3 : s1.least = s.least := by rw [← hs1]
    rw [← e1, ← e2, ← e3]
    refine Tr.weak (s' := { env := [(0, I (c : Nat)), (1, I (d : Nat)), (2, .rptr b9 0), (3, .rptr b10 0), (4, .vptr [cutsV pf] 0), (5, .vptr (nfC x) 0), (6, .rptr b11 0), (7, .rptr b8 0), (8, .rptr b7 0), (11, .ptr 11 0)], bx := [(11, ⟨[I k.split, intsV k.prices], false⟩)], rw := [], log := encA (rdA b9 b10 b8 b7 s1), stp := false })
      (Wk.le (.cons rfl (.refl _) (.cons rfl (.refl _) (.cons rfl (.refl _) (.cons rfl (.refl _) (.cons rfl (.refl _) (.cons rfl (.refl _) (.cons rfl (.refl _) (.cons rfl (.refl _) (.cons rfl (.refl _) (.cons rfl (.refl _) .nil)))))))))) (.cons rfl (LLe.refl _) .nil) .nil rfl rfl) ?_
    refine Tr.seq (Tr.seqR rfl (by simp) (Tr.cond rfl rfl (fun hsp => ?_) (fun hsp => Tr.skip ?_)))
    · have hsp : (k.split != -1) = true := hsp
      have hsp : k.split ≠ -1 := by simpa using hsp
      rw [if_pos hsp]
      have hw1 : IntKind.wrap .i64 (((x.passes.map eQ).length : Int) - 1) = (x.passes.length : Int) - 1 := by rw [List.length_map, w64 (by omega) (by omega)]
      have kw := c_within k.split 0 (IntKind.wrap .i64 (((x.passes.map eQ).length : Int) - 1))
      rw [hw1] at kw
      have kw' : C Tryz.prog F.bin_within [I k.split, I 0, I (IntKind.wrap .i64 (((x.passes.map eQ).length : Int) - 1))] (.bool (btw k.split 0 ((x.passes.length : Int) - 1))) := by rw [hw1]; exact kw
      by_cases hw : btw k.split 0 ((x.passes.length : Int) - 1) = true
      rotate_left
      · have hw : btw k.split 0 ((x.passes.length : Int) - 1) = false := by simpa using hw
        rw [hw] at kw'
        have : splitOk x k d = false := by simp [splitOk, hw]
        rw [if_neg (by simp [this])]
        refine Tr.seq (Tr.seq (Tr.reg (Steps.run rfl (by simp) (Steps.call rfl rfl kw' (Steps.run rfl (by simp) ?_)))))
        refine st_ok hn (r := s1) (v := false) hA rfl rfl (Steps.fin rfl (by simp) ?_)
        refine Tr.seq (Tr.reg (ld_ok (r := { s1 with ok := false }) hA rfl rfl (Steps.fin rfl (by simp) (Tr.condF rfl (Tr.skip ?_)))))
        exact Tr.retX rfl rfl rfl rfl rfl
      rw [hw] at kw'
      rw [btw_iff] at hw
      obtain ⟨i, hi⟩ : ∃ i : Nat, k.split = (i : Int) := ⟨k.split.toNat, by omega⟩
      have hi' : k.split.toNat = i := by omega
      have him : i < x.passes.length := by omega
      have hbit := bit_shr d i (by omega)
      have hso : splitOk x k d = (!d.testBit i && decide (k.prices.length = 0)) := by
        unfold splitOk
        rw [(btw_iff _ _ _).2 hw, hi']; rfl
      have hval : (bif (((((d : Int).fdiv (2 ^ (min (k.split).toNat 64))).tmod 2) == 0)) then (((k.prices.map I).length : Int) == 0) else false) = splitOk x k d := by
        rw [hso, hi, hbit, List.length_map]
        by_cases h : d.testBit i = true
        · simp [h]
        · by_cases h5 : k.prices.length = 0
          · rw [h5]; simp [h]
          · have h6 : k.prices ≠ [] := fun h6 => h5 (by rw [h6]; rfl)
            simp [h, h6]
      refine Tr.seq (Tr.seq (Tr.reg (Steps.run rfl (by simp) (Steps.call rfl rfl kw' (Steps.run rfl (by simp; omega) ?_)))))
      refine st_ok hn (r := s1) (v := splitOk x k d) hA rfl ?_ (Steps.fin rfl (by simp) ?_)
      · rw [← hval]; rfl
      refine Tr.seq (Tr.reg (ld_ok (r := { s1 with ok := splitOk x k d }) hA rfl rfl (Steps.fin rfl (by simp) (Tr.cond rfl rfl (fun h3 => ?_) (fun h3 => Tr.skip ?_)))))
      rotate_left
      · have h3 : splitOk x k d = false := h3
        rw [if_neg (by simp [h3]), h3]
        exact Tr.retX rfl rfl rfl rfl rfl
      have h3 : splitOk x k d = true := h3
      rw [if_pos h3, h3, hi']
      have hp : 2 ^ i < 2 ^ x.passes.length := Nat.pow_lt_pow_right (by omega) him
      have hc2 : c ||| 2 ^ i < 2 ^ x.passes.length := Nat.or_lt_two_pow hc hp
      have hd2 : d ||| 2 ^ i < 2 ^ x.passes.length := Nat.or_lt_two_pow hd hp
      have hsh := bit_shl i (by omega)
      have hor : ∀ e : Nat, e < 2 ^ x.passes.length → bitsV .or .i64 (e : Int) (IntKind.wrap .i64 (1 * 2 ^ (min (k.split).toNat 64))) = ((e ||| 2 ^ i : Nat) : Int) := fun e he => by
        rw [hi, hsh]
        exact bits_or e (2 ^ i) (by omega) (by omega)
      have k1 := ih (c ||| 2 ^ i) (d ||| 2 ^ i) { s1 with ok := true } hc2 hd2 (by simp only; omega) (by simp only; omega)
      have hat2 := readN_at x pf n (c ||| 2 ^ i) (d ||| 2 ^ i) { s1 with ok := true } (by simp only; omega)
      simp only at hat2
      obtain ⟨s2, es2⟩ : ∃ s2, readN x pf n (c ||| 2 ^ i) (d ||| 2 ^ i) { s1 with ok := true } = s2 := ⟨_, rfl⟩
      rw [es2] at k1 hat2 ⊢
      have k2 := ih c (d ||| 2 ^ i) s2 hc hd2 hat2.2 (by omega)
      refine Tr.seq (Tr.drawK (TraceK.kload hK (cs := [readV x pf b9 b10 b11 b8 b7]) rfl (by simp) rfl (TraceK.runN 10 rfl (by simp; omega) ?_)))
      have hkd : ∀ r : Rd, ∀ p ∈ [(b11, [readV x pf b9 b10 b11 b8 b7])], p.1 ∉ (rdA b9 b10 b8 b7 r).map (·.1) := fun r p hp => by
        obtain rfl := List.mem_singleton.1 hp
        exact h11
      rw [← hor c hc, ← hor d hd] at k1
      refine .done ⟨by kernel_rfl, by kernel_rfl, ?_⟩
      refine Steps.callvA (F := []) hA rfl rfl rfl k1 (.inr ⟨hK, hkd _⟩) (Steps.fin rfl (by simp) ?_)
      rw [← hor d hd] at k2
      refine Tr.drawK (TraceK.kload hK (cs := [readV x pf b9 b10 b11 b8 b7]) rfl (by simp) rfl (TraceK.runN 6 rfl (by simp; omega) (.done ⟨by kernel_rfl, by kernel_rfl, ?_⟩)))
      refine Steps.callvA (F := []) hA rfl rfl rfl k2 (.inr ⟨hK, hkd _⟩) (Steps.fin rfl (by simp) ?_)
      exact Tr.retX rfl rfl rfl rfl rfl
    have hsp : (k.split != -1) = false := hsp
    have hsp : ¬ k.split ≠ -1 := by simpa using hsp
    rw [if_neg hsp]
    have hlen : ((((k.prices.map I).length : Int)) == (((x.lacks.map I).length : Int))) = decide (k.prices.length = x.lacks.length) := by
      rw [List.length_map, List.length_map]
      by_cases h : k.prices.length = x.lacks.length
      · rw [h]; simp
      · have : ¬ ((k.prices.length : Int) = (x.lacks.length : Int)) := by omega
        simp [h, this]
    refine Tr.seq (Tr.reg (Steps.run rfl (by simp) ?_))
    have hlen0 : ((((k.prices.map I).length : Int)) == (((x.lacks.map I).length : Int))) = (decide (k.prices.length = x.lacks.length) && (k.prices.take 0).all (btw · 0 1000000)) := by rw [hlen]; simp
    refine st_ok hn (r := s1) (v := decide (k.prices.length = x.lacks.length) && (k.prices.take 0).all (btw · 0 1000000)) hA rfl ?_ (Steps.fin rfl (by simp) ?_)
    · rw [← hlen0]; rfl
    refine Tr.seq (Tr.label ?_)
    refine Tr.meet { env := [(0, I (c : Nat)), (1, I (d : Nat)), (2, .rptr b9 0), (5, .vptr (nfC x) 0), (7, .rptr b8 0), (8, .rptr b7 0), (11, .ptr 11 0)], bx := [(11, ⟨[I k.split, intsV k.prices], false⟩)], rw := [], log := encA (rdA b9 b10 b8 b7 { s1 with ok := pricesOk x k.prices }), stp := false } (Tr.seqR rfl (by simp) (Tr.block ?_)) ?_
    · refine Tr.loop (fun (j : Nat) st => (j ≤ k.prices.length) ∧ st = { env := [(0, I (c : Nat)), (1, I (d : Nat)), (2, .rptr b9 0), (5, .vptr (nfC x) 0), (7, .rptr b8 0), (8, .rptr b7 0), (11, .ptr 11 0), (82, intsV k.prices), (83, I (k.prices.length : Nat)), (84, I (j : Nat))], bx := [(11, ⟨[I k.split, intsV k.prices], false⟩)], rw := [], log := encA (rdA b9 b10 b8 b7 { s1 with ok := decide (k.prices.length = x.lacks.length) && (k.prices.take j).all (btw · 0 1000000) }), stp := false }) (fun j => k.prices.length - j) 0
        (Wk.le (.cons rfl (.refl _) (.cons rfl (.refl _) (.cons rfl (.refl _) (.cons rfl (.refl _) (.cons rfl (.refl _) (.cons rfl (.refl _) (.cons rfl (.refl _) (.cons rfl (.refl _) (.cons rfl (VLe.i ?_) (.cons rfl (.refl _) .nil)))))))))) (.cons rfl (LLe.refl _) .nil) .nil rfl rfl) ⟨Nat.zero_le _, rfl⟩ ?_
      · show ((k.prices.map I).length : Int) = _
        rw [List.length_map]
      rintro j st ⟨hj, rfl⟩
      refine Tr.seqR rfl (by simp) (Tr.seqI rfl (fun h1 => ?_) (fun h1 => ?_))
      rotate_left
      · have h1 : j = k.prices.length := by simp at h1; omega
        subst h1
        rw [List.take_length]
        exact Tr.exit (Wk.le (.cons rfl (.refl _) (.cons rfl (.refl _) (.cons rfl (.refl _) (.cons rfl (.refl _) (.cons rfl (.refl _) (.cons rfl (.refl _) (.cons rfl (.refl _) .nil))))))) (.cons rfl (LLe.refl _) .nil) .nil rfl rfl)
      have h1 : j < k.prices.length := by simpa using h1
      have hnx : (decide (k.prices.length = x.lacks.length) && (k.prices.take (j + 1)).all (btw · 0 1000000)) = ((decide (k.prices.length = x.lacks.length) && (k.prices.take j).all (btw · 0 1000000)) && btw k.prices[j] 0 1000000) := by
        rw [all_take_succ h1, Bool.and_assoc]
      have hfa : (decide (k.prices.length = x.lacks.length) && (k.prices.take (j + 1)).all (btw · 0 1000000)) = false → pricesOk x k.prices = false := fun h => by
        unfold pricesOk
        rw [Bool.and_eq_false_iff] at h ⊢
        rcases h with h | h
        · exact .inl h
        · refine .inr ?_
          rw [List.all_eq_false] at h ⊢
          obtain ⟨m, hm, h⟩ := h
          exact ⟨m, List.mem_of_mem_take hm, h⟩
      generalize hB0 : (decide (k.prices.length = x.lacks.length) && (k.prices.take j).all (btw · 0 1000000)) = B0 at hnx ⊢
      refine Tr.skipT (Tr.seq (Tr.block (Tr.seq (Tr.reg (Steps.runN 1 rfl (by simp; omega) ?_)))))
      rw [getD_map h1]
      refine Steps.fin rfl (by simp) (Tr.seq (Tr.reg (ld_ok (r := { s1 with ok := B0 }) hA rfl rfl (Steps.run rfl (by simp) ?_))))
      refine Steps.gcall rfl rfl rfl rfl (by simp) (fun _ => c_within k.prices[j] 0 1000000) ?_
      refine Steps.runN 1 rfl (by cases B0 <;> simp) ?_
      refine st_ok hn (r := { s1 with ok := B0 }) (v := B0 && btw k.prices[j] 0 1000000) hA rfl ?_ (Steps.fin rfl (by simp) ?_)
      · show some [V.rptr b9 0, .bool (bif B0 then btw k.prices[j] 0 1000000 else false)] = _
        cases B0 <;> rfl
      rw [← hnx]
      refine Tr.seq (Tr.reg (ld_ok (r := { s1 with ok := _ }) hA rfl rfl (Steps.fin rfl (by simp) (Tr.cond rfl rfl (fun h2 => ?_) (fun h2 => Tr.skip ?_)))))
      · have h2 : (!(decide (k.prices.length = x.lacks.length) && (k.prices.take (j + 1)).all (btw · 0 1000000))) = true := h2
        have h2 : (decide (k.prices.length = x.lacks.length) && (k.prices.take (j + 1)).all (btw · 0 1000000)) = false := by
          revert h2
          generalize (decide (k.prices.length = x.lacks.length) && (k.prices.take (j + 1)).all (btw · 0 1000000)) = B
          cases B <;> simp
        rw [h2, hfa h2]
        exact Tr.exit (Wk.le (.cons rfl (.refl _) (.cons rfl (.refl _) (.cons rfl (.refl _) (.cons rfl (.refl _) (.cons rfl (.refl _) (.cons rfl (.refl _) (.cons rfl (.refl _) .nil))))))) (.cons rfl (LLe.refl _) .nil) .nil rfl rfl)
      · refine Tr.regR rfl (by simp) ?_
        exact ⟨j + 1, _, Wk.le (.cons rfl (.refl _) (.cons rfl (.refl _) (.cons rfl (.refl _) (.cons rfl (.refl _) (.cons rfl (.refl _) (.cons rfl (.refl _) (.cons rfl (.refl _) (.cons rfl (.refl _) (.cons rfl (.refl _) (.cons rfl (VLe.i (w64 (by omega) (by omega))) .nil)))))))))) (.cons rfl (LLe.refl _) .nil) .nil rfl rfl, ⟨h1, rfl⟩, by omega⟩
    refine Tr.seq (Tr.reg (ld_ok (r := { s1 with ok := pricesOk x k.prices }) hA rfl rfl (Steps.fin rfl (by simp) (Tr.cond rfl rfl (fun h2 => ?_) (fun h2 => Tr.skip ?_)))))
    rotate_left
    · have h2 : pricesOk x k.prices = false := h2
      rw [if_neg (by simp [h2]), h2]
      exact ⟨rfl, [], [], [], rfl, rfl, rfl⟩
    have h2 : pricesOk x k.prices = true := h2
    rw [if_pos h2, h2]
    obtain ⟨hp1, hp2⟩ := pricesOk_spec h2
    refine Tr.seq (Tr.reg (Steps.run rfl (by simp) (Steps.call rfl rfl (c_leaf hx hp2 hp1 hc) (Steps.fin rfl (by simp) ?_))))
    refine Tr.seq (Tr.reg (ld_some (r := { s1 with ok := true }) hA rfl rfl ?_))
    have e5 : ({ s1 with ok := true } : Rd).some = s1.some := rfl
    rw [e5]
    cases hsm : s1.some with
    | true =>
      refine Steps.run rfl (by simp) ?_
      refine gld_least (r := { s1 with ok := true, some := true }) hA rfl rfl rfl rfl ?_
      refine Steps.fin rfl (by simp) (Tr.cond rfl rfl (fun h3 => ?_) (fun h3 => Tr.skip ?_))
      · have h3 : decide (leafN x k.prices c d < s1.least) = true := h3
        rw [if_pos (by rw [h3]; rfl)]
        refine Tr.reg (Steps.run rfl (by simp) ?_)
        refine st_least hn (r := { s1 with ok := true, some := true }) (v := leafN x k.prices c d) hA rfl rfl ?_
        refine st_some hn (r := { s1 with ok := true, some := true, least := leafN x k.prices c d }) (v := true) hA rfl rfl (Steps.fin rfl (by simp) ?_)
        exact ⟨rfl, [], [], [], rfl, rfl, rfl⟩
      · have h3 : decide (leafN x k.prices c d < s1.least) = false := h3
        rw [if_neg (by rw [h3]; simp)]
        refine ⟨?_, [], [], [], rfl, rfl, rfl⟩
        rfl
    | false =>
      refine Steps.run rfl (by simp) (Steps.off (want := false) (I 0) rfl rfl rfl ?_)
      refine Steps.fin rfl (by simp) (Tr.condT rfl ?_)
      rw [if_pos (by simp)]
      refine Tr.reg (Steps.run rfl (by simp) ?_)
      refine st_least hn (r := { s1 with ok := true, some := false }) (v := leafN x k.prices c d) hA rfl rfl ?_
      refine st_some hn (r := { s1 with ok := true, some := false, least := leafN x k.prices c d }) (v := true) hA rfl rfl (Steps.fin rfl (by simp) ?_)
      exact ⟨rfl, [], [], [], rfl, rfl, rfl⟩

end Go.Proofs.YtdejdblopmfjfaaGreatDoor


/-! Contracts: Bound. -/
set_option linter.unusedVariables false
set_option linter.unusedSimpArgs false
set_option maxRecDepth 40000
set_option maxHeartbeats 4000000
namespace Go.Proofs.YtdejdblopmfjfaaGreatDoor
open Go.Am
attribute [local simp] cells scalar mkv splice under2 under dem dem1 eB eQ nfC intsV eC cutsV
def boundN (x : Nf) (pf : List Ct) : Rd := readN x pf pf.length 0 0 ⟨true, 0, false, 0⟩
def BoundR (x : Nf) (pf : List Ct) : V := if nfOk x then (if pf.length ≤ 2048 then (if (boundN x pf).ok && decide ((boundN x pf).at_ = pf.length) then .tuple [I (boundN x pf).least, I 0] else .tuple [I 0, I 76]) else .tuple [I 0, I 76]) else .tuple [I 0, I 74]

theorem setA_head {A : Arena} {b : Nat} (h : b ∉ A.map (·.1)) (o o' : Ob) : setA ((b, o) :: A) b o' = (b, o') :: A := by
  unfold setA
  rw [List.map_cons, if_pos rfl]
  congr 1
  conv => rhs; rw [← List.map_id A]
  refine List.map_congr_left fun p hp => ?_
  rw [if_neg (fun e => h (List.mem_map.2 ⟨p, hp, e⟩))]; rfl

theorem c_Bound {x : Nf} (hx : ∀ p ∈ x.passes, p.adds.length ≤ 9223372036854775807) {pf : List Ct} (hpl : ∀ k ∈ pf, k.prices.length ≤ 9223372036854775807) : C Tryz.prog F.bin_Bound [.agg (nfC x), cutsV pf] (BoundR x pf) := by
  have kc := c_CheckInfill hx
  unfold BoundR
  refine C_of mixed chk.bin_Bound (by simp) fun S ok => ?_
  refine Tr.seqR rfl (by simp) ?_
  by_cases hk : nfOk x = true
  rotate_left
  · rw [if_neg hk] at kc ⊢
    refine Tr.seq (Tr.seqC rfl (by simp) (Steps.call rfl rfl kc (Steps.fin rfl (by simp) (Tr.seqR rfl (by simp) (Tr.condT rfl (Tr.seqR rfl (by simp) ?_))))))
    exact Tr.retX rfl rfl rfl rfl trivial
  rw [if_pos hk] at kc ⊢
  refine Tr.seq (Tr.seqC rfl (by simp) (Steps.call rfl rfl kc (Steps.fin rfl (by simp) (Tr.seqR rfl (by simp) (Tr.condF rfl (Tr.skip ?_))))))
  refine Tr.seq (Tr.seqR rfl (by simp) (Tr.cond rfl rfl (fun h => ?_) (fun h => Tr.skip ?_)))
  · have h : decide (((pf.map eC).length : Int) > 2048) = true := h
    have h : ¬ pf.length ≤ 2048 := by simp at h; omega
    rw [if_neg h]
    exact Tr.seqR rfl (by simp) (Tr.retX rfl rfl rfl rfl trivial)
  have h : decide (((pf.map eC).length : Int) > 2048) = false := h
  have hp : pf.length ≤ 2048 := by simp at h; omega
  rw [if_pos hp]
  refine Tr.weak (s' := { env := [(2, .ptr 2 0), (3, .ptr 3 0)], bx := [(2, ⟨nfC x, false⟩), (3, ⟨[cutsV pf], false⟩)], rw := [], log := [], stp := false }) (Wk.le (.cons rfl (.refl _) (.cons rfl (.refl _) .nil)) (.cons rfl (LLe.refl _) (.cons rfl (LLe.refl _) .nil)) .nil rfl rfl) ?_
  refine Tr.weak (wkData (t := 2) (u := .vptr (nfC x) 0) (ids := [2]) rfl rfl) ?_
  refine Tr.weak (wkData (t := 3) (u := .vptr [cutsV pf] 0) (ids := [3]) rfl rfl) ?_
  refine Tr.weak (s' := { env := [(2, .vptr (nfC x) 0), (3, .vptr [cutsV pf] 0)], bx := [], rw := [], log := [], stp := false }) (Wk.le (.cons rfl (.refl _) (.cons rfl (.refl _) .nil)) .nil .nil rfl rfl) ?_
  refine Tr.arena rfl rfl ?_
  have hA := InA.main (E := env0 Tryz.prog mixed 32 S ok) [] false
  refine Tr.seq (Tr.reg ?_)
  refine Steps.aalloc hA rfl fun b7 n7 => ?_
  refine Steps.aalloc hA rfl fun b8 n8 => ?_
  refine Steps.aalloc hA rfl fun b9 n9 => ?_
  refine Steps.aalloc hA rfl fun b10 n10 => ?_
  have hn : [b10, b9, b8, b7].Nodup := by
    simp only [List.map_cons, List.map_nil, List.mem_cons, List.not_mem_nil, or_false, not_or] at n7 n8 n9 n10
    simp only [List.nodup_cons, List.mem_cons, List.not_mem_nil, or_false, not_or]
    exact ⟨⟨n10.1, n10.2.1, n10.2.2⟩, ⟨n9.1, n9.2⟩, n8, fun h => h, List.nodup_nil⟩
  refine st_least hn (r := ⟨false, 0, false, 0⟩) (v := 0) hA rfl rfl ?_
  refine st_some hn (r := ⟨false, 0, false, 0⟩) (v := false) hA rfl rfl ?_
  refine st_ok hn (r := ⟨false, 0, false, 0⟩) (v := true) hA rfl rfl ?_
  refine st_at hn (r := ⟨true, 0, false, 0⟩) (v := 0) (n := 0) hA rfl rfl rfl (Steps.fin rfl (by simp) ?_)
  refine Tr.seq (Tr.reg (Steps.aalloc hA rfl fun b11 n11 => Steps.fin rfl (by simp) ?_))
  have h11 : b11 ∉ [b10, b9, b8, b7] := n11
  have ka := c_read hk hp hpl (b11 := b11) hn h11 pf.length 0 0 ⟨true, 0, false, 0⟩ (Nat.two_pow_pos _) (Nat.two_pow_pos _) (Nat.zero_le _) (by simp)
  refine Tr.seq (Tr.reg (Steps.run rfl (by simp) ?_))
  refine Steps.astoreD (blk := b11) (off := 0) (cs := [.nilf]) (v := readV x pf b9 b10 b11 b8 b7) hA rfl rfl (by simp) (by simp) rfl rfl ?_
  rw [setA_head h11]
  refine Steps.fin rfl (by simp) ?_
  refine Tr.seq (Tr.reg (Steps.aload (blk := b11) (off := 0) (cs := [readV x pf b9 b10 b11 b8 b7]) hA rfl rfl (by simp) rfl ?_))
  refine Steps.callvA (F := [(b11, .cells [readV x pf b9 b10 b11 b8 b7])]) hA rfl rfl rfl ka (.inl (by simp)) (Steps.fin rfl (by simp) ?_)
  have hr : boundN x pf = readN x pf pf.length 0 0 ⟨true, 0, false, 0⟩ := rfl
  rw [← hr]
  generalize boundN x pf = r
  obtain ⟨rok, rat, rsome, rleast⟩ := r
  refine Tr.seq (Tr.seq (Tr.reg (Steps.aload (blk := b9) (off := 0) (cs := [.bool rok]) hA rfl rfl (by simp [rdA]) rfl ?_)))
  cases rok with
  | false =>
    rw [if_neg (by simp)]
    refine Steps.run rfl (by simp) (Steps.off (want := false) (I 0) rfl rfl rfl (Steps.fin rfl (by simp) (Tr.condT rfl ?_)))
    refine Tr.seqR rfl (by simp) ?_
    exact Tr.ret ⟨trivial, _, _, _, resVs_ok rfl, rfl, rfl⟩
  | true =>
    refine Steps.run rfl (by simp) (Steps.gaload (blk := b10) (off := 0) (cs := [I (rat : Nat)]) hA rfl rfl rfl rfl (by simp [rdA]) rfl (Steps.fin rfl (by simp) (Tr.cond rfl rfl (fun h => ?_) (fun h => Tr.skip ?_))))
    · have h : ((rat : Int) != ((pf.map eC).length : Int)) = true := h
      have hne : rat ≠ pf.length := by
        rintro rfl
        simp at h
      rw [if_neg (by simp [hne])]
      refine Tr.seqR rfl (by simp) ?_
      exact Tr.ret ⟨trivial, _, _, _, resVs_ok rfl, rfl, rfl⟩
    · have h : ((rat : Int) != ((pf.map eC).length : Int)) = false := h
      have he : rat = pf.length := by simp at h; omega
      rw [if_pos (by simp [he])]
      refine Tr.seq (Tr.reg (Steps.aload (blk := b7) (off := 0) (cs := [I rleast]) hA rfl rfl (by simp [rdA]) rfl (Steps.fin rfl (by simp) ?_)))
      exact Tr.ret ⟨trivial, _, _, _, resVs_ok rfl, rfl, rfl⟩

end Go.Proofs.YtdejdblopmfjfaaGreatDoor


/-! Contracts: a fold as a text. -/
set_option linter.unusedVariables false
set_option linter.unusedSimpArgs false
set_option maxRecDepth 40000
set_option maxHeartbeats 4000000
namespace Go.Proofs.YtdejdblopmfjfaaGreatDoor
open Go.Am
attribute [local simp] cells scalar mkv splice under2 under dem dem1 eB gridC sB intsV
def foldV (f : List (List Int)) : V := .slice 0 1 (f.map intsV)
attribute [local simp] foldV
def rowOk (g : Gd) (l : List Int) : Bool := decide (l.length = g.cls.length) && !(l.any fun n => decide (n < 0))
def mapOk (g : Gd) (f : List (List Int)) : Bool := decide ((f.length : Int) = g.a * g.d) && f.all (rowOk g)
def charB (n : Int) : UInt8 := if n = 0 then 46 else if n ≤ 9 then UInt8.ofNat (48 + n).toNat else 43
def at2 (f : List (List Int)) (i k : Nat) : Int := (f.getD i []).getD k 0
def rowB (g : Gd) (f : List (List Int)) (k r : Nat) : List UInt8 := (List.range g.a.toNat).map fun c => charB (at2 f (r * g.a.toNat + c) k)
def mapB (g : Gd) (f : List (List Int)) (k : Nat) : List UInt8 := (List.range g.d.toNat).flatMap fun i => rowB g f k (g.d.toNat - 1 - i) ++ [10]

theorem c_Map1 (n : Int) : C Tryz.prog F.bin_Map_1 [I n] (.bool (decide (n < 0))) := by
  refine C_of mixed chk.bin_Map_1 (by simp) fun S ok => ?_
  exact Tr.seqR rfl (by simp) (Tr.seqR rfl (by simp) (Tr.retX rfl rfl rfl rfl trivial))

def MapR (g : Gd) (f : List (List Int)) (k : Int) : V :=
  if gridOk g then (if mapOk g f then (if btw k 0 ((g.cls.length : Int) - 1) then .tuple [.str ⟨(mapB g f k.toNat).toArray⟩, I 0] else .tuple [.str ⟨#[]⟩, I 72]) else .tuple [.str ⟨#[]⟩, I 73]) else .tuple [.str ⟨#[]⟩, I 70]

theorem gridOk_sp {g : Gd} (h : gridOk g = true) : planeB g.o = true ∧ (1 ≤ g.size ∧ g.size ≤ 1000) ∧ (1 ≤ g.a ∧ g.a ≤ 16) ∧ (1 ≤ g.d ∧ g.d ≤ 16) ∧ (1 ≤ g.cls.length ∧ g.cls.length ≤ 4) ∧ clsOk (-1) g.cls = true := by
  simp only [gridOk, Bool.and_eq_true, btw_iff] at h
  obtain ⟨⟨⟨⟨⟨h1, h2⟩, h3⟩, h4⟩, h5⟩, h6⟩ := h
  exact ⟨h1, h2, h3, h4, by omega, h6⟩

theorem c_Map {g : Gd} (hl : g.cls.length ≤ 9223372036854775807) {f : List (List Int)} (hf : ∀ l ∈ f, l.length ≤ 9223372036854775807) (hf2 : f.length ≤ 9223372036854775807) (k : Int) : C Tryz.prog F.bin_Map [.agg (gridC g), foldV f, I k] (MapR g f k) := by
  have kg := c_CheckGrid (g := g) hl
  unfold MapR
  refine C_of mixed chk.bin_Map (by simp) fun S ok => ?_
  refine Tr.seqR rfl (by simp) ?_
  by_cases hg : gridOk g = true
  rotate_left
  · rw [if_neg hg] at kg ⊢
    refine Tr.seq (Tr.seqC rfl (by simp) (Steps.call rfl rfl kg (Steps.fin rfl (by simp) (Tr.seqR rfl (by simp) (Tr.condT rfl (Tr.seqR rfl (by simp) ?_))))))
    exact Tr.retX rfl rfl rfl rfl trivial
  rw [if_pos hg] at kg ⊢
  obtain ⟨_, _, ha, hd, hc, _⟩ := gridOk_sp hg
  have had : 0 ≤ g.a * g.d ∧ g.a * g.d ≤ 256 := ⟨Int.mul_nonneg (by omega) (by omega), by have := Int.mul_le_mul ha.2 hd.2 (by omega) (by omega); omega⟩
  refine Tr.seq (Tr.seqC rfl (by simp) (Steps.call rfl rfl kg (Steps.fin rfl (by simp) (Tr.seqR rfl (by simp) (Tr.condF rfl (Tr.skip ?_))))))
  refine Tr.seqR rfl (by simp) ?_
  have hok0 : (((f.map intsV).length : Int) == IntKind.wrap .i64 (g.a * g.d)) = decide ((f.length : Int) = g.a * g.d) := by
    rw [List.length_map, w64 (by omega) (by omega)]
    by_cases h : (f.length : Int) = g.a * g.d
    · rw [h]; simp
    · simp [h]
  refine Tr.seq (Tr.seqR rfl (by simp) (Tr.block ?_))
  refine Tr.loop (fun (j : Nat) st => j ≤ f.length ∧ st = { env := [(1, foldV f), (2, I k), (3, .ptr 3 0), (9, .bool (decide ((f.length : Int) = g.a * g.d) && (f.take j).all (rowOk g))), (29, foldV f), (30, I (f.length : Nat)), (31, I (j : Nat))], bx := [(3, ⟨gridC g, false⟩)], rw := [], log := [], stp := false }) (fun j => f.length - j) 0
    (Wk.le (.cons rfl (.refl _) (.cons rfl (.refl _) (.cons rfl (.refl _) (.cons rfl (.of_eq ?_) (.cons rfl (.refl _) (.cons rfl (VLe.i (by simp)) (.cons rfl (.refl _) .nil))))))) (.cons rfl (LLe.refl _) .nil) .nil rfl rfl) ⟨Nat.zero_le _, rfl⟩ ?_
  · rw [List.take_zero, List.all_nil, Bool.and_true, ← hok0]
  rintro j st ⟨hj, rfl⟩
  refine Tr.seqR rfl (by simp) (Tr.seqI rfl (fun h1 => ?_) (fun h1 => ?_))
  · have h1 : j < f.length := by simpa using h1
    have hnx : (decide ((f.length : Int) = g.a * g.d) && (f.take (j + 1)).all (rowOk g)) = ((decide ((f.length : Int) = g.a * g.d) && (f.take j).all (rowOk g)) && rowOk g f[j]) := by
      rw [all_take_succ h1, Bool.and_assoc]
    generalize (decide ((f.length : Int) = g.a * g.d) && (f.take j).all (rowOk g)) = B0 at hnx ⊢
    refine Tr.skipT (Tr.seq (Tr.block (Tr.seq (Tr.reg (Steps.runN 1 rfl (by simp; omega) ?_)))))
    rw [getD_map h1]
    refine Steps.fin rfl (by simp) (Tr.reg (Steps.run rfl (by simp) ?_))
    refine Steps.gcall rfl rfl rfl rfl (by simp) (fun _ => c_containsI (hf _ (List.getElem_mem h1)) fun n _ => c_Map1 n) ?_
    refine Steps.fin rfl (by simp) (Tr.regR rfl (by simp) ?_)
    refine ⟨j + 1, _, Wk.le (.cons rfl (.refl _) (.cons rfl (.refl _) (.cons rfl (.refl _) (.cons rfl (.of_eq ?_) (.cons rfl (.refl _) (.cons rfl (.refl _) (.cons rfl (VLe.i (w64 (by omega) (by omega))) .nil))))))) (.cons rfl (LLe.refl _) .nil) .nil rfl rfl, ⟨h1, rfl⟩, by omega⟩
    rw [hnx]
    have e1 : (((f[j].map I).length : Int) == ((g.cls.map eB).length : Int)) = decide (f[j].length = g.cls.length) := by
      rw [List.length_map, List.length_map]
      by_cases h : f[j].length = g.cls.length
      · rw [h]; simp
      · have : ¬ ((f[j].length : Int) = (g.cls.length : Int)) := by omega
        simp [h, this]
    show V.bool (bif (bif B0 then (((f[j].map I).length : Int) == ((g.cls.map eB).length : Int)) else false) then !(f[j].any fun n => decide (n < 0)) else false) = _
    rw [e1]
    unfold rowOk
    cases B0 <;> cases decide (f[j].length = g.cls.length) <;> rfl
  have h1 : j = f.length := by simp at h1; omega
  subst h1
  rw [List.take_length]
  have hmo : (decide ((f.length : Int) = g.a * g.d) && f.all (rowOk g)) = mapOk g f := rfl
  rw [hmo]
  refine Tr.exit (Tr.seq (Tr.seqR rfl (by simp) (Tr.cond rfl rfl (fun h2 => ?_) (fun h2 => Tr.skip ?_))))
  · have h2 : (!mapOk g f) = true := h2
    rw [if_neg (by simpa using h2)]
    exact Tr.seqR rfl (by simp) (Tr.retX rfl rfl rfl rfl trivial)
  have h2 : (!mapOk g f) = false := h2
  have h2 : mapOk g f = true := by simpa using h2
  rw [if_pos h2]
  have kw := c_within k 0 (IntKind.wrap .i64 (((g.cls.map eB).length : Int) - 1))
  have hw1 : IntKind.wrap .i64 (((g.cls.map eB).length : Int) - 1) = (g.cls.length : Int) - 1 := by rw [List.length_map, w64 (by omega) (by omega)]
  refine Tr.seq (Tr.seqC rfl (by simp) (Steps.call rfl rfl kw (Steps.fin rfl (by simp) (Tr.cond rfl rfl (fun h3 => ?_) (fun h3 => Tr.skip ?_)))))
  · have h3 : (!btw k 0 (IntKind.wrap .i64 (((g.cls.map eB).length : Int) - 1))) = true := h3
    rw [hw1] at h3
    rw [if_neg (by simpa using h3)]
    exact Tr.seqR rfl (by simp) (Tr.retX rfl rfl rfl rfl trivial)
  have h3 : (!btw k 0 (IntKind.wrap .i64 (((g.cls.map eB).length : Int) - 1))) = false := h3
  rw [hw1] at h3
  have h3 : btw k 0 ((g.cls.length : Int) - 1) = true := by simpa using h3
  rw [if_pos h3]
  rw [btw_iff] at h3
  obtain ⟨q, rfl⟩ : ∃ q : Nat, k = (q : Int) := ⟨k.toNat, by omega⟩
  have eq2 : ((q : Int)).toNat = q := by omega
  rw [eq2]
  have hqc : q < g.cls.length := by omega
  simp only [mapOk, rowOk, Bool.and_eq_true, decide_eq_true_eq, List.all_eq_true, Bool.not_eq_true', List.any_eq_false, decide_eq_false_iff_not, Bool.not_eq_true, Int.not_lt] at h2
  obtain ⟨hfl, hrow⟩ := h2
  obtain ⟨na, hna⟩ : ∃ n : Nat, g.a = (n : Int) := ⟨g.a.toNat, by omega⟩
  obtain ⟨nd, hnd⟩ : ∃ n : Nat, g.d = (n : Int) := ⟨g.d.toNat, by omega⟩
  have ena : g.a.toNat = na := by omega
  have end' : g.d.toNat = nd := by omega
  have hfl2 : f.length = na * nd := by rw [hna, hnd] at hfl; exact_mod_cast hfl
  refine Tr.seqR rfl (by simp) (Tr.seq (Tr.seqR rfl (by simp) (Tr.block ?_)))
  have hlenB : ∀ j, j ≤ nd → ((List.range j).flatMap fun i => rowB g f q (g.d.toNat - 1 - i) ++ [10]).length = j * (na + 1) := fun j _ => by
    induction j with
    | zero => simp
    | succ j ih => rw [List.range_succ, List.flatMap_append, List.length_append, ih (by omega)]; simp [rowB, ena, Nat.add_mul]
  refine Tr.loop (fun (j : Nat) st => j ≤ nd ∧ st = { env := [(1, foldV f), (2, I (q : Nat)), (3, .ptr 3 0), (12, .slice 92 1 (((List.range j).flatMap fun i => rowB g f q (g.d.toNat - 1 - i) ++ [10]).map byteV)), (13, I ((nd : Int) - 1 - j))], bx := [(3, ⟨gridC g, false⟩)], rw := [(91, ((List.range j).flatMap fun i => rowB g f q (g.d.toNat - 1 - i) ++ [10]).length, 1, 5)], log := [], stp := false }) (fun j => nd - j) 0
    (Wk.le (.cons rfl (.refl _) (.cons rfl (.refl _) (.cons rfl (.refl _) (.cons rfl (.nil 92 1) (.cons rfl (VLe.i ?_) .nil))))) (.cons rfl (LLe.refl _) .nil) (.new rfl .nil) rfl rfl) ⟨Nat.zero_le _, rfl⟩ ?_
  · show IntKind.wrap .i64 (g.d - 1) = _
    rw [w64 (by omega) (by omega), hnd]; simp
  rintro j st ⟨hj, rfl⟩
  have hlj := hlenB j hj
  have hsz : j * (na + 1) ≤ 1000 := by
    have : j * (na + 1) ≤ 16 * 17 := Nat.mul_le_mul (by omega) (by omega)
    omega
  have hnx : ((List.range (j + 1)).flatMap fun i => rowB g f q (g.d.toNat - 1 - i) ++ [10]) = ((List.range j).flatMap fun i => rowB g f q (g.d.toNat - 1 - i) ++ [10]) ++ (rowB g f q (g.d.toNat - 1 - j) ++ [10]) := by
    rw [List.range_succ, List.flatMap_append]; simp
  generalize hpre : ((List.range j).flatMap fun i => rowB g f q (g.d.toNat - 1 - i) ++ [10]) = pre at hlj hnx ⊢
  refine Tr.seq (Tr.seqR rfl (by simp) (Tr.cond rfl rfl (fun h4 => Tr.skip ?_) (fun h4 => Tr.exit ?_)))
  rotate_left
  · have h4 : decide ((nd : Int) - 1 - j ≥ 0) = false := h4
    have h4 : j = nd := by simp at h4; omega
    subst h4
    have hm : mapB g f q = pre := by unfold mapB; rw [← hpre, end']
    rw [hm]
    refine Tr.seq (Tr.reg (Steps.run rfl (by simp) ?_))
    refine Steps.toStr (E := env0 Tryz.prog mixed 107 S ok) (t := 183) (u := 9) (e := 5) (r := 92) (bs := pre) (by kernel_rfl) (by kernel_rfl) (by kernel_rfl) rfl ?_
    exact Steps.fin rfl (by simp) (Tr.retX rfl rfl rfl rfl trivial)
  have h4 : decide ((nd : Int) - 1 - j ≥ 0) = true := h4
  have h4 : j < nd := by simp at h4; omega
  obtain ⟨rr, hrr⟩ : ∃ rr : Nat, rr = nd - 1 - j := ⟨_, rfl⟩
  have hrI : (nd : Int) - 1 - j = (rr : Int) := by omega
  rw [end', ← hrr] at hnx
  rw [hrI]
  refine Tr.seq (Tr.block (Tr.seq (Tr.seqR rfl (by simp) (Tr.block ?_))))
  refine Tr.loop (fun (c : Nat) st => c ≤ na ∧ st = { env := [(1, foldV f), (2, I (q : Nat)), (3, .ptr 3 0), (12, .slice 92 1 ((pre ++ (rowB g f q rr).take c).map byteV)), (13, I (rr : Nat)), (67, I (na : Nat)), (68, I (c : Nat))], bx := [(3, ⟨gridC g, false⟩)], rw := [(91, (pre ++ (rowB g f q rr).take c).length, 1, 5)], log := [], stp := false }) (fun c => na - c) 0
    (Wk.le (.cons rfl (.refl _) (.cons rfl (.refl _) (.cons rfl (.refl _) (.cons rfl (.of_eq ?_) (.cons rfl (.refl _) (.cons rfl (VLe.i hna) (.cons rfl (.refl _) .nil))))))) (.cons rfl (LLe.refl _) .nil) (.cons ?_ .nil) rfl rfl) ⟨Nat.zero_le _, rfl⟩ ?_
  · simp
  · show some _ = some _
    simp
  rintro c st ⟨hc4, rfl⟩
  have hrl : (rowB g f q rr).length = na := by simp [rowB, ena]
  refine Tr.seqR rfl (by simp) (Tr.seqI rfl (fun h5 => ?_) (fun h5 => ?_))
  rotate_left
  · have h5 : c = na := by
      have h5 : decide ((c : Int) < (na : Int)) = false := h5
      simp at h5; omega
    subst h5
    rw [List.take_of_length_le (by omega)]
    refine Tr.exit (Tr.regR rfl (by simp; omega) (Tr.regR rfl (by simp) ?_))
    refine ⟨j + 1, _, Wk.le (.cons rfl (.refl _) (.cons rfl (.refl _) (.cons rfl (.refl _) (.cons rfl (.of_eq ?_) (.cons rfl (VLe.i ?_) .nil))))) (.cons rfl (LLe.refl _) .nil) (.cons ?_ .nil) rfl rfl, ⟨h4, rfl⟩, by omega⟩
    · rw [end', hnx]
      simp [byteV]
    · show IntKind.wrap .i64 ((rr : Int) - 1) = _
      rw [w64 (by omega) (by omega)]; omega
    · show some _ = some _
      rw [end', hnx]
      simp
      omega
  have h5 : c < na := by
    have h5 : decide ((c : Int) < (na : Int)) = true := h5
    simpa using h5
  have hix : rr * na + c < f.length := by
    rw [hfl2]
    have : rr * na + na ≤ na * nd := by
      have : (rr + 1) * na ≤ nd * na := Nat.mul_le_mul_right _ (by omega)
      rw [Nat.mul_comm na nd, ← Nat.succ_mul]; exact this
    omega
  have hbig : rr * na + c ≤ 256 := by
    have h6 : f.length ≤ 256 := by omega
    omega
  have hidx : IntKind.wrap .i64 (IntKind.wrap .i64 ((rr : Int) * g.a) + c) = ((rr * na + c : Nat) : Int) := by
    have e1 : (rr : Int) * g.a = ((rr * na : Nat) : Int) := by rw [hna]; push_cast; rfl
    rw [e1, w64 (n := ((rr * na : Nat) : Int)) (by omega) (by omega), w64 (by omega) (by omega)]; push_cast; rfl
  have hql : q < f[rr * na + c].length := by
    have := (hrow _ (List.getElem_mem hix)).1
    omega
  have hv0 := (hrow _ (List.getElem_mem hix)).2 _ (List.getElem_mem hql)
  have hat : at2 f (rr * na + c) q = f[rr * na + c][q] := by simp [at2, hix, hql]
  have hch : (rowB g f q rr)[c]'(by omega) = charB f[rr * na + c][q] := by simp [rowB, ena, hat]
  have hst : pre ++ (rowB g f q rr).take (c + 1) = (pre ++ (rowB g f q rr).take c) ++ [charB f[rr * na + c][q]] := by
    rw [List.take_add_one, List.getElem?_eq_getElem (by omega), hch]; simp
  have hpl : (pre ++ (rowB g f q rr).take c).length ≤ 1100 := by
    rw [List.length_append, List.length_take]; omega
  generalize pre ++ (rowB g f q rr).take c = P at hst hpl ⊢
  obtain ⟨v, hv⟩ : ∃ v, f[rr * na + c][q] = v := ⟨_, rfl⟩
  refine Tr.skipT (Tr.meet { env := [(1, foldV f), (2, I (q : Nat)), (3, .ptr 3 0), (12, .slice 92 1 ((P ++ [charB v]).map byteV)), (13, I (rr : Nat)), (67, I (na : Nat)), (68, I (c : Nat))], bx := [(3, ⟨gridC g, false⟩)], rw := [(91, (P ++ [charB v]).length, 1, 5)], log := [], stp := false } (Tr.block (Tr.seqR rfl (by simp) ?_)) (Tr.regR rfl (by simp) ?_))
  rotate_left
  · refine ⟨c + 1, _, Wk.le (.cons rfl (.refl _) (.cons rfl (.refl _) (.cons rfl (.refl _) (.cons rfl (.of_eq (by rw [hst, hv])) (.cons rfl (.refl _) (.cons rfl (.refl _) (.cons rfl (VLe.i (w64 (by omega) (by omega))) .nil))))))) (.cons rfl (LLe.refl _) .nil) (.cons (by rw [hst, hv]; rfl) .nil) rfl rfl, ⟨h5, rfl⟩, by omega⟩
  have hcv : ∀ z : Int, P.length + 1 ≤ 2 ^ 47 → (charB v).toNat = z → (P ++ [charB v]).map byteV = P.map byteV ++ [.int .u8 z] := fun z _ h => by
    rw [List.map_append]
    congr 1
    show [V.int .u8 ((charB v).toNat : Int)] = _
    rw [h]
  refine Tr.seq (Tr.reg (Steps.runN 8 rfl (by simp [hidx]; omega) ?_))
  rw [hidx, getD_map hix]
  refine Steps.runN 3 rfl (by simp; omega) ?_
  rw [getD_map hql, hv]
  refine Steps.fin rfl (by simp) (Tr.block ?_)
  rw [hv] at hv0
  refine Tr.seqR rfl (by simp) (Tr.cond rfl rfl (fun h6 => ?_) (fun h6 => ?_))
  · have h6 : (v == 0) = true := h6
    have h6 : v = 0 := by simpa using h6
    refine Tr.regR rfl (by simp; omega) ?_
    refine Wk.le (.cons rfl (.refl _) (.cons rfl (.refl _) (.cons rfl (.refl _) (.cons rfl (.of_eq ?_) (.cons rfl (.refl _) (.cons rfl (.refl _) (.cons rfl (.refl _) .nil))))))) (.cons rfl (LLe.refl _) .nil) (.cons ?_ .nil) rfl rfl
    · rw [hcv 46 (by omega) (by rw [h6]; rfl)]
    · show some _ = some _
      simp
  have h6 : (v == 0) = false := h6
  have h6 : v ≠ 0 := by simpa using h6
  refine Tr.seqR rfl (by simp) (Tr.cond rfl rfl (fun h7 => ?_) (fun h7 => ?_))
  · have h7 : decide (v ≤ 9) = true := h7
    have h7 : v ≤ 9 := by simpa using h7
    refine Tr.regR rfl (by simp; omega) ?_
    refine Wk.le (.cons rfl (.refl _) (.cons rfl (.refl _) (.cons rfl (.refl _) (.cons rfl (.of_eq ?_) (.cons rfl (.refl _) (.cons rfl (.refl _) (.cons rfl (.refl _) .nil))))))) (.cons rfl (LLe.refl _) .nil) (.cons ?_ .nil) rfl rfl
    · rw [hcv (IntKind.wrap .u8 (IntKind.wrap .i64 (48 + v))) (by omega) (by
        have h8 : v = 1 ∨ v = 2 ∨ v = 3 ∨ v = 4 ∨ v = 5 ∨ v = 6 ∨ v = 7 ∨ v = 8 ∨ v = 9 := by omega
        rcases h8 with rfl | rfl | rfl | rfl | rfl | rfl | rfl | rfl | rfl <;> rfl)]
    · show some _ = some _
      simp
  · have h7 : decide (v ≤ 9) = false := h7
    have h7 : ¬ v ≤ 9 := by simpa using h7
    refine Tr.regR rfl (by simp; omega) ?_
    refine Wk.le (.cons rfl (.refl _) (.cons rfl (.refl _) (.cons rfl (.refl _) (.cons rfl (.of_eq ?_) (.cons rfl (.refl _) (.cons rfl (.refl _) (.cons rfl (.refl _) .nil))))))) (.cons rfl (LLe.refl _) .nil) (.cons ?_ .nil) rfl rfl
    · rw [hcv 43 (by omega) (by unfold charB; rw [if_neg h6, if_neg h7]; rfl)]
    · show some _ = some _
      simp

end Go.Proofs.YtdejdblopmfjfaaGreatDoor


/-! Contracts of the specification: CheckPoint, CheckGrid, Digits. -/
set_option linter.unusedVariables false
set_option linter.unusedSimpArgs false
set_option maxRecDepth 40000
set_option maxHeartbeats 4000000
namespace Go.Proofs.YtdejdblopmfjfaaGreatDoor
open Go.Am
attribute [local simp] cells scalar mkv splice under2 under dem dem1 eB gridC sB
theorem c_place01 (p : Int × Int) : C Tryz.prog F.ref01_place [eB p] (.bool (planeB p)) := by
  refine C_of mixed chk.ref01_place (by simp) fun S ok => ?_
  refine Tr.seqR rfl (by simp) (Tr.seqC rfl (by simp) (Steps.call rfl rfl (c_between p.1 (-32768) 32768) (Steps.run rfl (by simp) ?_)))
  refine Steps.gcall rfl rfl rfl rfl (by simp) (fun _ => c_between p.2 (-32768) 32768) (Steps.fin rfl (by simp) (Tr.retX rfl rfl rfl ?_ trivial))
  unfold planeB
  cases btw p.1 (-32768) 32768 <;> rfl

theorem c_CheckPoint01 (p : Int × Int) : C Tryz.prog F.ref01_CheckPoint [eB p] (I (if planeB p then 0 else 10)) := by
  refine C_of mixed chk.ref01_CheckPoint (by simp) fun S ok => ?_
  refine Tr.seqR rfl (by simp) (Tr.seq (Tr.seqC rfl (by simp) (Steps.call rfl rfl (c_place01 p) (Steps.fin rfl (by simp) (Tr.cond rfl rfl (fun h1 => ?_) (fun h1 => Tr.skip ?_))))))
  · have h1 : (!planeB p) = true := h1
    have h1 : planeB p = false := by simpa using h1
    refine Tr.seqR rfl (by simp) (Tr.retX rfl rfl rfl ?_ trivial)
    rw [h1]; rfl
  · have h1 : (!planeB p) = false := h1
    have h1 : planeB p = true := by simpa using h1
    refine Tr.seqR rfl (by simp) (Tr.retX rfl rfl rfl ?_ trivial)
    rw [h1]; rfl

theorem c_CheckGrid07 {g : Gd} (hl : g.cls.length ≤ 9223372036854775807) : C Tryz.prog F.ref07_CheckGrid [.agg (gridC g)] (I (if gridOk g then 0 else 70)) := by
  refine C_of mixed chk.ref07_CheckGrid (by simp) fun S ok => ?_
  refine Tr.seqR rfl (by simp) ?_
  refine Tr.seqC rfl (by simp) (Steps.call rfl rfl (c_CheckPoint01 g.o) (Steps.run rfl (by simp) ?_))
  refine Steps.gcall rfl rfl rfl rfl (by simp) (fun _ => c_between g.size 1 1000) (Steps.run rfl (by simp) ?_)
  refine Steps.gcall rfl rfl rfl rfl (by simp) (fun _ => c_between g.a 1 16) (Steps.run rfl (by simp) ?_)
  refine Steps.gcall rfl rfl rfl rfl (by simp) (fun _ => c_between g.d 1 16) (Steps.run rfl (by simp) ?_)
  refine Steps.gcall rfl rfl rfl rfl (by simp) (fun _ => c_between ((g.cls.map eB).length : Int) 1 4) (Steps.fin rfl (by simp) ?_)
  have hlen : (((g.cls.map eB).length : Int)) = (g.cls.length : Int) := by simp
  obtain ⟨B0, hB0⟩ : ∃ B, (planeB g.o && btw g.size 1 1000 && btw g.a 1 16 && btw g.d 1 16 && btw g.cls.length 1 4) = B := ⟨_, rfl⟩
  have hok : gridOk g = (B0 && clsOk (-1) g.cls) := by unfold gridOk; rw [hB0]
  rw [hok]
  refine Tr.seq (Tr.seqR rfl (by simp) (Tr.block ?_))
  refine Tr.loop (α := Nat × Bool × Int) (fun p s => (p.1 ≤ g.cls.length ∧ (B0 && clsOk (-1) g.cls) = (p.2.1 && clsOk p.2.2 (g.cls.drop p.1)) ∧ (p.2.1 = true → -1 ≤ p.2.2) ∧ (p.1 = 0 → p.2.2 = -1) ∧ (0 < p.1 → p.2.2 = (g.cls.getD (p.1 - 1) (0, 0)).2)) ∧ s = { env := [(1, .ptr 1 0), (3, .bool p.2.1), (4, I (p.1 : Nat))], bx := [(1, ⟨gridC g, false⟩)], rw := [], log := [], stp := false }) (fun p => g.cls.length - p.1) (0, B0, -1)
    (Wk.le (.cons rfl (.refl _) (.cons rfl (.of_eq ?_) (.cons rfl (.refl _) .nil))) (.cons rfl (LLe.refl _) .nil) .nil rfl rfl) ⟨⟨by simp, by simp, by simp, by simp, by simp⟩, rfl⟩ ?_
  · rw [← hB0, ← hlen]
    cases planeB g.o <;> cases btw g.size 1 1000 <;> cases btw g.a 1 16 <;> cases btw g.d 1 16 <;> rfl
  rintro ⟨k, B, last⟩ s ⟨⟨hk, hf, hlast, hk0, hk1⟩, rfl⟩
  simp only at hk hf hlast hk0 hk1
  refine Tr.seq (Tr.seqR rfl (by simp) (Tr.cond rfl rfl (fun h2 => Tr.skip ?_) (fun h2 => Tr.exit ?_)))
  rotate_left
  · have h2 : k = g.cls.length := by simp at h2; omega
    subst h2
    rw [List.drop_length] at hf
    have hf : (B0 && clsOk (-1) g.cls) = B := by rw [hf]; simp [clsOk]
    rw [hf]
    refine Tr.seq (Tr.seqR rfl (by simp) (Tr.cond rfl rfl (fun h3 => ?_) (fun h3 => Tr.skip ?_)))
    · have h3 : (!B) = true := h3
      obtain rfl : B = false := by simpa using h3
      exact Tr.seqR rfl (by simp) (Tr.retX rfl rfl rfl rfl trivial)
    · have h3 : (!B) = false := h3
      obtain rfl : B = true := by simpa using h3
      exact Tr.seqR rfl (by simp) (Tr.retX rfl rfl rfl rfl trivial)
  have h2 : k < g.cls.length := by simpa using h2
  rw [cls_drop h2] at hf
  obtain ⟨j, hj⟩ : ∃ j, (IntKind.wrap .i64 ((k : Int) - 1)).toNat = j := ⟨_, rfl⟩
  have hj2 : j < g.cls.length ∧ (0 < k → j = k - 1 ∧ IntKind.wrap .i64 ((k : Int) - 1) = (k : Int) - 1) := by
    rw [← hj, w64 (by omega) (by omega)]
    constructor
    · omega
    · intro h; exact ⟨by omega, rfl⟩
  refine Tr.seq (Tr.block (Tr.seq (Tr.reg (Steps.runN 4 rfl (by simp; omega) ?_))))
  rw [getD_map h2]
  refine Steps.fin rfl (by simp) ?_
  refine Tr.drawK (TraceK.runN 29 rfl ?_ ?_)
  · simp
    intro m1 m2 m3 m4 m5
    have h9 := hj2.2 (by omega)
    exact ⟨by omega, ⟨⟨⟨m1, m2⟩, m3⟩, m4⟩, m5⟩
  rw [show (IntKind.wrap .i64 ((k : Int) - 1)).toNat = ((j : Nat) : Int).toNat by omega, getD_map hj2.1]
  refine TraceK.runN 3 rfl (by simp) ?_
  refine TraceK.gpick rfl rfl rfl (fun _ => rfl) rfl rfl ?_ ?_
  · simp
    exact fun a b c d => ⟨fun e => ⟨⟨⟨⟨a, b⟩, c⟩, d⟩, e⟩, ⟨⟨a, b⟩, c⟩, d⟩
  refine TraceK.run rfl (by simp) ?_
  refine .done ⟨by kernel_rfl, by kernel_rfl, ?_⟩
  refine Tr.regR rfl (by simp) ?_
  refine ⟨(k + 1, B && (decide (g.cls[k].1 ≥ 0) && decide (g.cls[k].1 ≤ g.cls[k].2) && decide (g.cls[k].2 ≤ 17179869184) && (decide (k = 0) || decide (g.cls[k].1 > g.cls[j].2))), g.cls[k].2), _, Wk.le (.cons rfl (.refl _) (.cons rfl (.of_eq ?_) (.cons rfl (VLe.i (w64 (by omega) (by omega))) .nil))) (.cons rfl (LLe.refl _) .nil) .nil rfl rfl, ⟨⟨h2, ?_, ?_, by simp, ?_⟩, rfl⟩, by simp; omega⟩
  · show V.bool (bif (bif (bif (bif B then decide (g.cls[k].1 ≥ 0) else false) then decide (g.cls[k].1 ≤ g.cls[k].2) else false) then decide (g.cls[k].2 ≤ 17179869184) else false) then (bif ((k : Int) == 0) then true else decide (g.cls[k].1 > g.cls[j].2)) else false) = _
    have e0 : ((k : Int) == 0) = decide (k = 0) := by
      by_cases h : k = 0
      · subst h; rfl
      · rw [decide_eq_false h]; simp; omega
    rw [e0]
    congr 1
    generalize decide (g.cls[k].1 ≥ 0) = a1
    generalize decide (g.cls[k].1 ≤ g.cls[k].2) = a2
    generalize decide (g.cls[k].2 ≤ 17179869184) = a3
    generalize decide (g.cls[k].1 > g.cls[j].2) = a4
    generalize decide (k = 0) = a5
    cases B <;> cases a1 <;> cases a2 <;> cases a3 <;> cases a5 <;> rfl
  · simp only
    rw [hf]
    cases B with
    | false => simp
    | true =>
      have h7 := hlast rfl
      have e1 : (decide (last < g.cls[k].1) && decide (g.cls[k].1 ≤ g.cls[k].2) && decide (g.cls[k].2 ≤ 17179869184)) = (decide (g.cls[k].1 ≥ 0) && decide (g.cls[k].1 ≤ g.cls[k].2) && decide (g.cls[k].2 ≤ 17179869184) && (decide (k = 0) || decide (g.cls[k].1 > g.cls[j].2))) := by
        by_cases h : k = 0
        · have := hk0 h
          subst this
          rw [decide_eq_true h, Bool.true_or, Bool.and_true]
          rfl
        · have h8 := hk1 (by omega)
          have h9 := (hj2.2 (by omega)).1
          have h10 : last = g.cls[j].2 := by
            rw [h8]; subst h9; simp [show k - 1 < g.cls.length by omega]
          rw [decide_eq_false h, Bool.false_or, ← h10]
          by_cases a : last < g.cls[k].1
          · rw [decide_eq_true a, decide_eq_true (show g.cls[k].1 ≥ 0 by omega)]; simp
          · rw [decide_eq_false a]; simp
      rw [Bool.true_and, Bool.true_and, ← e1]
  · simp only
    intro h
    simp only [Bool.and_eq_true, decide_eq_true_eq] at h
    omega
  · intro _
    simp [h2]

end Go.Proofs.YtdejdblopmfjfaaGreatDoor


/-! Contracts of the specification: regions checked and counted, layouts checked. -/
set_option linter.unusedVariables false
set_option linter.unusedSimpArgs false
set_option maxRecDepth 40000
set_option maxHeartbeats 4000000
namespace Go.Proofs.YtdejdblopmfjfaaGreatDoor
open Go.Am
attribute [local simp] cells scalar mkv splice under2 under dem dem1 eB gridC sB fourC layC eF
theorem c_ends01 {l : Int} (b : Int × Int) (hl : 0 ≤ l ∧ l ≤ 65536) : C Tryz.prog F.ref01_ends [eB b, I l] (.bool (fitBB l b)) := by
  refine C_of mixed chk.ref01_ends (by simp) fun S ok => ?_
  refine Tr.seqR rfl (by simp) (Tr.seqR rfl (by simp) (Tr.retX rfl rfl rfl ?_ trivial))
  show V.bool (fitBB l b) = V.bool (bif (bif decide (b.1 ≥ IntKind.wrap .i64 (0 - l)) then decide (b.1 ≤ b.2) else false) then decide (b.2 ≤ l) else false)
  rw [w64 (by omega) (by omega), Int.zero_sub]
  unfold fitBB
  show _ = V.bool (bif (bif decide (-l ≤ b.1) then _ else _) then _ else _)
  cases decide (-l ≤ b.1) <;> cases decide (b.1 ≤ b.2) <;> rfl

theorem c_Check01 (f : Fr) : C Tryz.prog F.ref01_Check [.agg (fourC f)] (I (if fitFB f then 0 else 11)) := by
  refine C_of mixed chk.ref01_Check (by simp) fun S ok => ?_
  refine Tr.seqR rfl (by simp) ?_
  refine Tr.seq (Tr.seqC rfl (by simp) (Steps.call rfl rfl (c_ends01 (l := 32768) f.x (by omega)) (Steps.run rfl (by simp) ?_)))
  refine Steps.gcall rfl rfl rfl rfl (by simp) (fun _ => c_ends01 (l := 32768) f.y (by omega)) (Steps.run rfl (by simp) ?_)
  refine Steps.gcall rfl rfl rfl rfl (by simp) (fun _ => c_ends01 (l := 65536) f.s (by omega)) (Steps.run rfl (by simp) ?_)
  refine Steps.gcall rfl rfl rfl rfl (by simp) (fun _ => c_ends01 (l := 65536) f.d (by omega)) (Steps.fin rfl (by simp) ?_)
  have key : (bif (bif (bif !fitBB 32768 f.x then true else !fitBB 32768 f.y) then true else !fitBB 65536 f.s) then true else !fitBB 65536 f.d) = !fitFB f := by
    unfold fitFB
    cases fitBB 32768 f.x <;> cases fitBB 32768 f.y <;> cases fitBB 65536 f.s <;> cases fitBB 65536 f.d <;> rfl
  refine Tr.cond rfl rfl (fun h => ?_) (fun h => Tr.skip ?_)
  · have h := key.symm.trans h
    have h : fitFB f = false := by simpa using h
    rw [h]
    exact Tr.seqR rfl (by simp) (Tr.retX rfl rfl rfl rfl trivial)
  · have h := key.symm.trans h
    have h : fitFB f = true := by simpa using h
    rw [h]
    exact Tr.seqR rfl (by simp) (Tr.retX rfl rfl rfl rfl trivial)

theorem c_row01 {f : Fr} (hm : midF f) {x : Int} (hx : -2000000 ≤ x ∧ x ≤ 2000000) : C Tryz.prog F.ref01_row [.agg (fourC f), I x] (.agg [I x, I (lowY f x), I (highY f x)]) := by
  obtain ⟨⟨⟨hx1, hx2⟩, hx3, hx4⟩, ⟨⟨hy1, hy2⟩, hy3, hy4⟩, ⟨⟨hs1, hs2⟩, hs3, hs4⟩, ⟨hd1, hd2⟩, hd3, hd4⟩ := hm
  refine C_of mixed chk.ref01_row (by simp) fun S ok => ?_
  refine Tr.seqR rfl (by simp) (Tr.seqR rfl (by simp) (Tr.retX rfl rfl rfl ?_ trivial))
  simp (disch := omega) only [packR, cond_true, cond_false, ite_max, ite_min, w64, lowY, highY]

theorem row_mid {f : Fr} (hm : midF f) {x : Int} (hx : -2000000 ≤ x ∧ x ≤ 2000000) : -1000000 ≤ lowY f x ∧ lowY f x ≤ 3000000 ∧ -3000000 ≤ highY f x ∧ highY f x ≤ 1000000 := by
  obtain ⟨⟨⟨hx1, hx2⟩, hx3, hx4⟩, ⟨⟨hy1, hy2⟩, hy3, hy4⟩, ⟨⟨hs1, hs2⟩, hs3, hs4⟩, ⟨hd1, hd2⟩, hd3, hd4⟩ := hm
  unfold lowY highY
  omega

theorem count_step {f : Fr} {n : Nat} {x : Int} : ((rowsN f (n + 1) x).map rowM).foldl (· + ·) 0 = max 0 (highY f x - lowY f x + 1) + ((rowsN f n (x + 1)).map rowM).foldl (· + ·) 0 := by
  have fa : ∀ (l : List Int) (z : Int), l.foldl (· + ·) z = z + l.foldl (· + ·) 0 := by
    intro l
    induction l with
    | nil => intro z; simp
    | cons a l ih => intro z; rw [List.foldl_cons, List.foldl_cons, ih (z + a), ih (0 + a)]; omega
  rw [rowsN]
  split
  · rw [List.map_cons, List.foldl_cons, fa]
    have e : rowM (x, lowY f x, highY f x) = highY f x - lowY f x + 1 := rfl
    rw [e]; omega
  · have : max 0 (highY f x - lowY f x + 1) = 0 := by omega
    rw [this]; omega

theorem c_Count01 (f : Fr) : C Tryz.prog F.ref01_Count [.agg (fourC f)] (if fitFB f then .tuple [I (countN f), I 0] else .tuple [I 0, I 11]) := by
  have kc := c_Check01 f
  refine C_of mixed chk.ref01_Count (by simp) fun S ok => ?_
  refine Tr.seqR rfl (by simp) ?_
  by_cases hf : fitFB f = true
  rotate_left
  · rw [if_neg hf] at kc ⊢
    refine Tr.seq (Tr.seqC rfl (by simp) (Steps.call rfl rfl kc (Steps.fin rfl (by simp) (Tr.seqR rfl (by simp) (Tr.condT rfl ?_)))))
    exact Tr.seqR rfl (by simp) (Tr.retX rfl rfl rfl rfl trivial)
  rw [if_pos hf] at kc ⊢
  have hm := mid_of hf
  have hm' := hm
  obtain ⟨⟨⟨hx1, hx2⟩, hx3, hx4⟩, _⟩ := hm'
  refine Tr.seq (Tr.seqC rfl (by simp) (Steps.call rfl rfl kc (Steps.fin rfl (by simp) (Tr.seqR rfl (by simp) (Tr.condF rfl (Tr.skip ?_))))))
  refine Tr.seqR rfl (by simp) (Tr.seq (Tr.seqR rfl (by simp) (Tr.block ?_)))
  obtain ⟨N, hN⟩ : ∃ N, (f.x.2 + 1 - f.x.1).toNat = N := ⟨_, rfl⟩
  have hNb : N ≤ 2000001 := by omega
  have hcn : countN f = ((rowsN f N f.x.1).map rowM).foldl (· + ·) 0 := by unfold countN rowsL; rw [hN]
  refine Tr.loop (α := Nat × Int) (fun p st => (p.1 ≤ N ∧ (0 ≤ p.2 ∧ p.2 ≤ p.1 * 4000001) ∧ countN f = p.2 + ((rowsN f (N - p.1) (f.x.1 + p.1)).map rowM).foldl (· + ·) 0) ∧ st = { env := [(1, .ptr 1 0), (5, I p.2), (6, I (f.x.1 + p.1))], bx := [(1, ⟨fourC f, false⟩)], rw := [], log := [], stp := false }) (fun p => N - p.1) (0, 0)
    (Wk.le (.cons rfl (.refl _) (.cons rfl (.refl _) (.cons rfl (VLe.i (by simp)) .nil))) (.cons rfl (LLe.refl _) .nil) .nil rfl rfl) ⟨⟨by simp, by simp, by simp [hcn]⟩, rfl⟩ ?_
  rintro ⟨k, n⟩ st ⟨⟨hk, hn, hc⟩, rfl⟩
  simp only at hk hn hc
  obtain ⟨x, hx⟩ : ∃ x, f.x.1 + (k : Int) = x := ⟨_, rfl⟩
  rw [hx] at hc ⊢
  refine Tr.seq (Tr.seqR rfl (by simp) (Tr.cond rfl rfl (fun h1 => Tr.skip ?_) (fun h1 => Tr.exit ?_)))
  · have h1 : x ≤ f.x.2 := by simpa using h1
    obtain ⟨m, hm1⟩ : ∃ m, N - k = m + 1 := ⟨N - k - 1, by omega⟩
    have hm2 : N - (k + 1) = m := by omega
    rw [hm1, count_step] at hc
    have hr := row_mid hm (x := x) (by omega)
    refine Tr.seq (Tr.block (Tr.seqC rfl (by simp) (Steps.call rfl rfl (c_row01 hm (by omega)) (Steps.fin rfl (by simp) (Tr.regR rfl (by simp) (Tr.regR rfl (by simp) ?_))))))
    refine ⟨(k + 1, n + max 0 (highY f x - lowY f x + 1)), _, Wk.le (.cons rfl (.refl _) (.cons rfl (VLe.i ?_) (.cons rfl (VLe.i ?_) .nil))) (.cons rfl (LLe.refl _) .nil) .nil rfl rfl, ⟨⟨by simp only; omega, ⟨by simp only; omega, by simp only; push_cast; omega⟩, ?_⟩, rfl⟩, by simp only; omega⟩
    · simp (disch := omega) only [cond_true, cond_false, ite_max, ite_min, w64]
    · show IntKind.wrap .i64 (x + 1) = f.x.1 + ((k + 1 : Nat) : Int)
      rw [w64 (by omega) (by omega)]; omega
    · simp only
      rw [hm2, show f.x.1 + ((k + 1 : Nat) : Int) = x + 1 by omega, hc]
      omega
  · have h1 : ¬ x ≤ f.x.2 := by simpa using h1
    rw [show N - k = 0 by omega] at hc
    refine Tr.seqR rfl (by simp) (Tr.retX rfl rfl rfl ?_ trivial)
    rw [hc]
    simp [rowsN, packR]

theorem c_CheckLayout07 {s : Ly} (hn : s.nodes.length ≤ 9223372036854775807) (ht : s.traces.length ≤ 9223372036854775807) : C Tryz.prog F.ref07_CheckLayout [.agg (layC s)] (I (if layOk s then 0 else 71)) := by
  refine C_of mixed chk.ref07_CheckLayout (by simp) fun S ok => ?_
  refine Tr.seqR rfl (by simp) (Tr.seqR rfl (by simp) ?_)
  obtain ⟨B0, hB0⟩ : ∃ B, (decide (s.nodes.length ≤ 16) && decide (s.traces.length ≤ 64)) = B := ⟨_, rfl⟩
  have h0 : (bif decide (((s.nodes.map eF).length : Int) ≤ 16) then decide (((s.traces.map eB).length : Int) ≤ 64) else false) = B0 := by
    rw [← hB0, List.length_map, List.length_map]
    have e1 : decide ((s.nodes.length : Int) ≤ 16) = decide (s.nodes.length ≤ 16) := by simp only [decide_eq_decide]; omega
    have e2 : decide ((s.traces.length : Int) ≤ 64) = decide (s.traces.length ≤ 64) := by simp only [decide_eq_decide]; omega
    rw [e1, e2]; cases decide (s.nodes.length ≤ 16) <;> rfl
  have hok : layOk s = (B0 && s.nodes.all nodeOk && s.traces.all (traceOk s.nodes.length)) := by unfold layOk; rw [hB0]
  rw [hok]
  refine Tr.seq (Tr.seqR rfl (by simp) (Tr.block ?_))
  refine Tr.loop (fun (k : Nat) st => (k ≤ s.nodes.length) ∧ st = { env := [(1, .ptr 1 0), (3, .bool (B0 && (s.nodes.take k).all nodeOk)), (4, I (k : Nat))], bx := [(1, ⟨layC s, false⟩)], rw := [], log := [], stp := false }) (fun k => s.nodes.length - k) 0
    (Wk.le (.cons rfl (.refl _) (.cons rfl (.of_eq ?_) (.cons rfl (.refl _) .nil))) (.cons rfl (LLe.refl _) .nil) .nil rfl rfl) ⟨by omega, rfl⟩ ?_
  · rw [List.take_zero, List.all_nil, Bool.and_true, ← h0]
  rintro k st ⟨hk, rfl⟩
  obtain ⟨X, hX⟩ : ∃ X, (B0 && (s.nodes.take k).all nodeOk) = X := ⟨_, rfl⟩
  rw [hX]
  refine Tr.seq (Tr.seqR rfl (by simp) (Tr.cond rfl rfl (fun h1 => Tr.skip ?_) (fun h1 => Tr.exit ?_)))
  · have h1 : (bif X then decide ((k : Int) < ((s.nodes.map eF).length : Int)) else false) = true := h1
    rw [List.length_map] at h1
    obtain rfl : X = true := by cases X with | true => rfl | false => cases h1
    have h1 : decide ((k : Int) < (s.nodes.length : Int)) = true := h1
    have h1 : k < s.nodes.length := by have := of_decide_eq_true h1; omega
    have kc := c_Count01 s.nodes[k]
    refine Tr.seq (Tr.block (Tr.seqN 4 rfl (by simp; omega) ?_))
    rw [getD_map h1]
    by_cases hf : fitFB s.nodes[k] = true
    · rw [if_pos hf] at kc
      refine Steps.run rfl (by simp) (Steps.call rfl rfl kc (Steps.fin rfl (by simp) ?_))
      refine Tr.reg (Steps.run rfl (by simp) (Steps.gcall rfl rfl rfl rfl (by simp) (fun _ => c_between (countN s.nodes[k]) 1 64) (Steps.fin rfl (by simp) ?_)))
      refine Tr.regR rfl (by simp) ?_
      refine ⟨k + 1, _, Wk.le (.cons rfl (.refl _) (.cons rfl (.of_eq ?_) (.cons rfl (VLe.i (w64 (by omega) (by omega))) .nil))) (.cons rfl (LLe.refl _) .nil) .nil rfl rfl, ⟨h1, rfl⟩, by omega⟩
      rw [all_take_succ h1, ← Bool.and_assoc, hX]
      simp [nodeOk, hf]
    · rw [if_neg hf] at kc
      refine Steps.run rfl (by simp) (Steps.call rfl rfl kc (Steps.fin rfl (by simp) ?_))
      refine Tr.reg (Steps.run rfl (by simp) (Steps.off (want := true) (.bool true) rfl rfl rfl (Steps.fin rfl (by simp) ?_)))
      refine Tr.regR rfl (by simp) ?_
      refine ⟨k + 1, _, Wk.le (.cons rfl (.refl _) (.cons rfl (.of_eq ?_) (.cons rfl (VLe.i (w64 (by omega) (by omega))) .nil))) (.cons rfl (LLe.refl _) .nil) .nil rfl rfl, ⟨h1, rfl⟩, by omega⟩
      rw [all_take_succ h1, ← Bool.and_assoc, hX]
      have : nodeOk s.nodes[k] = false := by simp [nodeOk, hf]
      rw [this]; rfl
  have hdone : (B0 && s.nodes.all nodeOk) = X := by
    have h1 : (bif X then decide ((k : Int) < ((s.nodes.map eF).length : Int)) else false) = false := h1
    rw [List.length_map] at h1
    cases X with
    | true =>
      have h1 : decide ((k : Int) < (s.nodes.length : Int)) = false := h1
      have h1 := of_decide_eq_false h1
      rw [← hX, List.take_of_length_le (by omega)]
    | false =>
      rw [Bool.and_eq_false_iff] at hX ⊢
      rcases hX with h | h
      · exact .inl h
      · refine .inr ?_
        rw [← List.take_append_drop k s.nodes, List.all_append, h]; rfl
  rw [hdone]
  have hst : ∃ kk : Int, I (k : Nat) = I kk := ⟨_, rfl⟩
  refine Tr.weak (s' := { env := [(1, .ptr 1 0), (3, .bool X)], bx := [(1, ⟨layC s, false⟩)], rw := [], log := [], stp := false }) (Wk.le (.cons rfl (.refl _) (.cons rfl (.refl _) .nil)) (.cons rfl (LLe.refl _) .nil) .nil rfl rfl) ?_
  have hX2 : X = true → s.nodes.length ≤ 16 ∧ s.traces.length ≤ 64 := fun h => by
    rw [h, Bool.and_eq_true] at hdone
    rw [hdone.1, Bool.and_eq_true, decide_eq_true_eq, decide_eq_true_eq] at hB0
    exact hB0
  refine Tr.seq (Tr.seqR rfl (by simp) (Tr.block ?_))
  refine Tr.loop (fun (k : Nat) st => (k ≤ s.traces.length) ∧ st = { env := [(1, .ptr 1 0), (3, .bool (X && (s.traces.take k).all (traceOk s.nodes.length))), (7, I (k : Nat))], bx := [(1, ⟨layC s, false⟩)], rw := [], log := [], stp := false }) (fun k => s.traces.length - k) 0
    (Wk.le (.cons rfl (.refl _) (.cons rfl (.of_eq (by simp)) (.cons rfl (.refl _) .nil))) (.cons rfl (LLe.refl _) .nil) .nil rfl rfl) ⟨by omega, rfl⟩ ?_
  rintro k st ⟨hk, rfl⟩
  refine Tr.seq (Tr.seqR rfl (by simp) (Tr.cond rfl rfl (fun h1 => Tr.skip ?_) (fun h1 => Tr.exit ?_)))
  · have h1 : k < s.traces.length := by simpa using h1
    have hall := all_take_succ (p := traceOk s.nodes.length) h1
    obtain ⟨t, ht⟩ : ∃ t, s.traces[k] = t := ⟨_, rfl⟩
    rw [ht] at hall
    have hst := hall
    obtain ⟨Y, hY⟩ : ∃ Y, (X && (s.traces.take k).all (traceOk s.nodes.length)) = Y := ⟨_, rfl⟩
    have hnx : (X && (s.traces.take (k + 1)).all (traceOk s.nodes.length)) = (Y && traceOk s.nodes.length t) := by rw [hall, ← Bool.and_assoc, hY]
    rw [hY]
    have hY2 : Y = true → s.nodes.length ≤ 16 := fun h => by
      rw [h, Bool.and_eq_true] at hY
      exact (hX2 hY.1).1
    refine Tr.seq (Tr.block (Tr.seqN 4 rfl (by simp; omega) ?_))
    rw [getD_map h1, ht]
    refine Steps.fin rfl (by simp) ?_
    have hw1 : IntKind.wrap .i64 (((s.nodes.map eF).length : Int) - 1) = IntKind.wrap .i64 ((s.nodes.length : Int) - 1) := by rw [List.length_map]
    refine Tr.reg (Steps.run rfl (by simp) (Steps.gcall rfl rfl rfl rfl (by simp) (fun _ => c_between t.1 0 (IntKind.wrap .i64 (((s.nodes.map eF).length : Int) - 1))) (Steps.run rfl (by simp) ?_)))
    refine Steps.gcall rfl rfl rfl rfl (by simp) (fun _ => c_between t.2 0 (IntKind.wrap .i64 (((s.nodes.map eF).length : Int) - 1))) (Steps.fin rfl (by simp) ?_)
    refine Tr.regR rfl (by simp) ?_
    refine ⟨k + 1, _, Wk.le (.cons rfl (.refl _) (.cons rfl (.of_eq ?_) (.cons rfl (VLe.i (w64 (by omega) (by omega))) .nil))) (.cons rfl (LLe.refl _) .nil) .nil rfl rfl, ⟨h1, rfl⟩, by omega⟩
    rw [hnx, hw1]
    cases Y with
    | false => rfl
    | true =>
      have := hY2 rfl
      rw [w64 (by omega) (by omega)]
      show V.bool (bif (bif (bif true then btw t.1 0 ((s.nodes.length : Int) - 1) else false) then btw t.2 0 ((s.nodes.length : Int) - 1) else false) then (t.1 != t.2) else false) = _
      unfold traceOk
      cases btw t.1 0 ((s.nodes.length : Int) - 1) <;> cases btw t.2 0 ((s.nodes.length : Int) - 1) <;> rfl
  have h1 : k = s.traces.length := by simp at h1; omega
  subst h1
  rw [List.take_length]
  obtain ⟨Z, hZ⟩ : ∃ Z, (X && s.traces.all (traceOk s.nodes.length)) = Z := ⟨_, rfl⟩
  rw [hZ]
  refine Tr.seq (Tr.seqR rfl (by simp) (Tr.cond rfl rfl (fun h3 => ?_) (fun h3 => Tr.skip ?_)))
  · have h3 : (!Z) = true := h3
    obtain rfl : Z = false := by simpa using h3
    exact Tr.seqR rfl (by simp) (Tr.retX rfl rfl rfl rfl trivial)
  · have h3 : (!Z) = false := h3
    obtain rfl : Z = true := by simpa using h3
    exact Tr.seqR rfl (by simp) (Tr.retX rfl rfl rfl rfl trivial)

/-- The error of a grid and a layout. -/
def bothE (g : Gd) (s : Ly) : Int := if gridOk g then (if layOk s then 0 else 71) else 70

theorem c_both07 {g : Gd} {s : Ly} (hl : g.cls.length ≤ 9223372036854775807) (hn : s.nodes.length ≤ 9223372036854775807) (ht : s.traces.length ≤ 9223372036854775807) : C Tryz.prog F.ref07_both [.agg (gridC g), .agg (layC s)] (I (bothE g s)) := by
  have k1 := c_CheckGrid07 (g := g) hl
  have k2 := c_CheckLayout07 (s := s) hn ht
  unfold bothE
  refine C_of mixed chk.ref07_both (by simp) fun S ok => ?_
  refine Tr.seqR rfl (by simp) ?_
  by_cases hg : gridOk g = true
  · rw [if_pos hg] at k1 ⊢
    refine Tr.seq (Tr.seqC rfl (by simp) (Steps.call rfl rfl k1 (Steps.fin rfl (by simp) (Tr.seqR rfl (by simp) (Tr.condF rfl (Tr.skip ?_))))))
    exact Tr.seqC rfl (by simp) (Steps.call rfl rfl k2 (Steps.fin rfl (by simp) (Tr.retX rfl rfl rfl rfl trivial)))
  · rw [if_neg hg] at k1 ⊢
    refine Tr.seq (Tr.seqC rfl (by simp) (Steps.call rfl rfl k1 (Steps.fin rfl (by simp) (Tr.seqR rfl (by simp) (Tr.condT rfl (Tr.seqR rfl (by simp) ?_))))))
    exact Tr.retX rfl rfl rfl rfl trivial

end Go.Proofs.YtdejdblopmfjfaaGreatDoor


/-! Contracts of the specification: cells. -/
set_option linter.unusedVariables false
set_option linter.unusedSimpArgs false
set_option maxRecDepth 40000
set_option maxHeartbeats 4000000
namespace Go.Proofs.YtdejdblopmfjfaaGreatDoor
open Go.Am
attribute [local simp] cells scalar mkv splice under2 under dem dem1 eB gridC sB fourC layC eF
theorem c_Down {a b : Int} (hb : 0 < b) (ha : -1000000000000 ≤ a ∧ a ≤ 1000000000000) : C Tryz.prog F.ref00_Down [I a, I b] (I (a / b)) := by
  have hq := tdiv_bd hb ha
  have e := floor_eq (a := a) hb
  have ew : IntKind.wrap .i64 (a.tdiv b) = a.tdiv b := w64 (by omega) (by omega)
  have hneg : a.tmod b < 0 ↔ (a.tmod b ≠ 0 ∧ a < 0) := by
    constructor
    · intro h
      refine ⟨by omega, ?_⟩
      rcases (show a < 0 ∨ 0 ≤ a by omega) with h2 | h2
      · exact h2
      · have := Int.tmod_nonneg b h2; omega
    · rintro ⟨h1, h2⟩
      rcases Int.lt_trichotomy (a.tmod b) 0 with h | h | h
      · exact h
      · exact absurd h h1
      · exfalso
        have h3 := Int.tmod_nonneg b (a := -a) (by omega)
        rw [Int.neg_tmod] at h3
        omega
  refine C_of mixed chk.ref00_Down (by simp) fun S ok => ?_
  refine Tr.seqR rfl (by simp) (Tr.seqR rfl (by simp; omega) ?_)
  refine Tr.seq (Tr.seqR rfl (by simp; omega) (Tr.cond rfl rfl (fun h => Tr.regR rfl (by simp) ?_) (fun h => Tr.skip ?_)))
  · have h : (bif (a.tmod b != 0) then (decide (a < 0) != decide (b < 0)) else false) = true := h
    have h : a.tmod b < 0 := by
      rw [hneg]
      rw [decide_eq_false (p := b < 0) (by omega)] at h
      by_cases h1 : a.tmod b = 0
      · simp [h1] at h
      · refine ⟨h1, ?_⟩
        simpa [h1] using h
    rw [if_pos h] at e
    refine Tr.seqR rfl (by simp) (Tr.retX rfl rfl rfl ?_ trivial)
    rw [← e]
    show I (a.tdiv b - 1) = I (IntKind.wrap .i64 (IntKind.wrap .i64 (a.tdiv b) - 1))
    rw [ew, w64 (by omega) (by omega)]
  · have h : (bif (a.tmod b != 0) then (decide (a < 0) != decide (b < 0)) else false) = false := h
    have h : ¬ a.tmod b < 0 := by
      rw [hneg]
      rintro ⟨h1, h2⟩
      rw [decide_eq_false (p := b < 0) (by omega), decide_eq_true h2] at h
      simp [h1] at h
    rw [if_neg h] at e
    refine Tr.seqR rfl (by simp) (Tr.retX rfl rfl rfl ?_ trivial)
    rw [← e]
    show I (a.tdiv b) = I (IntKind.wrap .i64 (a.tdiv b))
    rw [ew]

theorem c_none07 : C Tryz.prog F.ref07_none [] (.agg [I (-1), I (-1)]) := by
  refine C_of mixed chk.ref07_none (by simp) fun S ok => ?_
  exact Tr.seqR rfl (by simp) (Tr.seqR rfl (by simp) (Tr.retX rfl rfl rfl rfl trivial))

theorem c_cell07 {g : Gd} (hg : gridOk g = true) {a b : Int × Int} (ha : planeB a = true) (hb : planeB b = true) : C Tryz.prog F.ref07_cell [.agg (gridC g), eB a, eB b] (eB (cellN g a b)) := by
  obtain ⟨ho, hsz, hga, hgd, hcl, _⟩ := gridOk_spec hg
  have ha' := planeB_spec ha
  have hb' := planeB_spec hb
  have k1 := c_Down (a := a.1 + b.1 - 2 * g.o.1) (b := 2 * g.size) (by omega) (by omega)
  have k2 := c_Down (a := a.2 + b.2 - 2 * g.o.2) (b := 2 * g.size) (by omega) (by omega)
  have e1 : IntKind.wrap .i64 (IntKind.wrap .i64 (a.1 + b.1) - IntKind.wrap .i64 (2 * g.o.1)) = a.1 + b.1 - 2 * g.o.1 := by
    rw [w64 (n := a.1 + b.1) (by omega) (by omega), w64 (n := 2 * g.o.1) (by omega) (by omega), w64 (by omega) (by omega)]
  have e2 : IntKind.wrap .i64 (IntKind.wrap .i64 (a.2 + b.2) - IntKind.wrap .i64 (2 * g.o.2)) = a.2 + b.2 - 2 * g.o.2 := by
    rw [w64 (n := a.2 + b.2) (by omega) (by omega), w64 (n := 2 * g.o.2) (by omega) (by omega), w64 (by omega) (by omega)]
  have e3 : IntKind.wrap .i64 (2 * g.size) = 2 * g.size := w64 (by omega) (by omega)
  rw [← e1, ← e3] at k1
  rw [← e2, ← e3] at k2
  refine C_of mixed chk.ref07_cell (by simp) fun S ok => ?_
  refine Tr.seqR rfl (by simp) ?_
  refine Tr.seq (Tr.drawK (TraceK.run rfl (by simp) (TraceK.call rfl rfl k1 (TraceK.run rfl (by simp) (TraceK.call rfl rfl k2 ?_)))))
  refine TraceK.run rfl (by simp) (.done ⟨by kernel_rfl, by kernel_rfl, ?_⟩)
  refine Tr.weak (s' := { env := [(3, .ptr 3 0), (4, .ptr 4 0), (5, .ptr 5 0), (6, .ptr 6 0), (7, I (colN g a b)), (8, I (rowN g a b))], bx := [(3, ⟨gridC g, false⟩), (4, ⟨[I a.1, I a.2], false⟩), (5, ⟨[I b.1, I b.2], false⟩), (6, ⟨[I 0, I 0], false⟩)], rw := [], log := [], stp := false })
    (Wk.le (.cons rfl (.refl _) (.cons rfl (.refl _) (.cons rfl (.refl _) (.cons rfl (.refl _) (.cons rfl (VLe.i ?_) (.cons rfl (VLe.i ?_) .nil)))))) (.cons rfl (LLe.refl _) (.cons rfl (LLe.refl _) (.cons rfl (LLe.refl _) (.cons rfl (LLe.refl _) .nil)))) .nil rfl rfl) ?_
  · rw [e1, e3]; rfl
  · rw [e2, e3]; rfl
  have hwa : IntKind.wrap .i64 (g.a - 1) = g.a - 1 := w64 (by omega) (by omega)
  have hwd : IntKind.wrap .i64 (g.d - 1) = g.d - 1 := w64 (by omega) (by omega)
  refine Tr.seq (Tr.seqC rfl (by simp) (Steps.call rfl rfl (c_between (colN g a b) 0 (IntKind.wrap .i64 (g.a - 1))) (Steps.run rfl (by simp) ?_)))
  refine Steps.gcall rfl rfl rfl rfl (by simp) (fun _ => c_between (rowN g a b) 0 (IntKind.wrap .i64 (g.d - 1))) (Steps.fin rfl (by simp) ?_)
  rw [hwa, hwd]
  refine Tr.cond rfl rfl (fun h1 => ?_) (fun h1 => Tr.skip ?_)
  · refine Tr.seq (Tr.reg (Steps.call rfl rfl c_none07 (Steps.fin rfl (by simp) (Tr.retX rfl rfl rfl ?_ trivial))))
    have : (btw (colN g a b) 0 (g.a - 1) && btw (rowN g a b) 0 (g.d - 1)) = false := by
      revert h1
      cases btw (colN g a b) 0 (g.a - 1) <;> cases btw (rowN g a b) 0 (g.d - 1) <;> first | (intro _; rfl) | (intro h; cases h)
    simp [packR, cellN, this]
  have hin : (btw (colN g a b) 0 (g.a - 1) && btw (rowN g a b) 0 (g.d - 1)) = true := by
    revert h1
    cases btw (colN g a b) 0 (g.a - 1) <;> cases btw (rowN g a b) 0 (g.d - 1) <;> first | (intro _; rfl) | (intro h; cases h)
  have hin2 := hin
  simp only [Bool.and_eq_true, btw_iff] at hin2
  have s1 := sq64 (x := a.1 - b.1) (by omega)
  have s2 := sq64 (x := a.2 - b.2) (by omega)
  have w1 : IntKind.wrap .i64 (a.1 - b.1) = a.1 - b.1 := w64 (by omega) (by omega)
  have w2 : IntKind.wrap .i64 (a.2 - b.2) = a.2 - b.2 := w64 (by omega) (by omega)
  have w5 : IntKind.wrap .i64 (IntKind.wrap .i64 (IntKind.wrap .i64 (a.1 - b.1) * IntKind.wrap .i64 (a.1 - b.1)) + IntKind.wrap .i64 (IntKind.wrap .i64 (a.2 - b.2) * IntKind.wrap .i64 (a.2 - b.2))) = sqN a b := by
    rw [w1, w2, w64 (n := (a.1 - b.1) * (a.1 - b.1)) (by omega) (by omega), w64 (n := (a.2 - b.2) * (a.2 - b.2)) (by omega) (by omega)]
    exact w64 (by omega) (by omega)
  refine Tr.seqR rfl (by simp) (Tr.seq (Tr.seqR rfl (by simp) (Tr.block ?_)))
  refine Tr.loop (fun (k : Nat) s => (k ≤ g.cls.length ∧ clsAt (sqN a b) g.cls 0 = clsAt (sqN a b) (g.cls.drop k) k) ∧ s = { env := [(3, .ptr 3 0), (6, .ptr 6 0), (7, I (colN g a b)), (8, I (rowN g a b)), (9, I (sqN a b)), (10, I (k : Nat))], bx := [(3, ⟨gridC g, false⟩), (6, ⟨[I 0, I 0], false⟩)], rw := [], log := [], stp := false }) (fun k => g.cls.length - k) 0
    (Wk.le (.cons rfl (.refl _) (.cons rfl (.refl _) (.cons rfl (.refl _) (.cons rfl (.refl _) (.cons rfl (VLe.i w5) (.cons rfl (.refl _) .nil)))))) (.cons rfl (LLe.refl _) (.cons rfl (LLe.refl _) .nil)) .nil rfl rfl) ⟨⟨by omega, by simp⟩, rfl⟩ ?_
  rintro k s ⟨⟨hk, hf⟩, rfl⟩
  refine Tr.seq (Tr.seqR rfl (by simp) (Tr.cond rfl rfl (fun h2 => Tr.skip ?_) (fun h2 => Tr.exit ?_)))
  · have h2 : k < g.cls.length := by simpa using h2
    rw [clsAt_drop h2] at hf
    refine Tr.seq (Tr.block (Tr.seq (Tr.drawK (TraceK.runN 5 rfl (by simp; omega) ?_))))
    rw [getD_map h2]
    refine TraceK.runN 6 rfl (by simp; omega) ?_
    rw [getD_map h2]
    refine TraceK.run rfl (by simp) (TraceK.call rfl rfl (c_between (sqN a b) g.cls[k].1 g.cls[k].2) (.done ⟨by kernel_rfl, by kernel_rfl, ?_⟩))
    refine Tr.cond rfl rfl (fun h3 => ?_) (fun h3 => Tr.skip (Tr.regR rfl (by simp) ?_))
    · have h3 : btw (sqN a b) g.cls[k].1 g.cls[k].2 = true := h3
      rw [h3, if_pos rfl] at hf
      have b1 : 0 ≤ rowN g a b * g.a := Int.mul_nonneg hin2.2.1 (by omega)
      have b2 : rowN g a b * g.a ≤ 15 * 16 := Int.mul_le_mul (by omega) (by omega) (by omega) (by omega)
      refine Tr.seqR rfl (by simp) (Tr.retX rfl rfl rfl ?_ trivial)
      show eB (cellN g a b) = .agg [I (IntKind.wrap .i64 (IntKind.wrap .i64 (rowN g a b * g.a) + colN g a b)), I (k : Nat)]
      rw [w64 (n := rowN g a b * g.a) (by omega) (by omega), w64 (by omega) (by omega)]
      unfold cellN
      rw [if_pos hin, hf]; rfl
    · have h3 : btw (sqN a b) g.cls[k].1 g.cls[k].2 = false := h3
      rw [h3] at hf
      exact ⟨k + 1, _, Wk.le (.cons rfl (.refl _) (.cons rfl (.refl _) (.cons rfl (.refl _) (.cons rfl (.refl _) (.cons rfl (.refl _) (.cons rfl (VLe.i (w64 (by omega) (by omega))) .nil)))))) (.cons rfl (LLe.refl _) (.cons rfl (LLe.refl _) .nil)) .nil rfl rfl, ⟨⟨h2, hf⟩, rfl⟩, by omega⟩
  · have h2 : k = g.cls.length := by simp at h2; omega
    subst h2
    rw [List.drop_length] at hf
    refine Tr.seq (Tr.reg (Steps.call rfl rfl c_none07 (Steps.fin rfl (by simp) (Tr.retX rfl rfl rfl ?_ trivial))))
    unfold cellN
    rw [if_pos hin, hf]; rfl

end Go.Proofs.YtdejdblopmfjfaaGreatDoor


/-! AM, part Zu: drawn regions that read an arena. -/
set_option linter.unusedVariables false
set_option linter.unusedSimpArgs false
namespace Go.Am
open Go.RowKit

/-- The surroundings while the arena is this one. -/
def pinS (S : Sur) (A : Arena) : Sur := fun log stp M w φ => log = encA A ∧ S log stp M w φ

theorem pinS_ok {S : Sur} (h : S.ok) (A : Arena) : (pinS S A).ok := ⟨fun _ _ _ _ _ _ _ _ h1 mv => ⟨h1.1, h.move _ _ _ _ _ _ _ _ h1.2 mv⟩, fun _ _ _ _ _ h1 => h.gl _ _ _ _ _ h1.2⟩

abbrev Env.pinA (E : Env) (A : Arena) : Env := { E with S := pinS E.S A, ok := pinS_ok E.ok A }

theorem to_pin {E : Env} (hys : E.ys = []) (hlk : E.lk = fun _ => True) {A : Arena} {log : List (List V)} {stp : Bool} {σ : FSt} {a : Act} {w : World} {h : Gh} (hl : log = encA A) (R : E.relF log stp σ a w h) : (E.pinA A).relF log stp σ a w h := by
  refine ⟨{ R.1 with sur := ⟨hl, R.1.sur⟩ }, fun l hl => ⟨?_, by show E.lk l; rw [hlk]; trivial⟩, R.2.2⟩
  intro log x M w φ xs hp
  have hp : List.IsPrefix _ E.ys := hp
  rw [hys] at hp
  exact absurd hp.length_le (by simp)

theorem of_pin {E : Env} (hys : E.ys = []) (hlk : E.lk = fun _ => True) {A : Arena} {log : List (List V)} {stp : Bool} {σ : FSt} {a : Act} {w : World} {h : Gh} (R : (E.pinA A).relF log stp σ a w h) : E.relF log stp σ a w h := by
  refine ⟨{ R.1 with sur := R.1.sur.2 }, fun l hl => ⟨?_, by rw [hlk]; trivial⟩, R.2.2⟩
  intro log x M w φ xs hp
  rw [hys] at hp
  exact absurd hp.length_le (by simp)

theorem opK_nilckZ {P : Program} {o : Oper} {os : List Operand} (hk : opK P o.op = some (.nilck, os)) : ∃ p, o.op = .nilCheck p ∧ os = [p] := by
  cases ho : o.op <;> rw [ho] at hk <;> simp only [opK] at hk <;> (try (cases hk; done)) <;> (try (repeat' (split at hk <;> (try (cases hk; done)))))
  all_goals first
    | (simp only [Option.map_eq_some_iff, Prod.mk.injEq] at hk; obtain ⟨_, _, h1, _⟩ := hk; cases h1; done)
    | (simp only [eqKind] at hk; repeat' (split at hk <;> (try (cases hk; done))))
    | (cases hk; exact ⟨_, rfl, rfl⟩)

theorem opK_faddrZ {P : Program} {o : Oper} {os : List Operand} {off : Nat} (hk : opK P o.op = some (.faddr off, os)) : ∃ t p f fs fd n, o.op = .fieldAddr t p f ∧ P.underlying t = some (.struct fs) ∧ fs[f]? = some fd ∧ szOf P fd.type = some n ∧ n ≠ 0 ∧ fd.offset = off ∧ os = [p] := by
  cases ho : o.op <;> rw [ho] at hk <;> simp only [opK] at hk <;> (try (cases hk; done)) <;> (try (repeat' (split at hk <;> (try (cases hk; done)))))
  all_goals first
    | (simp only [Option.map_eq_some_iff, Prod.mk.injEq] at hk; obtain ⟨_, _, h1, _⟩ := hk; cases h1; done)
    | (simp only [eqKind] at hk; repeat' (split at hk <;> (try (cases hk; done))))
    | (cases hk; exact ⟨_, _, _, _, _, _, rfl, by assumption, by assumption, by assumption, by assumption, rfl, rfl⟩)

section
variable {E : Env} {ro : Option Nat} {n : Nat} {ops : Array Oper}

theorem prefix_okP (hys : E.ys = []) (hlk : E.lk = fun _ => True) {A : Arena} {K : St → Prop} {il1 il2 : List Ins} {s s1 : St} {fp : List (List Loc × List Loc)} (hc : compR E.P E.nt ops = some (il1 ++ il2)) (hl : lexed ops = true) (t : Trace (E.pinA A) s il1 fp s1) (hlog : s.log = encA A)
    (hok : okPlan (befs ops) fp = true) (ht : totTail (befs ops) il1.length ops.size = true) (hst : Steps E il2 K s1) {Q : Exit → Act → World → Prop} (y : Pin)
    (hn : ∀ s' a' w' h', K s' → E.rel s' a' w' h' → h'.y = y → Q .normal a' w') :
    ∃ us : List FSt, ∀ (fuel : Nat) (listed : Array Bool) (a : Act) (w : World) (h : Gh), listed.toList.count false = fuel → listed.size = ops.size → Closed ops (fun i => listed.getD i false) → (∀ i, il1.length ≤ i → listed.getD i false = false) →
      E.relF s.log s.stp (FL us (fun i => listed.getD i false) s.fs il1.length) a w h → h.y = y → wpAnyIn (wideR ro) n E.P .any ops Q fuel listed a w := by
  obtain ⟨t1, t2, t3, us, t4, t5, t6⟩ := trace_spec t
  obtain ⟨hlen, hg⟩ := compR_spec hc
  have hle : il1.length ≤ ops.size := by simp at hlen; omega
  have tot : ∀ k i, il1.length ≤ k → k < ops.size → i < k → ((befs ops).getD k 0).testBit i = true := by
    intro k i h1 h2 h3
    unfold totTail at ht
    rw [List.all_eq_true] at ht
    have := ht (k - il1.length) (by simp; omega)
    rw [List.all_eq_true] at this
    have := this i (by simp; omega)
    rwa [show il1.length + (k - il1.length) = k by omega] at this
  have ap : ∀ i j, i < j → j < il1.length → ((befs ops).getD j 0).testBit i = false → apartFp (fp.getD i ([], [])) (fp.getD j ([], [])) = true := by
    intro i j h1 h2 h3
    unfold okPlan at hok
    rw [List.all_eq_true] at hok
    have := hok j (by simp; omega)
    rw [List.all_eq_true] at this
    have := this i (by simp; omega)
    rw [h3] at this
    simpa using this
  refine ⟨us, ?_⟩
  intro fuel
  induction fuel with
  | zero =>
    intro listed a w h hcn hs hcl hpre R hy
    have all : ∀ i, i < ops.size → listed.getD i false = true := by
      intro i hi
      cases hL : listed.getD i false with
      | true => rfl
      | false =>
        have : false ∈ listed.toList := by
          simp only [Array.getD_eq_getD_getElem?, Array.getElem?_eq_getElem (show i < listed.size by omega), Option.getD_some] at hL
          rw [← hL]; simp
        exact absurd this (List.count_eq_zero.1 hcn)
    have hm : il1.length = ops.size := by
      rcases Nat.lt_or_ge il1.length ops.size with h1 | h1
      · have := all il1.length h1
        rw [hpre il1.length (Nat.le_refl _)] at this; cases this
      · omega
    refine tail_ok hc hl ht y hn 0 ops.size listed s1 a w h (by omega) (by omega) hs hcl (fun i hi => by rw [all i hi]; simp [hi]) ?_ ?_ hy
    · rw [List.drop_append_of_le_length (by omega), List.drop_eq_nil_of_le (by omega)]; simpa using hst
    · show E.relF _ _ _ a w h
      rw [t2, t3, t5]
      have e : FL us (fun i => listed.getD i false) s.fs il1.length = FL us (fun _ => true) s.fs il1.length := by
        funext l
        refine FL_at (i := il1.length) (fun k hk hL => ?_) (fun k hk hL => ?_) _ (Nat.le_refl _)
        · rw [all k (by omega)] at hL; cases hL
        · rw [hpre k hk] at hL; cases hL
      rw [e] at R; exact R
  | succ fuel ih =>
    intro listed a w h hcn hs hcl hpre R hy
    by_cases hall : ∀ i, i < il1.length → listed.getD i false = true
    · have e : FL us (fun i => listed.getD i false) s.fs il1.length = FL us (fun _ => true) s.fs il1.length := by
        funext l
        refine FL_at (i := il1.length) (fun k hk hL => ?_) (fun k hk hL => ?_) _ (Nat.le_refl _)
        · rw [hall k hk] at hL; cases hL
        · rw [hpre k hk] at hL; cases hL
      rw [e] at R
      have hLk : ∀ i, i < ops.size → listed.getD i false = decide (i < il1.length) := fun i hi => by
        rcases Nat.lt_or_ge i il1.length with h1 | h1
        · rw [hall i h1]; simp [h1]
        · rw [hpre i h1]; simp; omega
      have hfuel : il1.length + (fuel + 1) = ops.size := by
        have e1 : listed.toList = List.replicate il1.length true ++ List.replicate (ops.size - il1.length) false := by
          apply List.ext_getElem?
          intro k
          have hk : listed.toList[k]? = if k < ops.size then some (listed.getD k false) else none := by
            by_cases h1 : k < ops.size
            · simp [h1, show k < listed.size by omega]
            · simp [h1, show listed.size ≤ k by omega]
          rw [hk, List.getElem?_append]
          simp only [List.length_replicate]
          by_cases h1 : k < il1.length
          · rw [if_pos h1, if_pos (by omega), hall k h1, List.getElem?_replicate, if_pos h1]
          · rw [if_neg h1, List.getElem?_replicate]
            by_cases h2 : k < ops.size
            · rw [if_pos h2, if_pos (by omega), hpre k (by omega)]
            · rw [if_neg h2, if_neg (by omega)]
        rw [e1] at hcn
        simp [List.count_append, List.count_replicate] at hcn
        omega
      refine tail_ok hc hl ht y hn (fuel + 1) il1.length listed s1 a w h hfuel (Nat.le_refl _) hs hcl hLk ?_ ?_ hy
      · simpa using hst
      · show E.relF _ _ _ a w h
        rw [t2, t3, t5]; exact R
    · obtain ⟨k0, hk0, hk0'⟩ : ∃ k, k < il1.length ∧ listed.getD k false = false := by
        apply Classical.byContradiction
        intro hno
        exact hall fun i hi => by
          cases hL : listed.getD i false with
          | true => rfl
          | false => exact absurd ⟨i, hi, hL⟩ hno
      refine ⟨fun hr => ?_, fun i hi => ?_⟩
      · have := ready_some hl hs hr k0 (by omega)
        rw [hk0'] at this; cases this
      · obtain ⟨h1, h2, o, ho, h3⟩ := (mem_ready hs).1 hi
        have him : i < il1.length := by
          rcases Nat.lt_or_ge i il1.length with h4 | h4
          · exact h4
          · have := befs_ok hcl ho h3 (tot i k0 h4 h1 (by omega))
            rw [hk0'] at this; cases this
        obtain ⟨ins, eff, rd, g1, g2, g3, g4⟩ := t6 i him
        obtain ⟨ins', e1, e2⟩ := hg i o ho
        rw [List.getElem?_append_left him, g1] at e1; cases e1
        -- what may not meet
        have below : ∀ k, k < i → listed.getD k false = false → ∀ l, (l ∈ rd ∨ l ∈ wrOf ins eff) → us.getD k nof l = none := by
          intro k hk hL l hlm
          obtain ⟨insk, effk, rdk, q1, q2, q3, q4⟩ := t6 k (by omega)
          have hb : ((befs ops).getD i 0).testBit k = false := by
            cases hb : ((befs ops).getD i 0).testBit k with
            | false => rfl
            | true => have := befs_ok hcl ho h3 hb; rw [hL] at this; cases this
          have := ap k i hk him hb
          simp only [List.getD_eq_getElem?_getD, q2, g2, Option.getD_some, apartFp, Bool.and_eq_true, Bool.not_eq_true'] at this
          rw [List.getD_eq_getElem?_getD, q3, Option.getD_some]
          refine wrF_out fun hm => ?_
          rcases hlm with h5 | h5
          · exact meets_false this.1.2 l hm h5
          · exact meets_false this.1.1 l hm h5
        have above : ∀ k, i < k → listed.getD k false = true → k < il1.length ∧ ∃ insk effk rdk, fp[k]? = some (wrOf insk effk, rdk) ∧ us[k]? = some (wrF insk effk nof) ∧ apartFp (wrOf ins eff, rd) (wrOf insk effk, rdk) = true := by
          intro k hk hL
          have hkm : k < il1.length := by
            rcases Nat.lt_or_ge k il1.length with h4 | h4
            · exact h4
            · rw [hpre k h4] at hL; cases hL
          obtain ⟨insk, effk, rdk, q1, q2, q3, q4⟩ := t6 k hkm
          have hks : k < ops.size := by omega
          have hb : ((befs ops).getD k 0).testBit i = false := by
            cases hb : ((befs ops).getD k 0).testBit i with
            | false => rfl
            | true =>
              have := befs_ok hcl (Array.getElem?_eq_getElem hks) (hcl k _ (Array.getElem?_eq_getElem hks) hL) hb
              rw [h2] at this; cases this
          have := ap i k hk hkm hb
          simp only [List.getD_eq_getElem?_getD, q2, g2, Option.getD_some] at this
          exact ⟨hkm, insk, effk, rdk, q2, q3, this⟩
        have at_i : ∀ l, (l ∈ rd ∨ l ∈ wrOf ins eff) → FL us (fun i => listed.getD i false) s.fs il1.length l = FL us (fun _ => true) s.fs i l := by
          intro l hlm
          refine FL_at (fun k hk hL => below k hk hL l hlm) (fun k hk hL => ?_) _ (by omega)
          rcases Nat.lt_or_ge i k with h5 | h5
          · obtain ⟨_, insk, effk, rdk, q2, q3, q4⟩ := above k h5 hL
            rw [List.getD_eq_getElem?_getD, q3, Option.getD_some]
            simp only [apartFp, Bool.and_eq_true, Bool.not_eq_true'] at q4
            refine wrF_out fun hm => ?_
            rcases hlm with h6 | h6
            · exact meets_false q4.2 l h6 hm
            · exact meets_false q4.1.1 l h6 hm
          · obtain rfl : k = i := by omega
            rw [h2] at hL; cases hL
        have hd := does_reads (τ := FL us (fun i => listed.getD i false) s.fs il1.length) g4 (fun l hl => at_i l (.inl hl))
        have R2 : (E.pinA A).relF s.log s.stp (FL us (fun i => listed.getD i false) s.fs il1.length) a w h := to_pin hys hlk hlog R
        refine does_ok (E := E.pinA A) e2 rfl ho hd R2 fun a' w' h' R' hy' => ih _ a' w' h' (count_step (by omega) h2 hcn) (by simpa using hs) ?_ ?_ ?_ (hy'.trans hy)
        · intro j o' ho' hj d hd
          simp only [getD_setD (show i < listed.size by omega), Bool.or_eq_true, beq_iff_eq] at hj ⊢
          rcases hj with hj | rfl
          · exact .inl (hcl j o' ho' hj d hd)
          · rw [ho] at ho'; cases ho'; exact .inl (h3 d hd)
        · intro j hj
          rw [getD_setD (show i < listed.size by omega), hpre j hj]
          have : (j == i) = false := by simpa using (show j ≠ i by omega)
          rw [this]; rfl
        · have e : (fun k => (listed.setIfInBounds i true).getD k false) = fun k => listed.getD k false || k == i := by
            funext k; exact getD_setD (by omega)
          rw [e, FL_add h2 (fun k hk hL l => ?_) _ him]
          · rw [List.getD_eq_getElem?_getD, g3, Option.getD_some, ← wrF_nof]; exact of_pin hys hlk R'
          · obtain ⟨_, insk, effk, rdk, q2, q3, q4⟩ := above k hk hL
            simp only [List.getD_eq_getElem?_getD, q3, g3, Option.getD_some]
            simp only [apartFp, Bool.and_eq_true, Bool.not_eq_true'] at q4
            by_cases hm : l ∈ wrOf insk effk
            · right
              exact wrF_out fun hm' => meets_false q4.1.1 l hm' hm
            · left
              exact wrF_out hm

theorem drawn_okP (hys : E.ys = []) (hlk : E.lk = fun _ => True) {A : Arena} {K : St → Prop} {il1 il2 : List Ins} {s s1 : St} {fp : List (List Loc × List Loc)} {id : Nat} {a : Act} {w : World} {h : Gh} (hc : compR E.P E.nt ops = some (il1 ++ il2)) (hl : lexed ops = true) (t : Trace (E.pinA A) s il1 fp s1) (hlog : s.log = encA A)
    (hok : okPlan (befs ops) fp = true) (ht : totTail (befs ops) il1.length ops.size = true) (hst : Steps E il2 K s1) (R : E.rel s a w h) {Q : Exit → Act → World → Prop}
    (hn : ∀ s' a' w' h', K s' → E.rel s' a' w' h' → h'.y = h.y → Q .normal a' w') : (Code.region id ops true).wpIn (wideR ro) n E.P Q a w := by
  obtain ⟨us, key⟩ := prefix_okP (ro := ro) (n := n) hys hlk hc hl t hlog hok ht hst h.y hn
  refine wpIn_region_any E.mixed ?_
  have e0 : ∀ i, (Array.replicate ops.size false).getD i false = false := fun i => by
    simp only [Array.getD_eq_getD_getElem?, Array.getElem?_replicate]
    by_cases h : i < ops.size <;> simp [h]
  refine key ops.size _ a _ h (by simp [List.count_replicate]) (by simp) ?_ (fun i _ => e0 i) ⟨?_, R.2⟩ rfl
  · intro j o ho hj
    have hj : (Array.replicate ops.size false).getD j false = true := hj
    rw [e0] at hj; cases hj
  · have : FL us (fun i => (Array.replicate ops.size false).getD i false) s.fs il1.length = s.fs := by
      have : ∀ m, FL us (fun i => (Array.replicate ops.size false).getD i false) s.fs m = s.fs := by
        intro m
        induction m with
        | zero => rfl
        | succ m ih =>
          have e : FL us (fun i => (Array.replicate ops.size false).getD i false) s.fs (m + 1) = if (Array.replicate ops.size false).getD m false then upF (us.getD m nof) (FL us (fun i => (Array.replicate ops.size false).getD i false) s.fs m) else FL us (fun i => (Array.replicate ops.size false).getD i false) s.fs m := rfl
          rw [e, e0 m, ih]; rfl
      exact this _
    rw [this]
    exact R.1.drew E.ok

end

/-- **A DRAWN REGION THAT READS AN ARENA**. -/
theorem Tr.drawP {E : Env} {ro : Option Nat} {Q : Exit → St → Prop} {s : St} {bef : List Nat} {il : List Ins} (hys : E.ys = []) (hlk : E.lk = fun _ => True) {A : Arena} (hlog : s.log = encA A)
    (t : TraceK (E.pinA A) s il fun fp s' r => okPlan bef fp = true ∧ totTail bef (il.length - r.length) il.length = true ∧ Steps E r (Q .normal) s') : Tr E ro (.draw bef il) Q s := by
  obtain ⟨il1, fp, s', il2, e, t', hok, ht, h⟩ := t.spec
  subst e
  intro c hc n a w g R Q' hq
  obtain ⟨id, ops, rfl, h1, hl, rfl⟩ := compC_inv hc
  have hlen := (compR_spec h1).1
  have ht : totTail (befs ops) il1.length (il1 ++ il2).length = true := by simpa using ht
  rw [hlen] at ht
  exact drawn_okP hys hlk h1 hl t' hlog hok ht h R fun s' a' w' h' k R' e => hq _ s' a' w' h' k R' e

section
variable {E : Env} {σ : FSt}

theorem does_rnil {d : Nat} {x : X} {blk off : Nat} (hx : [x].mapM (evX σ) = some [.rptr blk off]) : Does E σ ⟨some d, .nilck, [x], none⟩ { v := .rptr blk off } (xslots [x]) := by
  refine .sem fun τ hτ slots ops i o ro n log stp a w h hc hs hi R Q next hn => ?_
  have hx' : [x].mapM (evX τ) = some [.rptr blk off] := evX_reads hx fun l hl => hτ l hl
  obtain ⟨os, cc⟩ := comp_of hc
  obtain ⟨p, ho, rfl⟩ := opK_nilckZ cc.op
  obtain ⟨u, hu, o1⟩ := (opds_of R.1 cc.xs hx').one
  simp only [List.cons.injEq, and_true] at hu
  subst hu
  have ep := ok_rptr o1
  have hex : (execOp a.eval o).run E.P w = .ok (.value (.pointer (some ⟨blk, off, none⟩))) w := by simp [execOp, ho, ep]
  exact wpOp_done hi (wanted_none (guard_none cc rfl)) (opK_defer cc.op) (.inl hex) (hn _ _ h (rel_after (eff := { v := .rptr blk off }) cc R R.1 (.data (.rptr _ _)) rfl) rfl)

theorem does_rfaddr {d f : Nat} {x : X} {blk off : Nat} (hx : [x].mapM (evX σ) = some [.rptr blk off]) : Does E σ ⟨some d, .faddr f, [x], none⟩ { v := .rptr blk (off + f) } (xslots [x]) := by
  refine .sem fun τ hτ slots ops i o ro n log stp a w h hc hs hi R Q next hn => ?_
  have hx' : [x].mapM (evX τ) = some [.rptr blk off] := evX_reads hx fun l hl => hτ l hl
  obtain ⟨os, cc⟩ := comp_of hc
  obtain ⟨t, p, g, fs, fd, m, ho, h1, h2, h3, h4, rfl, rfl⟩ := opK_faddrZ cc.op
  obtain ⟨u, hu, o1⟩ := (opds_of R.1 cc.xs hx').one
  simp only [List.cons.injEq, and_true] at hu
  subst hu
  have ep := ok_rptr o1
  have hex : (execOp a.eval o).run E.P w = .ok (.value (.pointer (some ⟨blk, off + fd.offset, none⟩))) w := by
    simp only [execOp, ho, ep, Sem.run_bind, run_fieldAt h1 h2 h3 h4]; rfl
  exact wpOp_done hi (wanted_none (guard_none cc rfl)) (opK_defer cc.op) (.inl hex) (hn _ _ h (rel_after (eff := { v := .rptr blk (off + fd.offset) }) cc R R.1 (.data (.rptr _ _)) rfl) rfl)

theorem does_aload {S0 : Sur} {l0 : List (List V)} {s0 : Bool} {A : Arena} (hE : InA E S0 l0 s0) (hys : E.ys = []) (hlk : E.lk = fun _ => True) {d n : Nat} {agg : Bool} {x : X} {blk off : Nat} {cs : List V} (hx : [x].mapM (evX σ) = some [.rptr blk off]) (hA : (blk, Ob.cells cs) ∈ A) (hv : off + n ≤ cs.length) :
    Does (E.pinA A) σ ⟨some d, .load n agg, [x], none⟩ { v := mkv agg n (cs.drop off) } (xslots [x]) := by
  refine .sem fun τ hτ slots ops i o ro n' log stp a w h hc hs hi R Q next hn => ?_
  have hx' : [x].mapM (evX τ) = some [.rptr blk off] := evX_reads hx fun l hl => hτ l hl
  obtain ⟨os, cc⟩ := comp_of hc
  have hll : log = encA A := R.1.sur.1
  have R' : E.relF (encA A) stp τ a w h := by rw [← hll]; exact of_pin hys hlk R
  obtain ⟨vs, et, h1, h2, h3⟩ := (hE.ar R').ok _ hA
  have hop : ∃ t p dd, o.op = .load t p ∧ szOf E.P t = some n ∧ E.P.underlying t = some dd ∧ aggB E.P t = agg ∧ os = [p] ∧ (agg = false → n = 1) := by
    have hk := cc.op
    cases ho : o.op <;> rw [ho] at hk <;> simp only [opK] at hk <;> (try (cases hk; done)) <;> (try (repeat' (split at hk <;> (try (cases hk; done)))))
    all_goals first
      | (simp only [Option.map_eq_some_iff, Prod.mk.injEq] at hk; obtain ⟨_, _, h1, _⟩ := hk; cases h1; done)
      | (simp only [eqKind] at hk; repeat' (split at hk <;> (try (cases hk; done))))
      | (cases hk; exact ⟨_, _, _, rfl, by assumption, by assumption, by assumption, rfl, by simp⟩)
      | (rename_i q1 q2 q3 q4; subst q4; cases hk; exact ⟨_, _, _, rfl, by assumption, by assumption, Bool.eq_false_iff.2 q3, rfl, by simp⟩)
  obtain ⟨t, p, dd, e1, e2, e3, e4, rfl, e5⟩ := hop
  obtain ⟨u, hu, o1⟩ := (opds_of R.1 cc.xs hx').one
  simp only [List.cons.injEq, and_true] at hu
  subst hu
  have ep := ok_rptr o1
  obtain ⟨y, hy1, hy2⟩ := ok_mkv (σ := τ) (h := h) (w := w) (agg := agg) (n := n) (l := cs.drop off) (f := fun j => vs.getD (off + j) undef) (by simp; omega) e5 (fun j v hv => by
    rw [List.getElem?_drop] at hv
    have hlt : off + j < vs.size := by
      have := (List.getElem?_eq_some_iff.1 hv).1; omega
    have := h3 (off + j) v vs[off + j] hv (by simp [hlt])
    have e : vs.getD (off + j) undef = vs[off + j] := by simp [hlt]
    rw [e]
    exact ⟨.data this.1, Grow.of_data this.1, this.2⟩)
  have hex : (execOp a.eval o).run E.P w = .ok (.value y) w := by
    simp only [execOp, e1, ep, Sem.run_bind]
    rw [run_loadAt (cs := (List.range n).map fun j => vs.getD (off + j) undef) e2 e3 (by simp) (fun j v hv => by
      obtain ⟨hj, rfl⟩ := range_map_get hv
      rw [cell_of_row w blk (off + j) vs et (0, 0) h1]
      have : off + j < vs.size := by omega
      simp [this]) (by rw [e4]; exact hy1)]
    rfl
  exact wpOp_done hi (wanted_none (guard_none cc rfl)) (opK_defer cc.op) (.inl hex) (hn _ _ h (rel_after (eff := { v := mkv agg n (cs.drop off) }) cc R R.1 hy2 rfl) rfl)

theorem TraceK.rnil {s : St} {K : List (List Loc × List Loc) → St → List Ins → Prop} {d : Nat} {x : X} {blk off : Nat} {rest : List Ins} (hx : evXs s.env [x] = some [.rptr blk off])
    (tr : TraceK E (s.put (some d) (.rptr blk off)) rest fun fp s' r' => K (([.slot d], xslots [x]) :: fp) s' r') : TraceK E s (⟨some d, .nilck, [x], none⟩ :: rest) K :=
  .step (ins := ⟨some d, .nilck, [x], none⟩) (eff := { v := .rptr blk off }) (does_rnil (evXs_ok hx)) tr

theorem TraceK.rfaddr {s : St} {K : List (List Loc × List Loc) → St → List Ins → Prop} {d f : Nat} {x : X} {blk off : Nat} {rest : List Ins} (hx : evXs s.env [x] = some [.rptr blk off])
    (tr : TraceK E (s.put (some d) (.rptr blk (off + f))) rest fun fp s' r' => K (([.slot d], xslots [x]) :: fp) s' r') : TraceK E s (⟨some d, .faddr f, [x], none⟩ :: rest) K :=
  .step (ins := ⟨some d, .faddr f, [x], none⟩) (eff := { v := .rptr blk (off + f) }) (does_rfaddr (evXs_ok hx)) tr

theorem TraceK.aload {S0 : Sur} {l0 : List (List V)} {s0 : Bool} {A : Arena} (hE : InA E S0 l0 s0) (hys : E.ys = []) (hlk : E.lk = fun _ => True) {s : St} {K : List (List Loc × List Loc) → St → List Ins → Prop} {d n : Nat} {agg : Bool} {x : X} {blk off : Nat} {cs : List V} {rest : List Ins} (hx : evXs s.env [x] = some [.rptr blk off]) (hA : (blk, Ob.cells cs) ∈ A) (hv : off + n ≤ cs.length)
    (tr : TraceK (E.pinA A) (s.put (some d) (mkv agg n (cs.drop off))) rest fun fp s' r' => K (([.slot d], xslots [x]) :: fp) s' r') : TraceK (E.pinA A) s (⟨some d, .load n agg, [x], none⟩ :: rest) K :=
  .step (ins := ⟨some d, .load n agg, [x], none⟩) (eff := { v := mkv agg n (cs.drop off) }) (does_aload hE hys hlk (evXs_ok hx) hA hv) tr

end

section
variable {E : Env} {S0 : Sur} {l0 : List (List V)} {s0 : Bool} {A : Arena}

theorem splice_nth {α : Type} {l m : List α} {off : Nat} (h : off + m.length ≤ l.length) (j : Nat) : (l.take off ++ m ++ l.drop (off + m.length))[j]? = if j < off then l[j]? else if j < off + m.length then m[j - off]? else l[j]? := by
  rw [List.append_assoc, List.getElem?_append, List.length_take, Nat.min_eq_left (by omega)]
  by_cases h1 : j < off
  · rw [if_pos h1, if_pos h1, List.getElem?_take_of_lt h1]
  · rw [if_neg h1, if_neg h1, List.getElem?_append]
    by_cases h2 : j < off + m.length
    · rw [if_pos (by omega), if_pos h2]
    · rw [if_neg (by omega), if_neg h2, List.getElem?_drop]
      congr 1; omega

/-- Several cells of an arena's block are written. -/
theorem Steps.astoreT (hE : InA E S0 l0 s0) {K : St → Prop} {s : St} {n : Nat} {x y : X} {rest : List Ins} {blk off : Nat} {cs ds : List V} (hx : evXs s.env [x, y] = some [.rptr blk off, .agg ds]) (hl : s.log = encA A) (hA : (blk, Ob.cells cs) ∈ A) (hn : ds.length = n) (hoff : off + ds.length ≤ cs.length) (hd : ds.all isD = true) (hsc : ds.all scalar = true)
    (hk : Steps E rest K { s with log := encA (setA A blk (.cells (splice cs off ds))) }) : Steps E (⟨none, .store n, [x, y], none⟩ :: rest) K s := by
  refine Step1.raw fun slots ops o i ro n' a w h hc hs hi R Q next hn' => ?_
  obtain ⟨os, cc⟩ := comp_of hc
  obtain ⟨t, p, q, e1, e2, rfl⟩ := opK_store1 cc.op
  obtain ⟨u, u', hu, o1, o2⟩ := (opds_of R.1 cc.xs (evXs_ok hx)).two
  simp only [List.cons.injEq, and_true] at hu
  obtain ⟨hu1, hu2⟩ := hu
  subst hu1 hu2
  have ep := ok_rptr o1
  have R' : E.relF (encA A) s.stp s.fs a w h := by rw [← hl]; exact R
  have hAr := hE.ar R'
  obtain ⟨vs, et, h1, h2, h3⟩ := hAr.ok _ hA
  obtain ⟨ws, hw, hlen, hh⟩ := ok_agg o2
  have hwl : ws.toList.length = ds.length := by simpa using hlen.symm
  have hall : ∀ (j : Nat) v z, ds[j]? = some v → ws.toList[j]? = some z → RepD w h.φ v z ∧ scalar v = true := fun j v z hv hz => by
    rw [List.all_eq_true] at hd hsc
    exact ⟨rep_isD (hd v (List.mem_of_getElem? hv)) (hh j v z hv (by simpa using hz)).1, hsc v (List.mem_of_getElem? hv)⟩
  have hone : ∀ z ∈ ws.toList, z.oneCell' = true := fun z hz => by
    obtain ⟨j, hj, rfl⟩ := List.getElem_of_mem hz
    have hjd : j < ds.length := by omega
    obtain ⟨r, sc⟩ := hall j _ _ (List.getElem?_eq_getElem hjd) (List.getElem?_eq_getElem hj)
    exact (scalar_value (.data r : Rep w h.φ h.β h.y.l _ _) sc).1
  have hc1 : (a.eval q).cells = ws := by rw [hw]; rfl
  have hrun := run_storeCells_at E.P blk off et ws.toList 0 vs w h1 (by omega) hone
  simp only [Nat.add_zero] at hrun
  have R2 := hE.step R' (B := setA A blk (.cells (splice cs off ds)))
    (fun b hb hn => setRow_other w blk b (vs.toList.take off ++ ws.toList ++ vs.toList.drop (off + ws.toList.length)).toArray (fun e => hn (e ▸ List.mem_map.2 ⟨_, hA, rfl⟩))) (by simp) rfl rfl rfl
    (fun p hp => .inl (by rw [← setA_keys A blk (.cells (splice cs off ds))]; exact List.mem_map.2 ⟨p, hp, rfl⟩)) (fun p hp => by rw [setA_keys]; exact List.mem_map.2 ⟨p, hp, rfl⟩) (by rw [setA_keys]; exact hAr.nd)
    (fun ext p hp => by
      rcases setA_mem hp with ⟨e, e'⟩ | ⟨hne, hp⟩
      · rw [e, e']
        refine ⟨_, et, setRow_heap w blk vs _ et (0, 0) h1, by simp [splice]; omega, fun j u z hu hz => ?_⟩
        rw [List.getElem?_toArray, splice_nth (by simp; omega)] at hz
        unfold splice at hu
        rw [splice_nth (by omega)] at hu
        by_cases c1 : j < off
        · rw [if_pos c1] at hu hz
          have hz' : vs[j]? = some z := by simpa using hz
          exact ⟨(h3 j u z hu hz').1.mono ext, (h3 j u z hu hz').2⟩
        · rw [if_neg c1] at hu hz
          by_cases c2 : j < off + ds.length
          · rw [if_pos c2] at hu
            rw [if_pos (by omega)] at hz
            exact ⟨(hall _ u z hu hz).1.mono ext, (hall _ u z hu hz).2⟩
          · rw [if_neg c2] at hu
            rw [if_neg (by omega)] at hz
            have hz' : vs[j]? = some z := by simpa using hz
            exact ⟨(h3 j u z hu hz').1.mono ext, (h3 j u z hu hz').2⟩
      · exact (hAr.ok p hp).mono (setRow_other w blk p.1 _ hne) ext) (fun p hp => by
      have hk : p.1 ∈ A.map (·.1) := by rw [← setA_keys A blk (.cells (splice cs off ds))]; exact List.mem_map.2 ⟨p, hp, rfl⟩
      obtain ⟨q', hq', e⟩ := List.mem_map.1 hk
      have := hAr.lt q' hq'
      rw [← e]; simpa using this)
  have hdn : o.dst = none := cc.d.symm
  have R3 : E.rel { s with log := encA (setA A blk (.cells (splice cs off ds))) } (a.put o.dst undef) (w.setRow blk (vs.toList.take off ++ ws.toList ++ vs.toList.drop (off + ws.toList.length)).toArray) h := by rw [hdn]; exact R2
  refine wpOp_done (x := undef) hi (wanted_none (guard_none cc rfl)) (opK_defer cc.op) (.inr ⟨?_, rfl⟩) (hn' _ _ _ h hk R3 rfl)
  simp only [execOp, e1, ep, Instr.storeAt, Instr.sureAddr, Sem.run_bind, Sem.run_pure, Result.andThen_ok, storeVar, run_szOf e2]
  rw [if_neg (by rw [hc1]; simp; omega), hc1]
  rw [hrun]
  rfl

end
end Go.Am

