/-
  Parts of the proof, 5: the abstract machine, the compiled code, contracts of the functions, plain laws.
-/
import Derived.Test.YtdejdblopmfjfaaGreatDoorQ4
import Derived.Test.YtdejdblopmfjfaaGreatDoorRows
import Derived.WalkKit
import Derived.ProofKit
import Derived.OpenShut
import Derived.ShutString
import Derived.ChangeOld
import Derived.Below


/-! Contracts: counting, plain part; rows of an arena. -/
set_option linter.unusedVariables false
set_option linter.unusedSimpArgs false
set_option maxRecDepth 40000
set_option maxHeartbeats 4000000
namespace Go.Proofs.YtdejdblopmfjfaaGreatDoor
open Go.Am

/-! ### Counts of cells -/
def cntRow (m : Nat) (P : List (Int × Int)) (b : Nat) : List Int := (List.range m).map fun (c : Nat) => ((P.count ((b : Int), (c : Int)) : Nat) : Int)
def nBins (g : Gd) : Nat := (g.a * g.d).toNat
def countL (g : Gd) (P : List (Int × Int)) : List (List Int) := (List.range (nBins g)).map (cntRow g.cls.length P)
def allH (h : Nat → List (Int × Int)) (n : Nat) : List (Int × Int) := (List.range n).flatMap h
def cntN (L : Ld) (h : Nat → List (Int × Int)) : List (List Int) := countL L.g (allH h L.traces.length)

def noneC : Int × Int := (-1, -1)
def inG (g : Gd) (c : Int × Int) : Prop := (0 ≤ c.1 ∧ c.1 < g.a * g.d) ∧ 0 ≤ c.2 ∧ c.2 < (g.cls.length : Int)

theorem cntRow_len (m : Nat) (P : List (Int × Int)) (b : Nat) : (cntRow m P b).length = m := by simp [cntRow]
theorem countL_len (g : Gd) (P : List (Int × Int)) : (countL g P).length = nBins g := by simp [countL]
theorem countL_get {g : Gd} {P : List (Int × Int)} {b : Nat} (h : b < nBins g) : (countL g P)[b]? = some (cntRow g.cls.length P b) := by simp [countL, h]
theorem cntRow_get {m : Nat} {P : List (Int × Int)} {b c : Nat} (h : c < m) : (cntRow m P b)[c]? = some ((P.count ((b : Int), (c : Int)) : Nat) : Int) := by simp [cntRow, h]

theorem cntRow_off {m : Nat} {P : List (Int × Int)} {c : Int × Int} {b : Nat} (h : c.1 ≠ b) : cntRow m (P ++ [c]) b = cntRow m P b := by
  unfold cntRow
  refine List.map_congr_left fun k _ => ?_
  rw [List.count_append, List.count_singleton]
  have : (c == ((b : Int), (k : Int))) = false := by
    rw [beq_eq_false_iff_ne]; intro e; rw [e] at h; exact h rfl
  rw [this]; simp

theorem cntRow_on {m : Nat} {P : List (Int × Int)} {b k : Nat} (h : k < m) : cntRow m (P ++ [((b : Int), (k : Int))]) b = (cntRow m P b).set k (((P.count ((b : Int), (k : Int)) : Nat) : Int) + 1) := by
  refine List.ext_getElem? fun i => ?_
  by_cases hi : i < m
  · rw [cntRow_get hi]
    by_cases e : i = k
    · subst e
      rw [List.getElem?_set_self (by rw [cntRow_len]; exact hi), List.count_append, List.count_singleton]
      simp
    · rw [List.getElem?_set_ne (fun h => e h.symm), cntRow_get hi, List.count_append, List.count_singleton]
      have : ((((b : Int), (k : Int)) : Int × Int) == ((b : Int), (i : Int))) = false := by
        rw [beq_eq_false_iff_ne]; intro h; injection h with _ h; exact e (by omega)
      rw [this]; simp
  · rw [List.getElem?_eq_none (by rw [cntRow_len]; omega), List.getElem?_eq_none (by rw [List.length_set, cntRow_len]; omega)]

theorem countL_none (g : Gd) (P : List (Int × Int)) : countL g (P ++ [noneC]) = countL g P := by
  unfold countL
  refine List.map_congr_left fun b _ => cntRow_off ?_
  unfold noneC; simp only; omega

theorem countL_on {g : Gd} {P : List (Int × Int)} {b k : Nat} (hb : b < nBins g) (hk : k < g.cls.length) :
    countL g (P ++ [((b : Int), (k : Int))]) = (countL g P).set b ((cntRow g.cls.length P b).set k (((P.count ((b : Int), (k : Int)) : Nat) : Int) + 1)) := by
  refine List.ext_getElem? fun i => ?_
  by_cases hi : i < nBins g
  · rw [countL_get hi]
    by_cases e : i = b
    · subst e
      rw [List.getElem?_set_self (by rw [countL_len]; exact hi), cntRow_on hk]
    · rw [List.getElem?_set_ne (fun h => e h.symm), countL_get hi, cntRow_off]
      simp only; omega
  · rw [List.getElem?_eq_none (by rw [countL_len]; omega), List.getElem?_eq_none (by rw [List.length_set, countL_len]; omega)]

/-! ### Rows in an arena -/
def arn (rbs : List Nat) (rows : List (List Int)) : Arena := List.zipWith (fun b r => (b, Ob.cells (r.map I))) rbs rows

theorem arn_keys : ∀ {rbs : List Nat} {rows : List (List Int)}, rbs.length = rows.length → (arn rbs rows).map (·.1) = rbs
  | [], [], _ => rfl
  | b :: rbs, r :: rows, h => by
    have := arn_keys (rbs := rbs) (rows := rows) (by simpa using h)
    simp [arn] at this ⊢
    exact this

theorem arn_snoc : ∀ {rbs : List Nat} {rows : List (List Int)} (b : Nat) (r : List Int), rbs.length = rows.length → arn (rbs ++ [b]) (rows ++ [r]) = arn rbs rows ++ [(b, .cells (r.map I))]
  | [], [], b, r, _ => rfl
  | c :: rbs, q :: rows, b, r, h => by
    have := arn_snoc (rbs := rbs) (rows := rows) b r (by simpa using h)
    simp [arn] at this ⊢
    exact this

theorem arn_mem : ∀ {rbs : List Nat} {rows : List (List Int)} {j b : Nat} {r : List Int}, rbs[j]? = some b → rows[j]? = some r → (b, Ob.cells (r.map I)) ∈ arn rbs rows
  | [], _, _, _, _, h, _ => by simp at h
  | _ :: _, [], _, _, _, _, h => by simp at h
  | c :: rbs, q :: rows, 0, b, r, h, k => by simp at h k; subst h k; simp [arn]
  | c :: rbs, q :: rows, j + 1, b, r, h, k => by
    have := arn_mem (rbs := rbs) (rows := rows) (j := j) (b := b) (r := r) (by simpa using h) (by simpa using k)
    simp only [arn] at this ⊢
    simp only [List.zipWith_cons_cons]
    exact List.mem_cons_of_mem _ this

theorem setA_out {A : Arena} {b : Nat} {o : Ob} (h : b ∉ A.map (·.1)) : setA A b o = A := by
  unfold setA
  conv => rhs; rw [← List.map_id A]
  refine List.map_congr_left fun p hp => ?_
  rw [if_neg fun e => h (List.mem_map.2 ⟨p, hp, e⟩)]; rfl

theorem arn_set : ∀ {rbs : List Nat} {rows : List (List Int)} {j b : Nat} (r : List Int), rbs.Nodup → rbs.length = rows.length → rbs[j]? = some b → setA (arn rbs rows) b (.cells (r.map I)) = arn rbs (rows.set j r)
  | [], _, _, _, _, _, _, h => by simp at h
  | _ :: _, [], _, _, _, _, h, _ => by simp at h
  | c :: rbs, q :: rows, 0, b, r, hn, hl, h => by
    simp at h; subst h
    rw [List.nodup_cons] at hn
    have e : arn (c :: rbs) (q :: rows) = (c, .cells (q.map I)) :: arn rbs rows := rfl
    have e2 : arn (c :: rbs) ((q :: rows).set 0 r) = (c, .cells (r.map I)) :: arn rbs rows := rfl
    rw [e, e2]
    have := setA_out (A := arn rbs rows) (b := c) (o := .cells (r.map I)) (by rw [arn_keys (by simpa using hl)]; exact hn.1)
    unfold setA at this ⊢
    rw [List.map_cons, this]; simp
  | c :: rbs, q :: rows, j + 1, b, r, hn, hl, h => by
    rw [List.nodup_cons] at hn
    have h' : rbs[j]? = some b := by simpa using h
    have ih := arn_set (rbs := rbs) (rows := rows) (j := j) (b := b) r hn.2 (by simpa using hl) h'
    have hcb : c ≠ b := fun e => hn.1 (e ▸ List.mem_of_getElem? h')
    have e : arn (c :: rbs) (q :: rows) = (c, .cells (q.map I)) :: arn rbs rows := rfl
    have e2 : arn (c :: rbs) ((q :: rows).set (j + 1) r) = (c, .cells (q.map I)) :: arn rbs (rows.set j r) := rfl
    rw [e, e2, ← ih]
    unfold setA
    rw [List.map_cons, if_neg hcb]

theorem arn_drop {b : Nat} {r : List Int} {rbs : List Nat} {rows : List (List Int)} (hn : (b :: rbs).Nodup) (hl : rbs.length = rows.length) : dropA (arn (b :: rbs) (r :: rows)) b = arn rbs rows := by
  rw [List.nodup_cons] at hn
  have e : arn (b :: rbs) (r :: rows) = (b, .cells (r.map I)) :: arn rbs rows := rfl
  rw [e]
  unfold dropA
  rw [List.filter_cons]
  simp only [bne_self_eq_false, Bool.false_eq_true, if_false]
  refine List.filter_eq_self.2 fun p hp => ?_
  have : p.1 ∈ rbs := by rw [← arn_keys hl]; exact List.mem_map.2 ⟨p, hp, rfl⟩
  have : p.1 ≠ b := fun e => hn.1 (e ▸ this)
  simpa using this

section
variable {E : Env} {S0 : Sur} {l0 : List (List V)} {s0 : Bool}

def srefs (m : Nat) (rbs : List Nat) : List V := rbs.map fun b => .sref b 0 m m

/-- All rows of a slice become data. -/
theorem closeRows (hE : InA E S0 l0 s0) {t m : Nat} : ∀ (rbs : List Nat) (rows : List (List Int)) (pre : List V) (s : St), rbs.Nodup → rbs.length = rows.length → (∀ r ∈ rows, r.length = m) → (∀ y ∈ pre, cells y = [y]) → get s.env t = some (.slice 0 1 (pre ++ srefs m rbs)) → s.log = encA (arn rbs rows) →
    ∃ s', Wk E s s' ∧ get s'.env t = some (.slice 0 1 (pre ++ rows.map intsV)) ∧ s'.log = encA [] ∧ s'.stp = s.stp ∧ s'.bx = s.bx
  | [], [], pre, s, _, _, _, _, ht, hl => ⟨s, Wk.refl s, by simpa [srefs] using ht, hl, rfl, rfl⟩
  | b :: rbs, r :: rows, pre, s, hn, hlen, hm, hpre, ht, hl => by
    have hlen' : rbs.length = rows.length := by simpa using hlen
    have hrl : r.length = m := hm r (by simp)
    have h1 : ∀ y ∈ pre ++ srefs m (b :: rbs), cells y = [y] := fun y hy => by
      rcases List.mem_append.1 hy with hy | hy
      · exact hpre y hy
      · obtain ⟨_, _, rfl⟩ := List.mem_map.1 hy; rfl
    have w1 := Wk.closeIn (E := E) (S0 := S0) (l0 := l0) (s0 := s0) (A := arn (b :: rbs) (r :: rows)) hE (s := s) (t := t) (r := 0) (blk := b) (cap := m) (sz := 1) (j := pre.length) (cs := r.map I) (xs := r.map I) (ys := pre ++ srefs m (b :: rbs)) ht
      (by rw [List.length_map, hrl, List.getElem?_append_right (Nat.le_refl _), Nat.sub_self]; rfl) hl (by simp [arn]) (by omega) (by rw [List.length_map, hrl]; exact Nat.le_refl _) (fun x hx => by obtain ⟨_, _, rfl⟩ := List.mem_map.1 hx; rfl)
      (by rw [Nat.mul_one, List.take_length]; induction r with
          | nil => rfl
          | cons a r _ => rw [List.flatMap_def, List.map_map]; induction (a :: r) with
            | nil => rfl
            | cons a r ih => simp [cells] at ih ⊢; exact ih) h1
    have eset : (pre ++ srefs m (b :: rbs)).set pre.length (.slice 0 1 (r.map I)) = (pre ++ [intsV r]) ++ srefs m rbs := by
      rw [List.set_append_right _ _ (Nat.le_refl _), Nat.sub_self]
      simp [srefs, intsV]
    rw [eset, arn_drop hn hlen'] at w1
    rw [List.nodup_cons] at hn
    obtain ⟨s', w2, g1, g2, g3, g4⟩ := closeRows hE (t := t) rbs rows (pre ++ [intsV r]) hn.2 hlen' (fun q hq => hm q (by simp [hq])) (fun y hy => by
      rcases List.mem_append.1 hy with hy | hy
      · exact hpre y hy
      · rw [List.mem_singleton.1 hy]; rfl) (s := { s.put (some t) (.slice 0 1 ((pre ++ [intsV r]) ++ srefs m rbs)) with log := encA (arn rbs rows) }) (by show Am.get ((t, _) :: s.env) t = _; simp [Am.get]) rfl
    exact ⟨s', w1.trans w2, by rw [g1]; simp, g2, by rw [g3]; rfl, by rw [g4]; rfl⟩

end
end Go.Proofs.YtdejdblopmfjfaaGreatDoor


/-! Contracts: surely; counting. -/
set_option linter.unusedVariables false
set_option linter.unusedSimpArgs false
set_option maxRecDepth 40000
set_option maxHeartbeats 4000000
namespace Go.Proofs.YtdejdblopmfjfaaGreatDoor
open Go.Am
attribute [local simp] cells scalar mkv splice under2 under dem dem1 eB gridC sB laidC
def sureL : List (Int × Int) → List (Int × Int)
  | [c] => if c = noneC then [] else [c]
  | _ => []
def sureT (L : Ld) (t : Nat) : List (Int × Int) := sureL (hitsT L t)

theorem c_surely {L : Ld} (hL : LdOk L) {t : Nat} (ht : t < L.traces.length) : C Tryz.prog F.bin_laid_surely [.agg (laidC L), I (t : Nat)] (sB (sureT L t)) := by
  have kc := c_hits hL ht
  unfold sureT
  generalize hitsT L t = l at kc
  refine C_of mixed chk.bin_laid_surely (by simp) fun S ok => ?_
  refine Tr.seqR rfl (by simp) (Tr.seq (Tr.seqC rfl (by simp) (Steps.call rfl rfl kc (Steps.fin rfl (by simp) ?_))))
  rcases l with _ | ⟨c, _ | ⟨c2, r⟩⟩
  · refine Tr.seq (Tr.drawK (TraceK.runN 7 rfl (by simp) (TraceK.ggload (g := 0) (cs := [I (-1), I (-1)]) (gb := false) (by simp [globalsV]) rfl rfl rfl (by simp) ?_)))
    refine .done ⟨by kernel_rfl, by kernel_rfl, Steps.off (want := true) (.bool true) rfl rfl rfl (Steps.fin rfl (by simp) ?_)⟩
    refine Tr.condF rfl (Tr.skip (Tr.seqR rfl (by simp) ?_))
    refine Tr.weak (s' := { env := [(4, .slice 0 2 [])], bx := [], rw := [], log := [], stp := false }) (Wk.le (.cons rfl (.nil 0 2) .nil) .nil .nil rfl rfl) ?_
    exact Tr.retX rfl rfl rfl rfl trivial
  · refine Tr.seq (Tr.drawK (TraceK.runN 7 rfl (by simp) (TraceK.ggload (g := 0) (cs := [I (-1), I (-1)]) (gb := true) (by simp [globalsV]) rfl rfl rfl (by simp) ?_)))
    refine TraceK.run rfl (by simp) (.done ⟨by kernel_rfl, by kernel_rfl, Steps.fin rfl (by simp) ?_⟩)
    refine Tr.cond rfl rfl (fun h => ?_) (fun h => Tr.skip ?_)
    · have hc : c ≠ noneC := by
        rintro rfl
        revert h
        show (!((((-1 : Int) == -1) && ((-1 : Int) == -1)) : Bool)) = true → False
        decide
      refine Tr.seqR rfl (by simp) (Tr.retX rfl rfl rfl ?_ trivial)
      simp [sureL, hc, packR]
    · have hc : c = noneC := by
        have h : (!((c.1 == -1) && (c.2 == -1))) = false := by simpa using h
        simp at h
        exact Prod.ext h.1 h.2
      refine Tr.seqR rfl (by simp) ?_
      refine Tr.weak (s' := { env := [(4, .slice 0 2 [])], bx := [], rw := [], log := [], stp := false }) (Wk.le (.cons rfl (.nil 0 2) .nil) .nil .nil rfl rfl) ?_
      refine Tr.retX rfl rfl rfl ?_ trivial
      simp [sureL, hc, packR]
  · have hne : ((((c :: c2 :: r : List (Int × Int)).map eB).length : Int) == 1) = false := by
      rw [beq_eq_false_iff_ne]; simp; omega
    refine Tr.seq (Tr.drawK (TraceK.runN 4 rfl (by simp) ?_))
    refine TraceK.runN 3 rfl (by simp; omega) (TraceK.ggload (g := 0) (cs := [I (-1), I (-1)]) (by simp [globalsV]) rfl rfl rfl (by simp) ?_)
    refine .done ⟨by kernel_rfl, by kernel_rfl, Steps.off (want := true) (.bool true) rfl rfl (congrArg some hne) (Steps.fin rfl (by simp; omega) ?_)⟩
    refine Tr.cond rfl rfl (fun h => ?_) (fun h => Tr.skip (Tr.seqR rfl (by simp) ?_))
    · have h : (bif ((((c :: c2 :: r : List (Int × Int)).map eB).length : Int) == 1) then true else false) = true := h
      rw [hne] at h; cases h
    refine Tr.weak (s' := { env := [(4, .slice 0 2 [])], bx := [], rw := [], log := [], stp := false }) (Wk.le (.cons rfl (.nil 0 2) .nil) .nil .nil rfl rfl) ?_
    exact Tr.retX rfl rfl rfl rfl trivial

end Go.Proofs.YtdejdblopmfjfaaGreatDoor


/-! Plain laws of cells: the order of the places; what moves with the grid. -/
set_option linter.unusedVariables false
set_option linter.unusedSimpArgs false
set_option maxRecDepth 40000
set_option maxHeartbeats 4000000
namespace Go.Proofs.YtdejdblopmfjfaaGreatDoor
open Go.Am

/-- A cell is one of the grid, or none. -/
theorem cell_in {g : Gd} (hg : gridOk g = true) (a b : Int × Int) : cellN g a b = noneC ∨ inG g (cellN g a b) := by
  obtain ⟨_, _, ha, hd, hc, _⟩ := gridOk_spec hg
  unfold cellN
  split
  · rename_i h
    rw [Bool.and_eq_true, btw_iff, btw_iff] at h
    split
    · rename_i i hi
      have := clsAt_bd _ _ _ hi
      have m1 : 0 ≤ rowN g a b * g.a := Int.mul_nonneg (by omega) (by omega)
      have m2 : rowN g a b * g.a ≤ (g.d - 1) * g.a := Int.mul_le_mul_of_nonneg_right (by omega) (by omega)
      rw [Int.sub_mul, Int.mul_comm g.d g.a] at m2
      refine .inr ⟨⟨?_, ?_⟩, ?_, ?_⟩ <;> simp only <;> omega
    · exact .inl rfl
  · exact .inl rfl

theorem nBins_eq {g : Gd} (hg : gridOk g = true) : (nBins g : Int) = g.a * g.d ∧ 1 ≤ nBins g ∧ nBins g ≤ 256 := by
  obtain ⟨_, _, ha, hd, hc, _⟩ := gridOk_spec hg
  have h1 : 1 * 1 ≤ g.a * g.d := Int.mul_le_mul (by omega) (by omega) (by omega) (by omega)
  have h2 : g.a * g.d ≤ 16 * 16 := Int.mul_le_mul (by omega) (by omega) (by omega) (by omega)
  unfold nBins
  omega

theorem inG_nat {g : Gd} (hg : gridOk g = true) {c : Int × Int} (h : inG g c) : ∃ b k : Nat, c = ((b : Int), (k : Int)) ∧ b < nBins g ∧ k < g.cls.length := by
  obtain ⟨⟨h1, h2⟩, h3, h4⟩ := h
  have := (nBins_eq hg).1
  exact ⟨c.1.toNat, c.2.toNat, Prod.ext (by simp; omega) (by simp; omega), by omega, by omega⟩

end Go.Proofs.YtdejdblopmfjfaaGreatDoor


/-! Contracts: counting. -/
set_option linter.unusedVariables false
set_option linter.unusedSimpArgs false
set_option maxRecDepth 40000
set_option maxHeartbeats 4000000
namespace Go.Proofs.YtdejdblopmfjfaaGreatDoor
open Go.Am
attribute [local simp] cells scalar mkv splice under2 under dem dem1 eB gridC sB laidC
def rowsB (m : Nat) (rbs : List Nat) (k : Nat) : List V := (rbs.map fun b => V.sref b 0 m m) ++ List.replicate k .nils

theorem rowsB_refs (m : Nat) (rbs : List Nat) (k : Nat) (B : Nat → Bool) (R : Nat → Option (Nat × Nat × Nat)) : (rowsB m rbs k).all (refsOk B R 6) = true := by
  rw [List.all_eq_true]
  intro x hx
  rcases List.mem_append.1 hx with hx | hx
  · obtain ⟨_, _, rfl⟩ := List.mem_map.1 hx; rfl
  · rw [List.eq_of_mem_replicate hx]; rfl

theorem okRows {j m k : Nat} {rbs : List Nat} {env : List (Nat × V)} {bx : List (Nat × Box)} {rw : List (Nat × Nat × Nat × Nat)} (h : okRefs env ((j, ⟨[], false⟩) :: bx) rw = true) : okRefs env ((j, ⟨rowsB m rbs k, false⟩) :: bx) rw = true := by
  have e : hasKey ((j, (⟨rowsB m rbs k, false⟩ : Box)) :: bx) = hasKey ((j, (⟨[], false⟩ : Box)) :: bx) := rfl
  unfold okRefs at h ⊢
  rw [e]
  rw [Bool.and_eq_true] at h ⊢
  refine ⟨h.1, ?_⟩
  have h2 := h.2
  rw [List.all_cons, Bool.and_eq_true] at h2 ⊢
  exact ⟨rowsB_refs _ _ _ _ _, h2.2⟩

theorem rowsB_len (m : Nat) (rbs : List Nat) (k : Nat) : (rowsB m rbs k).length = rbs.length + k := by simp [rowsB]

theorem rowsB_set (m : Nat) (rbs : List Nat) (k b : Nat) : (rowsB m rbs (k + 1)).set rbs.length (.sref b 0 m m) = rowsB m (rbs ++ [b]) k := by
  unfold rowsB
  rw [List.set_append_right _ _ (by simp), List.length_map, Nat.sub_self, List.replicate_succ]
  simp

theorem rowsB_flat (m : Nat) (rbs : List Nat) : ∀ l : List V, l = (rbs.map fun b => V.sref b 0 m m) → l.flatMap cells = l := by
  induction rbs with
  | nil => rintro l rfl; rfl
  | cons b r ih => rintro l rfl; rw [List.map_cons, List.flatMap_cons, ih _ rfl]; rfl

theorem rowsB_holds (m : Nat) (rbs : List Nat) : Holds (rowsB m rbs 0) 0 1 rbs.length (rbs.map fun b => V.sref b 0 m m) := by
  refine ⟨by omega, by simp, fun x hx => ?_, ?_, fun x hx => ?_⟩
  · obtain ⟨_, _, rfl⟩ := List.mem_map.1 hx; rfl
  · rw [rowsB_flat m rbs _ rfl]; simp [rowsB, List.take_of_length_le]
  · obtain ⟨_, _, rfl⟩ := List.mem_map.1 hx; rfl

theorem allH_succ (h : Nat → List (Int × Int)) (k : Nat) : allH h (k + 1) = allH h k ++ h k := by
  unfold allH; rw [List.range_succ, List.flatMap_append]; simp

theorem count_bd {L : Ld} {h : Nat → List (Int × Int)} (hn : L.traces.length ≤ 64) (hr : ∀ t < L.traces.length, (h t).length ≤ 4096) : ∀ k ≤ L.traces.length, (allH h k).length ≤ k * 4096
  | 0, _ => by simp [allH]
  | k + 1, hk => by
    have := count_bd hn hr k (by omega)
    have h2 := hr k (by omega)
    rw [allH_succ, List.length_append]; omega

theorem splice_set {cs : List V} {i : Nat} (h : i < cs.length) (v : V) : splice cs i [v] = cs.set i v := by
  rw [List.set_eq_take_append_cons_drop, if_pos h]; simp [splice]

theorem c_count {L : Ld} (hL : LdOk L) {f : FuncId} {h : Nat → List (Int × Int)} (hf : ∀ t < L.traces.length, C Tryz.prog f [.agg (laidC L), I (t : Nat)] (sB (h t))) (hr : ∀ t < L.traces.length, (h t).length ≤ 4096 ∧ ∀ c ∈ h t, c = noneC ∨ inG L.g c) :
    C Tryz.prog F.bin_laid_count [.agg (laidC L), .func (.func f) [.agg (laidC L)] []] (foldV (cntN L h)) := by
  obtain ⟨_, hsz, hga, hgd, hcl, _⟩ := gridOk_spec hL.g
  have nb := nBins_eq hL.g
  have hab : IntKind.wrap .i64 (L.g.a * L.g.d) = (nBins L.g : Int) := by rw [nb.1]; exact w64 (by omega) (by omega)
  refine C_of mixed chk.bin_laid_count (by simp) fun S ok => ?_
  refine Tr.arena rfl rfl ?_
  have hA := InA.main (E := env0 Tryz.prog mixed 63 S ok) [] false
  refine Tr.seqR rfl (by simp) ?_
  refine Tr.seqR rfl (by simp; omega) ?_
  refine Tr.seq (Tr.seqR rfl (by simp) (Tr.block ?_))
  refine Tr.loop (α := Nat × List Nat) (fun p st => (p.1 ≤ nBins L.g ∧ p.2.length = p.1 ∧ p.2.Nodup) ∧
      st = { env := [(1, .func (.func f) [.agg (laidC L)] []), (2, .ptr 2 0), (5, .bsl 17 0 1 (nBins L.g)), (18, .bsl 17 0 1 (nBins L.g)), (19, I (nBins L.g : Nat)), (20, I (p.1 : Nat))], bx := [(17, ⟨rowsB L.g.cls.length p.2 (nBins L.g - p.1), false⟩), (2, ⟨laidC L, false⟩)], rw := [], log := encA (arn p.2 ((List.range p.1).map (cntRow L.g.cls.length []))), stp := false }) (fun p => nBins L.g - p.1) (0, [])
    (Wk.leL (.cons rfl (.refl _) (.cons rfl (.refl _) (.cons rfl (.of_eq ?_) (.cons rfl (.of_eq ?_) (.cons rfl (VLe.i ?_) (.cons rfl (.refl _) .nil)))))) (.cons rfl ?_ (.cons rfl (LLe.refl _) .nil)) .nil (okRows rfl) rfl rfl) ⟨⟨by omega, rfl, List.Pairwise.nil⟩, rfl⟩ ?_
  · show V.bsl 17 0 1 (IntKind.wrap .i64 (L.g.a * L.g.d)).toNat = _
    rw [hab]; rfl
  · show V.bsl 17 0 1 (IntKind.wrap .i64 (L.g.a * L.g.d)).toNat = _
    rw [hab]; rfl
  · rw [hab]; rfl
  · show LLe (List.replicate (IntKind.wrap .i64 (L.g.a * L.g.d)).toNat [V.nils]).flatten _
    rw [hab]
    have e : (List.replicate (nBins L.g) [V.nils]).flatten = rowsB L.g.cls.length [] (nBins L.g - 0) := by simp [rowsB]
    rw [Int.toNat_natCast, e]; exact LLe.refl _
  rintro ⟨k, rbs⟩ st ⟨⟨hk, hlen, hnd⟩, rfl⟩
  simp only at hk hlen hnd
  have hlr : rbs.length = ((List.range k).map (cntRow L.g.cls.length [])).length := by simp [hlen]
  refine Tr.seqR rfl (by simp) (Tr.seqI rfl (fun h1 => ?_) (fun h1 => ?_))
  · have h1 : k < nBins L.g := by simpa using h1
    refine Tr.skipT (Tr.seq (Tr.block (Tr.seqR rfl (by simp) (Tr.reg ?_))))
    refine Steps.runN 6 rfl (by simp) (Steps.amkbox hA (N := L.g.cls.length) rfl (by simp) (by simp) (by omega) (by omega) (by omega) rfl fun b hb => ?_)
    rw [arn_keys hlr] at hb
    refine Steps.fin rfl (by simp [rowsB_len, hlen]; omega) (Tr.regR rfl (by simp) ?_)
    have ez : (List.replicate L.g.cls.length [I 0]).flatten = (cntRow L.g.cls.length [] k).map I := by
      have : cntRow L.g.cls.length [] k = List.replicate L.g.cls.length 0 := by
        refine List.ext_getElem (by simp [cntRow]) fun i h1 h2 => by simp [cntRow]
      rw [this]; simp
    have eA : arn (rbs ++ [b]) ((List.range (k + 1)).map (cntRow L.g.cls.length [])) = arn rbs ((List.range k).map (cntRow L.g.cls.length [])) ++ [(b, .cells ((cntRow L.g.cls.length [] k).map I))] := by
      rw [List.range_succ, List.map_append]; exact arn_snoc _ _ hlr
    have hnd2 : (rbs ++ [b]).Nodup := by
      rw [List.nodup_append]
      exact ⟨hnd, by simp, fun x hx y hy e => by rw [List.mem_singleton.1 hy] at e; exact hb (e ▸ hx)⟩
    refine ⟨(k + 1, rbs ++ [b]), _, Wk.trans (Wk.leL (env := [(1, .func (.func f) [.agg (laidC L)] []), (2, .ptr 2 0), (5, .bsl 17 0 1 (nBins L.g)), (18, .bsl 17 0 1 (nBins L.g)), (19, I (nBins L.g : Nat)), (20, I ((k + 1 : Nat) : Int))]) (bx := [(17, ⟨rowsB L.g.cls.length (rbs ++ [b]) (nBins L.g - (k + 1)), false⟩), (2, ⟨laidC L, false⟩)]) (rw := [])
        (.cons rfl (.refl _) (.cons rfl (.refl _) (.cons rfl (.refl _) (.cons rfl (.refl _) (.cons rfl (.refl _) (.cons rfl (VLe.i (w64 (by omega) (by omega))) .nil)))))) (.cons rfl ?_ (.cons rfl (LLe.refl _) .nil)) .nil (okRows rfl) rfl rfl) (Wk.keep hA (B := arn (rbs ++ [b]) ((List.range (k + 1)).map (cntRow L.g.cls.length []))) rfl ?_ ?_), ⟨⟨by simp only; omega, by simp [hlen], hnd2⟩, rfl⟩, by simp only; omega⟩
    · have e1 : nBins L.g - k = (nBins L.g - (k + 1)) + 1 := by omega
      have e2 : (0 : Nat) + ((k : Nat) : Int).toNat * 1 = rbs.length := by simp [hlen]
      show LLe (splice (rowsB L.g.cls.length rbs (nBins L.g - k)) (0 + ((k : Nat) : Int).toNat * 1) [.sref b 0 L.g.cls.length L.g.cls.length]) _
      rw [e1, e2, splice_set (by rw [rowsB_len]; omega), rowsB_set]; exact LLe.refl _
    · intro p hp
      rw [eA] at hp
      rcases List.mem_append.1 hp with hp | hp
      · exact List.mem_cons_of_mem _ hp
      · rw [List.mem_singleton.1 hp, ez]; exact List.mem_cons_self
    · rw [arn_keys (by simp [hlen])]; exact hnd2
  have h1 : k = nBins L.g := by simp at h1; omega
  subst h1
  clear hlr
  refine Tr.exit ?_
  refine Tr.weak (s' := { env := [(1, .func (.func f) [.agg (laidC L)] []), (2, .ptr 2 0), (5, .bsl 17 0 1 rbs.length)], bx := [(17, ⟨rowsB L.g.cls.length rbs 0, false⟩), (2, ⟨laidC L, false⟩)], rw := [], log := encA (arn rbs (countL L.g (allH h 0))), stp := false })
    (Wk.leL (.cons rfl (.refl _) (.cons rfl (.refl _) (.cons rfl (.of_eq (by rw [hlen])) .nil))) (.cons rfl (by rw [Nat.sub_self]; exact LLe.refl _) (.cons rfl (LLe.refl _) .nil)) .nil (okRows rfl) rfl rfl) ?_
  refine Tr.weak (Wk.bsl (t := 5) rfl rfl (rowsB_holds _ _)) ?_
  refine Tr.seq (Tr.seqR rfl (by simp) (Tr.block ?_))
  refine Tr.loop (fun (k : Nat) st => k ≤ L.traces.length ∧ st = { env := [(1, .func (.func f) [.agg (laidC L)] []), (2, .ptr 2 0), (5, .slice 0 1 (rbs.map fun b => V.sref b 0 L.g.cls.length L.g.cls.length)), (33, sB L.traces), (34, I (L.traces.length : Nat)), (35, I (k : Nat))], bx := [(2, ⟨laidC L, false⟩)], rw := [], log := encA (arn rbs (countL L.g (allH h k))), stp := false }) (fun k => L.traces.length - k) 0
    (Wk.leL (.cons rfl (.refl _) (.cons rfl (.refl _) (.cons rfl (.refl _) (.cons rfl (.refl _) (.cons rfl (VLe.i (by simp)) (.cons rfl (.refl _) .nil)))))) (.cons rfl (LLe.refl _) .nil) .nil rfl rfl rfl) ⟨by omega, rfl⟩ ?_
  rintro k st ⟨hk, rfl⟩
  refine Tr.seqR rfl (by simp) (Tr.seqI rfl (fun h1 => ?_) (fun h1 => ?_))
  · have h1 : k < L.traces.length := by simpa using h1
    have hb := count_bd hL.t (fun t ht => (hr t ht).1) k hk
    have hr1 := hr k h1
    have hLt := hL.t
    refine Tr.skipT (Tr.seq (Tr.block (Tr.seqR rfl (by simp) (Tr.seqC rfl (by simp) (Steps.callv rfl rfl (hf k h1) (Steps.fin rfl (by simp) (Tr.block ?_)))))))
    refine Tr.loop (fun (j : Nat) st => j ≤ (h k).length ∧ st = { env := [(1, .func (.func f) [.agg (laidC L)] []), (2, .ptr 2 0), (5, .slice 0 1 (rbs.map fun b => V.sref b 0 L.g.cls.length L.g.cls.length)), (33, sB L.traces), (34, I (L.traces.length : Nat)), (35, I (k : Nat)), (40, sB (h k)), (41, I ((h k).length : Nat)), (42, I (j : Nat))], bx := [(2, ⟨laidC L, false⟩)], rw := [], log := encA (arn rbs (countL L.g (allH h k ++ (h k).take j))), stp := false }) (fun j => (h k).length - j) 0
      (Wk.leL (.cons rfl (.refl _) (.cons rfl (.refl _) (.cons rfl (.refl _) (.cons rfl (.refl _) (.cons rfl (.refl _) (.cons rfl (.refl _) (.cons rfl (.refl _) (.cons rfl (VLe.i (by simp)) (.cons rfl (.refl _) .nil))))))))) (.cons rfl (LLe.refl _) .nil) .nil rfl rfl (by show encA (arn rbs (countL L.g (allH h k))) = _; rw [List.take_zero, List.append_nil])) ⟨by omega, rfl⟩ ?_
    rintro j st ⟨hj, rfl⟩
    refine Tr.seqR rfl (by simp) (Tr.seqI rfl (fun h2 => ?_) (fun h2 => ?_))
    · have h2 : j < (h k).length := by simpa using h2
      refine Tr.skipT (Tr.seq (Tr.block (Tr.seq (Tr.reg (Steps.runN 1 rfl (by simp; omega) ?_)))))
      rw [getD_map h2]
      refine Steps.fin rfl (by simp) ?_
      refine Tr.seq (Tr.reg (Steps.runN 1 rfl (by simp) (Steps.gload (g := 0) (cs := [I (-1), I (-1)]) (by simp [globalsV]) rfl (by simp) (Steps.fin rfl (by simp) ?_))))
      have hmem := List.getElem_mem h2
      have eT : (h k).take (j + 1) = (h k).take j ++ [(h k)[j]] := by rw [List.take_add_one, List.getElem?_eq_getElem h2]; rfl
      obtain ⟨c, hc⟩ : ∃ c, (h k)[j] = c := ⟨_, rfl⟩
      rw [hc] at hmem eT ⊢
      rcases hr1.2 c hmem with rfl | hin
      · refine Tr.condF rfl (Tr.skip (Tr.regR rfl (by simp) ?_))
        exact ⟨j + 1, _, Wk.leL (.cons rfl (.refl _) (.cons rfl (.refl _) (.cons rfl (.refl _) (.cons rfl (.refl _) (.cons rfl (.refl _) (.cons rfl (.refl _) (.cons rfl (.refl _) (.cons rfl (.refl _) (.cons rfl (VLe.i (w64 (by omega) (by omega))) .nil))))))))) (.cons rfl (LLe.refl _) .nil) .nil rfl rfl (by rw [eT, ← List.append_assoc, countL_none]; rfl), ⟨by omega, rfl⟩, by omega⟩
      · obtain ⟨b, q, rfl, hbb, hq⟩ := inG_nat hL.g hin
        have hbl : b < rbs.length := by omega
        obtain ⟨P, hP⟩ : ∃ P, allH h k ++ (h k).take j = P := ⟨_, rfl⟩
        have hPl : P.length ≤ 300000 := by
          have h3 : ((h k).take j).length ≤ 4096 := by simp; omega
          rw [← hP, List.length_append]; omega
        obtain ⟨n0, hn0⟩ : ∃ n0, P.count ((b : Int), (q : Int)) = n0 := ⟨_, rfl⟩
        have hn1 : n0 ≤ 300000 := by rw [← hn0]; exact Nat.le_trans List.count_le_length hPl
        have hcl2 := countL_len L.g P
        have hrow := countL_get (P := P) hbb
        have hcell : ((cntRow L.g.cls.length P b).map I)[q]? = some (I n0) := by rw [List.getElem?_map, cntRow_get hq, hn0]; rfl
        have hrb : rbs[b]? = some rbs[b] := List.getElem?_eq_getElem hbl
        have hmA := arn_mem (rbs := rbs) hrb hrow
        rw [hP]
        refine Tr.condT rfl ?_
        refine Tr.drawK (TraceK.runN 4 rfl (by simp; omega) ?_)
        rw [getD_map hbl]
        refine TraceK.runN 3 rfl (by simp) (.done ⟨by kernel_rfl, by kernel_rfl, ?_⟩)
        refine Steps.sidx (blk := rbs[b]) (off := 0) (j := q) rfl rfl hq ?_
        refine Steps.aload hA (v := I n0) rfl rfl hmA (by simpa using hcell) (Steps.runN 1 rfl (by simp) ?_)
        refine Steps.sidx (blk := rbs[b]) (off := 0) (j := q) rfl rfl hq ?_
        refine Steps.astore hA rfl rfl hmA (by simp [cntRow_len]; omega) rfl rfl (Steps.fin rfl (by simp) ?_)
        have eL : setA (arn rbs (countL L.g P)) rbs[b] (.cells (((cntRow L.g.cls.length P b).map I).set (0 + q * 1) (I (IntKind.wrap .i64 ((n0 : Int) + 1))))) = arn rbs (countL L.g (P ++ [((b : Int), (q : Int))])) := by
          rw [countL_on hbb hq, hn0, w64 (by omega) (by omega), ← arn_set _ hnd (by rw [hcl2, hlen]) hrb, List.map_set, Nat.zero_add, Nat.mul_one]
        refine Tr.regR rfl (by simp) ?_
        exact ⟨j + 1, _, Wk.leL (.cons rfl (.refl _) (.cons rfl (.refl _) (.cons rfl (.refl _) (.cons rfl (.refl _) (.cons rfl (.refl _) (.cons rfl (.refl _) (.cons rfl (.refl _) (.cons rfl (.refl _) (.cons rfl (VLe.i (w64 (by omega) (by omega))) .nil))))))))) (.cons rfl (LLe.refl _) .nil) .nil rfl rfl (by rw [eT, ← List.append_assoc, hP, ← eL]; rfl), ⟨by omega, rfl⟩, by omega⟩
    · have h2 : j = (h k).length := by simp at h2; omega
      subst h2
      refine Tr.exit (Tr.regR rfl (by simp) ?_)
      exact ⟨k + 1, _, Wk.leL (.cons rfl (.refl _) (.cons rfl (.refl _) (.cons rfl (.refl _) (.cons rfl (.refl _) (.cons rfl (.refl _) (.cons rfl (VLe.i (w64 (by omega) (by omega))) .nil)))))) (.cons rfl (LLe.refl _) .nil) .nil rfl rfl (by rw [allH_succ, List.take_length]; rfl), ⟨by omega, rfl⟩, by omega⟩
  · have h1 : k = L.traces.length := by simp at h1; omega
    subst h1
    refine Tr.exit (Tr.seqR rfl (by simp) ?_)
    obtain ⟨s', w1, g1, g2, g3, g4⟩ := closeRows hA (t := 4) (m := L.g.cls.length) rbs (countL L.g (allH h L.traces.length)) [] { env := [(4, .slice 0 1 (srefs L.g.cls.length rbs))], bx := [], rw := [], log := encA (arn rbs (countL L.g (allH h L.traces.length))), stp := false } hnd (by rw [countL_len, hlen])
      (fun r hr => by obtain ⟨b, _, rfl⟩ := List.mem_map.1 hr; exact cntRow_len _ _ _) (by simp) rfl rfl
    have w2 := Wk.leL (E := (env0 Tryz.prog mixed 63 S ok).withA [] false) (s := s') (env := [(4, foldV (cntN L h))]) (bx := []) (rw := []) (.cons g1 (.of_eq rfl) .nil) .nil .nil rfl rfl g2
    refine Tr.weak (s' := { env := [(4, .slice 0 1 (srefs L.g.cls.length rbs))], bx := [], rw := [], log := encA (arn rbs (countL L.g (allH h L.traces.length))), stp := false }) (Wk.le (.cons rfl (.refl _) .nil) .nil .nil rfl rfl) ?_
    refine Tr.weak (w1.trans w2) ?_
    exact Tr.ret ⟨trivial, _, _, _, resVs_ok rfl, rfl, rfl⟩

end Go.Proofs.YtdejdblopmfjfaaGreatDoor


/-! Contracts: Hits, Fold. -/
set_option linter.unusedVariables false
set_option linter.unusedSimpArgs false
set_option maxRecDepth 40000
set_option maxHeartbeats 4000000
namespace Go.Proofs.YtdejdblopmfjfaaGreatDoor
open Go.Am
attribute [local simp] cells scalar mkv splice under2 under dem dem1 eB gridC sB laidC fourC eF layC
theorem mem_ptsN {x : Int} {q : Int × Int} : ∀ (n : Nat) (y : Int), q ∈ ptsN x n y ↔ q.1 = x ∧ y ≤ q.2 ∧ q.2 < y + n
  | 0, y => by simp [ptsN]
  | n + 1, y => by
    rw [ptsN, List.mem_cons, mem_ptsN n (y + 1)]
    constructor
    · rintro (rfl | ⟨h1, h2, h3⟩)
      · simp; omega
      · refine ⟨h1, ?_, ?_⟩ <;> push_cast <;> omega
    · rintro ⟨h1, h2, h3⟩
      push_cast at h3
      by_cases h : q.2 = y
      · exact .inl (Prod.ext h1 h)
      · exact .inr ⟨h1, by omega, by omega⟩

theorem mem_rowsN {f : Fr} {q : Int × Int} : ∀ (n : Nat) (x : Int), q ∈ (rowsN f n x).flatMap colP ↔ (x ≤ q.1 ∧ q.1 < x + n) ∧ lowY f q.1 ≤ q.2 ∧ q.2 ≤ highY f q.1
  | 0, x => by simp [rowsN]; omega
  | n + 1, x => by
    rw [rowsN_flat, List.mem_append, mem_rowsN n (x + 1)]
    unfold colAt
    rw [mem_ptsN]
    constructor
    · rintro (⟨h1, h2, h3⟩ | ⟨⟨h1, h2⟩, h3⟩)
      · subst h1
        refine ⟨⟨by omega, by push_cast; omega⟩, by omega, by omega⟩
      · exact ⟨⟨by omega, by push_cast; omega⟩, h3⟩
    · rintro ⟨⟨h1, h2⟩, h3, h4⟩
      push_cast at h2
      by_cases h : q.1 = x
      · subst h; exact .inl ⟨rfl, by omega, by omega⟩
      · exact .inr ⟨⟨by omega, by omega⟩, h3, h4⟩

theorem mem_placesL {f : Fr} {q : Int × Int} : q ∈ placesL f ↔ (f.x.1 ≤ q.1 ∧ q.1 ≤ f.x.2) ∧ lowY f q.1 ≤ q.2 ∧ q.2 ≤ highY f q.1 := by
  unfold placesL rowsL
  rw [mem_rowsN]
  constructor
  · rintro ⟨⟨h1, h2⟩, h3⟩; exact ⟨⟨h1, by omega⟩, h3⟩
  · rintro ⟨⟨h1, h2⟩, h3⟩; exact ⟨⟨h1, by omega⟩, h3⟩

theorem node_plane {f : Fr} (h : nodeOk f = true) {q : Int × Int} (hq : q ∈ placesL f) : planeB q = true := by
  simp only [nodeOk, Bool.and_eq_true, fitFB, fitBB, decide_eq_true_eq] at h
  have := mem_placesL.1 hq
  simp only [planeB, Bool.and_eq_true, btw_iff]
  unfold lowY highY at this
  omega

theorem lay_ok {g : Gd} {s : Ly} (hg : gridOk g = true) (hs : layOk s = true) : LdOk (layD g s) := by
  obtain ⟨⟨h1, h2⟩, h3, h4⟩ := layOk_spec hs
  refine ⟨hg, by simpa [layD] using h1, h2, fun l hl => ?_, fun t ht => ?_⟩
  · obtain ⟨f, hf, rfl⟩ := List.mem_map.1 hl
    have hn := h3 f hf
    have hn2 := hn
    simp only [nodeOk, Bool.and_eq_true, btw_iff] at hn2
    have := count_len (mid_of hn2.1)
    exact ⟨⟨by omega, by omega⟩, fun q hq => node_plane hn hq⟩
  · have := h4 t ht
    simp only [traceOk, Bool.and_eq_true, btw_iff] at this
    refine ⟨t.1.toNat, t.2.toNat, Prod.ext (by simp; omega) (by simp; omega), ?_, ?_⟩ <;> simp [layD] <;> omega

theorem hits_in {L : Ld} (hL : LdOk L) {t : Nat} (ht : t < L.traces.length) : (hitsT L t).length ≤ 4096 ∧ ∀ c ∈ hitsT L t, c = noneC ∨ inG L.g c := by
  obtain ⟨i, j, hij, hi, hj⟩ := hL.tr _ (List.getElem_mem ht)
  have hT : hitsT L t = hitsL L.g L.places[i] L.places[j] := by
    unfold hitsT pl
    have e : L.traces.getD t (0, 0) = ((i : Int), (j : Int)) := by simp [ht, hij]
    rw [e]
    simp [hi, hj]
  have hpi := (hL.p _ (List.getElem_mem hi)).1
  have hpj := (hL.p _ (List.getElem_mem hj)).1
  rw [hT]
  refine ⟨?_, fun c hc => ?_⟩
  · have n1 : (hitsL L.g L.places[i] L.places[j]).Nodup := by
      unfold List.Nodup hitsL
      exact (hitsOf_sorted _).imp fun {a b} h (e : a = b) => befC_irrefl (by rw [e] at h; exact h)
    have := n1.length_le_of_subset (l₂ := (pairsL L.places[i] L.places[j]).map (cellP L.g)) fun x hx => mem_hitsOf.1 hx
    rw [List.length_map, pairs_len] at this
    have h2 : L.places[i].length * L.places[j].length ≤ 64 * 64 := Nat.mul_le_mul (by omega) (by omega)
    omega
  · obtain ⟨p, _, rfl⟩ := List.mem_map.1 (mem_hitsOf.1 hc)
    exact cell_in hL.g p.1 p.2

theorem sureL_sub {l : List (Int × Int)} : (∀ c ∈ sureL l, c ∈ l ∧ c ≠ noneC) ∧ (sureL l).length ≤ l.length ∧ (sureL l).length ≤ 1 := by
  rcases l with _ | ⟨c, _ | ⟨d, r⟩⟩
  · simp [sureL]
  · simp only [sureL]
    split <;> simp_all
  · simp [sureL]

theorem sure_in {L : Ld} (hL : LdOk L) {t : Nat} (ht : t < L.traces.length) : (sureT L t).length ≤ 4096 ∧ ∀ c ∈ sureT L t, c = noneC ∨ inG L.g c := by
  obtain ⟨h1, h2⟩ := hits_in hL ht
  have h3 := sureL_sub (l := hitsT L t)
  exact ⟨by unfold sureT; omega, fun c hc => h2 c (h3.1 c hc).1⟩

theorem c_countS {L : Ld} (hL : LdOk L) : C Tryz.prog F.bin_laid_count [.agg (laidC L), .func (.func F.bin_laid_surely) [.agg (laidC L)] []] (foldV (cntN L (sureT L))) :=
  c_count hL (fun t ht => c_surely hL ht) fun t ht => sure_in hL ht
theorem c_countM {L : Ld} (hL : LdOk L) : C Tryz.prog F.bin_laid_count [.agg (laidC L), .func (.func F.bin_laid_hits) [.agg (laidC L)] []] (foldV (cntN L (hitsT L))) :=
  c_count hL (fun t ht => c_hits hL ht) fun t ht => hits_in hL ht

/-! ### Hits -/
def HitsR (g : Gd) (s : Ly) (t : Int) : V := if gridOk g then (if layOk s then (if btw t 0 ((s.traces.length : Int) - 1) then .tuple [sB (hitsT (layD g s) t.toNat), I 0] else .tuple [sB [], I 72]) else .tuple [sB [], I 71]) else .tuple [sB [], I 70]

theorem c_Hits {g : Gd} {s : Ly} (hl : g.cls.length ≤ 9223372036854775807) (hn : s.nodes.length ≤ 9223372036854775807) (ht : s.traces.length ≤ 9223372036854775807) (t : Int) : C Tryz.prog F.bin_Hits [.agg (gridC g), .agg (layC s), I t] (HitsR g s t) := by
  have kb := c_begun hl hn ht
  unfold HitsR
  refine C_of mixed chk.bin_Hits (by simp) fun S ok => ?_
  refine Tr.seqR rfl (by simp) ?_
  by_cases hg : gridOk g = true
  rotate_left
  · rw [if_neg hg] at kb ⊢
    refine Tr.seqC rfl (by simp) (Steps.call rfl rfl kb (Steps.fin rfl (by simp) (Tr.seq (Tr.seqR rfl (by simp) (Tr.condT rfl (Tr.seqR rfl (by simp) ?_))))))
    refine Tr.weak (s' := { env := [(6, .slice 0 2 []), (7, I 70)], bx := [], rw := [], log := [], stp := false }) (Wk.le (.cons rfl (.nil 0 2) (.cons rfl (.refl _) .nil)) .nil .nil rfl rfl) ?_
    exact Tr.retX rfl rfl rfl rfl trivial
  rw [if_pos hg] at kb ⊢
  by_cases hs : layOk s = true
  rotate_left
  · rw [if_neg hs] at kb ⊢
    refine Tr.seqC rfl (by simp) (Steps.call rfl rfl kb (Steps.fin rfl (by simp) (Tr.seq (Tr.seqR rfl (by simp) (Tr.condT rfl (Tr.seqR rfl (by simp) ?_))))))
    refine Tr.weak (s' := { env := [(6, .slice 0 2 []), (7, I 71)], bx := [], rw := [], log := [], stp := false }) (Wk.le (.cons rfl (.nil 0 2) (.cons rfl (.refl _) .nil)) .nil .nil rfl rfl) ?_
    exact Tr.retX rfl rfl rfl rfl trivial
  rw [if_pos hs] at kb ⊢
  have hL := lay_ok hg hs
  have hts := (layOk_spec hs).1.2
  have hw : IntKind.wrap .i64 (((s.traces.map eB).length : Int) - 1) = (s.traces.length : Int) - 1 := by rw [List.length_map, w64 (by omega) (by omega)]
  refine Tr.seqC rfl (by simp) (Steps.call rfl rfl kb (Steps.fin rfl (by simp [laidC]) (Tr.seq (Tr.seqR rfl (by simp) (Tr.condF rfl (Tr.skip ?_))))))
  refine Tr.seq (Tr.seqC rfl (by simp) (Steps.call rfl rfl (c_within t 0 (IntKind.wrap .i64 (((s.traces.map eB).length : Int) - 1))) (Steps.fin rfl (by simp) ?_)))
  rw [hw]
  refine Tr.cond rfl rfl (fun h1 => Tr.seqR rfl (by simp) ?_) (fun h1 => Tr.skip ?_)
  · have h1 : btw t 0 ((s.traces.length : Int) - 1) = false := by simpa using h1
    refine Tr.weak (s' := { env := [(6, .slice 0 2 []), (7, I 72)], bx := [], rw := [], log := [], stp := false }) (Wk.le (.cons rfl (.nil 0 2) (.cons rfl (.refl _) .nil)) .nil .nil rfl rfl) ?_
    refine Tr.retX rfl rfl rfl ?_ trivial
    rw [h1]; rfl
  · have h1 : btw t 0 ((s.traces.length : Int) - 1) = true := by simpa using h1
    have h1' := h1
    rw [btw_iff] at h1'
    obtain ⟨n, rfl⟩ : ∃ n : Nat, t = n := ⟨t.toNat, by omega⟩
    refine Tr.seqC rfl (by simp [laidC, layD]) (Steps.call rfl rfl (c_hits hL (t := n) (by show n < s.traces.length; omega)) (Steps.fin rfl (by simp) (Tr.retX rfl rfl rfl ?_ trivial)))
    rw [h1]; rfl

/-! ### Fold -/
def FoldR (g : Gd) (s : Ly) : V := if gridOk g then (if layOk s then .tuple [foldV (cntN (layD g s) (sureT (layD g s))), foldV (cntN (layD g s) (hitsT (layD g s))), I 0] else .tuple [foldV [], foldV [], I 71]) else .tuple [foldV [], foldV [], I 70]

theorem c_Fold {g : Gd} {s : Ly} (hl : g.cls.length ≤ 9223372036854775807) (hn : s.nodes.length ≤ 9223372036854775807) (ht : s.traces.length ≤ 9223372036854775807) : C Tryz.prog F.bin_Fold [.agg (gridC g), .agg (layC s)] (FoldR g s) := by
  have kb := c_begun hl hn ht
  unfold FoldR
  refine C_of mixed chk.bin_Fold (by simp) fun S ok => ?_
  refine Tr.seqR rfl (by simp) ?_
  by_cases hg : gridOk g = true
  rotate_left
  · rw [if_neg hg] at kb ⊢
    refine Tr.seqC rfl (by simp) (Steps.call rfl rfl kb (Steps.fin rfl (by simp) (Tr.seq (Tr.seqR rfl (by simp) (Tr.condT rfl (Tr.seqR rfl (by simp) ?_))))))
    refine Tr.weak (s' := { env := [(4, .slice 0 1 []), (5, .slice 0 1 []), (6, I 70)], bx := [], rw := [], log := [], stp := false }) (Wk.le (.cons rfl (.nil 0 1) (.cons rfl (.nil 0 1) (.cons rfl (.refl _) .nil))) .nil .nil rfl rfl) ?_
    exact Tr.retX rfl rfl rfl rfl trivial
  rw [if_pos hg] at kb ⊢
  by_cases hs : layOk s = true
  rotate_left
  · rw [if_neg hs] at kb ⊢
    refine Tr.seqC rfl (by simp) (Steps.call rfl rfl kb (Steps.fin rfl (by simp) (Tr.seq (Tr.seqR rfl (by simp) (Tr.condT rfl (Tr.seqR rfl (by simp) ?_))))))
    refine Tr.weak (s' := { env := [(4, .slice 0 1 []), (5, .slice 0 1 []), (6, I 71)], bx := [], rw := [], log := [], stp := false }) (Wk.le (.cons rfl (.nil 0 1) (.cons rfl (.nil 0 1) (.cons rfl (.refl _) .nil))) .nil .nil rfl rfl) ?_
    exact Tr.retX rfl rfl rfl rfl trivial
  rw [if_pos hs] at kb ⊢
  have hL := lay_ok hg hs
  refine Tr.seqC rfl (by simp) (Steps.call rfl rfl kb (Steps.fin rfl (by simp [laidC]) (Tr.seq (Tr.seqR rfl (by simp) (Tr.condF rfl (Tr.skip ?_))))))
  refine Tr.seqD rfl (by simp [laidC, layD]) (by kernel_rfl) ?_
  refine Tr.seq (Tr.drawK (TraceK.run rfl (by simp [laidC, layD]) (TraceK.call rfl rfl (c_countS hL) (TraceK.run rfl (by simp [laidC, layD]) (TraceK.call rfl rfl (c_countM hL) (TraceK.run rfl (by simp) (.done ⟨by kernel_rfl, by kernel_rfl, ?_⟩)))))))
  exact Tr.retX rfl rfl rfl rfl trivial

end Go.Proofs.YtdejdblopmfjfaaGreatDoor


/-! Contracts: lacks, Lacks. -/
set_option linter.unusedVariables false
set_option linter.unusedSimpArgs false
set_option maxRecDepth 40000
set_option maxHeartbeats 4000000
namespace Go.Proofs.YtdejdblopmfjfaaGreatDoor
open Go.Am
attribute [local simp] cells scalar mkv splice under2 under dem dem1 eB gridC sB laidC fourC eF layC
def eL (x : Int × Int × Int) : V := .agg [I x.1, I x.2.1, I x.2.2]
attribute [local simp] eL
def lackAt (ns : List Int) (f : List (List Int)) (i k : Nat) : List (Int × Int × Int) := if at2 f i k < ns.getD k 0 then [((i : Int), (k : Int), ns.getD k 0 - at2 f i k)] else []
def lackRow (ns : List Int) (f : List (List Int)) (i j : Nat) : List (Int × Int × Int) := (List.range j).flatMap (lackAt ns f i)
def lackN (ns : List Int) (f : List (List Int)) (k : Nat) : List (Int × Int × Int) := (List.range k).flatMap fun i => lackRow ns f i ns.length
def lacksL (L : Ld) (ns : List Int) : List (Int × Int × Int) := lackN ns (cntN L (sureT L)) (cntN L (sureT L)).length
def sL (l : List (Int × Int × Int)) : V := .slice 0 3 (l.map eL)
attribute [local simp] sL
theorem lackRow_succ (ns : List Int) (f : List (List Int)) (i j : Nat) : lackRow ns f i (j + 1) = lackRow ns f i j ++ lackAt ns f i j := by
  unfold lackRow; rw [List.range_succ, List.flatMap_append]; simp
theorem lackN_succ (ns : List Int) (f : List (List Int)) (k : Nat) : lackN ns f (k + 1) = lackN ns f k ++ lackRow ns f k ns.length := by
  unfold lackN; rw [List.range_succ, List.flatMap_append]; simp
theorem lackRow_len (ns : List Int) (f : List (List Int)) (i : Nat) : ∀ j, (lackRow ns f i j).length ≤ j
  | 0 => by simp [lackRow]
  | j + 1 => by
    have := lackRow_len ns f i j
    have h2 : (lackAt ns f i j).length ≤ 1 := by unfold lackAt; split <;> simp
    rw [lackRow_succ, List.length_append]; omega
theorem lackN_len (ns : List Int) (f : List (List Int)) : ∀ k, (lackN ns f k).length ≤ k * ns.length
  | 0 => by simp [lackN]
  | k + 1 => by
    have := lackN_len ns f k
    have h2 := lackRow_len ns f k ns.length
    rw [lackN_succ, List.length_append, Nat.add_mul]; omega

theorem at2_get {f : List (List Int)} {i k : Nat} (h : i < f.length) (h2 : k < f[i].length) : at2 f i k = f[i][k] := by
  unfold at2; simp [h, h2]
theorem cntN_nat (L : Ld) (h : Nat → List (Int × Int)) (i k : Nat) : ∃ n : Nat, at2 (cntN L h) i k = n := by
  unfold at2 cntN
  simp only [List.getD_eq_getElem?_getD]
  by_cases hi : i < nBins L.g
  · rw [countL_get hi, Option.getD_some]
    by_cases hk : k < L.g.cls.length
    · rw [cntRow_get hk]; exact ⟨_, rfl⟩
    · rw [List.getElem?_eq_none (by rw [cntRow_len]; omega)]; exact ⟨0, rfl⟩
  · rw [List.getElem?_eq_none (l := countL L.g (allH h L.traces.length)) (by rw [countL_len]; omega)]; exact ⟨0, rfl⟩
theorem cntN_len (L : Ld) (h : Nat → List (Int × Int)) : (cntN L h).length = nBins L.g := countL_len _ _
theorem cntN_row {L : Ld} {h : Nat → List (Int × Int)} {i : Nat} (hi : i < (cntN L h).length) : ((cntN L h)[i]).length = L.g.cls.length := by
  have h1 : i < nBins L.g := by rw [cntN_len] at hi; exact hi
  have h2 : (cntN L h)[i]? = some (cntRow L.g.cls.length (allH h L.traces.length) i) := countL_get h1
  rw [List.getElem?_eq_getElem hi] at h2
  rw [Option.some.inj h2, cntRow_len]

theorem needOk_spec {g : Gd} {ns : List Int} (h : needOk g ns = true) : ns.length = g.cls.length ∧ ∀ n ∈ ns, 0 ≤ n ∧ n ≤ 100 := by
  simp only [needOk, Bool.and_eq_true, decide_eq_true_eq, Bool.not_eq_true', List.any_eq_false, Bool.not_eq_true, Bool.not_eq_false', btw_iff] at h
  exact ⟨h.1, fun n hn => by have := h.2 n hn; simpa [btw_iff] using this⟩

theorem c_lacks {L : Ld} (hL : LdOk L) {ns : List Int} (hn : needOk L.g ns = true) : C Tryz.prog F.bin_laid_lacks [.agg (laidC L), intsV ns] (sL (lacksL L ns)) := by
  obtain ⟨hnl, hnb⟩ := needOk_spec hn
  obtain ⟨_, hsz, hga, hgd, hcl, _⟩ := gridOk_spec hL.g
  have nb := nBins_eq hL.g
  have kc := c_countS hL
  have hat := cntN_nat L (sureT L)
  have hfl := cntN_len L (sureT L)
  have hfr := fun i hi => cntN_row (L := L) (h := sureT L) (i := i) hi
  unfold lacksL
  generalize cntN L (sureT L) = f at kc hat hfl hfr ⊢
  refine C_of mixed chk.bin_laid_lacks (by simp) fun S ok => ?_
  refine Tr.seqR rfl (by simp [laidC]) (Tr.seqR rfl (by simp) ?_)
  refine Tr.seq (Tr.seqC rfl (by simp [laidC]) (Steps.call rfl rfl kc (Steps.fin rfl (by simp [foldV]) (Tr.block ?_))))
  refine Tr.loop (α := Nat × List (Int × Int × Int)) (fun p st => (p.1 ≤ f.length ∧ p.2 = lackN ns f p.1) ∧ st = { env := [(1, intsV ns), (5, .slice 45 3 (p.2.map eL)), (13, foldV f), (14, I (f.length : Nat)), (15, I (p.1 : Nat))], bx := [], rw := [(44, p.2.length, 3, 117)], log := [], stp := false }) (fun p => f.length - p.1) (0, [])
    (Wk.le (.cons rfl (.refl _) (.cons rfl (.nil 45 3) (.cons rfl (.refl _) (.cons rfl (VLe.i (by simp)) (.cons rfl (.refl _) .nil))))) .nil (.new rfl .nil) rfl rfl) ⟨⟨by omega, rfl⟩, rfl⟩ ?_
  rintro ⟨i, out⟩ st ⟨⟨hi, ho⟩, rfl⟩
  simp only at hi ho
  refine Tr.seqR rfl (by simp) (Tr.seqI rfl (fun h1 => ?_) (fun h1 => ?_))
  · have h1 : i < f.length := by simpa using h1
    have hri := hfr i h1
    refine Tr.skipT (Tr.seq (Tr.block (Tr.seq (Tr.reg (Steps.runN 2 rfl (by simp [foldV]; omega) ?_)))))
    rw [getD_map h1]
    refine Steps.fin rfl (by simp [intsV]) ?_
    refine Tr.seqR rfl (by simp [intsV]) (Tr.block ?_)
    refine Tr.loop (α := Nat × List (Int × Int × Int)) (fun p st => (p.1 ≤ f[i].length ∧ p.2 = lackN ns f i ++ lackRow ns f i p.1) ∧ st = { env := [(1, intsV ns), (5, .slice 45 3 (p.2.map eL)), (6, I (i : Nat)), (13, foldV f), (14, I (f.length : Nat)), (15, I (i : Nat)), (20, intsV f[i]), (21, I (f[i].length : Nat)), (22, I (p.1 : Nat))], bx := [], rw := [(44, p.2.length, 3, 117)], log := [], stp := false }) (fun p => f[i].length - p.1) (0, out)
      (Wk.le (.cons rfl (.refl _) (.cons rfl (.refl _) (.cons rfl (.refl _) (.cons rfl (.refl _) (.cons rfl (.refl _) (.cons rfl (.refl _) (.cons rfl (.refl _) (.cons rfl (VLe.i (by show ((f[i].map I).length : Int) = (f[i].length : Int); rw [List.length_map])) (.cons rfl (.refl _) .nil))))))))) .nil (.cons rfl .nil) rfl rfl) ⟨⟨by omega, by simp [lackRow, ho]⟩, rfl⟩ ?_
    rintro ⟨j, o2⟩ st ⟨⟨hj, ho2⟩, rfl⟩
    simp only at hj ho2
    refine Tr.seqR rfl (by simp) (Tr.seqI rfl (fun h2 => ?_) (fun h2 => ?_))
    · have h2 : j < f[i].length := by simpa using h2
      have h3 : j < ns.length := by omega
      have hlen : o2.length ≤ 2000 := by
        have e1 := lackN_len ns f i
        have e2 := lackRow_len ns f i j
        have e3 : i * ns.length ≤ 256 * 4 := Nat.mul_le_mul (by omega) (by omega)
        rw [ho2, List.length_append]; omega
      obtain ⟨m, hm⟩ := hat i j
      have hm2 := hm
      rw [at2_get h1 h2] at hm
      have hnj := hnb _ (List.getElem_mem h3)
      have hgd : ns.getD j 0 = ns[j] := by simp [h3]
      refine Tr.skipT (Tr.seq (Tr.block (Tr.seq (Tr.reg (Steps.runN 2 rfl (by simp [intsV]; omega) ?_)))))
      rw [getD_map h2, hm]
      refine Steps.fin rfl (by simp) ?_
      refine Tr.seq (Tr.reg (Steps.runN 4 rfl (by simp [intsV]; omega) ?_))
      rw [getD_map h3]
      refine Steps.fin rfl (by simp) (Tr.cond rfl rfl (fun h4 => ?_) (fun h4 => Tr.skip ?_))
      · have h4 : (m : Int) < ns[j] := by simpa using h4
        refine Tr.reg (Steps.runN 6 rfl (by simp [intsV]; omega) ?_)
        rw [getD_map h3]
        refine Steps.fin rfl (by simp; omega) (Tr.regR rfl (by simp) ?_)
        have eA : lackRow ns f i (j + 1) = lackRow ns f i j ++ [((i : Int), (j : Int), ns[j] - m)] := by
          rw [lackRow_succ]; unfold lackAt; rw [hm2, hgd, if_pos h4]
        have ew : IntKind.wrap .i64 (ns[j] - m) = ns[j] - m := w64 (by omega) (by omega)
        refine ⟨(j + 1, o2 ++ [((i : Int), (j : Int), ns[j] - m)]), _, Wk.le (.cons rfl (.refl _) (.cons rfl (.of_eq ?_) (.cons rfl (.refl _) (.cons rfl (.refl _) (.cons rfl (.refl _) (.cons rfl (.refl _) (.cons rfl (.refl _) (.cons rfl (.refl _) (.cons rfl (VLe.i (w64 (by omega) (by omega))) .nil))))))))) .nil (.cons ?_ .nil) rfl rfl, ⟨⟨by simp only; omega, by simp only; rw [eA, ho2, List.append_assoc]⟩, rfl⟩, by simp only; omega⟩
        · simp [ew]
        · show some _ = some _
          simp
      · have h4 : ¬ (m : Int) < ns[j] := by simpa using h4
        refine Tr.regR rfl (by simp) ?_
        have eA : lackRow ns f i (j + 1) = lackRow ns f i j := by
          rw [lackRow_succ]; unfold lackAt; rw [hm2, hgd, if_neg h4, List.append_nil]
        exact ⟨(j + 1, o2), _, Wk.le (.cons rfl (.refl _) (.cons rfl (.refl _) (.cons rfl (.refl _) (.cons rfl (.refl _) (.cons rfl (.refl _) (.cons rfl (.refl _) (.cons rfl (.refl _) (.cons rfl (.refl _) (.cons rfl (VLe.i (w64 (by omega) (by omega))) .nil))))))))) .nil (.cons rfl .nil) rfl rfl, ⟨⟨by simp only; omega, by simp only; rw [eA, ho2]⟩, rfl⟩, by simp only; omega⟩
    · have h2 : j = f[i].length := by simp at h2; omega
      refine Tr.exit (Tr.regR rfl (by simp) ?_)
      exact ⟨(i + 1, o2), _, Wk.le (.cons rfl (.refl _) (.cons rfl (.refl _) (.cons rfl (.refl _) (.cons rfl (.refl _) (.cons rfl (VLe.i (w64 (by omega) (by omega))) .nil))))) .nil (.cons rfl .nil) rfl rfl, ⟨⟨by simp only; omega, by simp only; rw [ho2, lackN_succ, h2, hri, hnl]⟩, rfl⟩, by simp only; omega⟩
  · have h1 : i = f.length := by simp at h1; omega
    refine Tr.exit (Tr.seqR rfl (by simp) (Tr.retX rfl rfl rfl ?_ trivial))
    rw [← h1, ← ho]; rfl

def LacksR (g : Gd) (s : Ly) (ns : List Int) : V := if gridOk g then (if layOk s then (if needOk g ns then .tuple [sL (lacksL (layD g s) ns), I 0] else .tuple [sL [], I 73]) else .tuple [sL [], I 71]) else .tuple [sL [], I 70]

theorem c_Lacks {g : Gd} {s : Ly} (hl : g.cls.length ≤ 9223372036854775807) (hn : s.nodes.length ≤ 9223372036854775807) (ht : s.traces.length ≤ 9223372036854775807) {ns : List Int} (hns : ns.length ≤ 9223372036854775807) : C Tryz.prog F.bin_Lacks [.agg (gridC g), .agg (layC s), intsV ns] (LacksR g s ns) := by
  have kb := c_begun hl hn ht
  unfold LacksR
  refine C_of mixed chk.bin_Lacks (by simp) fun S ok => ?_
  refine Tr.seqR rfl (by simp) ?_
  by_cases hg : gridOk g = true
  rotate_left
  · rw [if_neg hg] at kb ⊢
    refine Tr.seqC rfl (by simp) (Steps.call rfl rfl kb (Steps.fin rfl (by simp) (Tr.seq (Tr.seqR rfl (by simp) (Tr.condT rfl (Tr.seqR rfl (by simp) ?_))))))
    refine Tr.weak (s' := { env := [(6, .slice 0 3 []), (7, I 70)], bx := [], rw := [], log := [], stp := false }) (Wk.le (.cons rfl (.nil 0 3) (.cons rfl (.refl _) .nil)) .nil .nil rfl rfl) ?_
    exact Tr.retX rfl rfl rfl rfl trivial
  rw [if_pos hg] at kb ⊢
  by_cases hs : layOk s = true
  rotate_left
  · rw [if_neg hs] at kb ⊢
    refine Tr.seqC rfl (by simp) (Steps.call rfl rfl kb (Steps.fin rfl (by simp) (Tr.seq (Tr.seqR rfl (by simp) (Tr.condT rfl (Tr.seqR rfl (by simp) ?_))))))
    refine Tr.weak (s' := { env := [(6, .slice 0 3 []), (7, I 71)], bx := [], rw := [], log := [], stp := false }) (Wk.le (.cons rfl (.nil 0 3) (.cons rfl (.refl _) .nil)) .nil .nil rfl rfl) ?_
    exact Tr.retX rfl rfl rfl rfl trivial
  rw [if_pos hs] at kb ⊢
  have hL := lay_ok hg hs
  refine Tr.seqC rfl (by simp) (Steps.call rfl rfl kb (Steps.fin rfl (by simp [laidC]) (Tr.seq (Tr.seqR rfl (by simp) (Tr.condF rfl (Tr.skip ?_))))))
  refine Tr.seq (Tr.seqC rfl (by simp) (Steps.call rfl rfl (c_needed (g := g) hns) (Steps.fin rfl (by simp) ?_)))
  refine Tr.cond rfl rfl (fun h1 => Tr.seqR rfl (by simp) ?_) (fun h1 => Tr.skip ?_)
  · have h1 : needOk g ns = false := by simpa using h1
    refine Tr.weak (s' := { env := [(6, .slice 0 3 []), (7, I 73)], bx := [], rw := [], log := [], stp := false }) (Wk.le (.cons rfl (.nil 0 3) (.cons rfl (.refl _) .nil)) .nil .nil rfl rfl) ?_
    refine Tr.retX rfl rfl rfl ?_ trivial
    rw [h1]; rfl
  · have h1 : needOk g ns = true := by simpa using h1
    refine Tr.seqC rfl (by simp [laidC, layD]) (Steps.call rfl rfl (c_lacks hL h1) (Steps.fin rfl (by simp) (Tr.retX rfl rfl rfl ?_ trivial)))
    rw [h1]; rfl

end Go.Proofs.YtdejdblopmfjfaaGreatDoor


/-! Contracts: sure, Gain. -/
set_option linter.unusedVariables false
set_option linter.unusedSimpArgs false
set_option maxRecDepth 40000
set_option maxHeartbeats 4000000
namespace Go.Proofs.YtdejdblopmfjfaaGreatDoor
open Go.Am
attribute [local simp] cells scalar mkv splice under2 under dem dem1 eB gridC sB laidC fourC eF layC
def sureC (L : Ld) : Nat := (allH (sureT L) L.traces.length).length
def knownL (L : Ld) (i : Nat) (p : Int × Int) : Ld := { L with places := L.places.set i [p] }
def leastStep (acc n : Int) : Int := if acc < 0 ∨ n < acc then n else acc
def leastL (l : List Int) : Int := l.foldl leastStep (-1)
def gainL (L : Ld) (i : Nat) : Int := leastL ((pl L i).map fun p => (sureC (knownL L i p) : Int)) - sureC L

theorem sure_bd {L : Ld} (hn : L.traces.length ≤ 64) : ∀ k ≤ L.traces.length, (allH (sureT L) k).length ≤ k
  | 0, _ => by simp [allH]
  | k + 1, hk => by
    have := sure_bd hn k (by omega)
    have h2 := (sureL_sub (l := hitsT L k)).2.2
    rw [allH_succ, List.length_append]
    unfold sureT at *; omega

theorem c_sure {L : Ld} (hL : LdOk L) : C Tryz.prog F.bin_laid_sure [.agg (laidC L)] (I (sureC L : Nat)) := by
  have hLt := hL.t
  refine C_of mixed chk.bin_laid_sure (by simp) fun S ok => ?_
  refine Tr.seqR rfl (by simp) (Tr.seqR rfl (by simp) (Tr.seq (Tr.seqR rfl (by simp) (Tr.block ?_))))
  refine Tr.loop (fun (k : Nat) st => k ≤ L.traces.length ∧ st = { env := [(1, .ptr 1 0), (3, I ((allH (sureT L) k).length : Nat)), (6, sB L.traces), (7, I (L.traces.length : Nat)), (8, I (k : Nat))], bx := [(1, ⟨laidC L, false⟩)], rw := [], log := [], stp := false }) (fun k => L.traces.length - k) 0
    (Wk.le (.cons rfl (.refl _) (.cons rfl (.refl _) (.cons rfl (.refl _) (.cons rfl (VLe.i (by simp)) (.cons rfl (.refl _) .nil))))) (.cons rfl (LLe.refl _) .nil) .nil rfl rfl) ⟨by omega, rfl⟩ ?_
  rintro k st ⟨hk, rfl⟩
  refine Tr.seqR rfl (by simp) (Tr.seqI rfl (fun h1 => ?_) (fun h1 => ?_))
  · have h1 : k < L.traces.length := by simpa using h1
    have hb := sure_bd hLt k hk
    have hb2 : (sureT L k).length ≤ 1 := (sureL_sub (l := hitsT L k)).2.2
    refine Tr.skipT (Tr.seq (Tr.block (Tr.seqR rfl (by simp) (Tr.reg (Steps.run rfl (by simp [laidC]) (Steps.call rfl rfl (c_surely hL h1) (Steps.fin rfl (by simp) ?_)))))))
    refine Tr.regR rfl (by simp) ?_
    refine ⟨k + 1, _, Wk.le (.cons rfl (.refl _) (.cons rfl (VLe.i ?_) (.cons rfl (.refl _) (.cons rfl (.refl _) (.cons rfl (VLe.i (w64 (by omega) (by omega))) .nil))))) (.cons rfl (LLe.refl _) .nil) .nil rfl rfl, ⟨by omega, rfl⟩, by omega⟩
    show IntKind.wrap .i64 (((allH (sureT L) k).length : Int) + (((sureT L k).map eB).length : Int)) = _
    rw [List.length_map, allH_succ, List.length_append, w64 (by omega) (by omega)]
    push_cast; rfl
  · have h1 : k = L.traces.length := by simp at h1; omega
    subst h1
    exact Tr.exit (Tr.seqR rfl (by simp) (Tr.retX rfl rfl rfl rfl trivial))

theorem flat_sB : ∀ (ls : List (List (Int × Int))), (ls.map sB).flatMap cells = ls.map sB
  | [] => rfl
  | l :: ls => by rw [List.map_cons, List.flatMap_cons, flat_sB ls]; rfl

theorem c_CloneP {ls : List (List (Int × Int))} (hne : ls ≠ []) (hl : ls.length ≤ 2 ^ 24) : CO Tryz.prog F.slices_Clone_api_Point_api_Point [.slice 0 1 (ls.map sB)] 1 (ls.map sB) := by
  refine CO_of mixed chk.slices_Clone_api_Point_api_Point (by simp) fun S ok => ?_
  refine Tr.seqR rfl (by simp) (Tr.seq (Tr.seq (Tr.reg (Steps.runN 1 rfl (by simp) ?_))))
  refine Steps.nilS rfl fun b hb => ?_
  obtain rfl := hb (by simpa using hne)
  refine Steps.fin rfl (by simp) (Tr.condF rfl (Tr.skip (Tr.seq (Tr.reg ?_))))
  refine Steps.mkE rfl fun blk => Steps.runN 1 rfl (by simp) ?_
  refine Steps.appendE (r := 0) (sz := 1) (ys := ls.map sB) rfl rfl (by omega) (by simp; omega) (by simp; omega) (by simpa using hne) ?_
  refine Steps.fin rfl (by simp) (Tr.ret ?_)
  exact ⟨7, rfl, rfl, by rw [flat_sB, List.all_eq_true]; intro x hx; obtain ⟨_, _, rfl⟩ := List.mem_map.1 hx; rfl⟩

theorem known_ok {L : Ld} (hL : LdOk L) {i : Nat} {p : Int × Int} (hp : planeB p = true) : LdOk (knownL L i p) := by
  refine ⟨hL.g, by simpa [knownL] using hL.n, hL.t, fun l hl => ?_, fun t ht => ?_⟩
  · rcases List.mem_or_eq_of_mem_set hl with hl | rfl
    · exact hL.p l hl
    · exact ⟨⟨by simp, by simp⟩, fun q hq => by rw [List.mem_singleton.1 hq]; exact hp⟩
  · obtain ⟨a, b, h1, h2, h3⟩ := hL.tr t ht
    exact ⟨a, b, h1, by simpa [knownL] using h2, by simpa [knownL] using h3⟩

theorem LLe.set {v u : V} (h : VLe v u) : ∀ (l : List V) (i : Nat), LLe (l.set i v) (l.set i u)
  | [], _ => .nil
  | a :: l, 0 => .cons h (LLe.refl l)
  | a :: l, i + 1 => .cons (.refl a) (LLe.set h l i)

theorem sBs_refs (ls : List (List (Int × Int))) (B : Nat → Bool) (R : Nat → Option (Nat × Nat × Nat)) : (ls.map sB).all (refsOk B R 6) = true := by
  rw [List.all_eq_true]
  intro x hx
  obtain ⟨_, _, rfl⟩ := List.mem_map.1 hx; rfl

theorem okSBs {j : Nat} {ls : List (List (Int × Int))} {env : List (Nat × V)} {bx : List (Nat × Box)} {rw : List (Nat × Nat × Nat × Nat)} (h : okRefs env ((j, ⟨[], false⟩) :: bx) rw = true) : okRefs env ((j, ⟨ls.map sB, false⟩) :: bx) rw = true := by
  have e : hasKey ((j, (⟨ls.map sB, false⟩ : Box)) :: bx) = hasKey ((j, (⟨[], false⟩ : Box)) :: bx) := rfl
  unfold okRefs at h ⊢
  rw [e]
  rw [Bool.and_eq_true] at h ⊢
  refine ⟨h.1, ?_⟩
  have h2 := h.2
  rw [List.all_cons, Bool.and_eq_true] at h2 ⊢
  exact ⟨sBs_refs _ _ _, h2.2⟩

theorem sBs_holds (ls : List (List (Int × Int))) : Holds (ls.map sB) 0 1 ls.length (ls.map sB) := by
  refine ⟨by omega, by simp, fun x hx => ?_, ?_, fun x hx => ?_⟩
  · obtain ⟨_, _, rfl⟩ := List.mem_map.1 hx; rfl
  · rw [flat_sB, List.drop_zero, Nat.mul_one, List.take_of_length_le (by simp)]
  · obtain ⟨_, _, rfl⟩ := List.mem_map.1 hx; rfl

def GainR (g : Gd) (s : Ly) (i : Int) : V := if gridOk g then (if layOk s then (if btw i 0 ((s.nodes.length : Int) - 1) then .tuple [I (gainL (layD g s) i.toNat), I 0] else .tuple [I 0, I 72]) else .tuple [I 0, I 71]) else .tuple [I 0, I 70]

theorem c_Gain {g : Gd} {s : Ly} (hl : g.cls.length ≤ 9223372036854775807) (hn : s.nodes.length ≤ 9223372036854775807) (ht : s.traces.length ≤ 9223372036854775807) (i : Int) : C Tryz.prog F.bin_Gain [.agg (gridC g), .agg (layC s), I i] (GainR g s i) := by
  have kb := c_begun hl hn ht
  unfold GainR
  refine C_of mixed chk.bin_Gain (by simp) fun S ok => ?_
  refine Tr.seqR rfl (by simp) ?_
  by_cases hg : gridOk g = true
  rotate_left
  · rw [if_neg hg] at kb ⊢
    refine Tr.seqC rfl (by simp) (Steps.call rfl rfl kb (Steps.fin rfl (by simp) (Tr.seq (Tr.seqR rfl (by simp) (Tr.condT rfl (Tr.seqR rfl (by simp) ?_))))))
    exact Tr.retX rfl rfl rfl rfl trivial
  rw [if_pos hg] at kb ⊢
  by_cases hs : layOk s = true
  rotate_left
  · rw [if_neg hs] at kb ⊢
    refine Tr.seqC rfl (by simp) (Steps.call rfl rfl kb (Steps.fin rfl (by simp) (Tr.seq (Tr.seqR rfl (by simp) (Tr.condT rfl (Tr.seqR rfl (by simp) ?_))))))
    exact Tr.retX rfl rfl rfl rfl trivial
  rw [if_pos hs] at kb ⊢
  have hL := lay_ok hg hs
  have hns := (layOk_spec hs).1.1
  have hw : IntKind.wrap .i64 (((s.nodes.map eF).length : Int) - 1) = (s.nodes.length : Int) - 1 := by rw [List.length_map, w64 (by omega) (by omega)]
  refine Tr.seqC rfl (by simp) (Steps.call rfl rfl kb (Steps.fin rfl (by simp [laidC]) (Tr.seq (Tr.seqR rfl (by simp) (Tr.condF rfl (Tr.skip ?_))))))
  refine Tr.seq (Tr.seqC rfl (by simp) (Steps.call rfl rfl (c_within i 0 (IntKind.wrap .i64 (((s.nodes.map eF).length : Int) - 1))) (Steps.fin rfl (by simp) ?_)))
  rw [hw]
  refine Tr.cond rfl rfl (fun h1 => Tr.seqR rfl (by simp) ?_) (fun h1 => Tr.skip ?_)
  · have h1 : btw i 0 ((s.nodes.length : Int) - 1) = false := by simpa using h1
    refine Tr.retX rfl rfl rfl ?_ trivial
    rw [h1]; rfl
  have h1 : btw i 0 ((s.nodes.length : Int) - 1) = true := by simpa using h1
  have h1' := h1
  rw [btw_iff] at h1'
  obtain ⟨n, rfl⟩ : ∃ n : Nat, i = n := ⟨i.toNat, by omega⟩
  rw [if_pos h1, Int.toNat_natCast]
  have hLn : n < (layD g s).places.length := by simp [layD]; omega
  obtain ⟨L, eL0⟩ : ∃ L, layD g s = L := ⟨_, rfl⟩
  rw [eL0] at hL hLn ⊢
  have hne : L.places ≠ [] := fun e => by rw [e] at hLn; simp at hLn
  have hLm := hL.n
  have hpl : pl L n = L.places[n] := by unfold pl; simp [hLn]
  have hpn := hL.p _ (List.getElem_mem hLn)
  have hLt := hL.t
  refine Tr.seqC rfl (by simp [laidC]) (Steps.call rfl rfl (c_sure hL) (Steps.fin rfl (by simp) ?_))
  refine Tr.seqR rfl (by simp) ?_
  refine Tr.seq (Tr.seq (Tr.reg (Steps.runN 4 rfl (by simp [laidC]; omega) ?_)))
  rw [getD_map hLn]
  refine Steps.fin rfl (by simp) (Tr.block ?_)
  unfold gainL leastL
  rw [hpl]
  obtain ⟨ps, hps⟩ : ∃ ps, L.places[n] = ps := ⟨_, rfl⟩
  rw [hps] at hpn ⊢
  obtain ⟨fs, hfs⟩ : ∃ fs : List Int, ps.map (fun p => (sureC (knownL L n p) : Int)) = fs := ⟨_, rfl⟩
  have hfl : fs.length = ps.length := by rw [← hfs, List.length_map]
  rw [hfs]
  refine Tr.loop (fun (k : Nat) st => (k ≤ ps.length ∧ -1 ≤ (fs.take k).foldl leastStep (-1) ∧ (fs.take k).foldl leastStep (-1) ≤ 64) ∧ st = { env := [(2, I (n : Nat)), (8, .ptr 8 0), (10, I (sureC L : Nat)), (11, I ((fs.take k).foldl leastStep (-1))), (38, sB ps), (39, I (ps.length : Nat)), (40, I (k : Nat))], bx := [(8, ⟨laidC L, false⟩)], rw := [], log := [], stp := false }) (fun k => ps.length - k) 0
    (Wk.le (.cons rfl (.refl _) (.cons rfl (.refl _) (.cons rfl (.refl _) (.cons rfl (.refl _) (.cons rfl (.refl _) (.cons rfl (VLe.i (by simp)) (.cons rfl (.refl _) .nil))))))) (.cons rfl (LLe.refl _) .nil) .nil rfl rfl) ⟨⟨by omega, by simp, by simp⟩, rfl⟩ ?_
  rintro k st ⟨⟨hk, ha1, ha2⟩, rfl⟩
  refine Tr.seqR rfl (by simp) (Tr.seqI rfl (fun h2 => ?_) (fun h2 => ?_))
  · have h2 : k < ps.length := by simpa using h2
    have hp := hpn.2 _ (List.getElem_mem h2)
    have hK := known_ok hL (i := n) hp
    refine Tr.skipT (Tr.seq (Tr.block (Tr.seq (Tr.reg (Steps.runN 1 rfl (by simp; omega) ?_)))))
    rw [getD_map h2]
    refine Steps.fin rfl (by simp) ?_
    refine Tr.seqR rfl (by simp [laidC]) ?_
    refine Tr.seq (Tr.reg (Steps.run rfl (by simp [laidC]) ?_))
    refine Steps.callO (ys := L.places.map sB) (sz := 1) rfl (fun _ => rfl) (c_CloneP hne (by omega)) rfl ?_
    rw [flat_sB]
    refine Steps.fin rfl (by simp) ?_
    refine Tr.seqR rfl (by simp; omega) ?_
    have eS : (knownL L n ps[k]).places.map sB = (L.places.map sB).set n (sB [ps[k]]) := by
      unfold knownL; rw [List.map_set]
    have eSl : ((knownL L n ps[k]).places.map sB).length = L.places.length := by simp [knownL]
    refine Tr.weak (s' := { env := [(2, I (n : Nat)), (8, .ptr 8 0), (10, I (sureC L : Nat)), (11, I ((fs.take k).foldl leastStep (-1))), (14, .ptr 14 0), (38, sB ps), (39, I (ps.length : Nat)), (40, I (k : Nat))], bx := [(47, ⟨(knownL L n ps[k]).places.map sB, false⟩), (14, ⟨gridC L.g ++ [sB L.traces, .bsl 47 0 1 L.places.length], false⟩), (8, ⟨laidC L, false⟩)], rw := [], log := [], stp := false })
      (Wk.le (.cons rfl (.refl _) (.cons rfl (.refl _) (.cons rfl (.refl _) (.cons rfl (.refl _) (.cons rfl (.refl _) (.cons rfl (.refl _) (.cons rfl (.refl _) (.cons rfl (.refl _) .nil)))))))) (.cons rfl ?_ (.cons rfl ?_ (.cons rfl (LLe.refl _) .nil))) .nil (okSBs rfl) rfl) ?_
    · rw [eS]
      show LLe (splice (L.places.map sB) (0 + ((n : Nat) : Int).toNat * 1) [.slice _ 2 [eB ps[k]]]) _
      rw [splice_set (by simp; omega), Nat.mul_one, Nat.zero_add, Int.toNat_natCast]
      exact LLe.set (VLe.dem _ _ _) _ _
    · exact .cons (.refl _) (.cons (.refl _) (.cons (.refl _) (.cons (.refl _) (.cons (.refl _) (.cons (.refl _) (.cons (.refl _) (.cons (.of_eq (by simp)) .nil)))))))
    have hH := sBs_holds (knownL L n ps[k]).places
    rw [show (knownL L n ps[k]).places.length = L.places.length by simp [knownL]] at hH
    refine Tr.weak (Wk.bslB (k := 14) (j := 7) (i := 47) (by decide) rfl rfl rfl hH) ?_
    refine Tr.seqC rfl (by simp) (Steps.call (us := [.agg (laidC (knownL L n ps[k]))]) rfl rfl (c_sure hK) (Steps.fin rfl (by simp) ?_))
    obtain ⟨N, hN⟩ : ∃ N, sureC (knownL L n ps[k]) = N := ⟨_, rfl⟩
    have hN64 : N ≤ 64 := by
      rw [← hN]
      have : sureC (knownL L n ps[k]) ≤ L.traces.length := sure_bd (L := knownL L n ps[k]) hLt _ (Nat.le_refl _)
      omega
    rw [hN]
    have hfk : k < fs.length := by omega
    have efk : fs[k] = (N : Int) := by
      have : (ps.map (fun p => (sureC (knownL L n p) : Int)))[k]'(by simp; omega) = (N : Int) := by rw [List.getElem_map, hN]
      simp only [hfs] at this; exact this
    obtain ⟨acc, hacc⟩ : ∃ acc, (fs.take k).foldl leastStep (-1) = acc := ⟨_, rfl⟩
    have eT : (fs.take (k + 1)).foldl leastStep (-1) = leastStep acc N := by
      rw [List.take_add_one, List.getElem?_eq_getElem hfk, List.foldl_append, hacc, efk]; rfl
    rw [hacc] at ha1 ha2 ⊢
    refine Tr.seqR rfl (by simp) (Tr.cond rfl rfl (fun h3 => Tr.regR rfl (by simp) (Tr.regR rfl (by simp) ?_)) (fun h3 => Tr.skip (Tr.regR rfl (by simp) ?_)))
    · have h3 : acc < 0 ∨ (N : Int) < acc := by
        have h3 : (bif decide (acc < 0) then true else decide ((N : Int) < acc)) = true := h3
        by_cases h : acc < 0
        · exact .inl h
        · simp [h] at h3; exact .inr h3
      have eS2 : leastStep acc N = N := by unfold leastStep; rw [if_pos h3]
      rw [eS2] at eT
      refine ⟨k + 1, _, Wk.le (.cons rfl (.refl _) (.cons rfl (.refl _) (.cons rfl (.refl _) (.cons rfl (VLe.i eT.symm) (.cons rfl (.refl _) (.cons rfl (.refl _) (.cons rfl (VLe.i (w64 (by omega) (by omega))) .nil))))))) (.cons rfl (LLe.refl _) .nil) .nil rfl rfl, ⟨⟨by omega, by omega, by omega⟩, rfl⟩, by omega⟩
    · have h3 : ¬ (acc < 0 ∨ (N : Int) < acc) := by
        have h3 : (bif decide (acc < 0) then true else decide ((N : Int) < acc)) = false := h3
        by_cases h : acc < 0
        · simp [h] at h3
        · simp [h] at h3; omega
      have eS2 : leastStep acc N = acc := by unfold leastStep; rw [if_neg h3]
      rw [eS2] at eT
      refine ⟨k + 1, _, Wk.le (.cons rfl (.refl _) (.cons rfl (.refl _) (.cons rfl (.refl _) (.cons rfl (VLe.i eT.symm) (.cons rfl (.refl _) (.cons rfl (.refl _) (.cons rfl (VLe.i (w64 (by omega) (by omega))) .nil))))))) (.cons rfl (LLe.refl _) .nil) .nil rfl rfl, ⟨⟨by omega, by omega, by omega⟩, rfl⟩, by omega⟩
  · have h2 : k = ps.length := by simp at h2; omega
    subst h2
    have hb : sureC L ≤ L.traces.length := sure_bd (L := L) hLt _ (Nat.le_refl _)
    rw [← hfl, List.take_length] at ha1 ha2 ⊢
    refine Tr.exit (Tr.seqR rfl (by simp) (Tr.retX rfl rfl rfl ?_ trivial))
    show _ = packR [I (IntKind.wrap .i64 (fs.foldl leastStep (-1) - (sureC L : Nat))), I 0]
    rw [w64 (by omega) (by omega)]; rfl

end Go.Proofs.YtdejdblopmfjfaaGreatDoor


/-! The chapter's examples: the bin chapter. -/
set_option linter.unusedVariables false
set_option linter.unusedSimpArgs false
set_option maxRecDepth 20000
namespace Go.Am
open Go.RowKit

/-! ### Guards that are known to hold -/
theorem compOp_noguard {P : Program} {nt : Nat} {slots : List (Option Nat)} {o : Oper} {d : Option Nat} {k : Am.K} {xs : List X} {g : Option (Nat × Bool)} (hc : compOp P nt slots o = some ⟨d, k, xs, g⟩) (sl : List (Option Nat)) : compOp P nt sl { o with guard := none } = some ⟨d, k, xs, none⟩ := by
  unfold compOp at hc ⊢
  cases h1 : opK P o.op with
  | none => rw [h1] at hc; cases hc
  | some q =>
    obtain ⟨k', os⟩ := q
    rw [h1] at hc
    simp only at hc
    cases h2 : os.mapM compX with
    | none => rw [h2] at hc; cases hc
    | some xs' =>
      rw [h2] at hc
      simp only at hc
      cases h3 : guardG slots o.guard with
      | none => rw [h3] at hc; cases hc
      | some g' =>
        rw [h3] at hc
        simp only at hc
        cases h4 : dstOk nt k' o.dst with
        | false => rw [h4] at hc; cases hc
        | true =>
          rw [h4] at hc
          cases hc
          simp only [h1, h2, h4, cond_true]
          rfl

theorem Step1.on {E : Env} {K : St → Prop} {s : St} {d : Option Nat} {k : Am.K} {xs : List X} {t : Nat} {want : Bool} {gv : V} (hgv : Am.get s.env t = some gv) (hgb : guardOf want gv = some true) (h : Step1 E ⟨d, k, xs, none⟩ K s) : Step1 E ⟨d, k, xs, some (t, want)⟩ K s := by
  refine Step1.raw fun slots ops o i ro n a w g hc hs hi R Q next hn => ?_
  have hc' := compOp_noguard hc (#[{ o with guard := none }].toList.map (·.dst))
  have h1 := step_ok (ro := ro) (n := n) (ops := #[{ o with guard := none }]) (i := 0) h hc' rfl rfl R (Q := Q) (next := next) hn
  unfold wpOpIn at h1 ⊢
  obtain ⟨os, cc⟩ := comp_of hc
  obtain ⟨j, want', t', g1, g2, g3⟩ : ∃ j want t, o.guard = some (j, want) ∧ slots[j]? = some (some t) ∧ (some (t, want)) = (some (t, want)) ∧ True := by
    rcases cc.guard with ⟨e, _⟩ | ⟨j, w', t', e1, e2, e3⟩
    · cases e
    · exact ⟨j, w', t', e1, e2, rfl, trivial⟩
  have hw : Region.wanted o (yielded ops a.tmps) = true := by
    rcases cc.guard with ⟨e, _⟩ | ⟨j, w', t', e1, e2, e3⟩
    · cases e
    · cases e3
      exact (guard_wanted R hs e1 e2 (by rw [fs_g]; exact hgv) hgb).1 rfl
  simp only [hi, hw, if_true]
  have hw' : Region.wanted { o with guard := none } (yielded #[{ o with guard := none }] a.tmps) = true := by unfold Region.wanted; rfl
  simp only [List.getElem?_toArray, List.getElem?_cons_zero, hw', if_true] at h1
  exact h1

theorem Steps.on {E : Env} {K : St → Prop} {s : St} {d : Option Nat} {k : Am.K} {xs : List X} {t : Nat} {want : Bool} {gv : V} {rest : List Ins} (hgv : Am.get s.env t = some gv) (hgb : guardOf want gv = some true) (h : Am.Steps E (⟨d, k, xs, none⟩ :: rest) K s) : Am.Steps E (⟨d, k, xs, some (t, want)⟩ :: rest) K s := Step1.on hgv hgb h

/-- One step where guards are known to hold. -/
def stepG (ins : Ins) (s : St) : Option (Prop × Eff × List Loc) :=
  match ins.g with
  | none => stepP ins s
  | some (t, want) => match Am.get s.env t with
    | some (.bool b) => match b == want with
      | true => stepP { ins with g := none } s
      | false => none
    | _ => none

theorem step_G {E : Env} {ins : Ins} {s : St} {p : Prop} {eff : Eff} {rd : List Loc} {K : St → Prop} (h : stepG ins s = some (p, eff, rd)) (hp : p) (hk : K ((s.eff eff).put ins.d eff.v)) : Step1 E ins K s := by
  obtain ⟨d, k, xs, g⟩ := ins
  unfold stepG at h
  cases g with
  | none => exact .does (stepP_ok h hp) hk
  | some tw =>
    obtain ⟨t, want⟩ := tw
    simp only at h
    split at h
    · rename_i b hb
      split at h
      · rename_i hbw
        exact Step1.on hb (by simp only [guardOf, hbw]) (.does (stepP_ok h hp) hk)
      · cases h
    · cases h

def runG : List Ins → St → Prop → Prop × St × List Ins
  | [], s, p => (p, s, [])
  | i :: r, s, p => match stepG i s with
    | some (q, eff, _) => runG r ((s.eff eff).put i.d eff.v) (p ∧ q)
    | none => (p, s, i :: r)

theorem runG_pre : ∀ (il : List Ins) (s : St) (p : Prop), (runG il s p).1 → p
  | [], s, p, h => h
  | i :: r, s, p, h => by
    unfold runG at h
    split at h
    · exact (runG_pre r _ _ h).1
    · exact h

theorem runG_ok {E : Env} {K : St → Prop} : ∀ (il : List Ins) (s : St) (p : Prop), (runG il s p).1 → Am.Steps E (runG il s p).2.2 K (runG il s p).2.1 → Am.Steps E il K s
  | [], s, p, _, h => h
  | i :: r, s, p, h1, h2 => by
    unfold runG at h1 h2
    split at h1
    · rename_i q eff rd hq
      rw [hq] at h2
      exact step_G hq (runG_pre r _ _ h1).2 (runG_ok r _ _ h1 h2)
    · rename_i hq
      rw [hq] at h2
      exact h2

theorem Steps.runG {E : Env} {K : St → Prop} {s s' : St} {il rest : List Ins} {p : Prop} (h : Am.runG il s True = (p, s', rest)) (hp : p) (hs : Am.Steps E rest K s') : Am.Steps E il K s := by
  refine runG_ok il s True ?_ ?_
  · rw [h]; exact hp
  · rw [h]; exact hs

/-- At most so many instructions, where guards are known to hold. -/
def runGN : Nat → List Ins → St → Prop → Prop × St × List Ins
  | 0, il, s, p => (p, s, il)
  | _ + 1, [], s, p => (p, s, [])
  | n + 1, i :: r, s, p => match stepG i s with
    | some (q, eff, _) => runGN n r ((s.eff eff).put i.d eff.v) (p ∧ q)
    | none => (p, s, i :: r)

theorem runGN_pre : ∀ (n : Nat) (il : List Ins) (s : St) (p : Prop), (runGN n il s p).1 → p
  | 0, il, s, p, h => h
  | _ + 1, [], s, p, h => h
  | n + 1, i :: r, s, p, h => by
    unfold runGN at h
    split at h
    · exact (runGN_pre n r _ _ h).1
    · exact h

theorem runGN_ok {E : Env} {K : St → Prop} : ∀ (n : Nat) (il : List Ins) (s : St) (p : Prop), (runGN n il s p).1 → Am.Steps E (runGN n il s p).2.2 K (runGN n il s p).2.1 → Am.Steps E il K s
  | 0, il, s, p, _, h => h
  | _ + 1, [], s, p, _, h => h
  | n + 1, i :: r, s, p, h1, h2 => by
    unfold runGN at h1 h2
    split at h1
    · rename_i q eff rd hq
      rw [hq] at h2
      exact step_G hq (runGN_pre n r _ _ h1).2 (runGN_ok n r _ _ h1 h2)
    · rename_i hq
      rw [hq] at h2
      exact h2

theorem Steps.runGN {E : Env} {K : St → Prop} (n : Nat) {s s' : St} {il rest : List Ins} {p : Prop} (h : Am.runGN n il s True = (p, s', rest)) (hp : p) (hs : Am.Steps E rest K s') : Am.Steps E il K s := by
  refine runGN_ok n il s True ?_ ?_
  · rw [h]; exact hp
  · rw [h]; exact hs

theorem Steps.strEq {E : Env} {K : St → Prop} {s : St} {d : Nat} {x y : X} {a : ByteArray} {rest : List Ins} (hx : evXs s.env [x, y] = some [.str a, .str a]) (hk : Am.Steps E rest K (s.put (some d) (.bool true))) : Am.Steps E (⟨some d, .bin .eql, [x, y], none⟩ :: rest) K s := by
  refine Step1.does (ins := ⟨some d, .bin .eql, [x, y], none⟩) (eff := { v := .bool true }) (rd := xslots [x, y]) (stepP_ok (p := True) ?_ trivial) hk
  unfold stepP
  rw [hx]
  simp [evalK, nilOk]

end Go.Am

namespace Go.Proofs.YtdejdblopmfjfaaGreatDoor
open Go.Am
attribute [local simp] cells scalar mkv splice under2 under dem dem1 eB gridC sB fourC eF layC eQ nfC intsV foldV
theorem c_bound (a b : Int) : C Tryz.prog F.law07_bound [I a, I b] (.agg [I a, I b]) := by
  refine C_of mixed chk.law07_bound (by simp) fun S ok => ?_
  exact Tr.seqR rfl (by simp) (Tr.seqR rfl (by simp) (Tr.retX rfl rfl rfl rfl trivial))

def spotF (x y : Int) : Fr := ⟨(x, x), (y, y), (w (x + y), w (x + y)), (w (x - y), w (x - y))⟩
theorem c_spot (x y : Int) : C Tryz.prog F.law07_spot [I x, I y] (eF (spotF x y)) := by
  refine C_of mixed chk.law07_spot (by simp) fun S ok => ?_
  refine Tr.seqR rfl (by simp) (Tr.seqC rfl (by simp) ?_)
  refine Steps.call rfl rfl (c_bound x x) (Steps.run rfl (by simp) ?_)
  refine Steps.call rfl rfl (c_bound y y) (Steps.run rfl (by simp) ?_)
  refine Steps.call rfl rfl (c_bound (w (x + y)) (w (x + y))) (Steps.run rfl (by simp) ?_)
  refine Steps.call rfl rfl (c_bound (w (x - y)) (w (x - y))) (Steps.fin rfl (by simp) (Tr.retX rfl rfl rfl rfl trivial))

def exG : Gd := ⟨(0, 0), 2, 3, 2, [(0, 25), (26, 400)]⟩
def exY : Ly := ⟨[⟨(1, 1), (1, 1), (2, 2), (0, 0)⟩, ⟨(3, 3), (3, 3), (6, 6), (0, 0)⟩, ⟨(7, 9), (3, 3), (10, 12), (4, 6)⟩], [(0, 1), (0, 2), (1, 2)]⟩
def exN : Nf := ⟨[2, 1], [⟨4, [2, 0]⟩, ⟨3, [0, 1]⟩, ⟨5, [1, 1]⟩, ⟨6, [2, 1]⟩]⟩

theorem c_grid : C Tryz.prog F.law07_grid [] (.agg (gridC exG)) := by
  refine C_of mixed chk.law07_grid (by simp) fun S ok => ?_
  refine Tr.seqR rfl (by simp) (Tr.seqC rfl (by simp) ?_)
  refine Steps.call rfl rfl (c_bound 0 25) (Steps.run rfl (by simp) ?_)
  refine Steps.call rfl rfl (c_bound 26 400) (Steps.fin rfl (by simp) (Tr.retX rfl rfl rfl rfl trivial))

theorem c_lines : C Tryz.prog F.law07_lines [] (.agg (layC exY)) := by
  refine C_of mixed chk.law07_lines (by simp) fun S ok => ?_
  refine Tr.seqR rfl (by simp) (Tr.seqC rfl (by simp) ?_)
  refine Steps.call rfl rfl (c_spot 1 1) (Steps.run rfl (by simp) ?_)
  refine Steps.call rfl rfl (c_spot 3 3) (Steps.run rfl (by simp) ?_)
  refine Steps.call rfl rfl (c_bound 7 9) (Steps.run rfl (by simp) ?_)
  refine Steps.call rfl rfl (c_bound 3 3) (Steps.run rfl (by simp) ?_)
  refine Steps.call rfl rfl (c_bound 10 12) (Steps.run rfl (by simp) ?_)
  refine Steps.call rfl rfl (c_bound 4 6) (Steps.fin rfl (by simp) (Tr.retX rfl rfl rfl rfl trivial))

theorem c_gaps : C Tryz.prog F.law07_gaps [] (.agg (nfC exN)) := by
  refine C_of mixed chk.law07_gaps (by simp) fun S ok => ?_
  exact Tr.seqR rfl (by simp) (Tr.seqR rfl (by simp) (Tr.retX rfl rfl rfl rfl trivial))

theorem c_cells (l l' : List (Int × Int)) (hl : l.length ≤ 9223372036854775807) : C Tryz.prog F.law07_cells [sB l, sB l'] (.bool (decide (l = l'))) := by
  refine C_of mixed chk.law07_cells (by simp) fun S ok => ?_
  refine Tr.seqR rfl (by simp) (Tr.seq (Tr.seqR rfl (by simp) ?_))
  refine Tr.cond rfl rfl (fun h1 => Tr.seqR rfl (by simp) (Tr.retX rfl rfl rfl ?_ trivial)) (fun h1 => Tr.skip ?_)
  · have h1 : (((l.map eB).length : Int) != ((l'.map eB).length : Int)) = true := h1
    simp only [packR, V.bool.injEq]
    rw [decide_eq_false]
    rintro rfl
    simp at h1
  · have h1 : (((l.map eB).length : Int) != ((l'.map eB).length : Int)) = false := h1
    have hll : l.length = l'.length := by simp at h1; omega
    refine Tr.seq (Tr.seqR rfl (by simp) (Tr.block ?_))
    refine Tr.loop (fun k st => (k ≤ l.length ∧ l.take k = l'.take k) ∧ st = { env := [(0, sB l), (1, sB l'), (5, I k)], bx := [], rw := [], log := [], stp := false }) (fun k => l.length - k) 0
      (Wk.le (.cons rfl (.refl _) (.cons rfl (.refl _) (.cons rfl (.refl _) .nil))) .nil .nil rfl rfl) ⟨⟨by omega, by simp⟩, rfl⟩ ?_
    rintro k st ⟨⟨hk, he⟩, rfl⟩
    refine Tr.seq (Tr.seqR rfl (by simp) (Tr.cond rfl rfl (fun h3 => ?_) (fun h3 => ?_)))
    · have h3 : k < l.length := by simpa using h3
      have h4 : k < l'.length := by omega
      refine Tr.skip (Tr.seq (Tr.block (Tr.seq (Tr.drawK (TraceK.runN 3 rfl (by simp; omega) ?_)))))
      rw [getD_map h3]
      refine TraceK.runN 4 rfl (by simp; omega) ?_
      rw [getD_map h4]
      refine TraceK.run rfl (by simp) (.done ⟨by kernel_rfl, by kernel_rfl, ?_⟩)
      refine Tr.cond rfl rfl (fun h5 => Tr.seqR rfl (by simp) (Tr.retX rfl rfl rfl ?_ trivial)) (fun h5 => Tr.skip (Tr.regR rfl (by simp) ?_))
      · have h5 : l[k] ≠ l'[k] := by
          intro e; rw [e] at h5; simp at h5
        simp only [packR, V.bool.injEq]
        rw [decide_eq_false]
        rintro rfl
        exact h5 rfl
      · have h5 : l[k] = l'[k] := by
          have := h5
          simp at this
          exact Prod.ext this.1 this.2
        exact ⟨k + 1, _, Wk.le (.cons rfl (.refl _) (.cons rfl (.refl _) (.cons rfl (VLe.i (w64 (by omega) (by omega))) .nil))) .nil .nil rfl rfl, ⟨⟨h3, take_ext h3 h4 he h5⟩, rfl⟩, by omega⟩
    · have h3 : k = l.length := by simp at h3; omega
      subst h3
      refine Tr.exit (Tr.seqR rfl (by simp) (Tr.retX rfl rfl rfl ?_ trivial))
      rw [List.take_length, hll, List.take_length] at he
      simp [packR, he]

theorem c_AlikeLists (l l' : List (List Int)) (hl : l.length ≤ 9223372036854775807) (hr : ∀ r ∈ l, r.length ≤ 9223372036854775807) : C Tryz.prog F.ref00_AlikeLists [foldV l, foldV l'] (.bool (decide (l = l'))) := by
  refine C_of mixed chk.ref00_AlikeLists (by simp) fun S ok => ?_
  refine Tr.seqR rfl (by simp) (Tr.seq (Tr.seqR rfl (by simp) ?_))
  refine Tr.cond rfl rfl (fun h1 => Tr.seqR rfl (by simp) (Tr.retX rfl rfl rfl ?_ trivial)) (fun h1 => Tr.skip ?_)
  · have h1 : (((l.map intsV).length : Int) != ((l'.map intsV).length : Int)) = true := h1
    simp only [packR, V.bool.injEq]
    rw [decide_eq_false]
    rintro rfl
    simp at h1
  · have h1 : (((l.map intsV).length : Int) != ((l'.map intsV).length : Int)) = false := h1
    have hll : l.length = l'.length := by simp at h1; omega
    refine Tr.seq (Tr.seqR rfl (by simp) (Tr.block ?_))
    refine Tr.loop (fun k st => (k ≤ l.length ∧ l.take k = l'.take k) ∧ st = { env := [(0, foldV l), (1, foldV l'), (5, I k)], bx := [], rw := [], log := [], stp := false }) (fun k => l.length - k) 0
      (Wk.le (.cons rfl (.refl _) (.cons rfl (.refl _) (.cons rfl (.refl _) .nil))) .nil .nil rfl rfl) ⟨⟨by omega, by simp⟩, rfl⟩ ?_
    rintro k st ⟨⟨hk, he⟩, rfl⟩
    refine Tr.seq (Tr.seqR rfl (by simp) (Tr.cond rfl rfl (fun h3 => ?_) (fun h3 => ?_)))
    · have h3 : k < l.length := by simpa using h3
      have h4 : k < l'.length := by omega
      refine Tr.skip (Tr.seq (Tr.block (Tr.seq (Tr.drawK (TraceK.runN 3 rfl (by simp; omega) ?_)))))
      rw [getD_map h3]
      refine TraceK.runN 4 rfl (by simp; omega) ?_
      rw [getD_map h4]
      refine TraceK.run rfl (by simp) (TraceK.call rfl rfl (c_Alike l[k] l'[k] (hr _ (List.getElem_mem h3))) (TraceK.run rfl (by simp) (.done ⟨by kernel_rfl, by kernel_rfl, ?_⟩)))
      refine Tr.cond rfl rfl (fun h5 => Tr.seqR rfl (by simp) (Tr.retX rfl rfl rfl ?_ trivial)) (fun h5 => Tr.skip (Tr.regR rfl (by simp) ?_))
      · have h5 : (!decide (l[k] = l'[k])) = true := h5
        simp only [packR, V.bool.injEq]
        rw [decide_eq_false]
        rintro rfl
        simp at h5
      · have h5 : (!decide (l[k] = l'[k])) = false := h5
        have h5 : l[k] = l'[k] := by simpa using h5
        exact ⟨k + 1, _, Wk.le (.cons rfl (.refl _) (.cons rfl (.refl _) (.cons rfl (VLe.i (w64 (by omega) (by omega))) .nil))) .nil .nil rfl rfl, ⟨⟨h3, take_ext h3 h4 he h5⟩, rfl⟩, by omega⟩
    · have h3 : k = l.length := by simp at h3; omega
      subst h3
      refine Tr.exit (Tr.seqR rfl (by simp) (Tr.retX rfl rfl rfl ?_ trivial))
      rw [List.take_length, hll, List.take_length] at he
      simp [packR, he]

end Go.Proofs.YtdejdblopmfjfaaGreatDoor


/-! The chapter's examples come out as it says. -/
set_option linter.unusedVariables false
set_option linter.unusedSimpArgs false
set_option maxRecDepth 40000
set_option maxHeartbeats 4000000
namespace Go.Proofs.YtdejdblopmfjfaaGreatDoor
open Go.Am
attribute [local simp] cells scalar mkv splice under2 under dem dem1 eB gridC sB fourC eF layC eQ nfC intsV foldV eL sL eC cutsV
theorem ex1 : (if gridOk exG then (if planeB (1, 1) && planeB (9, 3) then .tuple [eB (cellN exG (1, 1) (9, 3)), I 0] else .tuple [.agg [I 0, I 0], I 10]) else .tuple [.agg [I 0, I 0], I 70] : V) = .tuple [eB (5, 1), I 0] := by kernel_rfl
theorem ex2 : HitsR exG exY 2 = .tuple [sB [(-1, -1), (5, 0)], I 0] := by kernel_rfl
theorem ex3 : FoldR exG exY = .tuple [foldV [[0, 0], [0, 0], [0, 0], [0, 0], [1, 0], [0, 1]], foldV [[0, 0], [0, 0], [0, 0], [0, 0], [1, 0], [1, 1]], I 0] := by kernel_rfl
theorem ex4 : MapR exG [[0, 0], [0, 0], [0, 0], [0, 0], [1, 0], [0, 1]] 0 = .tuple [.str ⟨#[46, 49, 46, 10, 46, 46, 46, 10]⟩, I 0] := by kernel_rfl
theorem ex5 : LacksR exG exY [0, 2] = .tuple [sL [(0, 1, 2), (1, 1, 2), (2, 1, 2), (3, 1, 2), (4, 1, 2), (5, 1, 1)], I 0] := by kernel_rfl
theorem ex6 : GainR exG exY 2 = .tuple [I 0, I 0] := by kernel_rfl
theorem ex7 : BestR exN = .tuple [intsV [3], I 6, I 0] := by kernel_rfl
theorem ex8 : WithoutR exN 3 = .tuple [I 1, I 0] := by kernel_rfl
theorem ex9 : BoundR exN [⟨-1, [2, 2]⟩] = .tuple [I 6, I 0] := by kernel_rfl

theorem exG_l : exG.cls.length ≤ 9223372036854775807 := by decide
theorem exY_n : exY.nodes.length ≤ 9223372036854775807 := by decide
theorem exY_t : exY.traces.length ≤ 9223372036854775807 := by decide
theorem exN_a : ∀ p ∈ exN.passes, p.adds.length ≤ 9223372036854775807 := by decide
theorem exF_r : ∀ r ∈ ([[0, 0], [0, 0], [0, 0], [0, 0], [1, 0], [0, 1]] : List (List Int)), r.length ≤ 9223372036854775807 := by decide
theorem exF2_r : ∀ r ∈ ([[0, 0], [0, 0], [0, 0], [0, 0], [1, 0], [1, 1]] : List (List Int)), r.length ≤ 9223372036854775807 := by decide

/-- **THE CHAPTER's EXAMPLES** come out as it says. -/
theorem c_works : C Tryz.prog F.law07_works [] (.bool true) := by
  refine C_of mixed chk.law07_works (by simp) fun S ok => ?_
  refine Tr.seqR rfl (by simp) ?_
  refine Tr.seqC rfl (by simp) (Steps.call rfl rfl c_grid (Steps.run rfl (by simp) ?_))
  refine Steps.call rfl rfl (ex1 ▸ c_Cell exG_l (1, 1) (9, 3)) (Steps.fin rfl (by simp) ?_)
  refine Tr.seqC rfl (by simp) (Steps.call rfl rfl c_grid (Steps.run rfl (by simp) ?_))
  refine Steps.call rfl rfl c_lines (Steps.run rfl (by simp) ?_)
  refine Steps.call rfl rfl (ex2 ▸ c_Hits exG_l exY_n exY_t 2) (Steps.fin rfl (by simp) ?_)
  refine Tr.seqC rfl (by simp) (Steps.call rfl rfl c_grid (Steps.run rfl (by simp) ?_))
  refine Steps.call rfl rfl c_lines (Steps.run rfl (by simp) ?_)
  refine Steps.call rfl rfl (ex3 ▸ c_Fold exG_l exY_n exY_t) (Steps.fin rfl (by simp) ?_)
  refine Tr.seq (Tr.seq (Tr.reg (Steps.runG rfl (by simp) ?_)))
  refine Steps.on rfl rfl (Steps.call rfl rfl (c_cells [(-1, -1), (5, 0)] [(-1, -1), (5, 0)] (by decide)) (Steps.runG rfl (by simp) ?_))
  refine Steps.on rfl rfl (Steps.call rfl rfl (c_AlikeLists [[0, 0], [0, 0], [0, 0], [0, 0], [1, 0], [0, 1]] [[0, 0], [0, 0], [0, 0], [0, 0], [1, 0], [0, 1]] (by decide) exF_r) (Steps.runG rfl (by simp) ?_))
  refine Steps.on rfl rfl (Steps.call rfl rfl (c_AlikeLists [[0, 0], [0, 0], [0, 0], [0, 0], [1, 0], [1, 1]] [[0, 0], [0, 0], [0, 0], [0, 0], [1, 0], [1, 1]] (by decide) exF2_r) (Steps.runG rfl (by simp) ?_))
  refine Tr.condF (by kernel_rfl) (Tr.skip ?_)
  refine Tr.seqC rfl (by simp) (Steps.call rfl rfl c_grid (Steps.run rfl (by simp) ?_))
  refine Steps.call rfl rfl (ex4 ▸ c_Map exG_l exF_r (by decide) 0) (Steps.fin rfl (by simp) ?_)
  refine Tr.seqC rfl (by simp) (Steps.call rfl rfl c_grid (Steps.run rfl (by simp) ?_))
  refine Steps.call rfl rfl c_lines (Steps.run rfl (by simp) ?_)
  refine Steps.call rfl rfl (ex5 ▸ c_Lacks exG_l exY_n exY_t (ns := [0, 2]) (by decide)) (Steps.fin rfl (by simp) ?_)
  refine Tr.seqC rfl (by simp) (Steps.call rfl rfl c_grid (Steps.run rfl (by simp) ?_))
  refine Steps.call rfl rfl c_lines (Steps.run rfl (by simp) ?_)
  refine Steps.call rfl rfl (ex6 ▸ c_Gain exG_l exY_n exY_t 2) (Steps.fin rfl (by simp) ?_)
  refine Tr.seqC rfl (by simp) (Steps.call rfl rfl c_gaps (Steps.run rfl (by simp) ?_))
  refine Steps.call rfl rfl (ex7 ▸ c_Best exN_a) (Steps.fin rfl (by simp) ?_)
  refine Tr.seqC rfl (by simp) (Steps.call rfl rfl c_gaps (Steps.run rfl (by simp) ?_))
  refine Steps.call rfl rfl (ex8 ▸ c_Without exN_a 3) (Steps.fin rfl (by simp) ?_)
  refine Tr.seqC rfl (by simp) (Steps.call rfl rfl c_gaps (Steps.run rfl (by simp) ?_))
  refine Steps.call rfl rfl (ex9 ▸ c_Bound exN_a (pf := [⟨-1, [2, 2]⟩]) (by decide)) (Steps.fin rfl (by simp) ?_)
  refine Tr.seq (Tr.reg (Steps.runGN 24 rfl (by simp) ?_))
  refine Steps.on rfl rfl (Steps.strEq rfl (Steps.runG rfl (by simp) ?_))
  refine Steps.on rfl rfl (Steps.call rfl rfl (c_Alike [3] [3] (by decide)) (Steps.runG rfl (by simp) ?_))
  exact Tr.retX rfl rfl rfl (by kernel_rfl) trivial

end Go.Proofs.YtdejdblopmfjfaaGreatDoor


/-! Contracts: what a number leaves. -/
set_option linter.unusedVariables false
set_option linter.unusedSimpArgs false
set_option maxRecDepth 40000
set_option maxHeartbeats 4000000
namespace Go.Proofs.YtdejdblopmfjfaaGreatDoor
open Go.Am
attribute [local simp] cells scalar mkv splice under2 under dem dem1 eB intsV
def restI (n m : Int) : Int := if m < 1 then 0 else n % m

theorem rest_tmod {n m : Int} (hm : 1 ≤ m) : (n.tmod m < 0 → n.tmod m + m = n % m) ∧ (¬ n.tmod m < 0 → n.tmod m = n % m) := by
  have h1 := Int.emod_nonneg n (show m ≠ 0 by omega)
  have h2 := Int.emod_lt_of_pos n (show 0 < m by omega)
  have h3 := Int.tmod_eq_emod (a := n) (b := m)
  split at h3
  · omega
  · have : (m.natAbs : Int) = m := by omega
    omega

theorem restI_bd {n m : Int} (hm : 1 ≤ m) : 0 ≤ restI n m ∧ restI n m < m := by
  unfold restI
  rw [if_neg (by omega)]
  exact ⟨Int.emod_nonneg n (by omega), Int.emod_lt_of_pos n (by omega)⟩

theorem c_Rest (n m : Int) (hm : m ≤ 9223372036854775807) : C Tryz.prog F.ref00_Rest [I n, I m] (I (restI n m)) := by
  refine C_of mixed chk.ref00_Rest (by simp) fun S ok => ?_
  refine Tr.seqR rfl (by simp) (Tr.seq (Tr.seqR rfl (by simp) (Tr.cond rfl rfl (fun h1 => Tr.seqR rfl (by simp) (Tr.retX rfl rfl rfl ?_ trivial)) (fun h1 => Tr.skip ?_))))
  · have h1 : m < 1 := by simpa using h1
    simp [packR, restI, h1]
  have h1 : ¬ m < 1 := by simpa using h1
  have hr := restI_bd (n := n) (m := m) (by omega)
  obtain ⟨k1, k2⟩ := rest_tmod (n := n) (m := m) (by omega)
  have e : restI n m = n % m := by unfold restI; rw [if_neg h1]
  refine Tr.seqR rfl (by simp; omega) (Tr.seq (Tr.seqR rfl (by simp) (Tr.cond rfl rfl (fun h2 => Tr.regR rfl (by simp) ?_) (fun h2 => Tr.skip ?_))))
  · have h2 : n.tmod m < 0 := by simpa using h2
    refine Tr.seqR rfl (by simp) (Tr.retX rfl rfl rfl ?_ trivial)
    show I (restI n m) = I (IntKind.i64.wrap (n.tmod m + m))
    rw [e, k1 h2, w64 (by omega) (by omega)]
  · have h2 : ¬ n.tmod m < 0 := by simpa using h2
    refine Tr.seqR rfl (by simp) (Tr.retX rfl rfl rfl ?_ trivial)
    show I (restI n m) = I (n.tmod m)
    rw [e, k2 h2]

end Go.Proofs.YtdejdblopmfjfaaGreatDoor


/-! Contracts: Tight, Pick, chosen; a place that numbers choose lies in its region. -/
set_option linter.unusedVariables false
set_option linter.unusedSimpArgs false
set_option maxRecDepth 40000
set_option maxHeartbeats 4000000
namespace Go.Proofs.YtdejdblopmfjfaaGreatDoor
open Go.Am
attribute [local simp] cells scalar mkv splice under2 under dem dem1 eB fourC intsV
/-! ### The hull of points of the plane -/
structure HullOk (T : Fr) (l : List (Int × Int)) : Prop where
  i : ∀ p ∈ l, (T.x.1 ≤ p.1 ∧ p.1 ≤ T.x.2) ∧ (T.y.1 ≤ p.2 ∧ p.2 ≤ T.y.2) ∧ (T.s.1 ≤ p.1 + p.2 ∧ p.1 + p.2 ≤ T.s.2) ∧ T.d.1 ≤ p.1 - p.2 ∧ p.1 - p.2 ≤ T.d.2
  a1 : ∃ p ∈ l, p.1 = T.x.1
  a2 : ∃ p ∈ l, p.1 = T.x.2
  b1 : ∃ p ∈ l, p.2 = T.y.1
  b2 : ∃ p ∈ l, p.2 = T.y.2
  c1 : ∃ p ∈ l, p.1 + p.2 = T.s.1
  c2 : ∃ p ∈ l, p.1 + p.2 = T.s.2
  d1 : ∃ p ∈ l, p.1 - p.2 = T.d.1
  d2 : ∃ p ∈ l, p.1 - p.2 = T.d.2

theorem ofF_pl {p : Int × Int} (h : planeB p = true) : ofF p = ⟨(p.1, p.1), (p.2, p.2), (p.1 + p.2, p.1 + p.2), (p.1 - p.2, p.1 - p.2)⟩ := by
  simp only [planeB, Bool.and_eq_true, btw_iff] at h
  unfold ofF w
  rw [w64 (n := p.1 + p.2) (by omega) (by omega), w64 (n := p.1 - p.2) (by omega) (by omega)]

theorem attain {l : List (Int × Int)} {f : Int × Int → Int} {m : Int} {p : Int × Int} (h : ∃ q ∈ l, f q = m) : (∃ q ∈ l ++ [p], f q = min m (f p)) ∧ ∃ q ∈ l ++ [p], f q = max m (f p) := by
  obtain ⟨q, hq, rfl⟩ := h
  constructor
  · by_cases h : f q ≤ f p
    · exact ⟨q, by simp [hq], by omega⟩
    · exact ⟨p, by simp, by omega⟩
  · by_cases h : f q ≤ f p
    · exact ⟨p, by simp, by omega⟩
    · exact ⟨q, by simp [hq], by omega⟩

theorem hull_one {p : Int × Int} (hp : planeB p = true) : hullS [p] = (⟨(p.1, p.1), (p.2, p.2), (p.1 + p.2, p.1 + p.2), (p.1 - p.2, p.1 - p.2)⟩, true) := by
  simp [hullS, hstep, comb, spanB, ofF_pl hp]

theorem hull_ok : ∀ (n : Nat) (l : List (Int × Int)), l.length = n + 1 → (∀ p ∈ l, planeB p = true) → (hullS l).2 = true ∧ HullOk (hullS l).1 l
  | 0, l, hl, hp => by
    match l, hl with
    | [p], _ =>
      rw [hull_one (hp p (by simp))]
      refine ⟨rfl, ⟨?_, ?_, ?_, ?_, ?_, ?_, ?_, ?_, ?_⟩⟩
      · intro q hq
        rw [List.mem_singleton.1 hq]; simp
      all_goals exact ⟨p, by simp, rfl⟩
  | n + 1, l, hl, hp => by
    have hne : l ≠ [] := fun e => by rw [e] at hl; simp at hl
    obtain ⟨m, p, rfl⟩ : ∃ m p, l = m ++ [p] := ⟨l.dropLast, l.getLast hne, (List.dropLast_concat_getLast hne).symm⟩
    obtain ⟨h2, ih⟩ := hull_ok n m (by simpa using hl) fun q hq => hp q (by simp [hq])
    have e : hullS (m ++ [p]) = hstep (hullS m) p := by unfold hullS; rw [List.foldl_append]; rfl
    rw [e]
    obtain ⟨⟨T, b⟩, hT⟩ : ∃ T, hullS m = T := ⟨_, rfl⟩
    rw [hT] at h2 ih ⊢
    simp only at h2 ih
    subst h2
    refine ⟨rfl, ?_⟩
    have eT : (hstep (T, true) p).1 = ⟨(min T.x.1 p.1, max T.x.2 p.1), (min T.y.1 p.2, max T.y.2 p.2), (min T.s.1 (p.1 + p.2), max T.s.2 (p.1 + p.2)), (min T.d.1 (p.1 - p.2), max T.d.2 (p.1 - p.2))⟩ := by
      simp [hstep, comb, spanB, ofF_pl (hp p (by simp))]
    rw [eT]
    refine ⟨?_, (attain (f := fun q => q.1) ih.a1).1, (attain (f := fun q => q.1) ih.a2).2, (attain (f := fun q => q.2) ih.b1).1, (attain (f := fun q => q.2) ih.b2).2, (attain (f := fun q => q.1 + q.2) ih.c1).1, (attain (f := fun q => q.1 + q.2) ih.c2).2, (attain (f := fun q => q.1 - q.2) ih.d1).1, (attain (f := fun q => q.1 - q.2) ih.d2).2⟩
    intro q hq
    simp only
    rcases List.mem_append.1 hq with hq | hq
    · have := ih.i q hq
      omega
    · rw [List.mem_singleton.1 hq]
      omega

theorem rows_mem {f : Fr} {r : Int × Int × Int} : ∀ (n : Nat) (x : Int), r ∈ rowsN f n x → (x ≤ r.1 ∧ r.1 < x + n) ∧ r.2.1 = lowY f r.1 ∧ r.2.2 = highY f r.1 ∧ r.2.1 ≤ r.2.2
  | 0, x, h => by cases h
  | n + 1, x, h => by
    simp only [rowsN] at h
    split at h
    · rename_i h1
      rcases List.mem_cons.1 h with rfl | h
      · exact ⟨⟨by simp, by simp; omega⟩, rfl, rfl, h1⟩
      · have := rows_mem n (x + 1) h
        exact ⟨⟨by omega, by push_cast; omega⟩, this.2⟩
    · have := rows_mem n (x + 1) h
      exact ⟨⟨by omega, by push_cast; omega⟩, this.2⟩

theorem ends_places {f : Fr} {p : Int × Int} (hp : p ∈ endsL f) : p ∈ placesL f := by
  unfold endsL at hp
  obtain ⟨r, hr, hp⟩ := List.mem_flatMap.1 hp
  obtain ⟨h1, h2, h3, h4⟩ := rows_mem _ _ hr
  rw [mem_placesL]
  unfold endsR at hp
  split at hp
  · rw [List.mem_singleton.1 hp]
    exact ⟨⟨by simp only; omega, by simp only; omega⟩, by simp only; omega, by simp only; omega⟩
  · rcases List.mem_cons.1 hp with rfl | hp
    · exact ⟨⟨by simp only; omega, by simp only; omega⟩, by simp only; omega, by simp only; omega⟩
    · rw [List.mem_singleton.1 hp]
      exact ⟨⟨by simp only; omega, by simp only; omega⟩, by simp only; omega, by simp only; omega⟩

def tightF (f : Fr) : Fr := (hullS (endsL f)).1

theorem tight_ok {f : Fr} (h : nodeOk f = true) : (hullS (endsL f)).2 = true ∧ HullOk (tightF f) (endsL f) := by
  have hn2 := h
  simp only [nodeOk, Bool.and_eq_true, btw_iff] at hn2
  have hc := count_len (mid_of hn2.1)
  have hne : endsL f ≠ [] := by
    intro e
    have hr : rowsL f = [] := by
      unfold endsL at e
      cases h4 : rowsL f with
      | nil => rfl
      | cons r l =>
        rw [h4, List.flatMap_cons] at e
        have := (List.append_eq_nil_iff.1 e).1
        unfold endsR at this
        split at this <;> cases this
    have : placesL f = [] := by unfold placesL; rw [hr]; rfl
    rw [this] at hc
    simp at hc; omega
  exact hull_ok ((endsL f).length - 1) _ (by have := List.length_pos_iff.2 hne; omega) fun p hp => node_plane h (ends_places hp)

theorem c_Tight {f : Fr} (h : nodeOk f = true) : C Tryz.prog F.region_Tight [.agg (fourC f)] (.tuple [.agg (fourC (tightF f)), I 0]) := by
  have hn2 := h
  simp only [nodeOk, Bool.and_eq_true, btw_iff] at hn2
  have kc := c_CheckF f
  rw [if_pos hn2.1] at kc
  refine C_of mixed chk.region_Tight (by simp) fun S ok => ?_
  refine Tr.seqR rfl (by simp) (Tr.seq (Tr.seqC rfl (by simp) (Steps.call rfl rfl kc (Steps.fin rfl (by simp) (Tr.seqR rfl (by simp) (Tr.condF rfl (Tr.skip ?_)))))))
  refine Tr.seqC rfl (by simp) (Steps.call rfl rfl (c_bounds f) (Steps.call rfl rfl (c_tight (mid_of hn2.1) (tight_ok h).1) (Steps.run rfl (by simp) ?_)))
  exact Steps.call rfl rfl (c_done (tightF f)) (Steps.fin rfl (by simp) (Tr.retX rfl rfl rfl rfl trivial))

end Go.Proofs.YtdejdblopmfjfaaGreatDoor


/-! Contracts: Pick, chosen, stood. -/
set_option linter.unusedVariables false
set_option linter.unusedSimpArgs false
set_option maxRecDepth 40000
set_option maxHeartbeats 4000000
namespace Go.Proofs.YtdejdblopmfjfaaGreatDoor
open Go.Am
attribute [local simp] cells scalar mkv splice under2 under dem dem1 eB fourC intsV sB eF
def pickI (l : List Int) (i : Int) : Int := l.getD (restI i l.length).toNat 0

theorem c_Pick (l : List Int) (i : Int) (hl : l.length ≤ 9223372036854775807) : C Tryz.prog F.ref00_Pick [intsV l, I i] (I (pickI l i)) := by
  refine C_of mixed chk.ref00_Pick (by simp) fun S ok => ?_
  refine Tr.seqR rfl (by simp) (Tr.seq (Tr.seqR rfl (by simp [intsV]) (Tr.cond rfl rfl (fun h1 => Tr.seqR rfl (by simp) (Tr.retX rfl rfl rfl ?_ trivial)) (fun h1 => Tr.skip ?_))))
  · have h1 : l = [] := by simpa using h1
    subst h1; rfl
  have h1 : l ≠ [] := by simpa using h1
  have h0 : 0 < l.length := List.length_pos_iff.2 h1
  have hb := restI_bd (n := i) (m := l.length) (by omega)
  obtain ⟨q, hq⟩ : ∃ q : Nat, restI i l.length = (q : Int) := ⟨(restI i l.length).toNat, by omega⟩
  have hql : q < l.length := by omega
  have hc : C Tryz.prog F.ref00_Rest [I i, I ((l.map I).length : Int)] (I (q : Int)) := by
    rw [List.length_map]; exact hq ▸ c_Rest i l.length (by omega)
  refine Tr.seqC rfl (by simp [intsV]) (Steps.call rfl rfl hc (Steps.runN 1 rfl (by simp [intsV]; omega) ?_))
  rw [getD_map hql]
  refine Steps.fin rfl (by simp) (Tr.retX rfl rfl rfl ?_ trivial)
  simp [packR, pickI, hq, List.getElem?_eq_getElem hql]

/-! ### A place that numbers choose -/
def chX (f : Fr) (a : Int) : Int := (tightF f).x.1 + restI a ((tightF f).x.2 - (tightF f).x.1 + 1)
def chosenN (f : Fr) (a b : Int) : Int × Int := (chX f a, lowY (tightF f) (chX f a) + restI b (highY (tightF f) (chX f a) - lowY (tightF f) (chX f a) + 1))

theorem lowY_le {f : Fr} {x y : Int} : lowY f x ≤ y ↔ f.y.1 ≤ y ∧ f.s.1 - x ≤ y ∧ x - f.d.2 ≤ y := by unfold lowY; omega
theorem le_highY {f : Fr} {x y : Int} : y ≤ highY f x ↔ y ≤ f.y.2 ∧ y ≤ f.s.2 - x ∧ y ≤ x - f.d.1 := by unfold highY; omega

theorem tight_bd {f : Fr} (h : nodeOk f = true) : ((-32768 ≤ (tightF f).x.1 ∧ (tightF f).x.1 ≤ (tightF f).x.2 ∧ (tightF f).x.2 ≤ 32768) ∧ (-32768 ≤ (tightF f).y.1 ∧ (tightF f).y.2 ≤ 32768) ∧ (-65536 ≤ (tightF f).s.1 ∧ (tightF f).s.2 ≤ 65536) ∧ -65536 ≤ (tightF f).d.1 ∧ (tightF f).d.2 ≤ 65536) ∧
    ((tightF f).y.1 ≤ 32768 ∧ -32768 ≤ (tightF f).y.2) ∧ ((tightF f).s.1 ≤ 65536 ∧ -65536 ≤ (tightF f).s.2) ∧ (tightF f).d.1 ≤ 65536 ∧ -65536 ≤ (tightF f).d.2 := by
  have H := (tight_ok h).2
  have pl : ∀ p ∈ endsL f, (-32768 ≤ p.1 ∧ p.1 ≤ 32768) ∧ -32768 ≤ p.2 ∧ p.2 ≤ 32768 := fun p hp => by
    have := node_plane h (ends_places hp)
    simpa only [planeB, Bool.and_eq_true, btw_iff] using this
  obtain ⟨p1, m1, e1⟩ := H.a1; obtain ⟨p2, m2, e2⟩ := H.a2; obtain ⟨p3, m3, e3⟩ := H.b1; obtain ⟨p4, m4, e4⟩ := H.b2
  obtain ⟨p5, m5, e5⟩ := H.c1; obtain ⟨p6, m6, e6⟩ := H.c2; obtain ⟨p7, m7, e7⟩ := H.d1; obtain ⟨p8, m8, e8⟩ := H.d2
  have k1 := pl _ m1; have k2 := pl _ m2; have k3 := pl _ m3; have k4 := pl _ m4; have k5 := pl _ m5; have k6 := pl _ m6; have k7 := pl _ m7; have k8 := pl _ m8
  have k9 := H.i _ m1
  refine ⟨⟨⟨?_, ?_, ?_⟩, ⟨?_, ?_⟩, ⟨?_, ?_⟩, ?_, ?_⟩, ⟨?_, ?_⟩, ⟨?_, ?_⟩, ?_, ?_⟩ <;> omega

/-- No column between is empty. -/
theorem tight_col {f : Fr} (h : nodeOk f = true) {x : Int} (h1 : (tightF f).x.1 ≤ x) (h2 : x ≤ (tightF f).x.2) : lowY (tightF f) x ≤ highY (tightF f) x := by
  have H := (tight_ok h).2
  obtain ⟨p1, m1, e1⟩ := H.a1; obtain ⟨p2, m2, e2⟩ := H.a2
  have i1 := H.i _ m1; have i2 := H.i _ m2
  rw [lowY_le, le_highY, le_highY, le_highY]
  refine ⟨⟨?_, ?_, ?_⟩, ⟨?_, ?_, ?_⟩, ⟨?_, ?_, ?_⟩⟩ <;> omega

theorem tight_sub {f : Fr} (h : nodeOk f = true) {q : Int × Int} (h1 : (tightF f).x.1 ≤ q.1) (h2 : q.1 ≤ (tightF f).x.2) (h3 : lowY (tightF f) q.1 ≤ q.2) (h4 : q.2 ≤ highY (tightF f) q.1) : q ∈ placesL f := by
  have H := (tight_ok h).2
  have pl : ∀ p ∈ endsL f, (f.x.1 ≤ p.1 ∧ p.1 ≤ f.x.2) ∧ (f.y.1 ≤ p.2 ∧ f.s.1 - p.1 ≤ p.2 ∧ p.1 - f.d.2 ≤ p.2) ∧ p.2 ≤ f.y.2 ∧ p.2 ≤ f.s.2 - p.1 ∧ p.2 ≤ p.1 - f.d.1 := fun p hp => by
    have := mem_placesL.1 (ends_places hp)
    rw [lowY_le, le_highY] at this; exact this
  obtain ⟨p1, m1, e1⟩ := H.a1; obtain ⟨p2, m2, e2⟩ := H.a2; obtain ⟨p3, m3, e3⟩ := H.b1; obtain ⟨p4, m4, e4⟩ := H.b2
  obtain ⟨p5, m5, e5⟩ := H.c1; obtain ⟨p6, m6, e6⟩ := H.c2; obtain ⟨p7, m7, e7⟩ := H.d1; obtain ⟨p8, m8, e8⟩ := H.d2
  have k1 := pl _ m1; have k2 := pl _ m2; have k3 := pl _ m3; have k4 := pl _ m4; have k5 := pl _ m5; have k6 := pl _ m6; have k7 := pl _ m7; have k8 := pl _ m8
  rw [lowY_le] at h3
  rw [le_highY] at h4
  rw [mem_placesL, lowY_le, le_highY]
  refine ⟨⟨?_, ?_⟩, ⟨?_, ?_, ?_⟩, ⟨?_, ?_, ?_⟩⟩
  · clear k2 k3 k4 k5 k6 k7 k8; omega
  · clear k1 k3 k4 k5 k6 k7 k8; omega
  · clear k1 k2 k4 k5 k6 k7 k8; omega
  · clear k1 k2 k3 k4 k6 k7 k8; omega
  · clear k1 k2 k3 k4 k5 k6 k7; omega
  · clear k1 k2 k3 k5 k6 k7 k8; omega
  · clear k1 k2 k3 k4 k5 k7 k8; omega
  · clear k1 k2 k3 k4 k5 k6 k8; omega

theorem chX_in {f : Fr} (h : nodeOk f = true) (a : Int) : (tightF f).x.1 ≤ chX f a ∧ chX f a ≤ (tightF f).x.2 := by
  have hb := (tight_bd h).1.1
  have := restI_bd (n := a) (m := (tightF f).x.2 - (tightF f).x.1 + 1) (by omega)
  unfold chX; omega

theorem chosen_in {f : Fr} (h : nodeOk f = true) (a b : Int) : chosenN f a b ∈ placesL f := by
  obtain ⟨x1, x2⟩ := chX_in h a
  have hc := tight_col h x1 x2
  have := restI_bd (n := b) (m := highY (tightF f) (chX f a) - lowY (tightF f) (chX f a) + 1) (by omega)
  exact tight_sub h x1 x2 (by simp only [chosenN]; omega) (by simp only [chosenN]; omega)

theorem c_chosen {f : Fr} (h : nodeOk f = true) (a b : Int) : C Tryz.prog F.law07_chosen [.agg (fourC f), I a, I b] (.tuple [eB (chosenN f a b), .bool true]) := by
  obtain ⟨⟨⟨t1, t2, t3⟩, ⟨t4, t5⟩, ⟨t6, t7⟩, t8, t9⟩, ⟨u1, u2⟩, ⟨u3, u4⟩, u5, u6⟩ := tight_bd h
  obtain ⟨x1, x2⟩ := chX_in h a
  have hc := tight_col h x1 x2
  have kt := c_Tight h
  obtain ⟨T, hT⟩ : ∃ T, tightF f = T := ⟨_, rfl⟩
  have hch : chosenN f a b = (chX f a, lowY T (chX f a) + restI b (highY T (chX f a) - lowY T (chX f a) + 1)) := by unfold chosenN; rw [hT]
  have hxx : chX f a = T.x.1 + restI a (T.x.2 - T.x.1 + 1) := by unfold chX; rw [hT]
  rw [hch]
  rw [hT] at kt t1 t2 t3 t4 t5 t6 t7 t8 t9 u1 u2 u3 u4 u5 u6 x1 x2 hc
  have hr1 := restI_bd (n := a) (m := T.x.2 - T.x.1 + 1) (by omega)
  have k1 : C Tryz.prog F.ref00_Rest [I a, I (IntKind.wrap .i64 (IntKind.wrap .i64 (T.x.2 - T.x.1) + 1))] (I (restI a (T.x.2 - T.x.1 + 1))) := by
    rw [w64 (n := T.x.2 - T.x.1) (by omega) (by omega), w64 (by omega) (by omega)]; exact c_Rest _ _ (by omega)
  obtain ⟨x, hx⟩ : ∃ x, chX f a = x := ⟨_, rfl⟩
  rw [hx] at hxx x1 x2 hc ⊢
  have hbl : -200000 ≤ lowY T x ∧ highY T x ≤ 200000 := by
    have l1 : T.y.1 ≤ lowY T x := (lowY_le.1 (Int.le_refl _)).1
    have l2 : highY T x ≤ T.y.2 := (le_highY.1 (Int.le_refl _)).1
    omega
  have hr2 := restI_bd (n := b) (m := highY T x - lowY T x + 1) (by omega)
  have k2 : C Tryz.prog F.ref00_Rest [I b, I (IntKind.wrap .i64 (IntKind.wrap .i64 (highY T x - lowY T x) + 1))] (I (restI b (highY T x - lowY T x + 1))) := by
    rw [w64 (n := highY T x - lowY T x) (by omega) (by omega), w64 (by omega) (by omega)]; exact c_Rest _ _ (by omega)
  refine C_of mixed chk.law07_chosen (by simp) fun S ok => ?_
  refine Tr.seqR rfl (by simp) (Tr.seqC rfl (by simp) (Steps.call rfl rfl kt (Steps.fin rfl (by simp) ?_)))
  refine Tr.seq (Tr.seqR rfl (by simp) (Tr.condF rfl (Tr.skip ?_)))
  refine Tr.seq (Tr.drawK (TraceK.run rfl (by simp) (TraceK.call rfl rfl k1 (TraceK.run rfl (by simp) (.done ⟨by kernel_rfl, by kernel_rfl, ?_⟩)))))
  rw [show IntKind.wrap .i64 (T.x.1 + restI a (T.x.2 - T.x.1 + 1)) = x by rw [w64 (by omega) (by omega)]; exact hxx.symm]
  refine Tr.seq (Tr.drawK (TraceK.run rfl (by simp) (.done ⟨by kernel_rfl, by kernel_rfl, ?_⟩)))
  refine Tr.weak (s' := { env := [(2, I b), (6, .ptr 6 0), (10, I x), (11, I (lowY T x)), (12, I (highY T x))], bx := [(6, ⟨[I 0, I 0], false⟩)], rw := [], log := [], stp := false })
    (Wk.le (.cons rfl (.refl _) (.cons rfl (.refl _) (.cons rfl (.refl _) (.cons rfl (VLe.i ?_) (.cons rfl (VLe.i ?_) .nil))))) (.cons rfl (LLe.refl _) .nil) .nil rfl rfl) ?_
  · show (bif true then (if IntKind.wrap .i64 (x - T.d.2) > (bif true then (if IntKind.wrap .i64 (T.s.1 - x) > T.y.1 then IntKind.wrap .i64 (T.s.1 - x) else T.y.1) else _) then IntKind.wrap .i64 (x - T.d.2) else (bif true then (if IntKind.wrap .i64 (T.s.1 - x) > T.y.1 then IntKind.wrap .i64 (T.s.1 - x) else T.y.1) else _)) else _) = lowY T x
    simp only [cond_true]
    rw [w64 (n := x - T.d.2) (by omega) (by omega), w64 (n := T.s.1 - x) (by omega) (by omega), ifMax, ifMax]; rfl
  · show (bif false then _ else (if IntKind.wrap .i64 (x - T.d.1) < (bif false then _ else (if IntKind.wrap .i64 (T.s.2 - x) < T.y.2 then IntKind.wrap .i64 (T.s.2 - x) else T.y.2)) then IntKind.wrap .i64 (x - T.d.1) else (bif false then _ else (if IntKind.wrap .i64 (T.s.2 - x) < T.y.2 then IntKind.wrap .i64 (T.s.2 - x) else T.y.2)))) = highY T x
    simp only [cond_false]
    rw [w64 (n := x - T.d.1) (by omega) (by omega), w64 (n := T.s.2 - x) (by omega) (by omega), ifMin, ifMin]; rfl
  refine Tr.seqC rfl (by simp) (Steps.call rfl rfl k2 (Steps.fin rfl (by simp) (Tr.retX rfl rfl rfl ?_ trivial)))
  show V.tuple [.agg [I x, I (lowY T x + restI b (highY T x - lowY T x + 1))], .bool true] = .tuple [.agg [I x, I (IntKind.wrap .i64 (lowY T x + restI b (highY T x - lowY T x + 1)))], .bool (decide (lowY T x ≤ highY T x))]
  rw [w64 (by omega) (by omega), decide_eq_true hc]

def stoodL (bits : List Int) (l : List Fr) : List (Int × Int) := (List.range l.length).map fun (i : Nat) => chosenN (l.getD i ⟨(0, 0), (0, 0), (0, 0), (0, 0)⟩) (pickI bits (2 * (i : Int))) (pickI bits (2 * (i : Int) + 1))

theorem stood_get {bits : List Int} {l : List Fr} {i : Nat} (h : i < l.length) : (stoodL bits l)[i]? = some (chosenN l[i] (pickI bits (2 * (i : Int))) (pickI bits (2 * (i : Int) + 1))) := by
  unfold stoodL
  rw [List.getElem?_map, List.getElem?_range h]
  simp [h]

theorem stood_len (bits : List Int) (l : List Fr) : (stoodL bits l).length = l.length := by simp [stoodL]

theorem c_stood {l : List Fr} (hl : l.length ≤ 16) (hn : ∀ f ∈ l, nodeOk f = true) {bits : List Int} (hb : bits.length ≤ 9223372036854775807) : C Tryz.prog F.law07_stood [.slice 0 8 (l.map eF), intsV bits] (.tuple [sB (stoodL bits l), .bool true]) := by
  refine C_of mixed chk.law07_stood (by simp) fun S ok => ?_
  refine Tr.seqR rfl (by simp) (Tr.seqR rfl (by simp) (Tr.seq (Tr.seqR rfl (by simp) (Tr.block ?_))))
  refine Tr.loop (fun (k : Nat) st => k ≤ l.length ∧ st = { env := [(0, .slice 0 8 (l.map eF)), (1, intsV bits), (6, .slice 39 2 (((stoodL bits l).take k).map eB)), (7, I (k : Nat))], bx := [], rw := [(38, k, 2, 23)], log := [], stp := false }) (fun k => l.length - k) 0
    (Wk.le (.cons rfl (.refl _) (.cons rfl (.refl _) (.cons rfl (.nil 39 2) (.cons rfl (.refl _) .nil)))) .nil (.new rfl .nil) rfl rfl) ⟨by omega, rfl⟩ ?_
  rintro k st ⟨hk, rfl⟩
  refine Tr.seq (Tr.seqR rfl (by simp) (Tr.cond rfl rfl (fun h1 => Tr.skip ?_) (fun h1 => Tr.exit ?_)))
  · have h1 : k < l.length := by simpa using h1
    have q1 : C Tryz.prog F.ref00_Pick [intsV bits, I (IntKind.wrap .i64 (2 * (k : Int)))] (I (pickI bits (2 * (k : Int)))) := by rw [w64 (by omega) (by omega)]; exact c_Pick _ _ hb
    have q2 : C Tryz.prog F.ref00_Pick [intsV bits, I (IntKind.wrap .i64 (IntKind.wrap .i64 (2 * (k : Int)) + 1))] (I (pickI bits (2 * (k : Int) + 1))) := by rw [w64 (n := 2 * (k : Int)) (by omega) (by omega), w64 (by omega) (by omega)]; exact c_Pick _ _ hb
    have q3 := c_chosen (hn _ (List.getElem_mem h1)) (pickI bits (2 * (k : Int))) (pickI bits (2 * (k : Int) + 1))
    have hg := stood_get (bits := bits) h1
    obtain ⟨p, hp⟩ : ∃ p, chosenN l[k] (pickI bits (2 * (k : Int))) (pickI bits (2 * (k : Int) + 1)) = p := ⟨_, rfl⟩
    rw [hp] at q3 hg
    refine Tr.seq (Tr.block (Tr.seq (Tr.drawK (TraceK.runN 3 rfl (by simp; omega) ?_))))
    rw [getD_map h1]
    refine TraceK.run rfl (by simp) (TraceK.call rfl rfl q1 (TraceK.run rfl (by simp) (TraceK.call rfl rfl q2 ?_)))
    refine TraceK.call rfl rfl q3 (TraceK.run rfl (by simp) (.done ⟨by kernel_rfl, by kernel_rfl, ?_⟩))
    refine Tr.seq (Tr.seqR rfl (by simp) (Tr.condF rfl (Tr.skip ?_)))
    have hsl := stood_len bits l
    refine Tr.regR rfl (by simp; omega) (Tr.regR rfl (by simp) ?_)
    refine ⟨k + 1, _, Wk.le (.cons rfl (.refl _) (.cons rfl (.refl _) (.cons rfl (.of_eq ?_) (.cons rfl (VLe.i (w64 (by omega) (by omega))) .nil)))) .nil (.cons ?_ .nil) rfl rfl, ⟨h1, rfl⟩, by omega⟩
    · rw [List.take_add_one, hg, List.map_append]; rfl
    · show some _ = some _
      have := stood_len bits l
      simp; omega
  · have h1 : k = l.length := by simp at h1; omega
    subst h1
    rw [List.take_of_length_le (by rw [stood_len]; omega)]
    exact Tr.seqR rfl (by simp) (Tr.retX rfl rfl rfl rfl trivial)

end Go.Proofs.YtdejdblopmfjfaaGreatDoor


/-! Contracts: counted. -/
set_option linter.unusedVariables false
set_option linter.unusedSimpArgs false
set_option maxRecDepth 40000
set_option maxHeartbeats 4000000
namespace Go.Proofs.YtdejdblopmfjfaaGreatDoor
open Go.Am
attribute [local simp] cells scalar mkv splice under2 under dem dem1 eB gridC sB fourC eF layC
def cellT (g : Gd) (pts : List (Int × Int)) (t : Int × Int) : Int × Int := cellN g (pts.getD t.1.toNat (0, 0)) (pts.getD t.2.toNat (0, 0))
def countedL (g : Gd) (pts ts : List (Int × Int)) : List (List Int) := countL g (ts.map (cellT g pts))

theorem srefs_snoc (m : Nat) (rbs : List Nat) (b : Nat) : srefs m (rbs ++ [b]) = srefs m rbs ++ [.sref b 0 m m] := by simp [srefs]

theorem c_counted {g : Gd} (hg : gridOk g = true) {s : Ly} (ht64 : s.traces.length ≤ 64) {pts : List (Int × Int)} (hp16 : pts.length ≤ 16) (hpl : ∀ p ∈ pts, planeB p = true) (htr : ∀ t ∈ s.traces, ∃ i j : Nat, t = ((i : Int), (j : Int)) ∧ i < pts.length ∧ j < pts.length) :
    C Tryz.prog F.law07_counted [.agg (gridC g), .agg (layC s), sB pts] (.tuple [foldV (countedL g pts s.traces), .bool true]) := by
  obtain ⟨_, hsz, hga, hgd, hcl, _⟩ := gridOk_spec hg
  have nb := nBins_eq hg
  have hab : IntKind.wrap .i64 (g.a * g.d) = (nBins g : Int) := by rw [nb.1]; exact w64 (by omega) (by omega)
  have ba : btw g.a 1 16 = true := by rw [btw_iff]; exact hga
  have bd : btw g.d 1 16 = true := by rw [btw_iff]; exact hgd
  have ka : C Tryz.prog F.ref00_Between [I g.a, I 1, I 16] (.bool true) := ba ▸ c_between _ _ _
  have kd : C Tryz.prog F.ref00_Between [I g.d, I 1, I 16] (.bool true) := bd ▸ c_between _ _ _
  refine C_of mixed chk.law07_counted (by simp) fun S ok => ?_
  refine Tr.arena rfl rfl ?_
  have hA := InA.main (E := env0 Tryz.prog mixed 119 S ok) [] false
  refine Tr.seqR rfl (by simp) (Tr.seqR rfl (by simp) ?_)
  refine Tr.seq (Tr.seqC rfl (by simp) (Steps.call rfl rfl ka (Steps.run rfl (by simp) ?_)))
  refine Steps.gcall rfl rfl rfl rfl (by simp) (fun _ => kd) (Steps.fin rfl (by simp) (Tr.condF rfl (Tr.skip ?_)))
  refine Tr.seq (Tr.seqR rfl (by simp) (Tr.block ?_))
  refine Tr.loop (α := Nat × List Nat) (fun p st => (p.1 ≤ nBins g ∧ p.2.length = p.1 ∧ p.2.Nodup) ∧
      st = { env := [(2, sB pts), (3, .ptr 3 0), (4, .ptr 4 0), (8, .slice 41 1 (srefs g.cls.length p.2)), (9, I (p.1 : Nat))], bx := [(4, ⟨layC s, false⟩), (3, ⟨gridC g, false⟩)], rw := [(40, p.2.length, 1, 48)], log := encA (arn p.2 ((List.range p.1).map (cntRow g.cls.length []))), stp := false }) (fun p => nBins g - p.1) (0, [])
    (Wk.leL (.cons rfl (.refl _) (.cons rfl (.refl _) (.cons rfl (.refl _) (.cons rfl (.nil 41 1) (.cons rfl (.refl _) .nil))))) (.cons rfl (LLe.refl _) (.cons rfl (LLe.refl _) .nil)) (.new rfl .nil) rfl rfl rfl) ⟨⟨by omega, rfl, List.Pairwise.nil⟩, rfl⟩ ?_
  rintro ⟨k, rbs⟩ st ⟨⟨hk, hlen, hnd⟩, rfl⟩
  simp only at hk hlen hnd
  have hlr : rbs.length = ((List.range k).map (cntRow g.cls.length [])).length := by simp [hlen]
  have hsr : (srefs g.cls.length rbs).length = k := by simp [srefs, hlen]
  refine Tr.seq (Tr.seqR rfl (by simp) (Tr.cond rfl rfl (fun h1 => Tr.skip ?_) (fun h1 => Tr.exit ?_)))
  · have h1 : decide ((k : Int) < IntKind.wrap .i64 (g.a * g.d)) = true := h1
    rw [hab] at h1
    have h1 : k < nBins g := by simpa using h1
    refine Tr.seq (Tr.block (Tr.reg ?_))
    refine Steps.runN 4 rfl (by simp) (Steps.amkbox hA (N := g.cls.length) rfl (by simp) (by simp) (by omega) (by omega) (by omega) rfl fun b hb => ?_)
    rw [arn_keys hlr] at hb
    refine Steps.fin rfl (by simp; omega) (Tr.regR rfl (by simp) ?_)
    have ez : (List.replicate g.cls.length [I 0]).flatten = (cntRow g.cls.length [] k).map I := by
      have : cntRow g.cls.length [] k = List.replicate g.cls.length 0 := by
        refine List.ext_getElem (by simp [cntRow]) fun i h1 h2 => by simp [cntRow]
      rw [this]; simp
    have eA : arn (rbs ++ [b]) ((List.range (k + 1)).map (cntRow g.cls.length [])) = arn rbs ((List.range k).map (cntRow g.cls.length [])) ++ [(b, .cells ((cntRow g.cls.length [] k).map I))] := by
      rw [List.range_succ, List.map_append]; exact arn_snoc _ _ hlr
    have hnd2 : (rbs ++ [b]).Nodup := by
      rw [List.nodup_append]
      exact ⟨hnd, by simp, fun x hx y hy e => by rw [List.mem_singleton.1 hy] at e; exact hb (e ▸ hx)⟩
    refine ⟨(k + 1, rbs ++ [b]), _, Wk.trans (Wk.leL (env := [(2, sB pts), (3, .ptr 3 0), (4, .ptr 4 0), (8, .slice 41 1 (srefs g.cls.length (rbs ++ [b]))), (9, I ((k + 1 : Nat) : Int))]) (bx := [(4, ⟨layC s, false⟩), (3, ⟨gridC g, false⟩)]) (rw := [(40, (rbs ++ [b]).length, 1, 48)])
        (.cons rfl (.refl _) (.cons rfl (.refl _) (.cons rfl (.refl _) (.cons rfl (.of_eq ?_) (.cons rfl (VLe.i (w64 (by omega) (by omega))) .nil))))) (.cons rfl (LLe.refl _) (.cons rfl (LLe.refl _) .nil)) (.cons ?_ .nil) rfl rfl rfl) (Wk.keep hA (B := arn (rbs ++ [b]) ((List.range (k + 1)).map (cntRow g.cls.length []))) rfl ?_ ?_), ⟨⟨by simp only; omega, by simp [hlen], hnd2⟩, rfl⟩, by simp only; omega⟩
    · rw [srefs_snoc]
    · show some _ = some _
      simp [hsr, hlen]
    · intro p hp
      rw [eA] at hp
      rcases List.mem_append.1 hp with hp | hp
      · exact List.mem_cons_of_mem _ hp
      · rw [List.mem_singleton.1 hp, ez]; exact List.mem_cons_self
    · rw [arn_keys (by simp [hlen])]; exact hnd2
  have h1 : decide ((k : Int) < IntKind.wrap .i64 (g.a * g.d)) = false := h1
  rw [hab] at h1
  have h1 : k = nBins g := by simp at h1; omega
  subst h1
  clear hlr
  refine Tr.seq (Tr.seqR rfl (by simp) (Tr.block ?_))
  refine Tr.loop (fun (k : Nat) st => k ≤ s.traces.length ∧ st = { env := [(2, sB pts), (3, .ptr 3 0), (4, .ptr 4 0), (8, .slice 0 1 (rbs.map fun b => V.sref b 0 g.cls.length g.cls.length)), (10, I (k : Nat))], bx := [(4, ⟨layC s, false⟩), (3, ⟨gridC g, false⟩)], rw := [], log := encA (arn rbs (countL g ((s.traces.map (cellT g pts)).take k))), stp := false }) (fun k => s.traces.length - k) 0
    (Wk.leL (.cons rfl (.refl _) (.cons rfl (.refl _) (.cons rfl (.refl _) (.cons rfl (.dem _ _ _) (.cons rfl (.refl _) .nil))))) (.cons rfl (LLe.refl _) (.cons rfl (LLe.refl _) .nil)) .nil rfl rfl rfl) ⟨by omega, rfl⟩ ?_
  rintro k st ⟨hk, rfl⟩
  refine Tr.seq (Tr.seqR rfl (by simp) (Tr.cond rfl rfl (fun h1 => Tr.skip ?_) (fun h1 => Tr.exit ?_)))
  rotate_left
  · have h1 : k = s.traces.length := by simp at h1; omega
    subst h1
    rw [List.take_of_length_le (by simp)]
    obtain ⟨s', w1, g1, g2, g3, g4⟩ := closeRows hA (t := 8) (m := g.cls.length) rbs (countedL g pts s.traces) [] { env := [(8, .slice 0 1 (srefs g.cls.length rbs))], bx := [], rw := [], log := encA (arn rbs (countedL g pts s.traces)), stp := false } hnd (by rw [countedL, countL_len, hlen])
      (fun r hr => by obtain ⟨b, _, rfl⟩ := List.mem_map.1 hr; exact cntRow_len _ _ _) (by simp) rfl rfl
    have w2 := Wk.leL (E := (env0 Tryz.prog mixed 119 S ok).withA [] false) (s := s') (env := [(8, foldV (countedL g pts s.traces))]) (bx := []) (rw := []) (.cons g1 (.of_eq rfl) .nil) .nil .nil rfl rfl g2
    refine Tr.weak (s' := { env := [(8, .slice 0 1 (srefs g.cls.length rbs))], bx := [], rw := [], log := encA (arn rbs (countedL g pts s.traces)), stp := false }) (Wk.le (.cons rfl (.refl _) .nil) .nil .nil rfl rfl) ?_
    refine Tr.weak (w1.trans w2) ?_
    refine Tr.seqR rfl (by simp) ?_
    exact Tr.ret ⟨trivial, _, _, _, resVs_ok rfl, rfl, rfl⟩
  have h1 : k < s.traces.length := by simpa using h1
  obtain ⟨i, j, hij, hi, hj⟩ := htr _ (List.getElem_mem h1)
  have hpi := hpl _ (List.getElem_mem hi)
  have hpj := hpl _ (List.getElem_mem hj)
  have eT : (s.traces.map (cellT g pts)).take (k + 1) = (s.traces.map (cellT g pts)).take k ++ [cellN g pts[i] pts[j]] := by
    rw [List.take_add_one, List.getElem?_map, List.getElem?_eq_getElem h1, hij]
    simp [cellT, hi, hj]
  have kc := c_Cell (g := g) (by omega) pts[i] pts[j]
  rw [if_pos hg, if_pos (by rw [hpi, hpj]; rfl)] at kc
  have hin := cell_in hg pts[i] pts[j]
  have hw1 : IntKind.wrap .i64 (((pts.map eB).length : Int) - 1) = (pts.length : Int) - 1 := by rw [List.length_map, w64 (by omega) (by omega)]
  have b1 : C Tryz.prog F.ref00_Between [I (i : Nat), I 0, I (IntKind.wrap .i64 (((pts.map eB).length : Int) - 1))] (.bool true) := by
    have : btw (i : Int) 0 (IntKind.wrap .i64 (((pts.map eB).length : Int) - 1)) = true := by rw [hw1, btw_iff]; omega
    exact this ▸ c_between _ _ _
  have b2 : C Tryz.prog F.ref00_Between [I (j : Nat), I 0, I (IntKind.wrap .i64 (((pts.map eB).length : Int) - 1))] (.bool true) := by
    have : btw (j : Int) 0 (IntKind.wrap .i64 (((pts.map eB).length : Int) - 1)) = true := by rw [hw1, btw_iff]; omega
    exact this ▸ c_between _ _ _
  refine Tr.seq (Tr.block ?_)
  refine Tr.seqN 4 rfl (by simp; omega) ?_
  rw [getD_map h1, hij]
  refine Steps.fin rfl (by simp) ?_
  refine Tr.seq (Tr.seqC rfl (by simp) (Steps.call rfl rfl b1 (Steps.run rfl (by simp) ?_)))
  refine Steps.gcall rfl rfl rfl rfl (by simp) (fun _ => b2) (Steps.fin rfl (by simp) (Tr.condF rfl (Tr.skip ?_)))
  refine Tr.seq (Tr.drawK (TraceK.runN 5 rfl (by simp; omega) ?_))
  rw [getD_map hi]
  refine TraceK.runN 5 rfl (by simp; omega) ?_
  rw [getD_map hj]
  refine TraceK.run rfl (by simp) (TraceK.call rfl rfl kc (TraceK.run rfl (by simp) (.done ⟨by kernel_rfl, by kernel_rfl, ?_⟩)))
  obtain ⟨c, hc⟩ : ∃ c, cellN g pts[i] pts[j] = c := ⟨_, rfl⟩
  rw [hc] at hin eT ⊢
  refine Tr.seq (Tr.seqR rfl (by simp) (Tr.condF rfl (Tr.skip ?_)))
  rcases hin with rfl | hin
  · refine Tr.seq (Tr.seqR rfl (by simp) (Tr.condT rfl (Tr.exit (Tr.regR rfl (by simp) ?_))))
    exact ⟨k + 1, _, Wk.leL (.cons rfl (.refl _) (.cons rfl (.refl _) (.cons rfl (.refl _) (.cons rfl (.refl _) (.cons rfl (VLe.i (w64 (by omega) (by omega))) .nil))))) (.cons rfl (LLe.refl _) (.cons rfl (LLe.refl _) .nil)) .nil rfl rfl (by rw [eT, countL_none]; rfl), ⟨by omega, rfl⟩, by omega⟩
  obtain ⟨b, q, rfl, hbb, hq⟩ := inG_nat hg hin
  have hbl : b < rbs.length := by omega
  obtain ⟨P, hP⟩ : ∃ P, (s.traces.map (cellT g pts)).take k = P := ⟨_, rfl⟩
  have hPl : P.length ≤ 64 := by rw [← hP, List.length_take]; simp; omega
  obtain ⟨n0, hn0⟩ : ∃ n0, P.count ((b : Int), (q : Int)) = n0 := ⟨_, rfl⟩
  have hn1 : n0 ≤ 64 := by rw [← hn0]; exact Nat.le_trans List.count_le_length hPl
  have hcl2 := countL_len g P
  have hrow := countL_get (P := P) hbb
  have hcell : ((cntRow g.cls.length P b).map I)[q]? = some (I n0) := by rw [List.getElem?_map, cntRow_get hq, hn0]; rfl
  have hrb : rbs[b]? = some rbs[b] := List.getElem?_eq_getElem hbl
  have hmA := arn_mem (rbs := rbs) hrb hrow
  rw [hP] at eT ⊢
  have hw2 : IntKind.wrap .i64 (((rbs.map fun b => V.sref b 0 g.cls.length g.cls.length).length : Int) - 1) = (rbs.length : Int) - 1 := by rw [List.length_map, w64 (by omega) (by omega)]
  have hw3 : IntKind.wrap .i64 (((g.cls.map eB).length : Int) - 1) = (g.cls.length : Int) - 1 := by rw [List.length_map, w64 (by omega) (by omega)]
  have b3 : C Tryz.prog F.ref00_Between [I (b : Nat), I 0, I (IntKind.wrap .i64 (((rbs.map fun b => V.sref b 0 g.cls.length g.cls.length).length : Int) - 1))] (.bool true) := by
    have : btw (b : Int) 0 (IntKind.wrap .i64 (((rbs.map fun b => V.sref b 0 g.cls.length g.cls.length).length : Int) - 1)) = true := by rw [hw2, btw_iff]; omega
    exact this ▸ c_between _ _ _
  have b4 : C Tryz.prog F.ref00_Between [I (q : Nat), I 0, I (IntKind.wrap .i64 (((g.cls.map eB).length : Int) - 1))] (.bool true) := by
    have : btw (q : Int) 0 (IntKind.wrap .i64 (((g.cls.map eB).length : Int) - 1)) = true := by rw [hw3, btw_iff]; omega
    exact this ▸ c_between _ _ _
  refine Tr.seq (Tr.seqR rfl (by simp) (Tr.condF ?_ (Tr.skip ?_)))
  · show some (V.bool ((b : Int) == -1)) = _
    congr 2
  refine Tr.seq (Tr.seqC rfl (by simp) (Steps.call rfl rfl b3 (Steps.run rfl (by simp) ?_)))
  refine Steps.gcall rfl rfl rfl rfl (by simp) (fun _ => b4) (Steps.fin rfl (by simp) (Tr.condF rfl (Tr.skip ?_)))
  refine Tr.seqN 4 rfl (by simp; omega) ?_
  rw [getD_map hbl]
  refine Steps.fin rfl (by simp) ?_
  refine Tr.reg (Steps.runN 3 rfl (by simp) ?_)
  refine Steps.sidx (blk := rbs[b]) (off := 0) (j := q) rfl rfl hq ?_
  refine Steps.aload hA (v := I n0) rfl rfl hmA (by simpa using hcell) (Steps.runN 1 rfl (by simp) ?_)
  refine Steps.sidx (blk := rbs[b]) (off := 0) (j := q) rfl rfl hq ?_
  refine Steps.astore hA rfl rfl hmA (by simp [cntRow_len]; omega) rfl rfl (Steps.fin rfl (by simp) ?_)
  have eL : setA (arn rbs (countL g P)) rbs[b] (.cells (((cntRow g.cls.length P b).map I).set (0 + q * 1) (I (IntKind.wrap .i64 ((n0 : Int) + 1))))) = arn rbs (countL g (P ++ [((b : Int), (q : Int))])) := by
    rw [countL_on hbb hq, hn0, w64 (by omega) (by omega), ← arn_set _ hnd (by rw [hcl2, hlen]) hrb, List.map_set, Nat.zero_add, Nat.mul_one]
  refine Tr.regR rfl (by simp) ?_
  exact ⟨k + 1, _, Wk.leL (.cons rfl (.refl _) (.cons rfl (.refl _) (.cons rfl (.refl _) (.cons rfl (.refl _) (.cons rfl (VLe.i (w64 (by omega) (by omega))) .nil))))) (.cons rfl (LLe.refl _) (.cons rfl (LLe.refl _) .nil)) .nil rfl rfl (by rw [eT, ← eL]; rfl), ⟨by omega, rfl⟩, by omega⟩

end Go.Proofs.YtdejdblopmfjfaaGreatDoor


/-! From the reading of a row's arguments to values. -/
set_option linter.unusedVariables false
set_option linter.unusedSimpArgs false
set_option maxRecDepth 20000
namespace Go.Proofs.YtdejdblopmfjfaaGreatDoor
open Go.Am Go.ChangeShapes Go.WideShapes Go.ChangeAt Go.RowKit

/-- Everything that was there is stable. -/
def phi (W : World) : Nat → Nat := fun b => match W.heap[b]? with
  | some (.cells cs _ _) => cs.size
  | _ => 0

theorem phi_top {W : World} : ∀ b, W.heap.size ≤ b → phi W b = 0 := fun b hb => by
  unfold phi
  rw [Array.getElem?_eq_none hb]

theorem phi_lt {W : World} {b o : Nat} {z : Value} (h : W.cell? ⟨b, o, none⟩ = some z) : o < phi W b := by
  unfold World.cell? at h
  unfold phi
  cases hb : W.heap[b]? with
  | none => rw [hb] at h; simp at h
  | some ob =>
    rw [hb] at h
    cases ob with
    | cells c e m => simp only at h ⊢; exact (Array.getElem?_eq_some_iff.1 h).1
    | _ => simp at h

section
variable {H : Type} (enc : TypeId × Value → H) (W : World)

def Got (Pr : List V → Prop) (cs : List Value) : Prop := ∃ vs, Pr vs ∧ vs.length = cs.length ∧ ∀ (i : Nat) v c, vs[i]? = some v → cs[i]? = some c → RepD W (phi W) v c ∧ scalar v = true

/-- Whatever reads as this type has such values. -/
def Reads (t : TypeId) (Pr : List V → Prop) : Prop := ∀ fuel cs x, DataW.trod enc Tryz.prog W 0 (fun _ => true) true fuel t cs = some x → Got W Pr cs

def trods (fuel : Nat) : List TypeId → List Value → Prop
  | [], cs => cs = []
  | t :: ts, cs => (∃ x, DataW.trod enc Tryz.prog W 0 (fun _ => true) true fuel t (cs.take (Tryz.prog.cellsOf t)) = some x) ∧ Tryz.prog.cellsOf t ≤ cs.length ∧ trods fuel ts (cs.drop (Tryz.prog.cellsOf t))

def ReadsL (ts : List TypeId) (Pr : List V → Prop) : Prop := ∀ fuel cs, trods enc W fuel ts cs → Got W Pr cs

variable {enc W}

theorem Got.mono {P Q : List V → Prop} {cs : List Value} (h : Got W P cs) (k : ∀ vs, P vs → Q vs) : Got W Q cs := let ⟨vs, a, b⟩ := h; ⟨vs, k vs a, b⟩
theorem Reads.mono {t : TypeId} {P Q : List V → Prop} (h : Reads enc W t P) (k : ∀ vs, P vs → Q vs) : Reads enc W t Q := fun fuel cs x hx => (h fuel cs x hx).mono k

theorem readsL_nil : ReadsL enc W [] (fun vs => vs = []) := fun fuel cs h => by
  have h : cs = [] := h
  subst h
  exact ⟨[], rfl, rfl, fun i v c h => by simp at h⟩

theorem readsL_cons {t : TypeId} {ts : List TypeId} {P Q : List V → Prop} (h : Reads enc W t P) (k : ReadsL enc W ts Q) : ReadsL enc W (t :: ts) (fun vs => ∃ a b, P a ∧ Q b ∧ vs = a ++ b) := fun fuel cs ht => by
  obtain ⟨⟨x, hx⟩, hle, hr⟩ := ht
  obtain ⟨a, ha, la, ra⟩ := h _ _ _ hx
  obtain ⟨b, hb, lb, rb⟩ := k _ _ hr
  rw [List.length_take] at la
  rw [List.length_drop] at lb
  refine ⟨a ++ b, ⟨a, b, ha, hb, rfl⟩, by simp; omega, fun i v c hv hc => ?_⟩
  by_cases hi : i < a.length
  · rw [List.getElem?_append_left hi] at hv
    exact ra i v c hv (by rw [List.getElem?_take, if_pos (by omega)]; exact hc)
  · rw [List.getElem?_append_right (by omega)] at hv
    refine rb (i - a.length) v c hv ?_
    rw [List.getElem?_drop, show Tryz.prog.cellsOf t + (i - a.length) = i by omega]
    exact hc

theorem reads_int {t : TypeId} (ht : Tryz.prog.underlying t = some (.int .i64)) : Reads enc W t (fun vs => ∃ n : Int, vs = [I n] ∧ -9223372036854775808 ≤ n ∧ n ≤ 9223372036854775807) := fun fuel cs x hx => by
  obtain ⟨n, rfl, _, hw⟩ := DataW.trod_int ht hx
  have hb := Go.bounds_i64 hw
  refine ⟨[I n], ⟨n, rfl, by omega, by omega⟩, rfl, fun i v c hv hc => ?_⟩
  cases i with
  | zero => cases hv; cases hc; exact ⟨.int _ _, rfl⟩
  | succ i => cases hv

/-- Fields one behind the other. -/
noncomputable def offsB : List Field → Nat → Nat → Bool
  | [], o, n => o == n
  | f :: r, o, n => f.offset == o && offsB r (o + Tryz.prog.cellsOf f.type) n

theorem trods_of {fuel : Nat} : ∀ (fs : List Field) (o n : Nat) (cs : List Value), offsB fs o n = true → cs.length = n → o ≤ n → (∀ f ∈ fs, ∃ x, DataW.trod enc Tryz.prog W 0 (fun _ => true) true fuel f.type ((cs.drop f.offset).take (Tryz.prog.cellsOf f.type)) = some x) → trods enc W fuel (fs.map (·.type)) (cs.drop o)
  | [], o, n, cs, h, hl, _, _ => by
    simp only [offsB, beq_iff_eq] at h
    show cs.drop o = []
    rw [List.drop_eq_nil_of_le (by omega)]
  | f :: r, o, n, cs, h, hl, ho, hf => by
    simp only [offsB, Bool.and_eq_true, beq_iff_eq] at h
    have hle : o + Tryz.prog.cellsOf f.type ≤ n := by
      have : ∀ (fs : List Field) (o n : Nat), offsB fs o n = true → o ≤ n := by
        intro fs
        induction fs with
        | nil => intro o n h; simp only [offsB, beq_iff_eq] at h; omega
        | cons g r ih => intro o n h; simp only [offsB, Bool.and_eq_true, beq_iff_eq] at h; have := ih _ _ h.2; omega
      exact this _ _ _ h.2
    refine ⟨?_, by rw [List.length_drop]; show Tryz.prog.cellsOf f.type ≤ _; omega, ?_⟩
    · have := hf f (by simp)
      rw [h.1] at this
      exact this
    · rw [List.drop_drop]
      exact trods_of r _ n cs h.2 hl hle fun g hg => hf g (by simp [hg])

theorem reads_struct {t : TypeId} {fs : Array Field} {Pr : List V → Prop} (ht : Tryz.prog.underlying t = some (.struct fs)) (ho : offsB fs.toList 0 (Tryz.prog.cellsOf t) = true) (h : ReadsL enc W (fs.toList.map (·.type)) Pr) : Reads enc W t Pr := fun fuel cs x hx => by
  obtain ⟨xs, n, _, _, hl, hxs, hf⟩ := DataW.trod_struct ht hx
  refine h n cs ?_
  have := trods_of (enc := enc) (W := W) (fuel := n) fs.toList 0 _ cs ho hl (Nat.zero_le _) fun f hm => by
    obtain ⟨i, hi, rfl⟩ := List.mem_iff_getElem.1 hm
    have h1 := hf i fs.toList[i] (by simp at hi ⊢)
    rw [h1]
    have : i < xs.length := by simp at hi; omega
    exact ⟨_, List.getElem?_eq_getElem this⟩
  simpa using this

theorem trods_rep {fuel : Nat} {e : TypeId} : ∀ (n k : Nat) (cs : List Value), cs.length = (k + n) * Tryz.prog.cellsOf e → (∀ i, i < n → ∃ x, DataW.trod enc Tryz.prog W 0 (fun _ => true) true fuel e ((cs.drop ((k + i) * Tryz.prog.cellsOf e)).take (Tryz.prog.cellsOf e)) = some x) → trods enc W fuel (List.replicate n e) (cs.drop (k * Tryz.prog.cellsOf e))
  | 0, k, cs, hl, _ => by
    show cs.drop _ = []
    rw [List.drop_eq_nil_of_le (by rw [hl]; simp)]
  | n + 1, k, cs, hl, hf => by
    have e1 : (k + (n + 1)) * Tryz.prog.cellsOf e = k * Tryz.prog.cellsOf e + (n * Tryz.prog.cellsOf e + Tryz.prog.cellsOf e) := by rw [Nat.add_mul, Nat.succ_mul]
    refine ⟨by simpa using hf 0 (by omega), by rw [List.length_drop]; omega, ?_⟩
    rw [List.drop_drop, show k * Tryz.prog.cellsOf e + Tryz.prog.cellsOf e = (k + 1) * Tryz.prog.cellsOf e by rw [Nat.succ_mul]]
    exact trods_rep n (k + 1) cs (by rw [hl]; congr 1; omega) fun i hi => by
      have := hf (i + 1) (by omega)
      rwa [show k + 1 + i = k + (i + 1) by omega]

theorem reads_array {t e : TypeId} {n : Nat} {Pr : List V → Prop} (ht : Tryz.prog.underlying t = some (.array n e)) (hc : Tryz.prog.cellsOf t = n * Tryz.prog.cellsOf e) (h : ReadsL enc W (List.replicate n e) Pr) : Reads enc W t Pr := fun fuel cs x hx => by
  obtain ⟨xs, m, _, _, hl, hxs, hf⟩ := DataW.trod_array ht hx
  refine h m cs ?_
  have := trods_rep (enc := enc) (W := W) (fuel := m) (e := e) n 0 cs (by rw [hl, hc]; simp) fun i hi => by
    rw [Nat.zero_add, hf i hi]
    exact ⟨_, List.getElem?_eq_getElem (by omega)⟩
  simpa using this

def wrapV (agg : Bool) (x : List V) : V := bif agg then .agg x else x.headD nothing

theorem cells_wrap {agg : Bool} {x : List V} {sz : Nat} (hx : x.length = sz) (hs : ∀ v ∈ x, scalar v = true) (ha : agg = false → sz = 1) : cells (wrapV agg x) = x := by
  cases agg with
  | true => rfl
  | false =>
    have := ha rfl
    subst this
    match x, hx with
    | [v], _ =>
      have hv := hs v (by simp)
      show cells v = [v]
      cases v <;> simp [scalar] at hv <;> rfl

theorem cell_spot {a : Addr} {z : Value} (h : W.cell? a = some z) : a = ⟨a.block, a.off, none⟩ := by
  have := World.cell?_spot h
  obtain ⟨b, o, s⟩ := a
  simp only at this
  subst this; rfl

theorem reads_slice {t e : TypeId} {sz : Nat} {Pe : List V → Prop} (agg : Bool) (ht : Tryz.prog.underlying t = some (.slice e)) (hc : Tryz.prog.cellsOf e = sz) (h0 : 0 < sz) (ha : agg = false → sz = 1) (h : Reads enc W e Pe) :
    Reads enc W t (fun vs => ∃ xs : List (List V), (∀ x ∈ xs, Pe x) ∧ xs.length ≤ 9223372036854775807 ∧ vs = [.slice 0 sz (xs.map (wrapV agg))]) := fun fuel cs x hx => by
  subst hc
  rcases DataW.trod_slice ht hx with ⟨rfl, _⟩ | ⟨a, len, cap, elems, rest, n, _, rfl, _, _, hlc, hcm, hel, hE, _⟩
  · refine ⟨[.slice 0 _ []], ⟨[], fun x hx => by simp at hx, by simp, rfl⟩, rfl, fun i v c hv hc => ?_⟩
    cases i with
    | zero => cases hv; cases hc; exact ⟨.slice0 _ _ _, rfl⟩
    | succ i => cases hv
  · have hcm' : cap ≤ 9223372036854775807 := by unfold maxLen at hcm; omega
    -- the elements, one by one
    have step : ∀ m, m ≤ len → ∃ xs : List (List V), xs.length = m ∧ (∀ x ∈ xs, Pe x ∧ x.length = Tryz.prog.cellsOf e) ∧
        ∀ (i : Nat) x (j : Nat) v, xs[i]? = some x → x[j]? = some v → ∃ c, W.cell? (a.add (i * Tryz.prog.cellsOf e + j)) = some c ∧ RepD W (phi W) v c ∧ scalar v = true := by
      intro m
      induction m with
      | zero => exact fun _ => ⟨[], rfl, fun x hx => by simp at hx, fun i x j v hx => by simp at hx⟩
      | succ m ih =>
        intro hm
        obtain ⟨xs, l1, l2, l3⟩ := ih (by omega)
        have h1 := hE m (by omega)
        rw [List.getElem?_eq_getElem (by omega)] at h1
        rw [Option.bind_eq_some_iff] at h1
        obtain ⟨ccs, h2, h3⟩ := h1
        obtain ⟨vs, v1, v2, v3⟩ := h _ _ _ h3
        have hcc : ccs.length = Tryz.prog.cellsOf e ∧ ∀ (j : Nat) c, ccs[j]? = some c → W.cell? (a.add (m * Tryz.prog.cellsOf e + j)) = some c := by
          unfold World.cells? at h2
          rw [if_pos (Nat.zero_le _)] at h2
          refine ⟨by simpa using mapM_some_length h2, fun j c hj => ?_⟩
          have hjl : j < Tryz.prog.cellsOf e := by
            have := (List.getElem?_eq_some_iff.1 hj).1
            have hh := mapM_some_length h2
            simp at hh; omega
          have := mapM_some_get h2 j j (by simp [hjl])
          rw [hj] at this
          rw [← this, Addr.add_add]
        refine ⟨xs ++ [vs], by simp [l1], fun x hx => ?_, fun i x j v hx hj => ?_⟩
        · rcases List.mem_append.1 hx with hx | hx
          · exact l2 x hx
          · simp at hx; subst hx; exact ⟨v1, by omega⟩
        · by_cases hi : i < xs.length
          · rw [List.getElem?_append_left hi] at hx
            exact l3 i x j v hx hj
          · have hi' : i = xs.length := by
              have := (List.getElem?_eq_some_iff.1 hx).1
              simp at this; omega
            subst hi'
            rw [List.getElem?_append_right (by omega)] at hx
            simp at hx; subst hx
            have hjl : j < ccs.length := by have := (List.getElem?_eq_some_iff.1 hj).1; omega
            rw [l1]
            exact ⟨ccs[j], hcc.2 j _ (List.getElem?_eq_getElem hjl), v3 j v _ hj (List.getElem?_eq_getElem hjl)⟩
    obtain ⟨xs, l1, l2, l3⟩ := step len (Nat.le_refl _)
    have hsc : ∀ x ∈ xs, ∀ v ∈ x, scalar v = true := fun x hx v hv => by
      obtain ⟨i, hi, rfl⟩ := List.mem_iff_getElem.1 hx
      obtain ⟨j, hj, rfl⟩ := List.mem_iff_getElem.1 hv
      obtain ⟨c, _, _, hs⟩ := l3 i _ j _ (List.getElem?_eq_getElem hi) (List.getElem?_eq_getElem hj)
      exact hs
    have hcw : ∀ x ∈ xs, cells (wrapV agg x) = x := fun x hx => cells_wrap (l2 x hx).2 (hsc x hx) ha
    refine ⟨[.slice 0 _ (xs.map (wrapV agg))], ⟨xs, fun x hx => (l2 x hx).1, by omega, rfl⟩, rfl, fun i v c hv hc => ?_⟩
    cases i with
    | succ i => cases hv
    | zero =>
      cases hv; cases hc
      refine ⟨?_, rfl⟩
      by_cases hl0 : len = 0
      · subst hl0
        have : xs = [] := List.eq_nil_of_length_eq_zero l1
        subst this
        exact .slice0 _ _ _
      · -- the place of the first cell
        have hx0 : 0 < xs.length := by omega
        have hlen0 := (l2 _ (List.getElem_mem hx0)).2
        obtain ⟨c0, hc0, _⟩ := l3 0 xs[0] 0 (xs[0][0]'(by omega)) (List.getElem?_eq_getElem hx0) (List.getElem?_eq_getElem (by omega))
        have hsp := cell_spot hc0
        obtain ⟨b, off, sp⟩ := a
        have : sp = none := by simpa [Addr.add] using hsp
        subst this
        have hwl : ∀ y ∈ xs.map (wrapV agg), (cells y).length = Tryz.prog.cellsOf e := fun y hy => by
          obtain ⟨x, hx, rfl⟩ := List.mem_map.1 hy
          rw [hcw x hx, (l2 x hx).2]
        have at_ : ∀ (j : Nat) v, ((xs.map (wrapV agg)).flatMap cells)[j]? = some v → ∃ c, W.cell? ⟨b, off + j, none⟩ = some c ∧ RepD W (phi W) v c ∧ scalar v = true := fun j v hj => by
          obtain ⟨i, u, k, hu, hk, rfl⟩ := flat_split h0 hwl j v hj
          rw [List.getElem?_map, Option.map_eq_some_iff] at hu
          obtain ⟨x, hx, rfl⟩ := hu
          rw [hcw x (List.mem_of_getElem? hx)] at hk
          obtain ⟨c, q1, q2⟩ := l3 i x k v hx hk
          refine ⟨c, ?_, q2⟩
          rw [← q1]
          unfold Addr.add
          split
          · rename_i h; rw [h]; rfl
          · rfl
        refine .slice _ _ b off len cap (fun j => (W.cell? ⟨b, off + j, none⟩).getD undef) h0 (by simp [l1]) hlc hwl (fun j v hj => ?_) (fun j v hj => ?_)
        · obtain ⟨c, q1, q2, q3⟩ := at_ j v hj
          exact ⟨phi_lt q1, by rw [q1]; rfl, q3⟩
        · obtain ⟨c, q1, q2, q3⟩ := at_ j v hj
          rw [q1]; exact q2

/-! ### Arguments -/
theorem arg_agg {t : TypeId} {Pr : List V → Prop} {v : Value} {d : DataW H} {p : List MemPlace} (ha : aggB Tryz.prog t = true) (h : Reads enc W t Pr) (hv : Value.okWide Tryz.prog W .any 0 t v) (ht : DataW.Trod enc Tryz.prog W 0 (fun _ => true) true t v d p) : ∃ vs, Pr vs ∧ RepD W (phi W) (.agg vs) v := by
  obtain ⟨fuel, hf⟩ := ht
  obtain ⟨vs, h1, h2, h3⟩ := h _ _ _ hf
  obtain ⟨cs, rfl, _⟩ : ∃ cs, v = .agg cs ∧ True := by
    unfold aggB at ha
    unfold Value.okWide at hv
    split at ha
    · rename_i hu; rw [hu] at hv; obtain ⟨cs, rfl, _⟩ := hv; exact ⟨cs, rfl, trivial⟩
    · rename_i hu; rw [hu] at hv; obtain ⟨cs, rfl, _⟩ := hv; exact ⟨cs, rfl, trivial⟩
    · cases ha
  refine ⟨vs, h1, .agg _ _ (by simpa [Value.cells] using h2) fun i v x hv hx => (h3 i v x hv ?_).1⟩
  simpa [Value.cells] using hx

theorem arg_one {t : TypeId} {Pr : List V → Prop} {v : Value} {d : DataW H} {p : List MemPlace} (hc : v.cells = #[v]) (h : Reads enc W t Pr) (ht : DataW.Trod enc Tryz.prog W 0 (fun _ => true) true t v d p) : ∃ u, Pr [u] ∧ RepD W (phi W) u v := by
  obtain ⟨fuel, hf⟩ := ht
  obtain ⟨vs, h1, h2, h3⟩ := h _ _ _ hf
  rw [hc] at h2 h3
  match vs, h2 with
  | [u], _ => exact ⟨u, h1, (h3 0 u v rfl rfl).1⟩

theorem exists_list {α : Type} {xs : List (List V)} {R : α → Prop} {g : α → List V} (h : ∀ x ∈ xs, ∃ a, R a ∧ x = g a) : ∃ l : List α, xs = l.map g ∧ ∀ a ∈ l, R a := by
  induction xs with
  | nil => exact ⟨[], rfl, fun a ha => by simp at ha⟩
  | cons x r ih =>
    obtain ⟨a, ha, rfl⟩ := h x (by simp)
    obtain ⟨l, rfl, hl⟩ := ih fun y hy => h y (by simp [hy])
    exact ⟨a :: l, rfl, fun b hb => by
      rcases List.mem_cons.1 hb with rfl | hb
      · exact ha
      · exact hl b hb⟩

end
end Go.Proofs.YtdejdblopmfjfaaGreatDoor


/-! What the arguments of the statements of the bin chapter read as. -/
set_option linter.unusedVariables false
set_option linter.unusedSimpArgs false
set_option maxRecDepth 20000
namespace Go.Proofs.YtdejdblopmfjfaaGreatDoor
open Go.Am Go.ChangeShapes Go.WideShapes Go.ChangeAt Go.RowKit

section
variable {H : Type} {enc : TypeId × Value → H} {W : World}

theorem rd_int : Reads enc W 3 (fun vs => ∃ n : Int, vs = [I n] ∧ -9223372036854775808 ≤ n ∧ n ≤ 9223372036854775807) := reads_int Tryz.underlying3

theorem rd_point : Reads enc W 23 (fun vs => ∃ b : Int × Int, vs = [I b.1, I b.2]) := by
  refine (reads_struct Tryz.underlying23 (by kernel_rfl) (readsL_cons rd_int (readsL_cons rd_int readsL_nil))).mono ?_
  rintro vs ⟨a, b, ⟨x, rfl, _⟩, ⟨c, d, ⟨y, rfl, _⟩, rfl, rfl⟩, rfl⟩
  exact ⟨(x, y), rfl⟩

theorem rd_bound : Reads enc W 83 (fun vs => ∃ b : Int × Int, vs = [I b.1, I b.2]) := by
  refine (reads_struct Tryz.underlying83 (by kernel_rfl) (readsL_cons rd_int (readsL_cons rd_int readsL_nil))).mono ?_
  rintro vs ⟨a, b, ⟨x, rfl, _⟩, ⟨c, d, ⟨y, rfl, _⟩, rfl, rfl⟩, rfl⟩
  exact ⟨(x, y), rfl⟩

theorem rd_bounds : Reads enc W 24 (fun vs => ∃ l : List (Int × Int), l.length ≤ 9223372036854775807 ∧ vs = [sB l]) := by
  refine (reads_slice (sz := 2) true Tryz.underlying24 (by kernel_rfl) (by decide) (by decide) rd_bound).mono ?_
  rintro vs ⟨xs, h1, h2, rfl⟩
  obtain ⟨l, rfl, _⟩ := exists_list (R := fun _ => True) (g := fun b : Int × Int => [I b.1, I b.2]) fun x hx => by obtain ⟨b, rfl⟩ := h1 x hx; exact ⟨b, trivial, rfl⟩
  refine ⟨l, by simpa using h2, ?_⟩
  simp [sB, wrapV, Function.comp_def, eB]

theorem rd_grid : Reads enc W 26 (fun vs => ∃ g : Gd, g.cls.length ≤ 9223372036854775807 ∧ vs = gridC g) := by
  refine (reads_struct Tryz.underlying26 (by kernel_rfl) (readsL_cons rd_point (readsL_cons rd_int (readsL_cons rd_int (readsL_cons rd_int (readsL_cons rd_bounds readsL_nil)))))).mono ?_
  rintro vs ⟨a, b, ⟨o, rfl⟩, ⟨c, d, ⟨x, rfl, _⟩, ⟨e, f, ⟨y, rfl, _⟩, ⟨k, m, ⟨z, rfl, _⟩, ⟨p, q, ⟨l, hl, rfl⟩, rfl, rfl⟩, rfl⟩, rfl⟩, rfl⟩, rfl⟩
  exact ⟨⟨o, x, y, z, l⟩, hl, rfl⟩

theorem rd_region : Reads enc W 85 (fun vs => ∃ f : Fr, vs = fourC f) := by
  refine (reads_struct Tryz.underlying85 (by kernel_rfl) (readsL_cons rd_bound (readsL_cons rd_bound (readsL_cons rd_bound (readsL_cons rd_bound readsL_nil))))).mono ?_
  rintro vs ⟨a, b, ⟨x, rfl⟩, ⟨c, d, ⟨y, rfl⟩, ⟨e, f, ⟨z, rfl⟩, ⟨p, q, ⟨l, rfl⟩, rfl, rfl⟩, rfl⟩, rfl⟩, rfl⟩
  exact ⟨⟨x, y, z, l⟩, rfl⟩

theorem rd_regions : Reads enc W 27 (fun vs => ∃ l : List Fr, l.length ≤ 9223372036854775807 ∧ vs = [.slice 0 8 (l.map eF)]) := by
  refine (reads_slice (sz := 8) true Tryz.underlying27 (by kernel_rfl) (by decide) (by decide) rd_region).mono ?_
  rintro vs ⟨xs, h1, h2, rfl⟩
  obtain ⟨l, rfl, _⟩ := exists_list (R := fun _ => True) (g := fun f : Fr => fourC f) fun x hx => by obtain ⟨b, rfl⟩ := h1 x hx; exact ⟨b, trivial, rfl⟩
  refine ⟨l, by simpa using h2, ?_⟩
  simp [wrapV, Function.comp_def, eF]

theorem rd_int2 : Reads enc W 97 (fun vs => ∃ a b : Int, vs = [I a, I b]) := by
  refine (reads_array Tryz.underlying97 (by kernel_rfl) (readsL_cons rd_int (readsL_cons rd_int readsL_nil))).mono ?_
  rintro vs ⟨a, b, ⟨x, rfl, _⟩, ⟨c, d, ⟨y, rfl, _⟩, rfl, rfl⟩, rfl⟩
  exact ⟨x, y, rfl⟩

theorem rd_traces : Reads enc W 28 (fun vs => ∃ l : List (Int × Int), l.length ≤ 9223372036854775807 ∧ vs = [sB l]) := by
  refine (reads_slice (sz := 2) true Tryz.underlying28 (by kernel_rfl) (by decide) (by decide) rd_int2).mono ?_
  rintro vs ⟨xs, h1, h2, rfl⟩
  obtain ⟨l, rfl, _⟩ := exists_list (R := fun _ => True) (g := fun b : Int × Int => [I b.1, I b.2]) fun x hx => by obtain ⟨a, b, rfl⟩ := h1 x hx; exact ⟨(a, b), trivial, rfl⟩
  refine ⟨l, by simpa using h2, ?_⟩
  simp [sB, wrapV, Function.comp_def, eB]

theorem rd_layout : Reads enc W 30 (fun vs => ∃ s : Ly, s.nodes.length ≤ 9223372036854775807 ∧ s.traces.length ≤ 9223372036854775807 ∧ vs = layC s) := by
  refine (reads_struct Tryz.underlying30 (by kernel_rfl) (readsL_cons rd_regions (readsL_cons rd_traces readsL_nil))).mono ?_
  rintro vs ⟨a, b, ⟨l, hl, rfl⟩, ⟨c, d, ⟨m, hm, rfl⟩, rfl, rfl⟩, rfl⟩
  exact ⟨⟨l, m⟩, hl, hm, rfl⟩

theorem rd_ints : Reads enc W 48 (fun vs => ∃ l : List Int, l.length ≤ 9223372036854775807 ∧ vs = [intsV l]) := by
  refine (reads_slice (sz := 1) false Tryz.underlying48 (by kernel_rfl) (by decide) (fun _ => rfl) rd_int).mono ?_
  rintro vs ⟨xs, h1, h2, rfl⟩
  obtain ⟨l, rfl, _⟩ := exists_list (R := fun _ => True) (g := fun n : Int => [I n]) fun x hx => by obtain ⟨b, rfl, _⟩ := h1 x hx; exact ⟨b, trivial, rfl⟩
  refine ⟨l, by simpa using h2, ?_⟩
  simp [intsV, wrapV, Function.comp_def]

def nfSane (x : Nf) : Prop := (x.lacks.length ≤ 9223372036854775807 ∧ x.passes.length ≤ 9223372036854775807) ∧ ∀ p ∈ x.passes, p.adds.length ≤ 9223372036854775807

end

theorem repR_bool {w : World} {φ : Nat → Nat} {b : Bool} {x : Value} (h : RepR w φ (.bool b) x) : x = .bool b := by
  cases h with
  | data r => cases r; rfl

/-- From a contract to the walk that a row asks for. -/
theorem walk_of {f : FuncId} {args : List V} {xs : Array Value} {W : World} (hc : C Tryz.prog f args (.bool true)) (hg : Gl W (phi W)) (hr : RepL W (phi W) args xs) : Calls Tryz.prog f xs W fun e W' => e = .returned (.bool true) ∧ Below W.heap.size W W' :=
  (hc.2 W (phi W) xs phi_top hg hr).mono fun e w' ⟨φ', x, he, hx, hb, _⟩ => ⟨by rw [he, repR_bool hx], hb⟩

theorem own : ownKnob Tryz.prog.godebug = none := by kernel_rfl
theorem laidOut : laidOutB Tryz.prog = true := by kernel_rfl

end Go.Proofs.YtdejdblopmfjfaaGreatDoor


/-! What is counted is between the folds. -/
set_option linter.unusedVariables false
set_option linter.unusedSimpArgs false
set_option maxRecDepth 40000
set_option maxHeartbeats 4000000
namespace Go.Proofs.YtdejdblopmfjfaaGreatDoor
open Go.Am
attribute [local simp] cells scalar mkv splice under2 under dem dem1 eB gridC sB fourC eF layC foldV intsV
/-! ### What is counted is between the folds -/
theorem count_one {x c : Int × Int} : ([c] : List (Int × Int)).count x = if c = x then 1 else 0 := by
  by_cases h : c = x
  · subst h; simp
  · simp [h]

theorem sure_count {l : List (Int × Int)} {c : Int × Int} (h : c ∈ l) (x : Int × Int) : (sureL l).count x ≤ [c].count x ∧ [c].count x ≤ l.count x := by
  constructor
  · rcases l with _ | ⟨d, _ | ⟨e, r⟩⟩
    · simp [sureL]
    · obtain rfl : c = d := by simpa using h
      simp only [sureL]
      split
      · simp
      · exact Nat.le_refl _
    · simp [sureL]
  · rw [count_one]
    split
    · rename_i e; subst e
      exact List.count_pos_iff.2 h
    · exact Nat.zero_le _

section
variable {g : Gd} {s : Ly} {bits : List Int}

theorem trace_in (hs : layOk s = true) {k : Nat} (h1 : k < s.traces.length) : ∃ i j : Nat, s.traces[k] = ((i : Int), (j : Int)) ∧ i < s.nodes.length ∧ j < s.nodes.length := by
  have := (layOk_spec hs).2.2 _ (List.getElem_mem h1)
  simp only [traceOk, Bool.and_eq_true, btw_iff] at this
  exact ⟨s.traces[k].1.toNat, s.traces[k].2.toNat, Prod.ext (by simp; omega) (by simp; omega), by omega, by omega⟩

theorem cell_hit (hs : layOk s = true) {k : Nat} (h1 : k < s.traces.length) : cellT g (stoodL bits s.nodes) s.traces[k] ∈ hitsT (layD g s) k := by
  obtain ⟨i, j, hij, hi, hj⟩ := trace_in hs h1
  have hn := (layOk_spec hs).2.1
  have gi := stood_get (bits := bits) hi
  have gj := stood_get (bits := bits) hj
  have e : (layD g s).traces.getD k (0, 0) = ((i : Int), (j : Int)) := by simp [layD, h1, hij]
  unfold hitsT pl
  rw [e, hij]
  unfold cellT
  simp only [Int.toNat_natCast]
  have e1 : (stoodL bits s.nodes).getD i (0, 0) = chosenN s.nodes[i] (pickI bits (2 * (i : Int))) (pickI bits (2 * (i : Int) + 1)) := by rw [List.getD_eq_getElem?_getD, gi]; rfl
  have e2 : (stoodL bits s.nodes).getD j (0, 0) = chosenN s.nodes[j] (pickI bits (2 * (j : Int))) (pickI bits (2 * (j : Int) + 1)) := by rw [List.getD_eq_getElem?_getD, gj]; rfl
  have e3 : (layD g s).places.getD i [] = placesL s.nodes[i] := by simp [layD, hi]
  have e4 : (layD g s).places.getD j [] = placesL s.nodes[j] := by simp [layD, hj]
  rw [e1, e2, e3, e4]
  refine mem_hitsOf.2 (List.mem_map.2 ⟨(_, _), mem_pairs.2 ⟨chosen_in (hn _ (List.getElem_mem hi)) _ _, chosen_in (hn _ (List.getElem_mem hj)) _ _⟩, rfl⟩)

theorem counts (hs : layOk s = true) (x : Int × Int) : ∀ k ≤ s.traces.length, (allH (sureT (layD g s)) k).count x ≤ ((s.traces.map (cellT g (stoodL bits s.nodes))).take k).count x ∧ ((s.traces.map (cellT g (stoodL bits s.nodes))).take k).count x ≤ (allH (hitsT (layD g s)) k).count x
  | 0, _ => by simp [allH]
  | k + 1, hk => by
    obtain ⟨i1, i2⟩ := counts hs x k (by omega)
    have h1 : k < s.traces.length := by omega
    obtain ⟨j1, j2⟩ := sure_count (cell_hit (g := g) (bits := bits) hs h1) x
    have eT : (s.traces.map (cellT g (stoodL bits s.nodes))).take (k + 1) = (s.traces.map (cellT g (stoodL bits s.nodes))).take k ++ [cellT g (stoodL bits s.nodes) s.traces[k]] := by
      rw [List.take_add_one, List.getElem?_map, List.getElem?_eq_getElem h1]; rfl
    rw [allH_succ, allH_succ, eT, List.count_append, List.count_append, List.count_append]
    unfold sureT at *
    omega
end

end Go.Proofs.YtdejdblopmfjfaaGreatDoor


/-! Plain laws of choices: the best one; a lack less, a pass more; choices as numbers. -/
set_option linter.unusedVariables false
set_option linter.unusedSimpArgs false
set_option maxRecDepth 40000
set_option maxHeartbeats 4000000
namespace Go.Proofs.YtdejdblopmfjfaaGreatDoor
open Go.Am

/-! ### The best choice -/
def bestTo (x : Nf) (wo k : Nat) : Nat × Bool := (List.range k).foldl (bestStep x wo) (0, false)

theorem bestTo_spec (x : Nf) (wo : Nat) : ∀ k, ((bestTo x wo k).2 = true → (bestTo x wo k).1 < k ∧ skips x wo (bestTo x wo k).1 = false) ∧ ∀ b < k, skips x wo b = false → (bestTo x wo k).2 = true ∧ costB x (bestTo x wo k).1 ≤ costB x b
  | 0 => ⟨fun h => by simp [bestTo] at h, fun b h => by omega⟩
  | k + 1 => by
    obtain ⟨h1, h2⟩ := bestTo_spec x wo k
    have e : bestTo x wo (k + 1) = bestStep x wo (bestTo x wo k) k := by unfold bestTo; rw [List.range_succ, List.foldl_append]; rfl
    rw [e]
    obtain ⟨⟨o, so⟩, hos⟩ : ∃ p, bestTo x wo k = p := ⟨_, rfl⟩
    rw [hos] at h1 h2 ⊢
    unfold bestStep
    by_cases hk : skips x wo k = true
    · rw [if_pos hk]
      refine ⟨fun h => ⟨by have := (h1 h).1; omega, (h1 h).2⟩, fun b hb hs => ?_⟩
      rcases Nat.lt_succ_iff_lt_or_eq.1 hb with hb | rfl
      · exact h2 b hb hs
      · rw [hk] at hs; cases hs
    have hk : skips x wo k = false := by simpa using hk
    rw [hk, if_neg (by simp)]
    cases so with
    | false =>
      rw [if_pos (show (!(o, false).2) = true from rfl)]
      refine ⟨fun _ => ⟨by simp, hk⟩, fun b hb hs => ?_⟩
      rcases Nat.lt_succ_iff_lt_or_eq.1 hb with hb | rfl
      · have := (h2 b hb hs).1; cases this
      · exact ⟨rfl, Int.le_refl _⟩
    | true =>
      rw [if_neg (by simp)]
      obtain ⟨a1, a2⟩ := h1 rfl
      by_cases hb : better x k o = true
      · rw [if_pos hb]
        have hle : costB x k ≤ costB x o := by
          unfold better at hb
          split at hb
          · have := of_decide_eq_true hb; omega
          · rename_i h; have := Classical.not_not.1 h; omega
        refine ⟨fun _ => ⟨by simp, hk⟩, fun b hb hs => ?_⟩
        rcases Nat.lt_succ_iff_lt_or_eq.1 hb with hb | rfl
        · exact ⟨rfl, Int.le_trans hle (h2 b hb hs).2⟩
        · exact ⟨rfl, Int.le_refl _⟩
      · rw [if_neg hb]
        have hle : costB x o ≤ costB x k := by
          have hb : better x k o = false := by simpa using hb
          unfold better at hb
          split at hb
          · have := of_decide_eq_false hb; omega
          · rename_i h; have := Classical.not_not.1 h; omega
        refine ⟨fun _ => ⟨by simp only at a1 ⊢; omega, a2⟩, fun b hb hs => ?_⟩
        rcases Nat.lt_succ_iff_lt_or_eq.1 hb with hb | rfl
        · exact h2 b hb hs
        · exact ⟨rfl, hle⟩

theorem skips0 (x : Nf) (b : Nat) : skips x 0 b = !coversB x b := by simp [skips]

theorem best_some {x : Nf} (h : (bestN x 0).2 = true) : (bestN x 0).1 < 2 ^ x.passes.length ∧ coversB x (bestN x 0).1 = true := by
  have := (bestTo_spec x 0 (2 ^ x.passes.length)).1 h
  rw [skips0] at this
  exact ⟨this.1, (Bool.not_eq_eq_eq_not.1 this.2)⟩
/-! ### A lack less -/
def LeI : List Int → List Int → Prop
  | [], [] => True
  | a :: l, b :: m => a ≤ b ∧ LeI l m
  | _, _ => False

theorem LeI.refl : ∀ l, LeI l l
  | [] => trivial
  | a :: l => ⟨Int.le_refl a, LeI.refl l⟩
theorem LeI.rest : ∀ {c d : List Int} (a : List Int), LeI c d → LeI (restN c a) (restN d a)
  | [], [], a, _ => by simp [restN, LeI]
  | x :: c, y :: d, [], _ => trivial
  | x :: c, y :: d, z :: a, h => by
    have := LeI.rest a h.2
    have h1 := h.1
    have e : max 0 (x - z) ≤ max 0 (y - z) := by omega
    exact ⟨e, this⟩
  | [], _ :: _, _, h => h.elim
  | _ :: _, [], _, h => h.elim
theorem LeI.sum : ∀ {c d : List Int} (z w : Int), LeI c d → z ≤ w → c.foldl (· + ·) z ≤ d.foldl (· + ·) w
  | [], [], _, _, _, h => h
  | x :: c, y :: d, z, w, h, h2 => LeI.sum (z + x) (w + y) h.2 (by have := h.1; omega)
  | [], _ :: _, _, _, h, _ => h.elim
  | _ :: _, [], _, _, h, _ => h.elim
/-! ### A pass more -/
/-! ### A choice as a number -/
end Go.Proofs.YtdejdblopmfjfaaGreatDoor


/-! Contracts: Build. -/
set_option linter.unusedVariables false
set_option linter.unusedSimpArgs false
set_option maxRecDepth 40000
set_option maxHeartbeats 4000000
namespace Go.Proofs.YtdejdblopmfjfaaGreatDoor
open Go.Am
attribute [local simp] cells scalar mkv splice under2 under dem dem1 eB gridC sB laidC fourC eF layC eQ nfC intsV foldV eL sL
def eY (s : Ly) : V := .agg (layC s)
attribute [local simp] eY
def lySane (s : Ly) : Prop := s.nodes.length ≤ 9223372036854775807 ∧ s.traces.length ≤ 9223372036854775807

def addK (F : List (List Int)) (k : Int × Int × Int) : Int := min 100 (at2 F k.1.toNat k.2.1.toNat)
def addsK (F : List (List Int)) (K : List (Int × Int × Int)) : List Int := K.map (addK F)
def foldS (g : Gd) (s : Ly) : List (List Int) := cntN (layD g s) (sureT (layD g s))
def passesK (g : Gd) (K : List (Int × Int × Int)) (lines : List Ly) (costs : List Int) : List Ps := List.zipWith (fun s c => ⟨c, addsK (foldS g s) K⟩) lines costs
def buildN (g : Gd) (K : List (Int × Int × Int)) (lines : List Ly) (costs : List Int) : Nf := ⟨K.map (·.2.2), passesK g K lines costs⟩
def nf0 : Nf := ⟨[], []⟩

theorem c_build1 (n : Int) : C Tryz.prog F.bin_Build_1 [I n] (.bool (!btw n 1 1000)) := by
  refine C_of mixed chk.bin_Build_1 (by simp) fun S ok => ?_
  exact Tr.seqR rfl (by simp) (Tr.seqC rfl (by simp) (Steps.call rfl rfl (c_within n 1 1000) (Steps.fin rfl (by simp) (Tr.retX rfl rfl rfl rfl trivial))))

def BuildR (g : Gd) (s : Ly) (ns : List Int) (lines : List Ly) (costs : List Int) : V :=
  if gridOk g then (if layOk s then (if needOk g ns then (if lines.all layOk then (if lines.length ≤ 10 ∧ costs.length = lines.length ∧ (costs.any fun n => !btw n 1 1000) = false then
    (if (lacksL (layD g s) ns).length ≤ 16 then .tuple [.agg (nfC (buildN g (lacksL (layD g s) ns) lines costs)), I 0] else .tuple [.agg (nfC nf0), I 3]) else .tuple [.agg (nfC nf0), I 75]) else .tuple [.agg (nfC nf0), I 71]) else .tuple [.agg (nfC nf0), I 73]) else .tuple [.agg (nfC nf0), I 71]) else .tuple [.agg (nfC nf0), I 70]

theorem lackAt_mem {ns : List Int} {f : List (List Int)} {i k : Nat} {x : Int × Int × Int} (h : x ∈ lackAt ns f i k) : x.1 = i ∧ x.2.1 = k := by
  unfold lackAt at h
  split at h
  · rw [List.mem_singleton.1 h]; exact ⟨rfl, rfl⟩
  · cases h

theorem lacks_mem {L : Ld} {ns : List Int} {x : Int × Int × Int} (h : x ∈ lacksL L ns) : ∃ b c : Nat, x.1 = b ∧ x.2.1 = c ∧ b < nBins L.g ∧ c < ns.length := by
  unfold lacksL lackN at h
  obtain ⟨i, hi, h⟩ := List.mem_flatMap.1 h
  unfold lackRow at h
  obtain ⟨k, hk, h⟩ := List.mem_flatMap.1 h
  obtain ⟨h1, h2⟩ := lackAt_mem h
  have hi := List.mem_range.1 hi
  rw [cntN_len] at hi
  exact ⟨i, k, h1, h2, hi, List.mem_range.1 hk⟩

theorem zip_take {α β γ : Type} {f : α → β → γ} {l : List α} {m : List β} {k : Nat} (h1 : k < l.length) (h2 : k < m.length) : (List.zipWith f l m).take (k + 1) = (List.zipWith f l m).take k ++ [f l[k] m[k]] := by
  rw [List.take_add_one, List.getElem?_zipWith, List.getElem?_eq_getElem h1, List.getElem?_eq_getElem h2]; rfl

theorem c_Build {g : Gd} {s : Ly} (hl : g.cls.length ≤ 9223372036854775807) (hs0 : lySane s) {ns : List Int} (hns : ns.length ≤ 9223372036854775807) {lines : List Ly} (hln : lines.length ≤ 9223372036854775807) (hls : ∀ y ∈ lines, lySane y) {costs : List Int} (hcs : costs.length ≤ 9223372036854775807) :
    C Tryz.prog F.bin_Build [.agg (gridC g), .agg (layC s), intsV ns, .slice 0 2 (lines.map eY), intsV costs] (BuildR g s ns lines costs) := by
  have kb := c_begun hl hs0.1 hs0.2
  have kn := c_needed (g := g) (l := ns) hns
  unfold BuildR
  refine C_of mixed chk.bin_Build (by simp) fun S ok => ?_
  refine Tr.seqR rfl (by simp) ?_
  by_cases hg : gridOk g = true
  rotate_left
  · rw [if_neg hg] at kb ⊢
    refine Tr.seqC rfl (by simp) (Steps.call rfl rfl kb (Steps.fin rfl (by simp) ?_))
    refine Tr.seq (Tr.seqR rfl (by simp) (Tr.condT rfl (Tr.seqR rfl (by simp) ?_)))
    exact Tr.weak (s' := { env := [(10, .ptr 10 0), (11, I 70)], bx := [(10, ⟨nfC nf0, false⟩)], rw := [], log := [], stp := false }) (Wk.le (.cons rfl (.refl _) (.cons rfl (.refl _) .nil)) (.cons rfl (.cons (.nil 0 1) (.cons (.nil 0 2) .nil)) .nil) .nil rfl rfl) (Tr.retX rfl rfl rfl rfl trivial)
  rw [if_pos hg] at kb ⊢
  by_cases hs : layOk s = true
  rotate_left
  · rw [if_neg hs] at kb ⊢
    refine Tr.seqC rfl (by simp) (Steps.call rfl rfl kb (Steps.fin rfl (by simp) ?_))
    refine Tr.seq (Tr.seqR rfl (by simp) (Tr.condT rfl (Tr.seqR rfl (by simp) ?_)))
    exact Tr.weak (s' := { env := [(10, .ptr 10 0), (11, I 71)], bx := [(10, ⟨nfC nf0, false⟩)], rw := [], log := [], stp := false }) (Wk.le (.cons rfl (.refl _) (.cons rfl (.refl _) .nil)) (.cons rfl (.cons (.nil 0 1) (.cons (.nil 0 2) .nil)) .nil) .nil rfl rfl) (Tr.retX rfl rfl rfl rfl trivial)
  rw [if_pos hs] at kb ⊢
  have hL := lay_ok hg hs
  have nb := (nBins_eq hg).2
  have hcl4 : g.cls.length ≤ 4 := by obtain ⟨_, _, _, _, h, _⟩ := gridOk_spec hg; exact h.2
  refine Tr.seqC rfl (by simp) (Steps.call rfl rfl kb (Steps.fin rfl (by simp [laidC]) ?_))
  refine Tr.seq (Tr.seqR rfl (by simp) (Tr.condF rfl (Tr.skip ?_)))
  by_cases hne : needOk g ns = true
  rotate_left
  · rw [if_neg hne]
    rw [show needOk g ns = false by simpa using hne] at kn
    refine Tr.seq (Tr.seqC rfl (by simp) (Steps.call rfl rfl kn (Steps.fin rfl (by simp) (Tr.condT rfl (Tr.seqR rfl (by simp) ?_)))))
    exact Tr.weak (s' := { env := [(10, .ptr 10 0), (11, I 73)], bx := [(10, ⟨nfC nf0, false⟩)], rw := [], log := [], stp := false }) (Wk.le (.cons rfl (.refl _) (.cons rfl (.refl _) .nil)) (.cons rfl (.cons (.nil 0 1) (.cons (.nil 0 2) .nil)) .nil) .nil rfl rfl) (Tr.retX rfl rfl rfl rfl trivial)
  rw [if_pos hne]
  rw [hne] at kn
  have hnl := (needOk_spec hne).1
  refine Tr.seq (Tr.seqC rfl (by simp) (Steps.call rfl rfl kn (Steps.fin rfl (by simp) (Tr.condF rfl (Tr.skip ?_)))))
  obtain ⟨L, eL0⟩ : ∃ L, layD g s = L := ⟨_, rfl⟩
  have eLg : L.g = g := by rw [← eL0]; rfl
  rw [eL0] at hL ⊢
  refine Tr.seq (Tr.seqR rfl (by simp) (Tr.block ?_))
  refine Tr.loop (fun (k : Nat) st => (k ≤ lines.length ∧ (lines.take k).all layOk = true) ∧ st = { env := [(2, intsV ns), (3, .slice 0 2 (lines.map eY)), (4, intsV costs), (5, .ptr 5 0), (10, .ptr 10 0), (12, .ptr 12 0), (43, .slice 0 2 (lines.map eY)), (44, I (lines.length : Nat)), (45, I (k : Nat))], bx := [(12, ⟨laidC L, false⟩), (10, ⟨[.nils, .nils], false⟩), (5, ⟨gridC g, false⟩)], rw := [], log := [], stp := false }) (fun k => lines.length - k) 0
    (Wk.le (.cons rfl (.refl _) (.cons rfl (.refl _) (.cons rfl (.refl _) (.cons rfl (.refl _) (.cons rfl (.refl _) (.cons rfl (.refl _) (.cons rfl (.refl _) (.cons rfl (VLe.i (by simp)) (.cons rfl (.refl _) .nil))))))))) (.cons rfl (LLe.refl _) (.cons rfl (LLe.refl _) (.cons rfl (LLe.refl _) .nil))) .nil rfl rfl) ⟨⟨by omega, by simp⟩, rfl⟩ ?_
  rintro k st ⟨⟨hk, hall⟩, rfl⟩
  refine Tr.seqR rfl (by simp) (Tr.seqI rfl (fun h1 => ?_) (fun h1 => ?_))
  · have h1 : k < lines.length := by simpa using h1
    have hlk := hls _ (List.getElem_mem h1)
    have ky := c_CheckLayout (s := lines[k]) hlk.1 hlk.2
    refine Tr.skipT (Tr.seq (Tr.block ?_))
    refine Tr.seqN 1 rfl (by simp; omega) ?_
    rw [getD_map h1]
    refine Steps.fin rfl (by simp) ?_
    by_cases hy : layOk lines[k] = true
    rotate_left
    · have hall2 : ¬ lines.all layOk = true := fun h => hy (List.all_eq_true.1 h _ (List.getElem_mem h1))
      rw [if_neg hall2]
      rw [if_neg hy] at ky
      refine Tr.seqC rfl (by simp) (Steps.call rfl rfl ky (Steps.fin rfl (by simp) ?_))
      refine Tr.seqR rfl (by simp) (Tr.condT rfl (Tr.seqR rfl (by simp) ?_))
      exact Tr.weak (s' := { env := [(10, .ptr 10 0), (11, I 71)], bx := [(10, ⟨nfC nf0, false⟩)], rw := [], log := [], stp := false }) (Wk.le (.cons rfl (.refl _) (.cons rfl (.refl _) .nil)) (.cons rfl (.cons (.nil 0 1) (.cons (.nil 0 2) .nil)) .nil) .nil rfl rfl) (Tr.retX rfl rfl rfl rfl trivial)
    · rw [if_pos hy] at ky
      refine Tr.seqC rfl (by simp) (Steps.call rfl rfl ky (Steps.fin rfl (by simp) ?_))
      refine Tr.seqR rfl (by simp) (Tr.condF rfl (Tr.skip (Tr.regR rfl (by simp) ?_)))
      refine ⟨k + 1, _, Wk.le (.cons rfl (.refl _) (.cons rfl (.refl _) (.cons rfl (.refl _) (.cons rfl (.refl _) (.cons rfl (.refl _) (.cons rfl (.refl _) (.cons rfl (.refl _) (.cons rfl (.refl _) (.cons rfl (VLe.i (w64 (by omega) (by omega))) .nil))))))))) (.cons rfl (LLe.refl _) (.cons rfl (LLe.refl _) (.cons rfl (LLe.refl _) .nil))) .nil rfl rfl, ⟨⟨h1, by rw [all_take_succ h1, hall, hy]; rfl⟩, rfl⟩, by omega⟩
  have h1 : k = lines.length := by simp at h1; omega
  subst h1
  rw [List.take_length] at hall
  rw [if_pos hall]
  refine Tr.exit ?_
  have kc := c_containsI (p := fun n => !btw n 1 1000) (f := F.bin_Build_1) hcs (fun b _ => c_build1 b)
  refine Tr.seq (Tr.seqC rfl (by simp) (Steps.gcall rfl rfl rfl rfl (by simp) (fun _ => kc) (Steps.fin rfl (by simp) ?_)))
  have hcond : (bif (bif decide (((lines.map eY).length : Int) > 10) then true else (((costs.map I).length : Int) != ((lines.map eY).length : Int))) then true else costs.any fun n => !btw n 1 1000) = !decide (lines.length ≤ 10 ∧ costs.length = lines.length ∧ (costs.any fun n => !btw n 1 1000) = false) := by
    rw [List.length_map, List.length_map]
    by_cases a1 : lines.length ≤ 10
    · rw [decide_eq_false (show ¬ ((lines.length : Int) > 10) by omega)]
      by_cases a2 : costs.length = lines.length
      · rw [a2]
        cases a3 : (costs.any fun n => !btw n 1 1000) <;> simp [a1]
      · have : (((costs.length : Int)) != (lines.length : Int)) = true := by simp; omega
        rw [this]; simp [a2]
    · rw [decide_eq_true (show ((lines.length : Int) > 10) by omega)]; simp [a1]
  refine Tr.cond rfl rfl (fun h2 => ?_) (fun h2 => Tr.skip ?_)
  · have h2 : (bif (bif decide (((lines.map eY).length : Int) > 10) then true else (((costs.map I).length : Int) != ((lines.map eY).length : Int))) then true else costs.any fun n => !btw n 1 1000) = true := h2
    rw [hcond] at h2
    rw [if_neg (by simpa only [Bool.not_eq_true', decide_eq_false_iff_not] using h2)]
    refine Tr.seqR rfl (by simp) ?_
    exact Tr.weak (s' := { env := [(10, .ptr 10 0), (11, I 75)], bx := [(10, ⟨nfC nf0, false⟩)], rw := [], log := [], stp := false }) (Wk.le (.cons rfl (.refl _) (.cons rfl (.refl _) .nil)) (.cons rfl (.cons (.nil 0 1) (.cons (.nil 0 2) .nil)) .nil) .nil rfl rfl) (Tr.retX rfl rfl rfl rfl trivial)
  have h2 : (bif (bif decide (((lines.map eY).length : Int) > 10) then true else (((costs.map I).length : Int) != ((lines.map eY).length : Int))) then true else costs.any fun n => !btw n 1 1000) = false := h2
  rw [hcond] at h2
  have h2 : lines.length ≤ 10 ∧ costs.length = lines.length ∧ (costs.any fun n => !btw n 1 1000) = false := by simpa using h2
  rw [if_pos h2]
  have kl := c_lacks hL (ns := ns) (by rw [eLg]; exact hne)
  refine Tr.seqC rfl (by simp [laidC]) (Steps.call rfl rfl kl (Steps.fin rfl (by simp) ?_))
  have hmem : ∀ x ∈ lacksL L ns, ∃ b c : Nat, x.1 = b ∧ x.2.1 = c ∧ b < nBins g ∧ c < g.cls.length := fun x hx => by
    obtain ⟨b, c, h1, h2, h3, h4⟩ := lacks_mem hx
    rw [eLg] at h3
    exact ⟨b, c, h1, h2, h3, by omega⟩
  obtain ⟨K, hK⟩ : ∃ K, lacksL L ns = K := ⟨_, rfl⟩
  rw [hK] at hmem ⊢
  refine Tr.seq (Tr.seqR rfl (by simp) (Tr.cond rfl rfl (fun h3 => ?_) (fun h3 => Tr.skip ?_)))
  · have h3 : decide (((K.map eL).length : Int) > 16) = true := h3
    rw [List.length_map] at h3
    rw [if_neg (by have := of_decide_eq_true h3; omega)]
    refine Tr.seqR rfl (by simp) ?_
    exact Tr.weak (s' := { env := [(10, .ptr 10 0), (11, I 3)], bx := [(10, ⟨nfC nf0, false⟩)], rw := [], log := [], stp := false }) (Wk.le (.cons rfl (.refl _) (.cons rfl (.refl _) .nil)) (.cons rfl (.cons (.nil 0 1) (.cons (.nil 0 2) .nil)) .nil) .nil rfl rfl) (Tr.retX rfl rfl rfl rfl trivial)
  have h3 : decide (((K.map eL).length : Int) > 16) = false := h3
  rw [List.length_map] at h3
  have hK16 : K.length ≤ 16 := by have := of_decide_eq_false h3; omega
  rw [if_pos hK16]
  refine Tr.seqR rfl (by simp) ?_
  refine Tr.seq (Tr.seqR rfl (by simp) (Tr.block ?_))
  refine Tr.loop (fun (k : Nat) st => k ≤ K.length ∧ st = { env := [(3, .slice 0 2 (lines.map eY)), (4, intsV costs), (5, .ptr 5 0), (10, .ptr 10 0), (17, sL K), (18, .ptr 18 0), (78, sL K), (79, I (K.length : Nat)), (80, I (k : Nat))], bx := [(18, ⟨[.slice 90 1 (((K.map (·.2.2)).take k).map I), .nils], false⟩), (10, ⟨[.nils, .nils], false⟩), (5, ⟨gridC g, false⟩)], rw := [(89, k, 1, 3)], log := [], stp := false }) (fun k => K.length - k) 0
    (Wk.le (.cons rfl (.refl _) (.cons rfl (.refl _) (.cons rfl (.refl _) (.cons rfl (.refl _) (.cons rfl (.refl _) (.cons rfl (.refl _) (.cons rfl (.refl _) (.cons rfl (VLe.i (by simp)) (.cons rfl (.refl _) .nil))))))))) (.cons rfl (.cons (.nil 90 1) (.cons (.refl _) .nil)) (.cons rfl (LLe.refl _) (.cons rfl (LLe.refl _) .nil))) (.new rfl .nil) rfl rfl) ⟨by omega, rfl⟩ ?_
  rintro k st ⟨hk, rfl⟩
  refine Tr.seqR rfl (by simp) (Tr.seqI rfl (fun h1 => ?_) (fun h1 => ?_))
  · have h1 : k < K.length := by simpa using h1
    refine Tr.skipT (Tr.seq (Tr.block ?_))
    refine Tr.seqN 1 rfl (by simp; omega) ?_
    rw [getD_map h1]
    refine Steps.fin rfl (by simp) ?_
    refine Tr.regR rfl (by simp; omega) (Tr.regR rfl (by simp) ?_)
    refine ⟨k + 1, _, Wk.le (.cons rfl (.refl _) (.cons rfl (.refl _) (.cons rfl (.refl _) (.cons rfl (.refl _) (.cons rfl (.refl _) (.cons rfl (.refl _) (.cons rfl (.refl _) (.cons rfl (.refl _) (.cons rfl (VLe.i (w64 (by omega) (by omega))) .nil))))))))) (.cons rfl (.cons (.of_eq ?_) (.cons (.refl _) .nil)) (.cons rfl (LLe.refl _) (.cons rfl (LLe.refl _) .nil))) (.cons ?_ .nil) rfl rfl, ⟨h1, rfl⟩, by omega⟩
    · rw [List.take_add_one, List.getElem?_map, List.getElem?_eq_getElem h1, List.map_append]; rfl
    · show some _ = some _
      simp; omega
  have h1 : k = K.length := by simp at h1; omega
  subst h1
  rw [List.take_of_length_le (by simp)]
  refine Tr.exit ?_
  obtain ⟨hl10, hcl, _⟩ := h2
  refine Tr.seq (Tr.seqR rfl (by simp) (Tr.block ?_))
  refine Tr.loop (fun (k : Nat) st => k ≤ lines.length ∧ st = { env := [(4, intsV costs), (5, .ptr 5 0), (10, .ptr 10 0), (17, sL K), (18, .ptr 18 0), (92, .slice 0 2 (lines.map eY)), (93, I (lines.length : Nat)), (94, I (k : Nat))], bx := [(18, ⟨[intsV (K.map (·.2.2)), .slice 138 2 (((passesK g K lines costs).take k).map eQ)], false⟩), (10, ⟨[.nils, .nils], false⟩), (5, ⟨gridC g, false⟩)], rw := [(137, k, 2, 147)], log := [], stp := false }) (fun k => lines.length - k) 0
    (Wk.le (.cons rfl (.refl _) (.cons rfl (.refl _) (.cons rfl (.refl _) (.cons rfl (.refl _) (.cons rfl (.refl _) (.cons rfl (.refl _) (.cons rfl (VLe.i (by show ((lines.map eY).length : Int) = _; rw [List.length_map])) (.cons rfl (.refl _) .nil)))))))) (.cons rfl (.cons (.dem _ _ _) (.cons (.nil 138 2) .nil)) (.cons rfl (LLe.refl _) (.cons rfl (LLe.refl _) .nil))) (.new rfl .nil) rfl rfl) ⟨by omega, rfl⟩ ?_
  rintro k st ⟨hk, rfl⟩
  have hpl : (passesK g K lines costs).length = lines.length := by simp [passesK, hcl]
  refine Tr.seqR rfl (by simp) (Tr.seqI rfl (fun h1 => ?_) (fun h1 => ?_))
  rotate_left
  · have h1 : k = lines.length := by simp at h1; omega
    subst h1
    rw [List.take_of_length_le (by omega)]
    refine Tr.exit (Tr.seqR rfl (by simp) ?_)
    exact Tr.weak (s' := { env := [(10, .ptr 10 0), (11, I 0)], bx := [(10, ⟨nfC (buildN g K lines costs), false⟩)], rw := [], log := [], stp := false }) (Wk.le (.cons rfl (.refl _) (.cons rfl (.refl _) .nil)) (.cons rfl (.cons (.refl _) (.cons (.dem _ _ _) .nil)) .nil) .nil rfl rfl) (Tr.retX rfl rfl rfl rfl trivial)
  have h1 : k < lines.length := by simpa using h1
  have h1c : k < costs.length := by omega
  have hyk : layOk lines[k] = true := List.all_eq_true.1 hall _ (List.getElem_mem h1)
  have hLk := lay_ok hg hyk
  have hFn := cntN_len (layD g lines[k]) (sureT (layD g lines[k]))
  have hFr : ∀ {i : Nat} (hi : i < (foldS g lines[k]).length), ((foldS g lines[k])[i]).length = g.cls.length := fun hi => cntN_row (L := layD g lines[k]) hi
  have kcount := c_countS hLk
  have hnx : (passesK g K lines costs).take (k + 1) = (passesK g K lines costs).take k ++ [⟨costs[k], addsK (foldS g lines[k]) K⟩] := zip_take h1 h1c
  have hFl : (foldS g lines[k]).length = nBins g := hFn
  have kcount2 : C Tryz.prog F.bin_laid_count [.agg (laidC (layD g lines[k])), .func (.func F.bin_laid_surely) [.agg (laidC (layD g lines[k]))] []] (foldV (foldS g lines[k])) := kcount
  obtain ⟨Fd, hFd⟩ : ∃ F, foldS g lines[k] = F := ⟨_, rfl⟩
  rw [hFd] at kcount2 hnx hFl
  have hFr2 : ∀ {i : Nat} (hi : i < Fd.length), (Fd[i]).length = g.cls.length := fun hi => by subst hFd; exact hFr hi
  refine Tr.skipT (Tr.seq (Tr.block ?_))
  refine Tr.seqN 2 rfl (by simp; omega) ?_
  rw [getD_map h1]
  refine Steps.fin rfl (by simp) ?_
  refine Tr.seqC rfl (by simp) (Steps.call rfl rfl (c_lay g hyk) (Steps.fin rfl (by simp [laidC]) ?_))
  refine Tr.seqC rfl (by simp [laidC]) (Steps.call rfl rfl kcount2 (Steps.fin rfl (by simp) ?_))
  refine Tr.seqN 3 rfl (by simp; omega) ?_
  rw [getD_map h1c]
  refine Steps.fin rfl (by simp) ?_
  refine Tr.seq (Tr.seqR rfl (by simp) (Tr.block ?_))
  refine Tr.loop (fun (j : Nat) st => j ≤ K.length ∧ st = { env := [(4, intsV costs), (5, .ptr 5 0), (10, .ptr 10 0), (17, sL K), (18, .ptr 18 0), (24, foldV Fd), (25, .ptr 25 0), (92, .slice 0 2 (lines.map eY)), (93, I (lines.length : Nat)), (94, I (k : Nat)), (111, sL K), (112, I (K.length : Nat)), (113, I (j : Nat))], bx := [(25, ⟨[I costs[k], .slice 131 1 (((addsK Fd K).take j).map I)], false⟩), (18, ⟨[intsV (K.map (·.2.2)), .slice 138 2 (((passesK g K lines costs).take k).map eQ)], false⟩), (10, ⟨[.nils, .nils], false⟩), (5, ⟨gridC g, false⟩)], rw := [(130, j, 1, 3), (137, k, 2, 147)], log := [], stp := false }) (fun j => K.length - j) 0
    (Wk.le (.cons rfl (.refl _) (.cons rfl (.refl _) (.cons rfl (.refl _) (.cons rfl (.refl _) (.cons rfl (.refl _) (.cons rfl (.refl _) (.cons rfl (.refl _) (.cons rfl (.refl _) (.cons rfl (.refl _) (.cons rfl (.refl _) (.cons rfl (.refl _) (.cons rfl (VLe.i (by show ((K.map eL).length : Int) = _; rw [List.length_map])) (.cons rfl (.refl _) .nil))))))))))))) (.cons rfl (.cons (.refl _) (.cons (.nil 131 1) .nil)) (.cons rfl (LLe.refl _) (.cons rfl (LLe.refl _) (.cons rfl (LLe.refl _) .nil)))) (.new rfl (.cons rfl .nil)) rfl rfl) ⟨by omega, rfl⟩ ?_
  rintro j st ⟨hj, rfl⟩
  have hal : (addsK Fd K).length = K.length := by simp [addsK]
  refine Tr.seqR rfl (by simp) (Tr.seqI rfl (fun h4 => ?_) (fun h4 => ?_))
  · have h4 : j < K.length := by simpa using h4
    obtain ⟨b, c, e1, e2, hb, hc⟩ := hmem _ (List.getElem_mem h4)
    have hbF : b < Fd.length := by omega
    have hcF : c < Fd[b].length := by rw [hFr2 hbF]; exact hc
    have hadd : (addsK Fd K).take (j + 1) = (addsK Fd K).take j ++ [min 100 Fd[b][c]] := by
      unfold addsK
      rw [List.take_add_one, List.getElem?_map, List.getElem?_eq_getElem h4]
      simp only [Option.map_some, Option.toList_some]
      congr 2
      unfold addK
      rw [e1, e2, Int.toNat_natCast, Int.toNat_natCast, at2_get hbF hcF]
    have eKj : eL K[j] = .agg [I (b : Nat), I (c : Nat), I K[j].2.2] := by unfold eL; rw [e1, e2]
    refine Tr.skipT (Tr.seq (Tr.block ?_))
    refine Tr.seqN 1 rfl (by simp; omega) ?_
    rw [getD_map h4, eKj]
    refine Steps.fin rfl (by simp) ?_
    refine Tr.drawK (TraceK.runN 6 rfl (by simp; omega) ?_)
    rw [getD_map hbF]
    refine TraceK.runN 4 rfl (by simp; omega) ?_
    rw [getD_map hcF]
    refine TraceK.run rfl (by simp; omega) (.done ⟨by kernel_rfl, by kernel_rfl, ?_⟩)
    refine Tr.regR rfl (by simp) ?_
    refine ⟨j + 1, _, Wk.le (.cons rfl (.refl _) (.cons rfl (.refl _) (.cons rfl (.refl _) (.cons rfl (.refl _) (.cons rfl (.refl _) (.cons rfl (.refl _) (.cons rfl (.refl _) (.cons rfl (.refl _) (.cons rfl (.refl _) (.cons rfl (.refl _) (.cons rfl (.refl _) (.cons rfl (.refl _) (.cons rfl (VLe.i (w64 (by omega) (by omega))) .nil))))))))))))) (.cons rfl (.cons (.refl _) (.cons (.of_eq ?_) .nil)) (.cons rfl (LLe.refl _) (.cons rfl (LLe.refl _) (.cons rfl (LLe.refl _) .nil)))) (.cons ?_ (.cons rfl .nil)) rfl rfl, ⟨h4, rfl⟩, by omega⟩
    · rw [hadd, List.map_append]
      show V.slice 131 1 (((addsK Fd K).take j).map I ++ [I (bif false then _ else (if Fd[b][c] < 100 then Fd[b][c] else 100))]) = _
      rw [cond_false, ifMin]; rfl
    · show some _ = some _
      simp [hal]; omega
  have h4 : j = K.length := by simp at h4; omega
  subst h4
  rw [show (addsK Fd K).take K.length = addsK Fd K from List.take_of_length_le (by omega)]
  refine Tr.exit ?_
  refine Tr.weak (s' := { env := [(4, intsV costs), (5, .ptr 5 0), (10, .ptr 10 0), (17, sL K), (18, .ptr 18 0), (25, .ptr 25 0), (92, .slice 0 2 (lines.map eY)), (93, I (lines.length : Nat)), (94, I (k : Nat))], bx := [(25, ⟨[I costs[k], intsV (addsK Fd K)], false⟩), (18, ⟨[intsV (K.map (·.2.2)), .slice 138 2 (((passesK g K lines costs).take k).map eQ)], false⟩), (10, ⟨[.nils, .nils], false⟩), (5, ⟨gridC g, false⟩)], rw := [(137, k, 2, 147)], log := [], stp := false })
    (Wk.le (.cons rfl (.refl _) (.cons rfl (.refl _) (.cons rfl (.refl _) (.cons rfl (.refl _) (.cons rfl (.refl _) (.cons rfl (.refl _) (.cons rfl (.refl _) (.cons rfl (.refl _) (.cons rfl (.refl _) .nil))))))))) (.cons rfl (.cons (.refl _) (.cons (.dem _ _ _) .nil)) (.cons rfl (LLe.refl _) (.cons rfl (LLe.refl _) (.cons rfl (LLe.refl _) .nil)))) (.cons rfl .nil) rfl rfl) ?_
  refine Tr.regR rfl (by simp; omega) (Tr.regR rfl (by simp) ?_)
  refine ⟨k + 1, _, Wk.le (.cons rfl (.refl _) (.cons rfl (.refl _) (.cons rfl (.refl _) (.cons rfl (.refl _) (.cons rfl (.refl _) (.cons rfl (.refl _) (.cons rfl (.refl _) (.cons rfl (VLe.i (w64 (by omega) (by omega))) .nil)))))))) (.cons rfl (.cons (.refl _) (.cons (.of_eq ?_) .nil)) (.cons rfl (LLe.refl _) (.cons rfl (LLe.refl _) .nil))) (.cons ?_ .nil) rfl rfl, ⟨h1, rfl⟩, by omega⟩
  · rw [hnx, List.map_append]; rfl
  · show some _ = some _
    simp [hpl]; omega

end Go.Proofs.YtdejdblopmfjfaaGreatDoor


/-! AM, part Zt: calls that leave an arena of which something is known. -/
set_option linter.unusedVariables false
set_option linter.unusedSimpArgs false
namespace Go.Am
open Go.RowKit

/-- Constants lie outside of the arena. -/
def InKD (E : Env) (K : List (Nat × List V)) : Prop := ∀ B stp M w φ, E.S (encA B) stp M w φ → ∀ p ∈ K, p.1 ∉ B.map (·.1)

section
variable {E : Env} {S0 : Sur} {l0 : List (List V)} {s0 : Bool} {A : Arena} {stp : Bool} {σ : FSt} {a : Act} {w : World} {h : Gh}

end
end Go.Am


/-! AM, part Zv: calls that return what lies in an arena. -/
set_option linter.unusedVariables false
set_option linter.unusedSimpArgs false
namespace Go.Am
open Go.RowKit

/-- At the end of a body: of the result something is known. -/
def qRetX (P : Program) (rs : List ResultVar) (K : V → St → Prop) : Exit → St → Prop
  | .ret, s | .normal, s => ∃ r, K r s ∧ ∃ vs us ids, rs.mapM (resV P s) = some vs ∧ toDs s.fs.b vs = some (us, ids) ∧ r = packR us
  | _, _ => False

theorem Tr.retZ {E : Env} {ro : Option Nat} {Q : Exit → St → Prop} {s : St} {P : Program} {rs : List ResultVar} {K : V → St → Prop} {vs us : List V} {ids : List Nat} (hQ : Q .ret = qRetX P rs K .ret) (h : resVs P s rs = some vs) (hd : toDs s.fs.b vs = some (us, ids)) (hk : K (packR us) s) : Tr E ro .ret Q s :=
  Tr.ret (by rw [hQ]; exact ⟨_, hk, vs, us, ids, resVs_ok h, hd, rfl⟩)

theorem calls_bodyX {E : Env} {f : FuncId} {fn : Func} {c : Code} {ic : IC} (hf : E.P.funcs[f]? = some fn) (hb : fn.body = some c) (hc : compC E.P E.nt c = some ic) (hnt : fn.ntmps = E.nt) {args : List V} {xs : Array Value} {w : World} {φ : Nat → Nat} {y : Option Nat}
    (hlen : args.length ≤ E.nt) (hl : args.length = xs.size) (hrep : ∀ (i : Nat) v x, args[i]? = some v → xs[i]? = some x → Rep w φ (fun _ => none) y v x ∧ ∀ σ h, GrowV σ h w v x)
    (hS : E.S [] false (fun _ => False) w φ) (htop : ∀ b, w.heap.size ≤ b → φ b = 0) (hy : ∀ l, y = some l → Yields E.P E.S E.ys l ∧ E.lk l) {K : V → St → Prop} (hT : Tr E none ic (qRetX E.P fn.results.toList K) (entry args)) :
    Calls E.P f xs w fun e w' => ∃ (r : V) (s' : St) (h' : Gh) (x : Value), e = .returned x ∧ RepR w' h'.φ r x ∧ E.S s'.log s'.stp h'.M w' h'.φ ∧ (∀ b, w'.heap.size ≤ b → h'.φ b = 0) ∧ K r s' := by
  rw [← callsIn_wide (n := 0)]
  refine callsIn_of_wp_marks hf hb trivial ?_
  have R0 : E.rel (entry args) { tmps := xs ++ Array.replicate (fn.ntmps - xs.size) undef, defers := [] } w { φ := φ, β := fun _ => none, γ := fun _ => none, M := fun _ => False, y := ⟨y, fun _ => none⟩ } := by
    refine ⟨{ size := by simp; omega, env := fun t v hv => ?_, bx := fun i bo hb => ?_, dom := fun _ _ h => ((by cases h)), inj := fun _ _ _ h => ((by cases h)), rows := fun r n sz e hr => ?_, rdom := fun _ _ h => ((by cases h)), rinj := fun _ _ _ h => ((by cases h)), apart := fun _ _ _ h => ((by cases h)), pins := fun _ _ h => ((by cases h)), mine := fun _ h => ((by cases h)), top := htop, marks := trivial, sur := hS }, hy, fun _ h => ((by cases h))⟩
    · rw [fs_g] at hv
      obtain ⟨_, h1⟩ := get_entryL 0 args t v hv
      simp only [Nat.sub_zero] at h1
      have ht : t < args.length := (List.getElem?_eq_some_iff.1 h1).1
      have ht' : t < xs.size := by omega
      have e : (xs ++ Array.replicate (fn.ntmps - xs.size) undef).getD t undef = xs[t] := by
        simp [Array.getElem?_append_left ht', ht']
      rw [e]
      obtain ⟨h2, h3⟩ := hrep t v _ h1 (Array.getElem?_eq_getElem ht')
      exact ⟨by omega, h2, h3 _ _⟩
    · rw [fs_b] at hb; simp [entry, get] at hb
    · rw [fs_r] at hr; simp [entry, get] at hr
  refine hT c hc 0 _ w _ R0 _ fun e s' a' w' h' k R' ey => ?_
  have fin : (∃ r, K r s' ∧ ∃ vs us ids, fn.results.toList.mapM (resV E.P s') = some vs ∧ toDs s'.fs.b vs = some (us, ids) ∧ r = packR us) → LeavesInM Fence.wide 0 E.P fn a'.tmps
      (fun e w' => ∃ (r : V) (s' : St) (h' : Gh) (x : Value), e = .returned x ∧ RepR w' h'.φ r x ∧ E.S s'.log s'.stp h'.M w' h'.φ ∧ (∀ b, w'.heap.size ≤ b → h'.φ b = 0) ∧ K r s') a'.defers .returning w' := by
    rintro ⟨_, hk, vs, us, ids, e1, e2, rfl⟩
    refine leave a'.defers a' w' rfl R' fun a2 w2 ht R2 => ?_
    -- the values of the results
    have hx : ∃ xs : List Value, vs.length = xs.length ∧ fn.results.toList.length = xs.length ∧ (∀ (i : Nat) r x, fn.results.toList[i]? = some r → xs[i]? = some x → (match r with | .tmp t => (pure (a2.tmps.getD t undef) : Sem Value) | .cell b t => do loadVar t (← asAddr (a2.tmps.getD b undef))).run E.P w2 = .ok x w2) ∧
        (∀ (i : Nat) v x, vs[i]? = some v → xs[i]? = some x → Rep w2 h'.φ h'.β h'.y.l v x) := by
      clear e2
      generalize fn.results.toList = rl at e1
      induction rl generalizing vs with
      | nil => simp at e1; subst e1; exact ⟨[], rfl, rfl, fun i r x h => by simp at h, fun i r x h => by simp at h⟩
      | cons rv rl ih =>
        simp only [List.mapM_cons, Option.bind_eq_bind, Option.bind_eq_some_iff, Option.pure_def, Option.some.injEq] at e1
        obtain ⟨v, hv, vs', hvs, rfl⟩ := e1
        obtain ⟨x, hx1, hx2⟩ := resV_ok R2 hv
        obtain ⟨xs, l1, l2, l3, l4⟩ := ih vs' hvs
        refine ⟨x :: xs, by simp [l1], by simp [l2], fun i r z h1 h2 => ?_, fun i v z h1 h2 => ?_⟩
        · cases i with
          | zero => simp at h1 h2; subst h1 h2; exact hx1
          | succ i => simp at h1 h2; exact l3 i r z h1 h2
        · cases i with
          | zero => simp at h1 h2; subst h1 h2; exact hx2
          | succ i => simp at h1 h2; exact l4 i v z h1 h2
    obtain ⟨xs, l1, l2, l3, l4⟩ := hx
    obtain ⟨h3, R3, ext, q1, q2, q3, hrepL⟩ := args_data R2.1 e2
    have hL := hrepL xs.toArray (by simpa using l1) (fun i v x h1 h2 => l4 i v x h1 (by simpa using h2))
    have hrun := run_results (P := E.P) (w := w2) (fn := fn) (tmps := a2.tmps) l2 l3
    rw [ht] at hrun
    refine ⟨_, hrun, _, s', h3, _, rfl, ?_, R3.sur, R3.top, hk⟩
    obtain ⟨m1, m2⟩ := hL
    cases us with
    | nil =>
      cases xs with
      | nil => exact .tuple [] #[] rfl (fun i v x h => by simp at h)
      | cons x xs => simp at m1
    | cons u us =>
      cases xs with
      | nil => simp at m1
      | cons x xs =>
        cases us with
        | nil =>
          cases xs with
          | nil => exact .data (m2 0 u x rfl rfl)
          | cons y xs => simp at m1
        | cons u2 us =>
          cases xs with
          | nil => simp at m1
          | cons y xs => exact .tuple _ _ (by simpa using m1) (fun i v z h1 h2 => m2 i v z h1 h2)
  cases e with
  | normal => exact fin k
  | ret => exact fin k
  | _ => exact k.elim

/-- **A CONTRACT OVER AN ARENA, OF WHICH AND OF THE RESULT SOMETHING IS KNOWN THEN**. -/
def CX (P : Program) (f : FuncId) (A : Arena) (K : List (Nat × List V)) (args : List V) (Φ : V → Arena → Prop) : Prop :=
  callable P f = true ∧ ∀ (w : World) (φ : Nat → Nat) (xs : Array Value), (∀ b, w.heap.size ≤ b → φ b = 0) → Gl w φ → Ar w φ (fun _ => False) A → Kons w φ K → (∀ p ∈ K, p.1 ∉ A.map (·.1)) → RepL w φ args xs →
    Calls P f xs w fun e w' => ∃ φ' x r B, Φ r B ∧ e = .returned x ∧ RepR w' φ' r x ∧ Ar w' φ' (fun _ => False) B ∧ Moved (fun b => b ∈ A.map (·.1)) w φ (fun b => b ∈ B.map (·.1)) w' φ'

theorem CX_of {P : Program} {f nt : Nat} {ic : IC} {rs : List ResultVar} (hmix : P.follows .mixedOrders = true) (hch : chkF P f = some (nt, ic, rs)) {A : Arena} {K : List (Nat × List V)} {args : List V} {Φ : V → Arena → Prop} (hlen : args.length ≤ nt)
    (hT : ∀ (S : Sur) (ok : S.ok) (S1 : Sur), InA (env0 P hmix nt S ok) S1 [] false → InK (env0 P hmix nt S ok) K → InKD (env0 P hmix nt S ok) K → Tr (env0 P hmix nt S ok) none ic (qRetX P rs fun r s => ∃ B, s.log = encA B ∧ Φ r B) { entry args with log := encA A }) : CX P f A K args Φ := by
  obtain ⟨fn, c, hf, hb, hnt, hc, rfl, hcall⟩ := chkF_ok hch
  refine ⟨hcall, fun w φ xs htop hgl hA hK hKA hrep => ?_⟩
  have okI := SQ_ok w φ A hgl
  have hInK : InK (env0 P hmix nt (SA (SQ w φ A) [] false) (SA_ok okI [] false)) K := by
    rintro log stp M w' φ' ⟨B', _, _, _, hm⟩ p hp
    obtain ⟨h1, h2⟩ := hK p hp
    have := hm.old p.1 h2 (hKA p hp)
    exact ⟨h1.mono this.1 hm.ext, Nat.lt_of_lt_of_le h2 hm.size⟩
  have hKD : InKD (env0 P hmix nt (SA (SQ w φ A) [] false) (SA_ok okI [] false)) K := by
    rintro B stp M w' φ' ⟨B', e, _, _, hm⟩ p hp hb
    obtain rfl := encA_inj e
    rcases hm.mine p.1 (.inr hb) with h | h
    · exact hKA p hp h
    · have := (hK p hp).2; omega
  have hT1 := hT (SA (SQ w φ A) [] false) (SA_ok okI [] false) (SQ w φ A) (⟨Sub.refl _, okI⟩) hInK hKD
  have e0 : (fun b => False ∨ b ∈ A.map (·.1)) = fun b => b ∈ A.map (·.1) := by funext b; simp
  have hT2 : Tr (env0 P hmix nt (SQ1 w φ A) (SQ1_ok w φ A hgl)) none ic (qRetX P fn.results.toList fun r s => ∃ B, s.log = encA B ∧ Φ r B) (entry args) := by
    intro c hc n a w1 g R Q' hq
    obtain ⟨B0, h1, h2, h3, h4⟩ := R.1.sur
    have hB0 : B0 = A := by
      rcases h1 with ⟨_, h⟩ | h
      · exact h
      · exact absurd h.symm (encA_ne _)
    subst hB0
    have R1 : (env0 P hmix nt (SA (SQ w φ B0) [] false) (SA_ok okI [] false)).rel { entry args with log := encA B0 } a w1 g := by
      refine ⟨{ R.1 with sur := ⟨B0, rfl, rfl, h3, h4⟩ }, fun l hl => ⟨?_, trivial⟩, R.2.2⟩
      intro log x M w φ xs hp
      exact absurd hp.length_le (by simp)
    refine hT1 c hc n a w1 g R1 Q' fun e t a' w' h' hQ R' hy => ?_
    refine hq e t a' w' h' hQ ?_ hy
    obtain ⟨B', k1, k2, k3, k4⟩ := R'.1.sur
    refine ⟨{ R'.1 with sur := ⟨B', .inr k1, k2, k3, k4⟩ }, fun l hl => ⟨?_, trivial⟩, R'.2.2⟩
    intro log x M w φ xs hp
    exact absurd hp.length_le (by simp)
  refine (calls_bodyX (E := env0 P hmix nt (SQ1 w φ A) (SQ1_ok w φ A hgl)) (φ := φ) (y := none) hf hb hc hnt hlen hrep.1 (fun i v x h1 h2 => ⟨.data (hrep.2 i v x h1 h2), fun σ h => GrowV.of_data (hrep.2 i v x h1 h2)⟩)
    ⟨A, .inl ⟨rfl, rfl⟩, rfl, hA, by rw [e0]; exact Moved.refl _ htop⟩ htop (fun _ h => ((by cases h))) hT2).mono ?_
  rintro e w' ⟨r, s', h', x, rfl, hr, ⟨B', k1, k2, k3, k4⟩, ht, hk⟩
  obtain ⟨B, hk, hΦ⟩ := hk
  have hB : B' = B := by
    rw [hk] at k1
    rcases k1 with ⟨h, _⟩ | h
    · exact absurd h (encA_ne _)
    · exact (encA_inj h).symm
  subst hB
  exact ⟨h'.φ, x, r, B', hΦ, rfl, hr, ⟨k3.nd, k3.ok, fun _ _ h => h, k3.lt, k3.z⟩, ⟨k4.ext, k4.old, k4.size, k4.os, k4.tape, k4.output, fun b hb => k4.mine b (.inr hb), k4.top⟩⟩

section
variable {E : Env} {S0 : Sur} {l0 : List (List V)} {s0 : Bool} {A : Arena} {stp : Bool} {σ : FSt} {a : Act} {w : World} {h : Gh}

/-- A call over an arena. -/
theorem wp_callX (hE : InA E S0 l0 s0) {F A1 : Arena} {K : List (Nat × List V)} {ro : Option Nat} {n i : Nat} {ops : Array Oper} {slots : List (Option Nat)} {o : Oper} {ins : Ins} (R : E.relF (encA (F ++ A1)) stp σ a w h) {f : FuncId} {vs us : List V} {ids : List Nat} {Φ : V → Arena → Prop} {os : List Operand} (cc : Comp E.P E.nt slots o ins os) (hd : toDs σ.b vs = some (us, ids)) (hC : CX E.P f A1 K us Φ)
    (hK : ∀ h', E.relF (encA (F ++ A1)) stp ((freeze σ.b ids).foldl (fun τ p => τ.set (.bx p.1) (.b p.2)) σ) a w h' → Kons w h'.φ K) (hKA : ∀ p ∈ K, p.1 ∉ A1.map (·.1)) (xs : Array Value) (hl : vs.length = xs.size)
    (hr : ∀ (i : Nat) v x, vs[i]? = some v → xs[i]? = some x → Rep w h.φ h.β h.y.l v x) (hi : ops[i]? = some o) (hw : Region.wanted o (yielded ops a.tmps) = true) (hrun : (execOp a.eval o).run E.P w = .ok (.enter f xs) w)
    {Q : Exit → Act → World → Prop} {next : Act → World → Prop} (hn : ∀ r B, Φ r B → ∀ a' w' h', E.relF (encA (F ++ B)) stp ((σ.eff { v := r, wb := freeze σ.b ids }).put ins.d r) a' w' h' → h'.y = h.y → next a' w') : wpOpIn (wideR ro) n E.P ops Q i next a w := by
  unfold wpOpIn
  simp only [hi, hw, if_true, Oper.wpIn]
  refine ⟨fun _ _ => trivial, ?_⟩
  rw [Oper.semAt_eq _ _ _ (opK_defer cc.op), hrun]
  simp only [Oper.uponIn]
  refine ⟨fun e => by simp [wideR, Fence.wide] at e, ?_⟩
  obtain ⟨h1, R1, ext1, q1, q2, q3, hrep⟩ := args_data R.1 hd
  have R1' : E.relF (encA (F ++ A1)) stp ((freeze σ.b ids).foldl (fun τ p => τ.set (.bx p.1) (.b p.2)) σ) a w h1 := ⟨R1, by rw [q3]; exact R.2⟩
  have hAr := hE.ar R1'
  have hnd := hAr.nd
  rw [List.map_append, List.nodup_append] at hnd
  have arA : Ar w h1.φ (fun _ => False) A1 := ⟨hnd.2.1, fun p hp => hAr.ok p (List.mem_append.2 (.inr hp)), fun _ _ h => h, fun p hp => hAr.lt p (List.mem_append.2 (.inr hp)), fun p hp => hAr.z p (List.mem_append.2 (.inr hp))⟩
  refine (callsIn_wideR (hC.2 w h1.φ xs R1.top (E.ok.gl _ _ _ _ _ R1.sur) arA (hK h1 R1') hKA (hrep xs hl hr))).mono ?_
  rintro e w' ⟨φ', x, r, B, hΦ, rfl, hres, hB, hm⟩
  have R2 := hE.moved R1' hm hB
  have hx : Rep w' φ' h1.β h1.y.l r x ∧ ∀ σ h w0, GrowV σ h w0 r x := by
    cases hres with
    | data hh => exact ⟨.data hh, fun σ h w0 => GrowV.of_data hh⟩
    | tuple vs xs hl hh =>
      refine ⟨.tuple vs xs hl hh, fun σ h w0 j u z hu hz => ?_⟩
      cases j with
      | zero => simp [cells] at hu; subst hu; intro r' sz xs' e; cases e
      | succ j => simp [cells] at hu
  have fin : Ok (σ.eff { v := r, wb := freeze σ.b ids }) { h1 with φ := φ' } w' r x := ⟨hx.1, hx.2 _ _ _⟩
  refine hn r B hΦ _ _ { h1 with φ := φ' } ⟨?_, ?_⟩ (by simpa using q3)
  · rw [cc.d]
    cases hd : o.dst with
    | none => exact R2.1
    | some d => exact R2.1.put (cc.dst d hd) fin.1 fin.2
  · exact R2.2

theorem Steps.callX (hE : InA E S0 l0 s0) {K : St → Prop} {Ks : List (Nat × List V)} {s : St} {d : Option Nat} {f : FuncId} {xs : List X} {rest : List Ins} {vs us : List V} {ids : List Nat} {Φ : V → Arena → Prop} {F A1 : Arena} (hx : evXs s.env xs = some vs) (hd : toDs s.fs.b vs = some (us, ids)) (hl : s.log = encA (F ++ A1))
    (hC : CX E.P f A1 Ks us Φ) (hKs : (∀ p ∈ Ks, (p.1, Ob.cells p.2) ∈ F) ∨ InK E Ks ∧ ∀ p ∈ Ks, p.1 ∉ A1.map (·.1))
    (hk : ∀ r B, Φ r B → Steps E rest K { (s.eff { v := r, wb := freeze s.fs.b ids }).put d r with log := encA (F ++ B) }) : Steps E (⟨d, .call f, xs, none⟩ :: rest) K s := by
  refine Step1.raw fun slots ops o i ro n a w h hc hs hi R Q next hn => ?_
  obtain ⟨os, cc⟩ := comp_of hc
  have hgo := guard_none cc rfl
  obtain ⟨c, e1, e2, rfl⟩ := opK_call cc.op
  have R' : E.relF (encA (F ++ A1)) s.stp s.fs a w h := by rw [← hl]; exact R
  have hAr := hE.ar R'
  have hnd := hAr.nd
  rw [List.map_append, List.nodup_append] at hnd
  obtain ⟨l1, l2⟩ := opds_args (opds_of R.1 cc.xs (evXs_ok hx))
  refine wp_callX hE R' cc hd hC (fun h' R1 => ?_) (fun p hp => ?_) _ l1 l2 hi (wanted_none hgo) (run_call hC.1 e2 e1) fun r B hΦ a' w' h' R2 hy => hn _ a' w' h' (hk r B hΦ) ?_ hy
  · rcases hKs with hKs | hKs
    · intro p hp
      have := (hE.ar R1)
      exact ⟨this.ok _ (List.mem_append.2 (.inl (hKs p hp))), this.lt _ (List.mem_append.2 (.inl (hKs p hp)))⟩
    · exact hKs.1 _ _ _ _ _ R1.1.sur
  · rcases hKs with hKs | hKs
    · exact fun h => hnd.2.2 _ (List.mem_map.2 ⟨_, hKs p hp, rfl⟩) _ h rfl
    · exact hKs.2 p hp
  · show E.relF _ _ _ _ _ _
    have e : ({ (s.eff { v := r, wb := freeze s.fs.b ids }).put d r with log := encA (F ++ B) } : St).fs = ((s.fs.eff { v := r, wb := freeze s.fs.b ids }).put d r) := by
      cases d with
      | none => exact fs_eff s _
      | some d => show ((s.eff _).put (some d) r).fs = _; rw [fs_put, fs_eff]; rfl
    have e2 : ({ (s.eff { v := r, wb := freeze s.fs.b ids }).put d r with log := encA (F ++ B) } : St).stp = s.stp := by
      show ((s.eff _).put d r).stp = _
      rw [(put_log _ _ _).2, (eff_log _ _).2]
    rw [e, e2]
    exact R2


end
end Go.Am


/-! AM, part Zw: the length of a slice that is known exactly. -/
set_option linter.unusedVariables false
set_option linter.unusedSimpArgs false
namespace Go.Am
open Go.RowKit

section
variable {P : Program} {o : Oper}

theorem opK_len {os : List Operand} (hk : opK P o.op = some (.len false, os)) : ∃ c p t e, o.op = .call c ∧ c.callee = .builtin .len ∧ c.args.toList = [p] ∧ c.argTypes.toList = [t] ∧ P.underlying t = some (.slice e) ∧ os = [p] := by
  cases ho : o.op <;> rw [ho] at hk <;> simp only [opK] at hk <;> (try (cases hk; done)) <;> (try (repeat' (split at hk <;> (try (cases hk; done)))))
  all_goals first
    | (simp only [Option.map_eq_some_iff, Prod.mk.injEq] at hk; obtain ⟨_, _, h1, _⟩ := hk; cases h1; done)
    | (cases hk; exact ⟨_, _, _, _, rfl, by assumption, by assumption, by assumption, by assumption, rfl⟩)
    | (exfalso; simp only [eqKind] at hk; repeat' (split at hk <;> (try (cases hk; done))))

end

theorem does_slen {E : Env} {σ : FSt} {d blk off n cap : Nat} {x : X} (hx : [x].mapM (evX σ) = some [.sref blk off n cap]) : Does E σ ⟨some d, .len false, [x], none⟩ { v := .int .i64 n } (xslots [x]) := by
  refine .ext rfl hx fun o os log stp σ' a w h ho R hO => ?_
  obtain ⟨c, p, t, e, e1, hc, e2, e3, e4, rfl⟩ := opK_len ho
  obtain ⟨u, hu, o1⟩ := hO.one
  cases hu
  have ea : c.args = #[p] := by rw [← Array.toList_inj]; simpa using e2
  have et : c.argTypes = #[t] := by rw [← Array.toList_inj]; simpa using e3
  refine ⟨.int .i64 n, ?_, .data (.int _ _), GrowV.of_data (w0 := w) (φ0 := h.φ) (.int _ _)⟩
  simp only [execOp, e1, resolve, hc, ea, et, Sem.run_bind, Sem.run_pure, Result.andThen_ok, invoke, builtin]
  simp [Builtin.len_, run_underlying e4, ok_sref o1, goInt]

theorem Steps.slen {E : Env} {s : St} {K : St → Prop} {d blk off n cap : Nat} {x : X} {rest : List Ins} (hx : evXs s.env [x] = some [.sref blk off n cap]) (hk : Steps E rest K (s.put (some d) (.int .i64 n))) : Steps E (⟨some d, .len false, [x], none⟩ :: rest) K s :=
  Step1.does (ins := ⟨some d, .len false, [x], none⟩) (does_slen (evXs_ok hx)) hk

end Go.Am


/-! counted over an arena; what is shot when all lines of a choice are. -/
set_option linter.unusedVariables false
set_option linter.unusedSimpArgs false
set_option maxRecDepth 40000
set_option maxHeartbeats 4000000
namespace Go.Proofs.YtdejdblopmfjfaaGreatDoor
open Go.Am
attribute [local simp] cells scalar mkv splice under2 under dem dem1 eB gridC sB fourC eF layC
/-! ### Tables over cells -/
def matM (g : Gd) (F : Nat → Nat → Int) : List (List Int) := (List.range (nBins g)).map fun b => (List.range g.cls.length).map (F b)
def cntF (P : List (Int × Int)) (b c : Nat) : Int := ((P.count ((b : Int), (c : Int)) : Nat) : Int)

theorem countL_mat (g : Gd) (P : List (Int × Int)) : countL g P = matM g (cntF P) := rfl
theorem matM_len (g : Gd) (F : Nat → Nat → Int) : (matM g F).length = nBins g := by simp [matM]
theorem matM_get {g : Gd} {F : Nat → Nat → Int} {b : Nat} (h : b < nBins g) : (matM g F)[b]? = some ((List.range g.cls.length).map (F b)) := by simp [matM, h]
theorem matM_congr {g : Gd} {F G : Nat → Nat → Int} (h : ∀ b < nBins g, ∀ c < g.cls.length, F b c = G b c) : matM g F = matM g G := by
  unfold matM
  refine List.map_congr_left fun b hb => List.map_congr_left fun c hc => h b (List.mem_range.1 hb) c (List.mem_range.1 hc)
theorem matM_set {g : Gd} {F G : Nat → Nat → Int} {b k : Nat} (hb : b < nBins g) (hk : k < g.cls.length) (h : ∀ i j, (i ≠ b ∨ j ≠ k) → F i j = G i j) : (matM g F).set b (((List.range g.cls.length).map (F b)).set k (G b k)) = matM g G := by
  refine List.ext_getElem? fun i => ?_
  by_cases hi : i < nBins g
  · rw [matM_get hi]
    by_cases e : i = b
    · subst e
      rw [List.getElem?_set_self (by rw [matM_len]; exact hi)]
      congr 1
      refine List.ext_getElem? fun j => ?_
      by_cases hj : j < g.cls.length
      · by_cases e2 : j = k
        · subst e2
          rw [List.getElem?_set_self (by simpa using hj)]; simp [hj]
        · rw [List.getElem?_set_ne (by omega)]
          simp [hj, h i j (.inr e2)]
      · rw [List.getElem?_eq_none (by simp; omega), List.getElem?_eq_none (by simp; omega)]
    · rw [List.getElem?_set_ne (by omega), matM_get hi]
      congr 1
      exact List.map_congr_left fun j _ => h i j (.inl e)
  · rw [List.getElem?_eq_none (by simp [matM_len]; omega), List.getElem?_eq_none (by simp [matM_len]; omega)]

def mixF (F G : Nat → Nat → Int) (n k b c : Nat) : Int := if b < n ∨ (b = n ∧ c < k) then G b c else F b c
theorem mix_zero (g : Gd) (F G : Nat → Nat → Int) : matM g (mixF F G 0 0) = matM g F := matM_congr fun b _ c _ => by unfold mixF; rw [if_neg (by omega)]
theorem mix_row {g : Gd} {F G : Nat → Nat → Int} {n : Nat} : matM g (mixF F G n g.cls.length) = matM g (mixF F G (n + 1) 0) := matM_congr fun b _ c hc => by
  unfold mixF
  by_cases h : b < n ∨ b = n
  · rw [if_pos (by omega), if_pos (by omega)]
  · rw [if_neg (by omega), if_neg (by omega)]
theorem mix_all {g : Gd} {F G : Nat → Nat → Int} : matM g (mixF F G (nBins g) 0) = matM g G := matM_congr fun b hb c hc => by unfold mixF; rw [if_pos (by omega)]
theorem mix_get {F G : Nat → Nat → Int} {n k : Nat} : mixF F G n k n k = F n k := by unfold mixF; rw [if_neg (by omega)]
theorem mix_step {g : Gd} {F G : Nat → Nat → Int} {n k : Nat} (hn : n < nBins g) (hk : k < g.cls.length) : (matM g (mixF F G n k)).set n (((List.range g.cls.length).map (mixF F G n k n)).set k (G n k)) = matM g (mixF F G n (k + 1)) := by
  have e : G n k = mixF F G n (k + 1) n k := by unfold mixF; rw [if_pos (by omega)]
  rw [e]
  refine matM_set hn hk fun i j h => ?_
  unfold mixF
  by_cases h1 : i < n ∨ (i = n ∧ j < k)
  · rw [if_pos h1, if_pos (by omega)]
  · rw [if_neg h1, if_neg (by omega)]

/-! ### What is shot -/
def hitP (g : Gd) (bits : List Int) (y : Ly) : List (Int × Int) := y.traces.map (cellT g (stoodL bits y.nodes))
def fillP (g : Gd) (bits : List Int) (s : Ly) (lines : List Ly) (l : List Nat) : List (Int × Int) := hitP g bits s ++ l.flatMap fun i => hitP g bits (lines.getD i s)

theorem counted_hit (g : Gd) (bits : List Int) (y : Ly) : countedL g (stoodL bits y.nodes) y.traces = countL g (hitP g bits y) := rfl

theorem hitP_len (g : Gd) (bits : List Int) {y : Ly} (h : layOk y = true) : (hitP g bits y).length ≤ 64 := by
  have := (layOk_spec h).1.2
  simpa [hitP] using this

theorem flat_len64 {f : Nat → List (Int × Int)} : ∀ {l : List Nat}, (∀ i ∈ l, (f i).length ≤ 64) → (l.flatMap f).length ≤ 64 * l.length
  | [], _ => by simp
  | i :: l, h => by
    have h1 := h i (by simp)
    have h2 := flat_len64 (l := l) fun j hj => h j (by simp [hj])
    rw [List.flatMap_cons, List.length_append, List.length_cons]; omega

theorem fillP_len {g : Gd} {bits : List Int} {s : Ly} {lines : List Ly} (hs : layOk s = true) (hls : lines.all layOk = true) (l : List Nat) : (fillP g bits s lines l).length ≤ 64 * (l.length + 1) := by
  have h1 := hitP_len g bits hs
  have h2 : (l.flatMap fun i => hitP g bits (lines.getD i s)).length ≤ 64 * l.length := flat_len64 fun i _ => by
    by_cases h : i < lines.length
    · have e : lines.getD i s = lines[i] := by simp [h]
      rw [e]; exact hitP_len g bits (List.all_eq_true.1 hls _ (List.getElem_mem h))
    · have e : lines.getD i s = s := by simp [show lines.length ≤ i by omega]
      rw [e]; exact h1
  unfold fillP
  rw [List.length_append]; omega

theorem fillP_succ {g : Gd} {bits : List Int} {s : Ly} {lines : List Ly} {l : List Nat} {k : Nat} (hk : k < l.length) : fillP g bits s lines (l.take (k + 1)) = fillP g bits s lines (l.take k) ++ hitP g bits (lines.getD l[k] s) := by
  unfold fillP
  rw [List.take_add_one, List.getElem?_eq_getElem hk, List.flatMap_append, List.append_assoc]
  simp

theorem cntF_app (P Q : List (Int × Int)) (b c : Nat) : cntF (P ++ Q) b c = cntF P b c + cntF Q b c := by
  unfold cntF
  rw [List.count_append]; omega
theorem cntF_bd (P : List (Int × Int)) (b c : Nat) : 0 ≤ cntF P b c ∧ cntF P b c ≤ P.length := by
  have : P.count ((b : Int), (c : Int)) ≤ P.length := List.count_le_length
  unfold cntF; omega

/-! ### A choice that covers fills all cells -/
theorem foldS_cnt {g : Gd} {y : Ly} {b c : Nat} (hb : b < nBins g) (hc : c < g.cls.length) : at2 (foldS g y) b c = cntF (allH (sureT (layD g y)) y.traces.length) b c := by
  have e : foldS g y = countL g (allH (sureT (layD g y)) y.traces.length) := rfl
  rw [e]
  unfold at2
  simp only [List.getD_eq_getElem?_getD]
  rw [countL_get hb, Option.getD_some, cntRow_get hc]; rfl

theorem sure_hit {g : Gd} {bits : List Int} {y : Ly} (hy : layOk y = true) (b c : Nat) : cntF (allH (sureT (layD g y)) y.traces.length) b c ≤ cntF (hitP g bits y) b c := by
  have := (counts (g := g) (bits := bits) hy ((b : Int), (c : Int)) _ (Nat.le_refl _)).1
  rw [List.take_of_length_le (by simp)] at this
  unfold cntF hitP; omega

theorem rests_le {x : Nf} {n j : Nat} (hj : j < n) : ∀ (l : List Nat) (c : List Int), c.length = n → (∀ i ∈ l, (addsOf x i).length = n) → c.getD j 0 ≤ (l.foldl (fun c i => restN c (addsOf x i)) c).getD j 0 + (l.map fun i => (addsOf x i).getD j 0).sum
  | [], c, hc, _ => by simp
  | i :: l, c, hc, hl => by
    have h1 := hl i (by simp)
    have hr : (restN c (addsOf x i)).length = n := by simp [restN, hc, h1]
    have h2 := rests_le hj l (restN c (addsOf x i)) hr fun k hk => hl k (by simp [hk])
    have e : (restN c (addsOf x i)).getD j 0 = max 0 (c.getD j 0 - (addsOf x i).getD j 0) := by
      have a1 : j < c.length := by omega
      have a2 : j < (addsOf x i).length := by omega
      simp [restN, List.getElem?_zipWith, a1, a2]
    rw [List.foldl_cons, List.map_cons, List.sum_cons]
    omega

theorem sum0_all : ∀ {l : List Int} {a : Int}, 0 ≤ a → (∀ n ∈ l, 0 ≤ n) → (l.map id).foldl (· + ·) a = 0 → ∀ n ∈ l, n = 0
  | [], _, _, _, _ => fun n hn => by cases hn
  | m :: l, a, ha, h, hs => by
    have hm := h m (by simp)
    have hl : ∀ n ∈ l, 0 ≤ n := fun n hn => h n (by simp [hn])
    rw [List.map_cons, List.foldl_cons] at hs
    have hz := sum0_all (a := a + id m) (by simp only [id]; omega) hl hs
    have hge : ∀ (l : List Int) (b : Int), (∀ n ∈ l, n = 0) → (l.map id).foldl (· + ·) b = b := fun l => by
      induction l with
      | nil => intro b _; rfl
      | cons k l ih =>
        intro b hk
        rw [List.map_cons, List.foldl_cons, ih _ fun n hn => hk n (by simp [hn])]
        have := hk k (by simp)
        simp only [id]; omega
    rw [hge l _ hz] at hs
    intro n hn
    rcases List.mem_cons.1 hn with rfl | hn
    · simp only [id] at hs; omega
    · exact hz n hn

theorem nf_ok {g : Gd} {s : Ly} {ns : List Int} {lines : List Ly} {costs : List Int} (hne : needOk g ns = true) (h : lines.length ≤ 10 ∧ costs.length = lines.length ∧ (costs.any fun n => !btw n 1 1000) = false) (hK : (lacksL (layD g s) ns).length ≤ 16) : nfOk (buildN g (lacksL (layD g s) ns) lines costs) = true := by
  obtain ⟨h1, h2, h3⟩ := h
  have hnb := (needOk_spec hne).2
  simp only [nfOk, buildN, Bool.and_eq_true, decide_eq_true_eq, List.all_eq_true, List.length_map]
  refine ⟨⟨⟨hK, by simp [passesK]; omega⟩, fun n hn => ?_⟩, fun p hp => ?_⟩
  · obtain ⟨x, hx, rfl⟩ := List.mem_map.1 hn
    unfold lacksL lackN at hx
    obtain ⟨i, hi, hx⟩ := List.mem_flatMap.1 hx
    unfold lackRow at hx
    obtain ⟨k, hk, hx⟩ := List.mem_flatMap.1 hx
    unfold lackAt at hx
    split at hx
    · rename_i hlt
      rw [List.mem_singleton.1 hx, btw_iff]
      obtain ⟨m, hm⟩ := cntN_nat (layD g s) (sureT (layD g s)) i k
      rw [hm] at hlt ⊢
      have hkl := List.mem_range.1 hk
      have e : ns.getD k 0 = ns[k] := by simp [hkl]
      have := hnb _ (List.getElem_mem hkl)
      rw [e] at hlt ⊢
      simp only; omega
    · cases hx
  · unfold passesK at hp
    obtain ⟨i, hi, e⟩ := List.getElem_of_mem hp
    rw [List.getElem_zipWith] at e
    rw [← e]
    simp only [List.length_zipWith] at hi
    have hcl : i < costs.length := by omega
    simp only [passOk, Bool.and_eq_true, decide_eq_true_eq, Bool.not_eq_true', List.any_eq_false, Bool.not_eq_true, Bool.not_eq_false']
    refine ⟨⟨?_, by simp [addsK]⟩, fun n hn => ?_⟩
    · have := List.any_eq_false.1 h3 _ (List.getElem_mem hcl)
      simpa using this
    · obtain ⟨k, hk, rfl⟩ := List.mem_map.1 hn
      obtain ⟨m, hm⟩ := cntN_nat (layD g lines[i]) (sureT (layD g lines[i])) k.1.toNat k.2.1.toNat
      have e2 : addK (foldS g lines[i]) k = min 100 (m : Int) := by unfold addK foldS; rw [hm]
      rw [e2, Bool.not_eq_false, btw_iff]; omega

/-- **WHAT A COVERING CHOICE SHOOTS IS ENOUGH**. -/
theorem filled {g : Gd} {bits : List Int} {s : Ly} {ns : List Int} {lines : List Ly} {costs : List Int} (hs : layOk s = true) (hls : lines.all layOk = true) (hne : needOk g ns = true) (hc : costs.length = lines.length)
    (hk : nfOk (buildN g (lacksL (layD g s) ns) lines costs) = true) {o : Nat} (ho : o < 2 ^ (buildN g (lacksL (layD g s) ns) lines costs).passes.length) (hcv : coversB (buildN g (lacksL (layD g s) ns) lines costs) o = true) {b c : Nat} (hb : b < nBins g) (hcc : c < ns.length) :
    ns[c] ≤ cntF (fillP g bits s lines (choiceN o)) b c := by
  have hnl := (needOk_spec hne).1
  have hcg : c < g.cls.length := by omega
  have hs1 := sure_hit (g := g) (bits := bits) hs b c
  have hlt := choiceN_lt ho
  have hpl : (buildN g (lacksL (layD g s) ns) lines costs).passes.length = lines.length := by simp [buildN, passesK, hc]
  rw [hpl] at hlt
  -- what the lines add
  have hadd : ∀ l : List Nat, (∀ i ∈ l, i < lines.length) → (l.map fun i => cntF (hitP g bits (lines.getD i s)) b c).sum = cntF (l.flatMap fun i => hitP g bits (lines.getD i s)) b c := fun l => by
    induction l with
    | nil => intro _; rfl
    | cons i l ih => intro h; rw [List.map_cons, List.sum_cons, List.flatMap_cons, cntF_app, ih fun j hj => h j (by simp [hj])]
  have hpos : ∀ l : List Nat, 0 ≤ cntF (l.flatMap fun i => hitP g bits (lines.getD i s)) b c := fun l => (cntF_bd _ _ _).1
  unfold fillP
  rw [cntF_app]
  by_cases hlk : at2 (foldS g s) b c < ns.getD c 0
  · have eN : ns.getD c 0 = ns[c] := by simp [hcc]
    have hmem : (((b : Int), (c : Int), ns.getD c 0 - at2 (foldS g s) b c) : Int × Int × Int) ∈ lacksL (layD g s) ns := by
      unfold lacksL lackN
      refine List.mem_flatMap.2 ⟨b, List.mem_range.2 (by rw [cntN_len]; exact hb), ?_⟩
      unfold lackRow
      refine List.mem_flatMap.2 ⟨c, List.mem_range.2 hcc, ?_⟩
      unfold lackAt
      have : at2 (cntN (layD g s) (sureT (layD g s))) b c < ns.getD c 0 := hlk
      rw [if_pos this]; exact List.mem_singleton.2 rfl
    obtain ⟨j, hj, ej⟩ := List.getElem_of_mem hmem
    obtain ⟨K, hK⟩ : ∃ K, lacksL (layD g s) ns = K := ⟨_, rfl⟩
    simp only [hK] at hj ej hk ho hcv hpl
    have hcov : sumF id (restsL (buildN g K lines costs) (choiceN o)) = 0 := by simpa [coversB] using hcv
    have hsm := restsL_small hk (l := choiceN o) (by rw [hpl]; exact hlt)
    have hz := sum0_all (Int.le_refl 0) (fun n hn => (hsm.2 n hn).1) hcov
    have hll : (buildN g K lines costs).lacks.length = K.length := by simp [buildN]
    have hr := rests_le (x := buildN g K lines costs) (n := K.length) hj (choiceN o) (buildN g K lines costs).lacks hll fun i hi => by
      rw [(adds_small hk (by rw [hpl]; exact hlt i hi)).1, hll]
    have e0 : ((choiceN o).foldl (fun c i => restN c (addsOf (buildN g K lines costs) i)) (buildN g K lines costs).lacks).getD j 0 = 0 := by
      have hjr : j < (restsL (buildN g K lines costs) (choiceN o)).length := by rw [hsm.1, hll]; exact hj
      have := hz _ (List.getElem_mem hjr)
      have e : (restsL (buildN g K lines costs) (choiceN o)).getD j 0 = (restsL (buildN g K lines costs) (choiceN o))[j] := by simp [hjr]
      unfold restsL at e
      rw [e]; exact this
    have e1 : (buildN g K lines costs).lacks.getD j 0 = ns.getD c 0 - at2 (foldS g s) b c := by
      simp [buildN, hj, ej]
    have e2 : ∀ i ∈ choiceN o, (addsOf (buildN g K lines costs) i).getD j 0 ≤ cntF (hitP g bits (lines.getD i s)) b c := fun i hi => by
      have hil := hlt i hi
      have hic : i < costs.length := by omega
      have ea : addsOf (buildN g K lines costs) i = addsK (foldS g lines[i]) K := by
        simp [addsOf, buildN, passesK, List.getElem?_zipWith, hil, hic]
      have eg : lines.getD i s = lines[i] := by simp [hil]
      have eb : (addsK (foldS g lines[i]) K).getD j 0 = min 100 (at2 (foldS g lines[i]) b c) := by
        simp [addsK, hj, addK, ej]
      rw [ea, eb, eg, foldS_cnt hb hcg]
      have := sure_hit (g := g) (bits := bits) (List.all_eq_true.1 hls _ (List.getElem_mem hil)) b c
      omega
    have e3 : ∀ l : List Nat, (∀ i ∈ l, (addsOf (buildN g K lines costs) i).getD j 0 ≤ cntF (hitP g bits (lines.getD i s)) b c) → (l.map fun i => (addsOf (buildN g K lines costs) i).getD j 0).sum ≤ (l.map fun i => cntF (hitP g bits (lines.getD i s)) b c).sum := fun l => by
      induction l with
      | nil => intro _; exact Int.le_refl _
      | cons i l ih =>
        intro h
        have a := h i (by simp)
        have b := ih fun j hj => h j (by simp [hj])
        rw [List.map_cons, List.map_cons, List.sum_cons, List.sum_cons]; omega
    have h4 := e3 _ e2
    rw [hadd _ hlt] at h4
    rw [foldS_cnt hb hcg] at e1
    rw [e0, e1, eN] at hr
    omega
  · have eN : ns.getD c 0 = ns[c] := by simp [hcc]
    rw [foldS_cnt hb hcg, eN] at hlk
    have := hpos (choiceN o)
    omega

end Go.Proofs.YtdejdblopmfjfaaGreatDoor


/-! counted over an arena. -/
set_option linter.unusedVariables false
set_option linter.unusedSimpArgs false
set_option maxRecDepth 40000
set_option maxHeartbeats 4000000
namespace Go.Proofs.YtdejdblopmfjfaaGreatDoor
open Go.Am
attribute [local simp] cells scalar mkv splice under2 under dem dem1 eB gridC sB fourC eF layC
theorem cx_counted {g : Gd} (hg : gridOk g = true) {s : Ly} (ht64 : s.traces.length ≤ 64) {pts : List (Int × Int)} (hp16 : pts.length ≤ 16) (hpl : ∀ p ∈ pts, planeB p = true) (htr : ∀ t ∈ s.traces, ∃ i j : Nat, t = ((i : Int), (j : Int)) ∧ i < pts.length ∧ j < pts.length) :
    CX Tryz.prog F.law07_counted [] [] [.agg (gridC g), .agg (layC s), sB pts] (fun r B => ∃ rbs : List Nat, (rbs.Nodup ∧ rbs.length = nBins g) ∧ r = .tuple [.slice 0 1 (srefs g.cls.length rbs), .bool true] ∧ B = arn rbs (countedL g pts s.traces)) := by
  obtain ⟨_, hsz, hga, hgd, hcl, _⟩ := gridOk_spec hg
  have nb := nBins_eq hg
  have hab : IntKind.wrap .i64 (g.a * g.d) = (nBins g : Int) := by rw [nb.1]; exact w64 (by omega) (by omega)
  have ba : btw g.a 1 16 = true := by rw [btw_iff]; exact hga
  have bd : btw g.d 1 16 = true := by rw [btw_iff]; exact hgd
  have ka : C Tryz.prog F.ref00_Between [I g.a, I 1, I 16] (.bool true) := ba ▸ c_between _ _ _
  have kd : C Tryz.prog F.ref00_Between [I g.d, I 1, I 16] (.bool true) := bd ▸ c_between _ _ _
  refine CX_of mixed chk.law07_counted (by simp) fun S ok S1 hA hK hD => ?_
  refine Tr.seqR rfl (by simp) (Tr.seqR rfl (by simp) ?_)
  refine Tr.seq (Tr.seqC rfl (by simp) (Steps.call rfl rfl ka (Steps.run rfl (by simp) ?_)))
  refine Steps.gcall rfl rfl rfl rfl (by simp) (fun _ => kd) (Steps.fin rfl (by simp) (Tr.condF rfl (Tr.skip ?_)))
  refine Tr.seq (Tr.seqR rfl (by simp) (Tr.block ?_))
  refine Tr.loop (α := Nat × List Nat) (fun p st => (p.1 ≤ nBins g ∧ p.2.length = p.1 ∧ p.2.Nodup) ∧
      st = { env := [(2, sB pts), (3, .ptr 3 0), (4, .ptr 4 0), (8, .slice 41 1 (srefs g.cls.length p.2)), (9, I (p.1 : Nat))], bx := [(4, ⟨layC s, false⟩), (3, ⟨gridC g, false⟩)], rw := [(40, p.2.length, 1, 48)], log := encA (arn p.2 ((List.range p.1).map (cntRow g.cls.length []))), stp := false }) (fun p => nBins g - p.1) (0, [])
    (Wk.leL (.cons rfl (.refl _) (.cons rfl (.refl _) (.cons rfl (.refl _) (.cons rfl (.nil 41 1) (.cons rfl (.refl _) .nil))))) (.cons rfl (LLe.refl _) (.cons rfl (LLe.refl _) .nil)) (.new rfl .nil) rfl rfl rfl) ⟨⟨by omega, rfl, List.Pairwise.nil⟩, rfl⟩ ?_
  rintro ⟨k, rbs⟩ st ⟨⟨hk, hlen, hnd⟩, rfl⟩
  simp only at hk hlen hnd
  have hlr : rbs.length = ((List.range k).map (cntRow g.cls.length [])).length := by simp [hlen]
  have hsr : (srefs g.cls.length rbs).length = k := by simp [srefs, hlen]
  refine Tr.seq (Tr.seqR rfl (by simp) (Tr.cond rfl rfl (fun h1 => Tr.skip ?_) (fun h1 => Tr.exit ?_)))
  · have h1 : decide ((k : Int) < IntKind.wrap .i64 (g.a * g.d)) = true := h1
    rw [hab] at h1
    have h1 : k < nBins g := by simpa using h1
    refine Tr.seq (Tr.block (Tr.reg ?_))
    refine Steps.runN 4 rfl (by simp) (Steps.amkbox hA (N := g.cls.length) rfl (by simp) (by simp) (by omega) (by omega) (by omega) rfl fun b hb => ?_)
    rw [arn_keys hlr] at hb
    refine Steps.fin rfl (by simp; omega) (Tr.regR rfl (by simp) ?_)
    have ez : (List.replicate g.cls.length [I 0]).flatten = (cntRow g.cls.length [] k).map I := by
      have : cntRow g.cls.length [] k = List.replicate g.cls.length 0 := by
        refine List.ext_getElem (by simp [cntRow]) fun i h1 h2 => by simp [cntRow]
      rw [this]; simp
    have eA : arn (rbs ++ [b]) ((List.range (k + 1)).map (cntRow g.cls.length [])) = arn rbs ((List.range k).map (cntRow g.cls.length [])) ++ [(b, .cells ((cntRow g.cls.length [] k).map I))] := by
      rw [List.range_succ, List.map_append]; exact arn_snoc _ _ hlr
    have hnd2 : (rbs ++ [b]).Nodup := by
      rw [List.nodup_append]
      exact ⟨hnd, by simp, fun x hx y hy e => by rw [List.mem_singleton.1 hy] at e; exact hb (e ▸ hx)⟩
    refine ⟨(k + 1, rbs ++ [b]), _, Wk.trans (Wk.leL (env := [(2, sB pts), (3, .ptr 3 0), (4, .ptr 4 0), (8, .slice 41 1 (srefs g.cls.length (rbs ++ [b]))), (9, I ((k + 1 : Nat) : Int))]) (bx := [(4, ⟨layC s, false⟩), (3, ⟨gridC g, false⟩)]) (rw := [(40, (rbs ++ [b]).length, 1, 48)])
        (.cons rfl (.refl _) (.cons rfl (.refl _) (.cons rfl (.refl _) (.cons rfl (.of_eq ?_) (.cons rfl (VLe.i (w64 (by omega) (by omega))) .nil))))) (.cons rfl (LLe.refl _) (.cons rfl (LLe.refl _) .nil)) (.cons ?_ .nil) rfl rfl rfl) (Wk.keep hA (B := arn (rbs ++ [b]) ((List.range (k + 1)).map (cntRow g.cls.length []))) rfl ?_ ?_), ⟨⟨by simp only; omega, by simp [hlen], hnd2⟩, rfl⟩, by simp only; omega⟩
    · rw [srefs_snoc]
    · show some _ = some _
      simp [hsr, hlen]
    · intro p hp
      rw [eA] at hp
      rcases List.mem_append.1 hp with hp | hp
      · exact List.mem_cons_of_mem _ hp
      · rw [List.mem_singleton.1 hp, ez]; exact List.mem_cons_self
    · rw [arn_keys (by simp [hlen])]; exact hnd2
  have h1 : decide ((k : Int) < IntKind.wrap .i64 (g.a * g.d)) = false := h1
  rw [hab] at h1
  have h1 : k = nBins g := by simp at h1; omega
  subst h1
  clear hlr
  refine Tr.seq (Tr.seqR rfl (by simp) (Tr.block ?_))
  refine Tr.loop (fun (k : Nat) st => k ≤ s.traces.length ∧ st = { env := [(2, sB pts), (3, .ptr 3 0), (4, .ptr 4 0), (8, .slice 0 1 (rbs.map fun b => V.sref b 0 g.cls.length g.cls.length)), (10, I (k : Nat))], bx := [(4, ⟨layC s, false⟩), (3, ⟨gridC g, false⟩)], rw := [], log := encA (arn rbs (countL g ((s.traces.map (cellT g pts)).take k))), stp := false }) (fun k => s.traces.length - k) 0
    (Wk.leL (.cons rfl (.refl _) (.cons rfl (.refl _) (.cons rfl (.refl _) (.cons rfl (.dem _ _ _) (.cons rfl (.refl _) .nil))))) (.cons rfl (LLe.refl _) (.cons rfl (LLe.refl _) .nil)) .nil rfl rfl rfl) ⟨by omega, rfl⟩ ?_
  rintro k st ⟨hk, rfl⟩
  refine Tr.seq (Tr.seqR rfl (by simp) (Tr.cond rfl rfl (fun h1 => Tr.skip ?_) (fun h1 => Tr.exit ?_)))
  rotate_left
  · have h1 : k = s.traces.length := by simp at h1; omega
    subst h1
    rw [List.take_of_length_le (by simp)]
    refine Tr.seqR rfl (by simp) ?_
    exact Tr.retZ rfl rfl rfl ⟨_, rfl, rbs, ⟨hnd, hlen⟩, rfl, rfl⟩
  have h1 : k < s.traces.length := by simpa using h1
  obtain ⟨i, j, hij, hi, hj⟩ := htr _ (List.getElem_mem h1)
  have hpi := hpl _ (List.getElem_mem hi)
  have hpj := hpl _ (List.getElem_mem hj)
  have eT : (s.traces.map (cellT g pts)).take (k + 1) = (s.traces.map (cellT g pts)).take k ++ [cellN g pts[i] pts[j]] := by
    rw [List.take_add_one, List.getElem?_map, List.getElem?_eq_getElem h1, hij]
    simp [cellT, hi, hj]
  have kc := c_Cell (g := g) (by omega) pts[i] pts[j]
  rw [if_pos hg, if_pos (by rw [hpi, hpj]; rfl)] at kc
  have hin := cell_in hg pts[i] pts[j]
  have hw1 : IntKind.wrap .i64 (((pts.map eB).length : Int) - 1) = (pts.length : Int) - 1 := by rw [List.length_map, w64 (by omega) (by omega)]
  have b1 : C Tryz.prog F.ref00_Between [I (i : Nat), I 0, I (IntKind.wrap .i64 (((pts.map eB).length : Int) - 1))] (.bool true) := by
    have : btw (i : Int) 0 (IntKind.wrap .i64 (((pts.map eB).length : Int) - 1)) = true := by rw [hw1, btw_iff]; omega
    exact this ▸ c_between _ _ _
  have b2 : C Tryz.prog F.ref00_Between [I (j : Nat), I 0, I (IntKind.wrap .i64 (((pts.map eB).length : Int) - 1))] (.bool true) := by
    have : btw (j : Int) 0 (IntKind.wrap .i64 (((pts.map eB).length : Int) - 1)) = true := by rw [hw1, btw_iff]; omega
    exact this ▸ c_between _ _ _
  refine Tr.seq (Tr.block ?_)
  refine Tr.seqN 4 rfl (by simp; omega) ?_
  rw [getD_map h1, hij]
  refine Steps.fin rfl (by simp) ?_
  refine Tr.seq (Tr.seqC rfl (by simp) (Steps.call rfl rfl b1 (Steps.run rfl (by simp) ?_)))
  refine Steps.gcall rfl rfl rfl rfl (by simp) (fun _ => b2) (Steps.fin rfl (by simp) (Tr.condF rfl (Tr.skip ?_)))
  refine Tr.seq (Tr.drawK (TraceK.runN 5 rfl (by simp; omega) ?_))
  rw [getD_map hi]
  refine TraceK.runN 5 rfl (by simp; omega) ?_
  rw [getD_map hj]
  refine TraceK.run rfl (by simp) (TraceK.call rfl rfl kc (TraceK.run rfl (by simp) (.done ⟨by kernel_rfl, by kernel_rfl, ?_⟩)))
  obtain ⟨c, hc⟩ : ∃ c, cellN g pts[i] pts[j] = c := ⟨_, rfl⟩
  rw [hc] at hin eT ⊢
  refine Tr.seq (Tr.seqR rfl (by simp) (Tr.condF rfl (Tr.skip ?_)))
  rcases hin with rfl | hin
  · refine Tr.seq (Tr.seqR rfl (by simp) (Tr.condT rfl (Tr.exit (Tr.regR rfl (by simp) ?_))))
    exact ⟨k + 1, _, Wk.leL (.cons rfl (.refl _) (.cons rfl (.refl _) (.cons rfl (.refl _) (.cons rfl (.refl _) (.cons rfl (VLe.i (w64 (by omega) (by omega))) .nil))))) (.cons rfl (LLe.refl _) (.cons rfl (LLe.refl _) .nil)) .nil rfl rfl (by rw [eT, countL_none]; rfl), ⟨by omega, rfl⟩, by omega⟩
  obtain ⟨b, q, rfl, hbb, hq⟩ := inG_nat hg hin
  have hbl : b < rbs.length := by omega
  obtain ⟨P, hP⟩ : ∃ P, (s.traces.map (cellT g pts)).take k = P := ⟨_, rfl⟩
  have hPl : P.length ≤ 64 := by rw [← hP, List.length_take]; simp; omega
  obtain ⟨n0, hn0⟩ : ∃ n0, P.count ((b : Int), (q : Int)) = n0 := ⟨_, rfl⟩
  have hn1 : n0 ≤ 64 := by rw [← hn0]; exact Nat.le_trans List.count_le_length hPl
  have hcl2 := countL_len g P
  have hrow := countL_get (P := P) hbb
  have hcell : ((cntRow g.cls.length P b).map I)[q]? = some (I n0) := by rw [List.getElem?_map, cntRow_get hq, hn0]; rfl
  have hrb : rbs[b]? = some rbs[b] := List.getElem?_eq_getElem hbl
  have hmA := arn_mem (rbs := rbs) hrb hrow
  rw [hP] at eT ⊢
  have hw2 : IntKind.wrap .i64 (((rbs.map fun b => V.sref b 0 g.cls.length g.cls.length).length : Int) - 1) = (rbs.length : Int) - 1 := by rw [List.length_map, w64 (by omega) (by omega)]
  have hw3 : IntKind.wrap .i64 (((g.cls.map eB).length : Int) - 1) = (g.cls.length : Int) - 1 := by rw [List.length_map, w64 (by omega) (by omega)]
  have b3 : C Tryz.prog F.ref00_Between [I (b : Nat), I 0, I (IntKind.wrap .i64 (((rbs.map fun b => V.sref b 0 g.cls.length g.cls.length).length : Int) - 1))] (.bool true) := by
    have : btw (b : Int) 0 (IntKind.wrap .i64 (((rbs.map fun b => V.sref b 0 g.cls.length g.cls.length).length : Int) - 1)) = true := by rw [hw2, btw_iff]; omega
    exact this ▸ c_between _ _ _
  have b4 : C Tryz.prog F.ref00_Between [I (q : Nat), I 0, I (IntKind.wrap .i64 (((g.cls.map eB).length : Int) - 1))] (.bool true) := by
    have : btw (q : Int) 0 (IntKind.wrap .i64 (((g.cls.map eB).length : Int) - 1)) = true := by rw [hw3, btw_iff]; omega
    exact this ▸ c_between _ _ _
  refine Tr.seq (Tr.seqR rfl (by simp) (Tr.condF ?_ (Tr.skip ?_)))
  · show some (V.bool ((b : Int) == -1)) = _
    congr 2
  refine Tr.seq (Tr.seqC rfl (by simp) (Steps.call rfl rfl b3 (Steps.run rfl (by simp) ?_)))
  refine Steps.gcall rfl rfl rfl rfl (by simp) (fun _ => b4) (Steps.fin rfl (by simp) (Tr.condF rfl (Tr.skip ?_)))
  refine Tr.seqN 4 rfl (by simp; omega) ?_
  rw [getD_map hbl]
  refine Steps.fin rfl (by simp) ?_
  refine Tr.reg (Steps.runN 3 rfl (by simp) ?_)
  refine Steps.sidx (blk := rbs[b]) (off := 0) (j := q) rfl rfl hq ?_
  refine Steps.aload hA (v := I n0) rfl rfl hmA (by simpa using hcell) (Steps.runN 1 rfl (by simp) ?_)
  refine Steps.sidx (blk := rbs[b]) (off := 0) (j := q) rfl rfl hq ?_
  refine Steps.astore hA rfl rfl hmA (by simp [cntRow_len]; omega) rfl rfl (Steps.fin rfl (by simp) ?_)
  have eL : setA (arn rbs (countL g P)) rbs[b] (.cells (((cntRow g.cls.length P b).map I).set (0 + q * 1) (I (IntKind.wrap .i64 ((n0 : Int) + 1))))) = arn rbs (countL g (P ++ [((b : Int), (q : Int))])) := by
    rw [countL_on hbb hq, hn0, w64 (by omega) (by omega), ← arn_set _ hnd (by rw [hcl2, hlen]) hrb, List.map_set, Nat.zero_add, Nat.mul_one]
  refine Tr.regR rfl (by simp) ?_
  exact ⟨k + 1, _, Wk.leL (.cons rfl (.refl _) (.cons rfl (.refl _) (.cons rfl (.refl _) (.cons rfl (.refl _) (.cons rfl (VLe.i (w64 (by omega) (by omega))) .nil))))) (.cons rfl (LLe.refl _) (.cons rfl (LLe.refl _) .nil)) .nil rfl rfl (by rw [eT, ← eL]; rfl), ⟨by omega, rfl⟩, by omega⟩

end Go.Proofs.YtdejdblopmfjfaaGreatDoor


/-! A slice literal that is a frame's own; contracts with nil slices; two infills alike. -/
set_option linter.unusedVariables false
set_option linter.unusedSimpArgs false
namespace Go.Am
open Go.RowKit

section
variable {P : Program} {nt : Nat} {S : Sur} {log : List (List V)} {stp : Bool} {σ : FSt} {a : Act} {w : World} {h : Gh} {o : Oper}

end

section
variable {E : Env} {σ : FSt}

end
end Go.Am

namespace Go.Proofs.YtdejdblopmfjfaaGreatDoor
open Go.Am
set_option maxRecDepth 40000
set_option maxHeartbeats 4000000
attribute [local simp] cells scalar mkv splice under2 under dem dem1 eQ nfC intsV
/-! ### Nil slices where empty ones are taken -/
def all2 (f : V → V → Bool) : List V → List V → Bool
  | [], [] => true
  | a :: l, b :: m => f a b && all2 f l m
  | _, _ => false

theorem all2_len {f : V → V → Bool} : ∀ {l m : List V}, all2 f l m = true → l.length = m.length
  | [], [], _ => rfl
  | a :: l, b :: m, h => by
    simp only [all2, Bool.and_eq_true] at h
    simp [all2_len h.2]
theorem all2_get {f : V → V → Bool} : ∀ {l m : List V} (_ : all2 f l m = true) (i : Nat) (a b : V), l[i]? = some a → m[i]? = some b → f a b = true
  | a :: l, b :: m, h, 0, x, y, h1, h2 => by
    simp only [all2, Bool.and_eq_true] at h
    cases h1; cases h2; exact h.1
  | a :: l, b :: m, h, i + 1, x, y, h1, h2 => by
    simp only [all2, Bool.and_eq_true] at h
    exact all2_get h.2 i x y h1 h2
  | [], [], _, i, x, y, h1, _ => by simp at h1

def rleB : Nat → V → V → Bool
  | 0, _, _ => false
  | n + 1, v, u => match v, u with
    | .int k a, .int k' b => decide (k = k') && decide (a = b)
    | .bool a, .bool b => a == b
    | .nils, .nils => true
    | .nils, .slice 0 _ ys => ys.isEmpty
    | .agg cs, .agg ds => all2 (rleB n) cs ds
    | .slice 0 sz xs, .slice 0 sz' ys => decide (sz = sz') && decide (xs.length = ys.length) && ys.all (fun y => decide ((cells y).length = sz)) && all2 (fun v u => rleB n v u && scalar u) (xs.flatMap cells) (ys.flatMap cells)
    | _, _ => false

theorem rle_ok : ∀ (n : Nat) (v u : V), rleB n v u = true → ∀ (w : World) (φ : Nat → Nat) (x : Value), RepD w φ v x → RepD w φ u x
  | 0, v, u, h, _, _, _, _ => by cases h
  | n + 1, v, u, h, w, φ, x, r => by
    unfold rleB at h
    split at h
    · simp only [Bool.and_eq_true, decide_eq_true_eq] at h
      rw [← h.1, ← h.2]; exact r
    · rw [← eq_of_beq h]; exact r
    · exact r
    · rename_i sz ys
      cases ys with
      | nil => cases r; exact .slice0 _ _ _
      | cons => cases h
    · rename_i cs ds
      cases r with
      | agg _ vs hl hh =>
        refine .agg _ _ (by rw [← all2_len h]; exact hl) fun i u z hu hz => ?_
        have hi : i < cs.length := by rw [all2_len h]; exact (List.getElem?_eq_some_iff.1 hu).1
        exact rle_ok n _ _ (all2_get h i _ u (List.getElem?_eq_getElem hi) hu) w φ z (hh i _ z (List.getElem?_eq_getElem hi) hz)
    · rename_i sz xs sz' ys
      simp only [Bool.and_eq_true, decide_eq_true_eq, List.all_eq_true] at h
      obtain ⟨⟨⟨rfl, h2⟩, h3⟩, h4⟩ := h
      cases r with
      | slice0 =>
        obtain rfl : ys = [] := List.eq_nil_of_length_eq_zero (by simpa using h2.symm)
        exact .slice0 _ _ _
      | slice _ _ blk off len cap cv h0 hl hc hs hm hr =>
        have old : ∀ j u, (ys.flatMap cells)[j]? = some u → ∃ v, (xs.flatMap cells)[j]? = some v ∧ rleB n v u = true ∧ scalar u = true := fun j u hu => by
          have hj : j < (xs.flatMap cells).length := by rw [all2_len h4]; exact (List.getElem?_eq_some_iff.1 hu).1
          have := all2_get h4 j _ u (List.getElem?_eq_getElem hj) hu
          rw [Bool.and_eq_true] at this
          exact ⟨_, List.getElem?_eq_getElem hj, this.1, this.2⟩
        refine .slice sz ys blk off len cap cv h0 (by rw [hl, h2]) hc h3 (fun j u hu => ?_) fun j u hu => ?_
        · obtain ⟨v, e1, e2, e3⟩ := old j u hu
          obtain ⟨a, b, _⟩ := hm j v e1
          exact ⟨a, b, e3⟩
        · obtain ⟨v, e1, e2, e3⟩ := old j u hu
          exact rle_ok n v u e2 w φ _ (hr j v e1)
    · cases h

/-- A contract takes nil slices where it takes empty ones. -/
theorem argsB {P : Program} {f : FuncId} {us vs : List V} {r : V} (h : C P f us r) (hb : all2 (rleB 9) vs us = true) : C P f vs r :=
  ⟨h.1, fun w φ xs ht hg hr => h.2 w φ xs ht hg ⟨by rw [← all2_len hb]; exact hr.1, fun i u x hu hx => by
    have hi : i < vs.length := by rw [all2_len hb]; exact (List.getElem?_eq_some_iff.1 hu).1
    exact rle_ok 9 _ _ (all2_get hb i _ u (List.getElem?_eq_getElem hi) hu) w φ x (hr.2 i _ x (List.getElem?_eq_getElem hi) hx)⟩⟩

theorem c_alike {x : Nf} (hx : nfSane x) : C Tryz.prog F.law07_alike [.agg (nfC x), .agg (nfC x)] (.bool true) := by
  have hAl : ∀ l : List Int, l.length ≤ 9223372036854775807 → C Tryz.prog F.ref00_Alike [intsV l, intsV l] (.bool true) := fun l hl => by
    have := c_Alike l l hl
    rwa [decide_eq_true rfl] at this
  refine C_of mixed chk.law07_alike (by simp) fun S ok => ?_
  refine Tr.seqR rfl (by simp) ?_
  refine Tr.seq (Tr.seqC rfl (by simp) (Steps.call rfl rfl (hAl x.lacks hx.1.1) (Steps.fin rfl (by simp) (Tr.condF ?_ (Tr.skip ?_)))))
  · show some (V.bool (((x.passes.map eQ).length : Int) != ((x.passes.map eQ).length : Int))) = _
    simp
  refine Tr.seq (Tr.seqR rfl (by simp) (Tr.block ?_))
  have hpl := hx.1.2
  refine Tr.loop (fun (k : Nat) st => k ≤ x.passes.length ∧ st = { env := [(2, .ptr 2 0), (3, .ptr 3 0), (5, I (k : Nat))], bx := [(3, ⟨nfC x, false⟩), (2, ⟨nfC x, false⟩)], rw := [], log := [], stp := false }) (fun k => x.passes.length - k) 0
    (Wk.le (.cons rfl (.refl _) (.cons rfl (.refl _) (.cons rfl (.refl _) .nil))) (.cons rfl (LLe.refl _) (.cons rfl (LLe.refl _) .nil)) .nil rfl rfl) ⟨by omega, rfl⟩ ?_
  rintro k st ⟨hk, rfl⟩
  refine Tr.seq (Tr.seqR rfl (by simp) (Tr.cond rfl rfl (fun h1 => Tr.skip ?_) (fun h1 => Tr.exit ?_)))
  · have h1 : k < x.passes.length := by simpa using h1
    refine Tr.seq (Tr.block (Tr.seq (Tr.drawK (TraceK.runN 4 rfl (by simp; omega) ?_))))
    rw [getD_map h1]
    refine TraceK.runN 6 rfl (by simp; omega) ?_
    rw [getD_map h1]
    refine TraceK.runN 8 rfl (by simp; omega) ?_
    rw [getD_map h1]
    refine TraceK.runN 6 rfl (by simp; omega) ?_
    rw [getD_map h1]
    refine TraceK.run rfl (by simp) (TraceK.gcall rfl rfl rfl rfl (by simp) (fun _ => hAl x.passes[k].adds (hx.2 _ (List.getElem_mem h1))) (TraceK.run rfl (by simp) (.done ⟨by kernel_rfl, by kernel_rfl, ?_⟩)))
    refine Tr.condF ?_ (Tr.skip (Tr.regR rfl (by simp) ?_))
    · show some (V.bool (bif x.passes[k].cost != x.passes[k].cost then true else !true)) = _
      simp
    · exact ⟨k + 1, _, Wk.le (.cons rfl (.refl _) (.cons rfl (.refl _) (.cons rfl (VLe.i (w64 (by omega) (by omega))) .nil))) (.cons rfl (LLe.refl _) (.cons rfl (LLe.refl _) .nil)) .nil rfl rfl, ⟨h1, rfl⟩, by omega⟩
  · exact Tr.seqR rfl (by simp) (Tr.retX rfl rfl rfl rfl trivial)

end Go.Proofs.YtdejdblopmfjfaaGreatDoor


/-! AM, part Zu: drawn regions that read an arena. -/
set_option linter.unusedVariables false
set_option linter.unusedSimpArgs false
namespace Go.Am
open Go.RowKit

/-- The surroundings while the arena is this one. -/
def pinS (S : Sur) (A : Arena) : Sur := fun log stp M w φ => log = encA A ∧ S log stp M w φ

theorem pinS_ok {S : Sur} (h : S.ok) (A : Arena) : (pinS S A).ok := ⟨fun _ _ _ _ _ _ _ _ h1 mv => ⟨h1.1, h.move _ _ _ _ _ _ _ _ h1.2 mv⟩, fun _ _ _ _ _ h1 => h.gl _ _ _ _ _ h1.2⟩

abbrev Env.pinA (E : Env) (A : Arena) : Env := { E with S := pinS E.S A, ok := pinS_ok E.ok A }

theorem to_pin {E : Env} (hys : E.ys = []) (hlk : E.lk = fun _ => True) {A : Arena} {log : List (List V)} {stp : Bool} {σ : FSt} {a : Act} {w : World} {h : Gh} (hl : log = encA A) (R : E.relF log stp σ a w h) : (E.pinA A).relF log stp σ a w h := by
  refine ⟨{ R.1 with sur := ⟨hl, R.1.sur⟩ }, fun l hl => ⟨?_, by show E.lk l; rw [hlk]; trivial⟩, R.2.2⟩
  intro log x M w φ xs hp
  have hp : List.IsPrefix _ E.ys := hp
  rw [hys] at hp
  exact absurd hp.length_le (by simp)

theorem of_pin {E : Env} (hys : E.ys = []) (hlk : E.lk = fun _ => True) {A : Arena} {log : List (List V)} {stp : Bool} {σ : FSt} {a : Act} {w : World} {h : Gh} (R : (E.pinA A).relF log stp σ a w h) : E.relF log stp σ a w h := by
  refine ⟨{ R.1 with sur := R.1.sur.2 }, fun l hl => ⟨?_, by rw [hlk]; trivial⟩, R.2.2⟩
  intro log x M w φ xs hp
  rw [hys] at hp
  exact absurd hp.length_le (by simp)

section
variable {E : Env} {ro : Option Nat} {n : Nat} {ops : Array Oper}

theorem prefix_okP (hys : E.ys = []) (hlk : E.lk = fun _ => True) {A : Arena} {K : St → Prop} {il1 il2 : List Ins} {s s1 : St} {fp : List (List Loc × List Loc)} (hc : compR E.P E.nt ops = some (il1 ++ il2)) (hl : lexed ops = true) (t : Trace (E.pinA A) s il1 fp s1) (hlog : s.log = encA A)
    (hok : okPlan (befs ops) fp = true) (ht : totTail (befs ops) il1.length ops.size = true) (hst : Steps E il2 K s1) {Q : Exit → Act → World → Prop} (y : Pin)
    (hn : ∀ s' a' w' h', K s' → E.rel s' a' w' h' → h'.y = y → Q .normal a' w') :
    ∃ us : List FSt, ∀ (fuel : Nat) (listed : Array Bool) (a : Act) (w : World) (h : Gh), listed.toList.count false = fuel → listed.size = ops.size → Closed ops (fun i => listed.getD i false) → (∀ i, il1.length ≤ i → listed.getD i false = false) →
      E.relF s.log s.stp (FL us (fun i => listed.getD i false) s.fs il1.length) a w h → h.y = y → wpAnyIn (wideR ro) n E.P .any ops Q fuel listed a w := by
  obtain ⟨t1, t2, t3, us, t4, t5, t6⟩ := trace_spec t
  obtain ⟨hlen, hg⟩ := compR_spec hc
  have hle : il1.length ≤ ops.size := by simp at hlen; omega
  have tot : ∀ k i, il1.length ≤ k → k < ops.size → i < k → ((befs ops).getD k 0).testBit i = true := by
    intro k i h1 h2 h3
    unfold totTail at ht
    rw [List.all_eq_true] at ht
    have := ht (k - il1.length) (by simp; omega)
    rw [List.all_eq_true] at this
    have := this i (by simp; omega)
    rwa [show il1.length + (k - il1.length) = k by omega] at this
  have ap : ∀ i j, i < j → j < il1.length → ((befs ops).getD j 0).testBit i = false → apartFp (fp.getD i ([], [])) (fp.getD j ([], [])) = true := by
    intro i j h1 h2 h3
    unfold okPlan at hok
    rw [List.all_eq_true] at hok
    have := hok j (by simp; omega)
    rw [List.all_eq_true] at this
    have := this i (by simp; omega)
    rw [h3] at this
    simpa using this
  refine ⟨us, ?_⟩
  intro fuel
  induction fuel with
  | zero =>
    intro listed a w h hcn hs hcl hpre R hy
    have all : ∀ i, i < ops.size → listed.getD i false = true := by
      intro i hi
      cases hL : listed.getD i false with
      | true => rfl
      | false =>
        have : false ∈ listed.toList := by
          simp only [Array.getD_eq_getD_getElem?, Array.getElem?_eq_getElem (show i < listed.size by omega), Option.getD_some] at hL
          rw [← hL]; simp
        exact absurd this (List.count_eq_zero.1 hcn)
    have hm : il1.length = ops.size := by
      rcases Nat.lt_or_ge il1.length ops.size with h1 | h1
      · have := all il1.length h1
        rw [hpre il1.length (Nat.le_refl _)] at this; cases this
      · omega
    refine tail_ok hc hl ht y hn 0 ops.size listed s1 a w h (by omega) (by omega) hs hcl (fun i hi => by rw [all i hi]; simp [hi]) ?_ ?_ hy
    · rw [List.drop_append_of_le_length (by omega), List.drop_eq_nil_of_le (by omega)]; simpa using hst
    · show E.relF _ _ _ a w h
      rw [t2, t3, t5]
      have e : FL us (fun i => listed.getD i false) s.fs il1.length = FL us (fun _ => true) s.fs il1.length := by
        funext l
        refine FL_at (i := il1.length) (fun k hk hL => ?_) (fun k hk hL => ?_) _ (Nat.le_refl _)
        · rw [all k (by omega)] at hL; cases hL
        · rw [hpre k hk] at hL; cases hL
      rw [e] at R; exact R
  | succ fuel ih =>
    intro listed a w h hcn hs hcl hpre R hy
    by_cases hall : ∀ i, i < il1.length → listed.getD i false = true
    · have e : FL us (fun i => listed.getD i false) s.fs il1.length = FL us (fun _ => true) s.fs il1.length := by
        funext l
        refine FL_at (i := il1.length) (fun k hk hL => ?_) (fun k hk hL => ?_) _ (Nat.le_refl _)
        · rw [hall k hk] at hL; cases hL
        · rw [hpre k hk] at hL; cases hL
      rw [e] at R
      have hLk : ∀ i, i < ops.size → listed.getD i false = decide (i < il1.length) := fun i hi => by
        rcases Nat.lt_or_ge i il1.length with h1 | h1
        · rw [hall i h1]; simp [h1]
        · rw [hpre i h1]; simp; omega
      have hfuel : il1.length + (fuel + 1) = ops.size := by
        have e1 : listed.toList = List.replicate il1.length true ++ List.replicate (ops.size - il1.length) false := by
          apply List.ext_getElem?
          intro k
          have hk : listed.toList[k]? = if k < ops.size then some (listed.getD k false) else none := by
            by_cases h1 : k < ops.size
            · simp [h1, show k < listed.size by omega]
            · simp [h1, show listed.size ≤ k by omega]
          rw [hk, List.getElem?_append]
          simp only [List.length_replicate]
          by_cases h1 : k < il1.length
          · rw [if_pos h1, if_pos (by omega), hall k h1, List.getElem?_replicate, if_pos h1]
          · rw [if_neg h1, List.getElem?_replicate]
            by_cases h2 : k < ops.size
            · rw [if_pos h2, if_pos (by omega), hpre k (by omega)]
            · rw [if_neg h2, if_neg (by omega)]
        rw [e1] at hcn
        simp [List.count_append, List.count_replicate] at hcn
        omega
      refine tail_ok hc hl ht y hn (fuel + 1) il1.length listed s1 a w h hfuel (Nat.le_refl _) hs hcl hLk ?_ ?_ hy
      · simpa using hst
      · show E.relF _ _ _ a w h
        rw [t2, t3, t5]; exact R
    · obtain ⟨k0, hk0, hk0'⟩ : ∃ k, k < il1.length ∧ listed.getD k false = false := by
        apply Classical.byContradiction
        intro hno
        exact hall fun i hi => by
          cases hL : listed.getD i false with
          | true => rfl
          | false => exact absurd ⟨i, hi, hL⟩ hno
      refine ⟨fun hr => ?_, fun i hi => ?_⟩
      · have := ready_some hl hs hr k0 (by omega)
        rw [hk0'] at this; cases this
      · obtain ⟨h1, h2, o, ho, h3⟩ := (mem_ready hs).1 hi
        have him : i < il1.length := by
          rcases Nat.lt_or_ge i il1.length with h4 | h4
          · exact h4
          · have := befs_ok hcl ho h3 (tot i k0 h4 h1 (by omega))
            rw [hk0'] at this; cases this
        obtain ⟨ins, eff, rd, g1, g2, g3, g4⟩ := t6 i him
        obtain ⟨ins', e1, e2⟩ := hg i o ho
        rw [List.getElem?_append_left him, g1] at e1; cases e1
        -- what may not meet
        have below : ∀ k, k < i → listed.getD k false = false → ∀ l, (l ∈ rd ∨ l ∈ wrOf ins eff) → us.getD k nof l = none := by
          intro k hk hL l hlm
          obtain ⟨insk, effk, rdk, q1, q2, q3, q4⟩ := t6 k (by omega)
          have hb : ((befs ops).getD i 0).testBit k = false := by
            cases hb : ((befs ops).getD i 0).testBit k with
            | false => rfl
            | true => have := befs_ok hcl ho h3 hb; rw [hL] at this; cases this
          have := ap k i hk him hb
          simp only [List.getD_eq_getElem?_getD, q2, g2, Option.getD_some, apartFp, Bool.and_eq_true, Bool.not_eq_true'] at this
          rw [List.getD_eq_getElem?_getD, q3, Option.getD_some]
          refine wrF_out fun hm => ?_
          rcases hlm with h5 | h5
          · exact meets_false this.1.2 l hm h5
          · exact meets_false this.1.1 l hm h5
        have above : ∀ k, i < k → listed.getD k false = true → k < il1.length ∧ ∃ insk effk rdk, fp[k]? = some (wrOf insk effk, rdk) ∧ us[k]? = some (wrF insk effk nof) ∧ apartFp (wrOf ins eff, rd) (wrOf insk effk, rdk) = true := by
          intro k hk hL
          have hkm : k < il1.length := by
            rcases Nat.lt_or_ge k il1.length with h4 | h4
            · exact h4
            · rw [hpre k h4] at hL; cases hL
          obtain ⟨insk, effk, rdk, q1, q2, q3, q4⟩ := t6 k hkm
          have hks : k < ops.size := by omega
          have hb : ((befs ops).getD k 0).testBit i = false := by
            cases hb : ((befs ops).getD k 0).testBit i with
            | false => rfl
            | true =>
              have := befs_ok hcl (Array.getElem?_eq_getElem hks) (hcl k _ (Array.getElem?_eq_getElem hks) hL) hb
              rw [h2] at this; cases this
          have := ap i k hk hkm hb
          simp only [List.getD_eq_getElem?_getD, q2, g2, Option.getD_some] at this
          exact ⟨hkm, insk, effk, rdk, q2, q3, this⟩
        have at_i : ∀ l, (l ∈ rd ∨ l ∈ wrOf ins eff) → FL us (fun i => listed.getD i false) s.fs il1.length l = FL us (fun _ => true) s.fs i l := by
          intro l hlm
          refine FL_at (fun k hk hL => below k hk hL l hlm) (fun k hk hL => ?_) _ (by omega)
          rcases Nat.lt_or_ge i k with h5 | h5
          · obtain ⟨_, insk, effk, rdk, q2, q3, q4⟩ := above k h5 hL
            rw [List.getD_eq_getElem?_getD, q3, Option.getD_some]
            simp only [apartFp, Bool.and_eq_true, Bool.not_eq_true'] at q4
            refine wrF_out fun hm => ?_
            rcases hlm with h6 | h6
            · exact meets_false q4.2 l h6 hm
            · exact meets_false q4.1.1 l h6 hm
          · obtain rfl : k = i := by omega
            rw [h2] at hL; cases hL
        have hd := does_reads (τ := FL us (fun i => listed.getD i false) s.fs il1.length) g4 (fun l hl => at_i l (.inl hl))
        have R2 : (E.pinA A).relF s.log s.stp (FL us (fun i => listed.getD i false) s.fs il1.length) a w h := to_pin hys hlk hlog R
        refine does_ok (E := E.pinA A) e2 rfl ho hd R2 fun a' w' h' R' hy' => ih _ a' w' h' (count_step (by omega) h2 hcn) (by simpa using hs) ?_ ?_ ?_ (hy'.trans hy)
        · intro j o' ho' hj d hd
          simp only [getD_setD (show i < listed.size by omega), Bool.or_eq_true, beq_iff_eq] at hj ⊢
          rcases hj with hj | rfl
          · exact .inl (hcl j o' ho' hj d hd)
          · rw [ho] at ho'; cases ho'; exact .inl (h3 d hd)
        · intro j hj
          rw [getD_setD (show i < listed.size by omega), hpre j hj]
          have : (j == i) = false := by simpa using (show j ≠ i by omega)
          rw [this]; rfl
        · have e : (fun k => (listed.setIfInBounds i true).getD k false) = fun k => listed.getD k false || k == i := by
            funext k; exact getD_setD (by omega)
          rw [e, FL_add h2 (fun k hk hL l => ?_) _ him]
          · rw [List.getD_eq_getElem?_getD, g3, Option.getD_some, ← wrF_nof]; exact of_pin hys hlk R'
          · obtain ⟨_, insk, effk, rdk, q2, q3, q4⟩ := above k hk hL
            simp only [List.getD_eq_getElem?_getD, q3, g3, Option.getD_some]
            simp only [apartFp, Bool.and_eq_true, Bool.not_eq_true'] at q4
            by_cases hm : l ∈ wrOf insk effk
            · right
              exact wrF_out fun hm' => meets_false q4.1.1 l hm' hm
            · left
              exact wrF_out hm

theorem drawn_okP (hys : E.ys = []) (hlk : E.lk = fun _ => True) {A : Arena} {K : St → Prop} {il1 il2 : List Ins} {s s1 : St} {fp : List (List Loc × List Loc)} {id : Nat} {a : Act} {w : World} {h : Gh} (hc : compR E.P E.nt ops = some (il1 ++ il2)) (hl : lexed ops = true) (t : Trace (E.pinA A) s il1 fp s1) (hlog : s.log = encA A)
    (hok : okPlan (befs ops) fp = true) (ht : totTail (befs ops) il1.length ops.size = true) (hst : Steps E il2 K s1) (R : E.rel s a w h) {Q : Exit → Act → World → Prop}
    (hn : ∀ s' a' w' h', K s' → E.rel s' a' w' h' → h'.y = h.y → Q .normal a' w') : (Code.region id ops true).wpIn (wideR ro) n E.P Q a w := by
  obtain ⟨us, key⟩ := prefix_okP (ro := ro) (n := n) hys hlk hc hl t hlog hok ht hst h.y hn
  refine wpIn_region_any E.mixed ?_
  have e0 : ∀ i, (Array.replicate ops.size false).getD i false = false := fun i => by
    simp only [Array.getD_eq_getD_getElem?, Array.getElem?_replicate]
    by_cases h : i < ops.size <;> simp [h]
  refine key ops.size _ a _ h (by simp [List.count_replicate]) (by simp) ?_ (fun i _ => e0 i) ⟨?_, R.2⟩ rfl
  · intro j o ho hj
    have hj : (Array.replicate ops.size false).getD j false = true := hj
    rw [e0] at hj; cases hj
  · have : FL us (fun i => (Array.replicate ops.size false).getD i false) s.fs il1.length = s.fs := by
      have : ∀ m, FL us (fun i => (Array.replicate ops.size false).getD i false) s.fs m = s.fs := by
        intro m
        induction m with
        | zero => rfl
        | succ m ih =>
          have e : FL us (fun i => (Array.replicate ops.size false).getD i false) s.fs (m + 1) = if (Array.replicate ops.size false).getD m false then upF (us.getD m nof) (FL us (fun i => (Array.replicate ops.size false).getD i false) s.fs m) else FL us (fun i => (Array.replicate ops.size false).getD i false) s.fs m := rfl
          rw [e, e0 m, ih]; rfl
      exact this _
    rw [this]
    exact R.1.drew E.ok

end

/-- **A DRAWN REGION THAT READS AN ARENA**. -/
theorem Tr.drawP {E : Env} {ro : Option Nat} {Q : Exit → St → Prop} {s : St} {bef : List Nat} {il : List Ins} (hys : E.ys = []) (hlk : E.lk = fun _ => True) {A : Arena} (hlog : s.log = encA A)
    (t : TraceK (E.pinA A) s il fun fp s' r => okPlan bef fp = true ∧ totTail bef (il.length - r.length) il.length = true ∧ Steps E r (Q .normal) s') : Tr E ro (.draw bef il) Q s := by
  obtain ⟨il1, fp, s', il2, e, t', hok, ht, h⟩ := t.spec
  subst e
  intro c hc n a w g R Q' hq
  obtain ⟨id, ops, rfl, h1, hl, rfl⟩ := compC_inv hc
  have hlen := (compR_spec h1).1
  have ht : totTail (befs ops) il1.length (il1 ++ il2).length = true := by simpa using ht
  rw [hlen] at ht
  exact drawn_okP hys hlk h1 hl t' hlog hok ht h R fun s' a' w' h' k R' e => hq _ s' a' w' h' k R' e

section
variable {E : Env} {σ : FSt}

theorem does_aload {S0 : Sur} {l0 : List (List V)} {s0 : Bool} {A : Arena} (hE : InA E S0 l0 s0) (hys : E.ys = []) (hlk : E.lk = fun _ => True) {d n : Nat} {agg : Bool} {x : X} {blk off : Nat} {cs : List V} (hx : [x].mapM (evX σ) = some [.rptr blk off]) (hA : (blk, Ob.cells cs) ∈ A) (hv : off + n ≤ cs.length) :
    Does (E.pinA A) σ ⟨some d, .load n agg, [x], none⟩ { v := mkv agg n (cs.drop off) } (xslots [x]) := by
  refine .sem fun τ hτ slots ops i o ro n' log stp a w h hc hs hi R Q next hn => ?_
  have hx' : [x].mapM (evX τ) = some [.rptr blk off] := evX_reads hx fun l hl => hτ l hl
  obtain ⟨os, cc⟩ := comp_of hc
  have hll : log = encA A := R.1.sur.1
  have R' : E.relF (encA A) stp τ a w h := by rw [← hll]; exact of_pin hys hlk R
  obtain ⟨vs, et, h1, h2, h3⟩ := (hE.ar R').ok _ hA
  have hop : ∃ t p dd, o.op = .load t p ∧ szOf E.P t = some n ∧ E.P.underlying t = some dd ∧ aggB E.P t = agg ∧ os = [p] ∧ (agg = false → n = 1) := by
    have hk := cc.op
    cases ho : o.op <;> rw [ho] at hk <;> simp only [opK] at hk <;> (try (cases hk; done)) <;> (try (repeat' (split at hk <;> (try (cases hk; done)))))
    all_goals first
      | (simp only [Option.map_eq_some_iff, Prod.mk.injEq] at hk; obtain ⟨_, _, h1, _⟩ := hk; cases h1; done)
      | (simp only [eqKind] at hk; repeat' (split at hk <;> (try (cases hk; done))))
      | (cases hk; exact ⟨_, _, _, rfl, by assumption, by assumption, by assumption, rfl, by simp⟩)
      | (rename_i q1 q2 q3 q4; subst q4; cases hk; exact ⟨_, _, _, rfl, by assumption, by assumption, Bool.eq_false_iff.2 q3, rfl, by simp⟩)
  obtain ⟨t, p, dd, e1, e2, e3, e4, rfl, e5⟩ := hop
  obtain ⟨u, hu, o1⟩ := (opds_of R.1 cc.xs hx').one
  simp only [List.cons.injEq, and_true] at hu
  subst hu
  have ep := ok_rptr o1
  obtain ⟨y, hy1, hy2⟩ := ok_mkv (σ := τ) (h := h) (w := w) (agg := agg) (n := n) (l := cs.drop off) (f := fun j => vs.getD (off + j) undef) (by simp; omega) e5 (fun j v hv => by
    rw [List.getElem?_drop] at hv
    have hlt : off + j < vs.size := by
      have := (List.getElem?_eq_some_iff.1 hv).1; omega
    have := h3 (off + j) v vs[off + j] hv (by simp [hlt])
    have e : vs.getD (off + j) undef = vs[off + j] := by simp [hlt]
    rw [e]
    exact ⟨.data this.1, Grow.of_data this.1, this.2⟩)
  have hex : (execOp a.eval o).run E.P w = .ok (.value y) w := by
    simp only [execOp, e1, ep, Sem.run_bind]
    rw [run_loadAt (cs := (List.range n).map fun j => vs.getD (off + j) undef) e2 e3 (by simp) (fun j v hv => by
      obtain ⟨hj, rfl⟩ := range_map_get hv
      rw [cell_of_row w blk (off + j) vs et (0, 0) h1]
      have : off + j < vs.size := by omega
      simp [this]) (by rw [e4]; exact hy1)]
    rfl
  exact wpOp_done hi (wanted_none (guard_none cc rfl)) (opK_defer cc.op) (.inl hex) (hn _ _ h (rel_after (eff := { v := mkv agg n (cs.drop off) }) cc R R.1 hy2 rfl) rfl)

theorem TraceK.aload {S0 : Sur} {l0 : List (List V)} {s0 : Bool} {A : Arena} (hE : InA E S0 l0 s0) (hys : E.ys = []) (hlk : E.lk = fun _ => True) {s : St} {K : List (List Loc × List Loc) → St → List Ins → Prop} {d n : Nat} {agg : Bool} {x : X} {blk off : Nat} {cs : List V} {rest : List Ins} (hx : evXs s.env [x] = some [.rptr blk off]) (hA : (blk, Ob.cells cs) ∈ A) (hv : off + n ≤ cs.length)
    (tr : TraceK (E.pinA A) (s.put (some d) (mkv agg n (cs.drop off))) rest fun fp s' r' => K (([.slot d], xslots [x]) :: fp) s' r') : TraceK (E.pinA A) s (⟨some d, .load n agg, [x], none⟩ :: rest) K :=
  .step (ins := ⟨some d, .load n agg, [x], none⟩) (eff := { v := mkv agg n (cs.drop off) }) (does_aload hE hys hlk (evXs_ok hx) hA hv) tr

end

section
variable {E : Env} {S0 : Sur} {l0 : List (List V)} {s0 : Bool} {A : Arena}

end
end Go.Am


/-! Contract of the law BinFilled. -/
set_option linter.unusedVariables false
set_option linter.unusedSimpArgs false
set_option maxRecDepth 40000
set_option maxHeartbeats 4000000
namespace Go.Proofs.YtdejdblopmfjfaaGreatDoor
open Go.Am
attribute [local simp] cells scalar mkv splice under2 under dem dem1 eB gridC sB fourC layC eF eQ nfC intsV eY foldV
theorem get_upd1 {l : List (Nat × V)} {t u : Nat} {v : V} (h : u ≠ t) : get ((t, v) :: l) u = get l u := by
  rw [get_cons, if_neg h]

section
variable {E : Env} {S0 : Sur} {l0 : List (List V)} {s0 : Bool}
/-- All rows of a slice become data; the others stay. -/
theorem closeRowsK (hE : InA E S0 l0 s0) {t m : Nat} : ∀ (rbs : List Nat) (rows : List (List Int)) (pre : List V) (s : St), rbs.Nodup → rbs.length = rows.length → (∀ r ∈ rows, r.length = m) → (∀ y ∈ pre, cells y = [y]) → get s.env t = some (.slice 0 1 (pre ++ srefs m rbs)) → s.log = encA (arn rbs rows) →
    ∃ s', Wk E s s' ∧ get s'.env t = some (.slice 0 1 (pre ++ rows.map intsV)) ∧ s'.log = encA [] ∧ s'.stp = s.stp ∧ s'.bx = s.bx ∧ ∀ u, u ≠ t → get s'.env u = get s.env u
  | [], [], pre, s, _, _, _, _, ht, hl => ⟨s, Wk.refl s, by simpa [srefs] using ht, hl, rfl, rfl, fun _ _ => rfl⟩
  | b :: rbs, r :: rows, pre, s, hn, hlen, hm, hpre, ht, hl => by
    have hlen' : rbs.length = rows.length := by simpa using hlen
    have hrl : r.length = m := hm r (by simp)
    have h1 : ∀ y ∈ pre ++ srefs m (b :: rbs), cells y = [y] := fun y hy => by
      rcases List.mem_append.1 hy with hy | hy
      · exact hpre y hy
      · obtain ⟨_, _, rfl⟩ := List.mem_map.1 hy; rfl
    have w1 := Wk.closeIn (E := E) (S0 := S0) (l0 := l0) (s0 := s0) (A := arn (b :: rbs) (r :: rows)) hE (s := s) (t := t) (r := 0) (blk := b) (cap := m) (sz := 1) (j := pre.length) (cs := r.map I) (xs := r.map I) (ys := pre ++ srefs m (b :: rbs)) ht
      (by rw [List.length_map, hrl, List.getElem?_append_right (Nat.le_refl _), Nat.sub_self]; rfl) hl (by simp [arn]) (by omega) (by rw [List.length_map, hrl]; exact Nat.le_refl _) (fun x hx => by obtain ⟨_, _, rfl⟩ := List.mem_map.1 hx; rfl)
      (by rw [Nat.mul_one, List.take_length]; induction r with
          | nil => rfl
          | cons a r _ => rw [List.flatMap_def, List.map_map]; induction (a :: r) with
            | nil => rfl
            | cons a r ih => simp [cells] at ih ⊢; exact ih) h1
    have eset : (pre ++ srefs m (b :: rbs)).set pre.length (.slice 0 1 (r.map I)) = (pre ++ [intsV r]) ++ srefs m rbs := by
      rw [List.set_append_right _ _ (Nat.le_refl _), Nat.sub_self]
      simp [srefs, intsV]
    rw [eset, arn_drop hn hlen'] at w1
    rw [List.nodup_cons] at hn
    obtain ⟨s', w2, g1, g2, g3, g4, g5⟩ := closeRowsK hE (t := t) rbs rows (pre ++ [intsV r]) hn.2 hlen' (fun q hq => hm q (by simp [hq])) (fun y hy => by
      rcases List.mem_append.1 hy with hy | hy
      · exact hpre y hy
      · rw [List.mem_singleton.1 hy]; rfl) (s := { s.put (some t) (.slice 0 1 ((pre ++ [intsV r]) ++ srefs m rbs)) with log := encA (arn rbs rows) }) (by show Am.get ((t, _) :: s.env) t = _; simp [Am.get]) rfl
    exact ⟨s', w1.trans w2, by rw [g1]; simp, g2, by rw [g3]; rfl, by rw [g4]; rfl, fun u hu => by rw [g5 u hu]; exact get_upd1 hu⟩
end

theorem build_cases {g : Gd} {s : Ly} {ns : List Int} {lines : List Ly} {costs : List Int} : (∃ e : Int, e ≠ 0 ∧ BuildR g s ns lines costs = .tuple [.agg (nfC nf0), I e]) ∨
    (gridOk g = true ∧ layOk s = true ∧ needOk g ns = true ∧ lines.all layOk = true ∧ (lines.length ≤ 10 ∧ costs.length = lines.length ∧ (costs.any fun n => !btw n 1 1000) = false) ∧ (lacksL (layD g s) ns).length ≤ 16 ∧ BuildR g s ns lines costs = .tuple [.agg (nfC (buildN g (lacksL (layD g s) ns) lines costs)), I 0]) := by
  unfold BuildR
  split
  · split
    · split
      · split
        · split
          · split
            · exact .inr ⟨by assumption, by assumption, by assumption, by assumption, by assumption, by assumption, rfl⟩
            · exact .inl ⟨_, by decide, rfl⟩
          · exact .inl ⟨_, by decide, rfl⟩
        · exact .inl ⟨_, by decide, rfl⟩
      · exact .inl ⟨_, by decide, rfl⟩
    · exact .inl ⟨_, by decide, rfl⟩
  · exact .inl ⟨_, by decide, rfl⟩

theorem stood_plane {s : Ly} {bits : List Int} (hs : layOk s = true) : ∀ p ∈ stoodL bits s.nodes, planeB p = true := fun p hp => by
  obtain ⟨_, hno, _⟩ := layOk_spec hs
  have hsl := stood_len bits s.nodes
  obtain ⟨i, hi, rfl⟩ := List.mem_iff_getElem.1 hp
  have hi2 : i < s.nodes.length := by omega
  have := stood_get (bits := bits) hi2
  rw [List.getElem?_eq_getElem hi] at this
  rw [Option.some.inj this]
  exact node_plane (hno _ (List.getElem_mem hi2)) (chosen_in (hno _ (List.getElem_mem hi2)) _ _)

theorem stood_tr {s : Ly} {bits : List Int} (hs : layOk s = true) : ∀ t ∈ s.traces, ∃ i j : Nat, t = ((i : Int), (j : Int)) ∧ i < (stoodL bits s.nodes).length ∧ j < (stoodL bits s.nodes).length := fun t ht => by
  have hsl := stood_len bits s.nodes
  obtain ⟨k, hk, rfl⟩ := List.mem_iff_getElem.1 ht
  obtain ⟨i, j, e, a, b⟩ := trace_in hs hk
  exact ⟨i, j, e, by omega, by omega⟩

theorem c_BinFilled {g : Gd} (hl : g.cls.length ≤ 9223372036854775807) {s : Ly} (hn : s.nodes.length ≤ 9223372036854775807) (ht : s.traces.length ≤ 9223372036854775807) {ns : List Int} {lines : List Ly} {costs : List Int} (hns : ns.length ≤ 9223372036854775807) (hln : lines.length ≤ 9223372036854775807) (hls : ∀ y ∈ lines, lySane y) (hcs : costs.length ≤ 9223372036854775807) {bits : List Int} (hb : bits.length ≤ 9223372036854775807) :
    C Tryz.prog F.law07_BinFilled [.agg (gridC g), .agg (layC s), .agg [intsV ns, .slice 0 2 (lines.map eY), intsV costs], intsV bits] (.bool true) := by
  have k1 := c_Build hl (s := s) ⟨hn, ht⟩ hns hln hls hcs
  refine C_of mixed chk.law07_BinFilled (by simp) fun S ok => ?_
  refine Tr.seqR rfl (by simp) ?_
  rcases build_cases (g := g) (s := s) (ns := ns) (lines := lines) (costs := costs) with ⟨e, he, h1⟩ | ⟨hg, hs, hne, hall, h2, hK, h1⟩
  · rw [h1] at k1
    have h0 : nfSane nf0 := ⟨⟨by simp [nf0], by simp [nf0]⟩, by simp [nf0]⟩
    have ka : C Tryz.prog F.law07_alike [.agg (nfC nf0), .agg [.nils, .nils]] (.bool true) := argsB (c_alike h0) rfl
    refine Tr.seqC rfl (by simp) (Steps.call rfl rfl k1 (Steps.fin rfl (by simp) ?_))
    refine Tr.seq (Tr.seqR rfl (by simp) (Tr.condT (congrArg (fun b => some (V.bool b)) (show (e != 0) = true by simpa using he)) ?_))
    exact Tr.seqC rfl (by simp) (Steps.call rfl rfl ka (Steps.run rfl (by simp) (Steps.gcall rfl rfl rfl rfl (by simp) (fun _ => c_works) (Steps.fin rfl (by simp) (Tr.retX rfl rfl rfl rfl trivial)))))
  rw [h1] at k1
  have hko := nf_ok hne h2 hK
  have hpl : (buildN g (lacksL (layD g s) ns) lines costs).passes.length = lines.length := by simp [buildN, passesK, h2.2.1]
  have hfil := fun o ho hcv b c hb hc => filled (g := g) (bits := bits) (s := s) (ns := ns) (lines := lines) (costs := costs) hs hall hne h2.2.1 hko (o := o) ho hcv (b := b) (c := c) hb hc
  obtain ⟨x, hx⟩ : ∃ x, buildN g (lacksL (layD g s) ns) lines costs = x := ⟨_, rfl⟩
  rw [hx] at k1 hko hpl hfil
  have hxs := nfOk_spec hko
  have kb := c_Best (x := x) fun p hp => by have := (hxs.2.2 p hp).2.1; omega
  unfold BestR at kb
  rw [if_pos hko] at kb
  refine Tr.seqC rfl (by simp) (Steps.call rfl rfl k1 (Steps.fin rfl (by simp) ?_))
  refine Tr.seq (Tr.seqR rfl (by simp) (Tr.condF rfl (Tr.skip ?_)))
  by_cases hbs : (bestN x 0).2 = true
  rotate_left
  · rw [if_neg hbs] at kb
    refine Tr.seqC rfl (by simp) (Steps.call rfl rfl kb (Steps.fin rfl (by simp) ?_))
    refine Tr.seq (Tr.seqR rfl (by simp) (Tr.condT rfl ?_))
    exact Tr.seqC rfl (by simp) (Steps.gcall rfl rfl rfl rfl (by simp) (fun _ => c_works) (Steps.fin rfl (by simp) (Tr.retX rfl rfl rfl rfl trivial)))
  rw [if_pos hbs] at kb
  obtain ⟨hblt, hbcv⟩ := best_some hbs
  obtain ⟨o, ho⟩ : ∃ o, (bestN x 0).1 = o := ⟨_, rfl⟩
  rw [ho] at kb hblt hbcv
  have hfil := fun b c hb hc => hfil o hblt hbcv b c hb hc
  have hNlt := choiceN_lt hblt
  have hNlen := choiceN_len o
  rw [hpl] at hNlt
  have kb2 : C Tryz.prog F.bin_Best [.agg (nfC x)] (.tuple [intsV (castL (choiceN o)), I (costB x o), I 0]) := kb
  obtain ⟨N, hN⟩ : ∃ N, choiceN o = N := ⟨_, rfl⟩
  rw [hN] at kb2 hNlt hNlen hfil
  clear kb hbcv hblt
  obtain ⟨⟨h16, h64⟩, hno, _⟩ := layOk_spec hs
  have ks := c_stood (l := s.nodes) h16 hno hb
  have hsl := stood_len bits s.nodes
  have kc := cx_counted hg h64 (by omega) (stood_plane (bits := bits) hs) (stood_tr hs)
  have nb := (nBins_eq hg).2
  have hnl := (needOk_spec hne).1
  have hcl4 : g.cls.length ≤ 4 := by obtain ⟨_, _, _, _, h, _⟩ := gridOk_spec hg; exact h.2
  refine Tr.seqC rfl (by simp) (Steps.call rfl rfl kb2 (Steps.fin rfl (by simp) ?_))
  refine Tr.seq (Tr.seqR rfl (by simp) (Tr.condF rfl (Tr.skip ?_)))
  refine Tr.seqC rfl (by simp) (Steps.call rfl rfl ks (Steps.fin rfl (by simp) ?_))
  refine Tr.weak (s' := { env := [(3, intsV bits), (4, .ptr 4 0), (5, .ptr 5 0), (6, .ptr 6 0), (11, intsV (castL N)), (13, sB (stoodL bits s.nodes)), (14, .bool true)], bx := [(4, ⟨gridC g, false⟩), (5, ⟨layC s, false⟩), (6, ⟨[intsV ns, .slice 0 2 (lines.map eY), intsV costs], false⟩)], rw := [], log := [], stp := false })
    (Wk.le (.cons rfl (.refl _) (.cons rfl (.refl _) (.cons rfl (.refl _) (.cons rfl (.refl _) (.cons rfl (.refl _) (.cons rfl (.refl _) (.cons rfl (.refl _) .nil))))))) (.cons rfl (LLe.refl _) (.cons rfl (LLe.refl _) (.cons rfl (LLe.refl _) .nil))) .nil rfl rfl) ?_
  refine Tr.arena rfl rfl ?_
  have hA := InA.main (E := env0 Tryz.prog mixed 190 S ok) [] false
  refine Tr.seq (Tr.reg (Steps.runN 3 rfl (by simp) (Steps.callX (F := []) hA rfl rfl rfl kc (.inl (by simp)) fun r B hO => ?_)))
  obtain ⟨rbs, ⟨hnd, hlen⟩, rfl, rfl⟩ := hO
  refine Steps.fin rfl (by simp) ?_
  refine Tr.seq (Tr.seqR rfl (by simp) (Tr.condF rfl (Tr.skip ?_)))
  refine Tr.seq (Tr.seqR rfl (by simp) (Tr.block ?_))
  refine Tr.loop (fun (k : Nat) st => k ≤ N.length ∧ st = { env := [(3, intsV bits), (4, .ptr 4 0), (6, .ptr 6 0), (11, intsV (castL N)), (15, .slice 0 1 (rbs.map fun b => V.sref b 0 g.cls.length g.cls.length)), (17, I (k : Nat))], bx := [(4, ⟨gridC g, false⟩), (6, ⟨[intsV ns, .slice 0 2 (lines.map eY), intsV costs], false⟩)], rw := [], log := encA (arn rbs (matM g (cntF (fillP g bits s lines (N.take k))))), stp := false }) (fun k => N.length - k) 0
    (Wk.leL (.cons rfl (.refl _) (.cons rfl (.refl _) (.cons rfl (.refl _) (.cons rfl (.refl _) (.cons rfl (.refl _) (.cons rfl (.refl _) .nil)))))) (.cons rfl (LLe.refl _) (.cons rfl (LLe.refl _) .nil)) .nil rfl rfl ?_) ⟨by omega, rfl⟩ ?_
  · show encA ([] ++ arn rbs (countedL g (stoodL bits s.nodes) s.traces)) = _
    rw [counted_hit, countL_mat]
    unfold fillP
    simp
  rintro k st ⟨hk, rfl⟩
  refine Tr.seq (Tr.seqR rfl (by simp) (Tr.cond rfl rfl (fun h1 => Tr.skip ?_) (fun h1 => Tr.exit ?_)))
  rotate_left
  · have h1 : k = N.length := by simp [castL] at h1; omega
    subst h1
    rw [List.take_length]
    obtain ⟨PF, hPF⟩ : ∃ P, fillP g bits s lines N = P := ⟨_, rfl⟩
    rw [hPF] at hfil ⊢
    rw [← countL_mat]
    have lF := countL_len g PF
    obtain ⟨s', w1, g1, g2, g3, g4, g5⟩ := closeRowsK hA (t := 15) (m := g.cls.length) rbs (countL g PF) [] { env := [(6, .ptr 6 0), (15, .slice 0 1 (srefs g.cls.length rbs))], bx := [(6, ⟨[intsV ns, .slice 0 2 (lines.map eY), intsV costs], false⟩)], rw := [], log := encA (arn rbs (countL g PF)), stp := false } hnd (by rw [lF, hlen])
      (fun r hr => by obtain ⟨b, _, rfl⟩ := List.mem_map.1 hr; exact cntRow_len _ _ _) (by simp) rfl rfl
    have w2 := Wk.leL (E := (env0 Tryz.prog mixed 190 S ok).withA [] false) (s := s') (env := [(6, .ptr 6 0), (15, foldV (countL g PF))]) (bx := [(6, ⟨[intsV ns, .slice 0 2 (lines.map eY), intsV costs], false⟩)]) (rw := []) (.cons (g5 6 (by decide)) (.refl _) (.cons g1 (.of_eq rfl) .nil)) (.cons (congrArg (fun b => get b 6) g4) (LLe.refl _) .nil) .nil rfl rfl g2
    rw [show s'.stp = false from g3] at w2
    refine Tr.weak (s' := { env := [(6, .ptr 6 0), (15, .slice 0 1 (srefs g.cls.length rbs))], bx := [(6, ⟨[intsV ns, .slice 0 2 (lines.map eY), intsV costs], false⟩)], rw := [], log := encA (arn rbs (countL g PF)), stp := false }) (Wk.le (.cons rfl (.refl _) (.cons rfl (.refl _) .nil)) (.cons rfl (LLe.refl _) .nil) .nil rfl rfl) ?_
    refine Tr.weak (w1.trans w2) ?_
    refine Tr.seq (Tr.seqR rfl (by simp) (Tr.block ?_))
    refine Tr.loop (fun (n : Nat) st => n ≤ nBins g ∧ st = { env := [(6, .ptr 6 0), (15, foldV (countL g PF)), (26, I (n : Nat))], bx := [(6, ⟨[intsV ns, .slice 0 2 (lines.map eY), intsV costs], false⟩)], rw := [], log := encA [], stp := false }) (fun n => nBins g - n) 0
      (Wk.le (.cons rfl (.refl _) (.cons rfl (.refl _) (.cons rfl (.refl _) .nil))) (.cons rfl (LLe.refl _) .nil) .nil rfl rfl) ⟨by omega, rfl⟩ ?_
    rintro n st ⟨hn1, rfl⟩
    refine Tr.seq (Tr.seqR rfl (by simp) (Tr.cond rfl rfl (fun h1 => Tr.skip ?_) (fun h1 => Tr.exit ?_)))
    rotate_left
    · exact Tr.seqC rfl (by simp) (Steps.call rfl rfl c_works (Steps.fin rfl (by simp) (Tr.retX rfl rfl rfl rfl trivial)))
    have h1 : n < nBins g := by
      have h1 : decide ((n : Int) < (((countL g PF).map intsV).length : Int)) = true := h1
      rw [List.length_map, lF] at h1
      simpa using h1
    have nF : n < (countL g PF).length := by omega
    have rF : (countL g PF)[n] = cntRow g.cls.length PF n := by have := countL_get (P := PF) h1; rw [List.getElem?_eq_getElem nF] at this; exact Option.some.inj this
    have mF := cntRow_len g.cls.length PF n
    refine Tr.seq (Tr.block ?_)
    refine Tr.seqR rfl (by simp) (Tr.block ?_)
    refine Tr.loop (fun (c : Nat) st => c ≤ g.cls.length ∧ st = { env := [(6, .ptr 6 0), (15, foldV (countL g PF)), (26, I (n : Nat)), (27, I (c : Nat))], bx := [(6, ⟨[intsV ns, .slice 0 2 (lines.map eY), intsV costs], false⟩)], rw := [], log := encA [], stp := false }) (fun c => g.cls.length - c) 0
      (Wk.le (.cons rfl (.refl _) (.cons rfl (.refl _) (.cons rfl (.refl _) (.cons rfl (.refl _) .nil)))) (.cons rfl (LLe.refl _) .nil) .nil rfl rfl) ⟨by omega, rfl⟩ ?_
    rintro c st ⟨hc1, rfl⟩
    refine Tr.seq (Tr.seq (Tr.reg (Steps.runN 4 rfl (by simp; omega) ?_)))
    rw [getD_map nF, rF]
    refine Steps.fin rfl (by simp) (Tr.cond rfl rfl (fun h2 => Tr.skip ?_) (fun h2 => Tr.exit ?_))
    rotate_left
    · refine Tr.regR rfl (by simp) ?_
      exact ⟨n + 1, _, Wk.le (.cons rfl (.refl _) (.cons rfl (.refl _) (.cons rfl (VLe.i (w64 (by omega) (by omega))) .nil))) (.cons rfl (LLe.refl _) .nil) .nil rfl rfl, ⟨h1, rfl⟩, by omega⟩
    have h2 : c < g.cls.length := by
      have h2 : (bif decide ((c : Int) < (((cntRow g.cls.length PF n).map I).length : Int)) then decide ((c : Int) < ((ns.map I).length : Int)) else false) = true := h2
      rw [List.length_map, mF, List.length_map] at h2
      by_cases h3 : (c : Int) < (g.cls.length : Int)
      · omega
      · rw [decide_eq_false h3] at h2; cases h2
    have hcn : c < ns.length := by omega
    have cF : c < (cntRow g.cls.length PF n).length := by omega
    have vF : (cntRow g.cls.length PF n)[c] = cntF PF n c := by have := cntRow_get (P := PF) (b := n) h2; rw [List.getElem?_eq_getElem cF] at this; exact Option.some.inj this
    have hge := hfil n c h1 hcn
    refine Tr.seq (Tr.block (Tr.seq (Tr.drawK (TraceK.runN 3 rfl (by simp; omega) ?_))))
    rw [getD_map nF, rF]
    refine TraceK.runN 3 rfl (by simp; omega) ?_
    rw [getD_map cF, vF]
    refine TraceK.runN 5 rfl (by simp; omega) ?_
    rw [getD_map hcn]
    refine TraceK.run rfl (by simp) (.done ⟨by kernel_rfl, by kernel_rfl, ?_⟩)
    refine Tr.condF (congrArg (fun b => some (V.bool b)) (show decide (cntF PF n c < ns[c]) = false from decide_eq_false (by omega))) (Tr.skip (Tr.regR rfl (by simp) ?_))
    exact ⟨c + 1, _, Wk.le (.cons rfl (.refl _) (.cons rfl (.refl _) (.cons rfl (.refl _) (.cons rfl (VLe.i (w64 (by omega) (by omega))) .nil)))) (.cons rfl (LLe.refl _) .nil) .nil rfl rfl, ⟨h2, rfl⟩, by omega⟩
  have hkN : k < N.length := by simpa [castL] using h1
  have h1 : k < (castL N).length := by simpa [castL] using hkN
  have hNk := hNlt _ (List.getElem_mem hkN)
  have hcast : (castL N)[k] = ((N[k] : Nat) : Int) := by simp [castL]
  have hsucc := fillP_succ (g := g) (bits := bits) (s := s) (lines := lines) hkN
  have hflen := fillP_len (g := g) (bits := bits) hs hall (N.take k)
  obtain ⟨i, hi⟩ : ∃ i, N[k] = i := ⟨_, rfl⟩
  rw [hi] at hNk hcast hsucc
  have egd : lines.getD i s = lines[i] := by simp [hNk]
  rw [egd] at hsucc
  have hyk : layOk lines[i] = true := List.all_eq_true.1 hall _ (List.getElem_mem hNk)
  obtain ⟨⟨y16, y64⟩, yno, _⟩ := layOk_spec hyk
  have kst := c_stood (l := lines[i].nodes) y16 yno hb
  have ysl := stood_len bits lines[i].nodes
  have kct := c_counted hg y64 (by omega) (stood_plane (bits := bits) hyk) (stood_tr hyk)
  rw [counted_hit] at kct
  have hQl := hitP_len g bits hyk
  obtain ⟨Q, hQ⟩ : ∃ Q, hitP g bits lines[i] = Q := ⟨_, rfl⟩
  rw [hQ] at kct hsucc hQl
  rw [List.length_take] at hflen
  obtain ⟨P, hP⟩ : ∃ P, fillP g bits s lines (N.take k) = P := ⟨_, rfl⟩
  rw [hP] at hsucc hflen ⊢
  have hPl : P.length ≤ 704 := by omega
  have lQ := countL_len g Q
  have kbt : C Tryz.prog F.ref00_Between [I (i : Nat), I 0, I (IntKind.wrap .i64 (((lines.map eY).length : Int) - 1))] (.bool true) := by
    have : btw (i : Int) 0 (IntKind.wrap .i64 (((lines.map eY).length : Int) - 1)) = true := by rw [List.length_map, w64 (by omega) (by omega), btw_iff]; omega
    exact this ▸ c_between _ _ _
  refine Tr.seq (Tr.block ?_)
  refine Tr.seq (Tr.seq (Tr.drawK (TraceK.runN 3 rfl (by simp; omega) ?_)))
  rw [getD_map h1, hcast]
  refine TraceK.run rfl (by simp) (TraceK.call rfl rfl kbt (TraceK.run rfl (by simp) (.done ⟨by kernel_rfl, by kernel_rfl, ?_⟩)))
  refine Tr.condF rfl (Tr.skip ?_)
  refine Tr.seq (Tr.drawK (TraceK.runN 5 rfl (by simp; omega) ?_))
  rw [getD_map h1, hcast]
  refine TraceK.runN 2 rfl (by simp; omega) ?_
  rw [getD_map hNk]
  refine TraceK.run rfl (by simp) (.done ⟨by kernel_rfl, by kernel_rfl, ?_⟩)
  refine Tr.seqC rfl (by simp) (Steps.call rfl rfl kst (Steps.fin rfl (by simp) ?_))
  refine Tr.seqC rfl (by simp) (Steps.call rfl rfl kct (Steps.fin rfl (by simp) ?_))
  refine Tr.seq (Tr.seqR rfl (by simp) (Tr.condF rfl (Tr.skip ?_)))
  refine Tr.seqR rfl (by simp) (Tr.block ?_)
  refine Tr.loop (fun (n : Nat) st => n ≤ nBins g ∧ st = { env := [(3, intsV bits), (4, .ptr 4 0), (6, .ptr 6 0), (11, intsV (castL N)), (15, .slice 0 1 (rbs.map fun b => V.sref b 0 g.cls.length g.cls.length)), (17, I (k : Nat)), (21, foldV (countL g Q)), (23, I (n : Nat))], bx := [(4, ⟨gridC g, false⟩), (6, ⟨[intsV ns, .slice 0 2 (lines.map eY), intsV costs], false⟩)], rw := [], log := encA (arn rbs (matM g (mixF (cntF P) (cntF (P ++ Q)) n 0))), stp := false }) (fun n => nBins g - n) 0
    (Wk.leL (.cons rfl (.refl _) (.cons rfl (.refl _) (.cons rfl (.refl _) (.cons rfl (.refl _) (.cons rfl (.refl _) (.cons rfl (.refl _) (.cons rfl (.refl _) (.cons rfl (.refl _) .nil)))))))) (.cons rfl (LLe.refl _) (.cons rfl (LLe.refl _) .nil)) .nil rfl rfl (congrArg (fun M => encA (arn rbs M)) (mix_zero g (cntF P) (cntF (P ++ Q))).symm)) ⟨by omega, rfl⟩ ?_
  rintro n st ⟨hn1, rfl⟩
  refine Tr.seq (Tr.seqR rfl (by simp) (Tr.cond rfl rfl (fun h3 => Tr.skip ?_) (fun h3 => Tr.exit ?_)))
  rotate_left
  · have h3 : n = nBins g := by simp at h3; omega
    subst h3
    refine Tr.regR rfl (by simp) ?_
    exact ⟨k + 1, _, Wk.leL (.cons rfl (.refl _) (.cons rfl (.refl _) (.cons rfl (.refl _) (.cons rfl (.refl _) (.cons rfl (.refl _) (.cons rfl (VLe.i (w64 (by omega) (by omega))) .nil)))))) (.cons rfl (LLe.refl _) (.cons rfl (LLe.refl _) .nil)) .nil rfl rfl (congrArg (fun M => encA (arn rbs M)) (show matM g (mixF (cntF P) (cntF (P ++ Q)) (nBins g) 0) = matM g (cntF (fillP g bits s lines (N.take (k + 1)))) by rw [mix_all, hsucc])), ⟨hkN, rfl⟩, by omega⟩
  have h3 : n < nBins g := by simp at h3; omega
  have hnl2 : n < rbs.length := by omega
  have hrb : rbs[n]? = some rbs[n] := List.getElem?_eq_getElem hnl2
  have nQ : n < (countL g Q).length := by omega
  have rQ : (countL g Q)[n] = cntRow g.cls.length Q n := by have := countL_get (P := Q) h3; rw [List.getElem?_eq_getElem nQ] at this; exact Option.some.inj this
  have mQ := cntRow_len g.cls.length Q n
  refine Tr.seq (Tr.block ?_)
  refine Tr.seqN 3 rfl (by simp; omega) ?_
  rw [getD_map hnl2]
  refine Steps.fin rfl (by simp) ?_
  refine Tr.seqR rfl (by simp) (Tr.block ?_)
  refine Tr.loop (fun (c : Nat) st => c ≤ g.cls.length ∧ st = { env := [(3, intsV bits), (4, .ptr 4 0), (6, .ptr 6 0), (11, intsV (castL N)), (15, .slice 0 1 (rbs.map fun b => V.sref b 0 g.cls.length g.cls.length)), (17, I (k : Nat)), (21, foldV (countL g Q)), (23, I (n : Nat)), (24, .sref rbs[n] 0 g.cls.length g.cls.length), (25, I (c : Nat))], bx := [(4, ⟨gridC g, false⟩), (6, ⟨[intsV ns, .slice 0 2 (lines.map eY), intsV costs], false⟩)], rw := [], log := encA (arn rbs (matM g (mixF (cntF P) (cntF (P ++ Q)) n c))), stp := false }) (fun c => g.cls.length - c) 0
    (Wk.le (.cons rfl (.refl _) (.cons rfl (.refl _) (.cons rfl (.refl _) (.cons rfl (.refl _) (.cons rfl (.refl _) (.cons rfl (.refl _) (.cons rfl (.refl _) (.cons rfl (.refl _) (.cons rfl (.refl _) (.cons rfl (.refl _) .nil)))))))))) (.cons rfl (LLe.refl _) (.cons rfl (LLe.refl _) .nil)) .nil rfl rfl) ⟨by omega, rfl⟩ ?_
  rintro c st ⟨hc1, rfl⟩
  refine Tr.seq (Tr.seq (Tr.reg (Steps.runN 2 rfl (by simp) (Steps.slen rfl (Steps.fin rfl (by simp) ?_)))))
  refine Tr.cond rfl rfl (fun h4 => Tr.skip ?_) (fun h4 => Tr.exit ?_)
  rotate_left
  · have h4 : c = g.cls.length := by simp at h4; omega
    subst h4
    refine Tr.regR rfl (by simp) ?_
    exact ⟨n + 1, _, Wk.leL (.cons rfl (.refl _) (.cons rfl (.refl _) (.cons rfl (.refl _) (.cons rfl (.refl _) (.cons rfl (.refl _) (.cons rfl (.refl _) (.cons rfl (.refl _) (.cons rfl (VLe.i (w64 (by omega) (by omega))) .nil)))))))) (.cons rfl (LLe.refl _) (.cons rfl (LLe.refl _) .nil)) .nil rfl rfl (congrArg (fun M => encA (arn rbs M)) (mix_row (g := g) (F := cntF P) (G := cntF (P ++ Q)) (n := n))), ⟨h3, rfl⟩, by omega⟩
  have h4 : c < g.cls.length := by simpa using h4
  have cQ : c < (cntRow g.cls.length Q n).length := by omega
  have vQ : (cntRow g.cls.length Q n)[c] = cntF Q n c := by have := cntRow_get (P := Q) (b := n) h4; rw [List.getElem?_eq_getElem cQ] at this; exact Option.some.inj this
  have hrow := matM_get (F := mixF (cntF P) (cntF (P ++ Q)) n c) h3
  have hmA := arn_mem (rbs := rbs) hrb hrow
  have hstep := mix_step (F := cntF P) (G := cntF (P ++ Q)) h3 h4
  have hmg : mixF (cntF P) (cntF (P ++ Q)) n c n c = cntF P n c := mix_get
  have hlm := matM_len g (mixF (cntF P) (cntF (P ++ Q)) n c)
  have b1 := cntF_bd P n c
  have b2 := cntF_bd Q n c
  have b3 := cntF_app P Q n c
  obtain ⟨row, hrw⟩ : ∃ r, (List.range g.cls.length).map (mixF (cntF P) (cntF (P ++ Q)) n c n) = r := ⟨_, rfl⟩
  have hrl : row.length = g.cls.length := by rw [← hrw]; simp
  have hrc : c < row.length := by omega
  have hrv : row[c] = cntF P n c := by
    have : row[c]? = some (cntF P n c) := by rw [← hrw]; simp [h4, hmg]
    rw [List.getElem?_eq_getElem hrc] at this; exact Option.some.inj this
  rw [hrw] at hmA hstep
  obtain ⟨M, hM⟩ : ∃ M, matM g (mixF (cntF P) (cntF (P ++ Q)) n c) = M := ⟨_, rfl⟩
  rw [hM] at hmA hstep hlm ⊢
  have hval : mkv false 1 ((row.map I).drop (0 + c * 1)) = I (cntF P n c) := by
    rw [Nat.zero_add, Nat.mul_one, List.drop_eq_getElem_cons (by simpa using hrc), List.getElem_map, hrv]; rfl
  refine Tr.seq (Tr.block (Tr.drawP rfl rfl (A := arn rbs M) rfl (TraceK.runN 2 rfl (by simp) ?_)))
  refine TraceK.sidx (blk := rbs[n]) (j := c) rfl rfl h4 ?_
  refine TraceK.aload hA rfl rfl rfl hmA (by simp; omega) ?_
  rw [hval]
  refine TraceK.runN 3 rfl (by simp; omega) ?_
  rw [getD_map nQ, rQ]
  refine TraceK.runN 3 rfl (by simp; omega) ?_
  rw [getD_map cQ, vQ]
  refine TraceK.runN 2 rfl (by simp) (.done ⟨by kernel_rfl, by kernel_rfl, ?_⟩)
  refine Steps.sidx (blk := rbs[n]) (off := 0) (j := c) rfl rfl h4 ?_
  refine Steps.astore hA rfl rfl hmA (by simp; omega) rfl rfl (Steps.fin rfl (by simp) ?_)
  refine Tr.regR rfl (by simp) ?_
  refine ⟨c + 1, _, Wk.leL (.cons rfl (.refl _) (.cons rfl (.refl _) (.cons rfl (.refl _) (.cons rfl (.refl _) (.cons rfl (.refl _) (.cons rfl (.refl _) (.cons rfl (.refl _) (.cons rfl (.refl _) (.cons rfl (.refl _) (.cons rfl (VLe.i (w64 (by omega) (by omega))) .nil)))))))))) (.cons rfl (LLe.refl _) (.cons rfl (LLe.refl _) .nil)) .nil rfl rfl ?_, ⟨h4, rfl⟩, by omega⟩
  show encA (setA (arn rbs M) rbs[n] (.cells ((row.map I).set (0 + c * 1) (I (IntKind.wrap .i64 (cntF P n c + cntF Q n c)))))) = _
  rw [w64 (by omega) (by omega), ← b3, Nat.zero_add, Nat.mul_one, ← List.map_set, arn_set _ hnd (by omega) hrb, hstep]

end Go.Proofs.YtdejdblopmfjfaaGreatDoor


/-! What further arguments of the statements of the bin chapter read as: a pair and an index. -/
set_option linter.unusedVariables false
set_option linter.unusedSimpArgs false
set_option maxRecDepth 20000
namespace Go.Proofs.YtdejdblopmfjfaaGreatDoor
open Go.Am Go.ChangeShapes Go.WideShapes Go.ChangeAt Go.RowKit

section
variable {H : Type} {enc : TypeId × Value → H} {W : World}

end

theorem repL4 {w : World} {φ : Nat → Nat} {a b c d : V} {x y z u : Value} (h : RepD w φ a x) (k : RepD w φ b y) (m : RepD w φ c z) (n : RepD w φ d u) : RepL w φ [a, b, c, d] #[x, y, z, u] := ⟨rfl, fun i v y h1 h2 => by
  match i with
  | 0 => cases h1; cases h2; exact h
  | 1 => cases h1; cases h2; exact k
  | 2 => cases h1; cases h2; exact m
  | 3 => cases h1; cases h2; exact n
  | i + 4 => simp at h1⟩

end Go.Proofs.YtdejdblopmfjfaaGreatDoor


/-! What further arguments of the statements of the bin chapter read as: needs, lines and costs. -/
set_option linter.unusedVariables false
set_option linter.unusedSimpArgs false
set_option maxRecDepth 20000
namespace Go.Proofs.YtdejdblopmfjfaaGreatDoor
open Go.Am Go.ChangeShapes Go.WideShapes Go.ChangeAt Go.RowKit

section
variable {H : Type} {enc : TypeId × Value → H} {W : World}

theorem rd_layouts : Reads enc W 71 (fun vs => ∃ l : List Ly, l.length ≤ 9223372036854775807 ∧ (∀ y ∈ l, lySane y) ∧ vs = [.slice 0 2 (l.map eY)]) := by
  refine (reads_slice (sz := 2) true Tryz.underlying71 (by kernel_rfl) (by decide) (by decide) rd_layout).mono ?_
  rintro vs ⟨xs, h1, h2, rfl⟩
  obtain ⟨l, rfl, hl⟩ := exists_list (R := fun y : Ly => lySane y) (g := fun y : Ly => layC y) fun x hx => by obtain ⟨b, hb, hb2, rfl⟩ := h1 x hx; exact ⟨b, ⟨hb, hb2⟩, rfl⟩
  refine ⟨l, by simpa using h2, hl, ?_⟩
  simp [wrapV, Function.comp_def, eY]

theorem rd_plan : Reads enc W 73 (fun vs => ∃ (ns : List Int) (ls : List Ly) (cs : List Int), ns.length ≤ 9223372036854775807 ∧ ls.length ≤ 9223372036854775807 ∧ (∀ y ∈ ls, lySane y) ∧ cs.length ≤ 9223372036854775807 ∧ vs = [intsV ns, .slice 0 2 (ls.map eY), intsV cs]) := by
  refine (reads_struct Tryz.underlying73 (by kernel_rfl) (readsL_cons rd_ints (readsL_cons rd_layouts (readsL_cons rd_ints readsL_nil)))).mono ?_
  rintro vs ⟨a, b, ⟨ns, h1, rfl⟩, ⟨c, d, ⟨ls, h2, h3, rfl⟩, ⟨e, f, ⟨cs, h4, rfl⟩, rfl, rfl⟩, rfl⟩, rfl⟩
  exact ⟨ns, ls, cs, h1, h2, h3, h4, rfl⟩

end

end Go.Proofs.YtdejdblopmfjfaaGreatDoor


/-! Facts on the rows: what the load's head says. -/
set_option linter.unusedVariables false
set_option linter.unusedSimpArgs false
set_option maxRecDepth 100000
namespace Go.Proofs.YtdejdblopmfjfaaGreatDoor
open Go.Am Go.ChangeShapes Go.WideShapes Go.ChangeAt Go.RowKit

noncomputable def headL : List Char := ([104, 97, 114, 110, 101, 115, 115, 32, 101, 99, 49, 57, 102, 53, 55, 48, 55, 98, 98, 50, 55, 51, 57, 53, 52, 99, 99, 99, 101, 55, 55, 54, 54, 53, 52, 53, 49, 53, 54, 52, 101, 48, 56, 53, 48, 56, 56, 56, 50, 48, 97, 99, 50, 55, 97, 98, 53, 51, 100, 101, 101, 99, 100, 99, 101, 48, 102, 54, 54, 49, 102, 99, 32, 99, 117, 116, 32, 97, 116, 32, 112, 97, 114, 97, 118, 97, 110, 101, 47, 112, 97, 114, 97, 118, 97, 110, 101, 108, 97, 119, 48, 55, 46, 66, 105, 110, 67, 101, 108, 108, 115, 32, 112, 97, 114, 97, 118, 97, 110, 101, 47, 112, 97, 114, 97, 118, 97, 110, 101, 108, 97, 119, 48, 55, 46, 66, 105, 110, 70, 111, 108, 100, 115, 32, 112, 97, 114, 97, 118, 97, 110, 101, 47, 112, 97, 114, 97, 118, 97, 110, 101, 108, 97, 119, 48, 55, 46, 66, 105, 110, 71, 97, 105, 110, 115, 32, 112, 97, 114, 97, 118, 97, 110, 101, 47, 112, 97, 114, 97, 118, 97, 110, 101, 108, 97, 119, 48, 55, 46, 66, 105, 110, 80, 114, 111, 111, 102, 115, 32, 112, 97, 114, 97, 118, 97, 110, 101, 47, 112, 97, 114, 97, 118, 97, 110, 101, 108, 97, 119, 48, 55, 46, 66, 105, 110, 66, 117, 105, 108, 100, 115, 32, 112, 97, 114, 97, 118, 97, 110, 101, 47, 112, 97, 114, 97, 118, 97, 110, 101, 108, 97, 119, 48, 55, 46, 66, 105, 110, 66, 101, 116, 116, 101, 114, 32, 112, 97, 114, 97, 118, 97, 110, 101, 47, 112, 97, 114, 97, 118, 97, 110, 101, 108, 97, 119, 48, 55, 46, 66, 105, 110, 70, 105, 108, 108, 101, 100] : List Nat).map Char.ofNat
theorem head_chars : Tryz.prog.initOrder = String.ofList (([104, 97, 114, 110, 101, 115, 115, 32, 101, 99, 49, 57, 102, 53, 55, 48, 55, 98, 98, 50, 55, 51, 57, 53, 52, 99, 99, 99, 101, 55, 55, 54, 54, 53, 52, 53, 49, 53, 54, 52, 101, 48, 56, 53, 48, 56, 56, 56, 50, 48, 97, 99, 50, 55, 97, 98, 53, 51, 100, 101, 101, 99, 100, 99, 101, 48, 102, 54, 54, 49, 102, 99, 32, 99, 117, 116, 32, 97, 116, 32, 112, 97, 114, 97, 118, 97, 110, 101, 47, 112, 97, 114, 97, 118, 97, 110, 101, 108, 97, 119, 48, 55, 46, 66, 105, 110, 67, 101, 108, 108, 115, 32, 112, 97, 114, 97, 118, 97, 110, 101, 47, 112, 97, 114, 97, 118, 97, 110, 101, 108, 97, 119, 48, 55, 46, 66, 105, 110, 70, 111, 108, 100, 115, 32, 112, 97, 114, 97, 118, 97, 110, 101, 47, 112, 97, 114, 97, 118, 97, 110, 101, 108, 97, 119, 48, 55, 46, 66, 105, 110, 71, 97, 105, 110, 115, 32, 112, 97, 114, 97, 118, 97, 110, 101, 47, 112, 97, 114, 97, 118, 97, 110, 101, 108, 97, 119, 48, 55, 46, 66, 105, 110, 80, 114, 111, 111, 102, 115, 32, 112, 97, 114, 97, 118, 97, 110, 101, 47, 112, 97, 114, 97, 118, 97, 110, 101, 108, 97, 119, 48, 55, 46, 66, 105, 110, 66, 117, 105, 108, 100, 115, 32, 112, 97, 114, 97, 118, 97, 110, 101, 47, 112, 97, 114, 97, 118, 97, 110, 101, 108, 97, 119, 48, 55, 46, 66, 105, 110, 66, 101, 116, 116, 101, 114, 32, 112, 97, 114, 97, 118, 97, 110, 101, 47, 112, 97, 114, 97, 118, 97, 110, 101, 108, 97, 119, 48, 55, 46, 66, 105, 110, 70, 105, 108, 108, 101, 100] : List Nat).map Char.ofNat) := by
  unfold Tryz.prog
  dsimp only
  show (_ : String) = _
  kernel_rfl
theorem head_list : Tryz.prog.initOrder.toList = headL := (congrArg String.toList head_chars).trans String.toList_ofList

section
variable (P : Program) (h : P.initOrder.toList = headL)
include h
theorem make_of : P.make = some .cut := by
  unfold Program.make
  rw [h]
  kernel_rfl
theorem headLifts_of : P.headLifts = [] := by
  unfold Program.headLifts
  rw [h]
  kernel_rfl
theorem lifts_of : P.liftsFinal = false := by
  unfold Program.liftsFinal
  rw [h, headLifts_of P h]
  kernel_rfl
theorem may_of (h1 : P.laysLater = false) (h2 : P.bearsReflect = false) (h3 : P.doorFits [] = true) : P.mayEnter = true := by
  unfold Program.mayEnter
  rw [h, h1, h2]
  have e : behindMainWord (wordsSigns headL) = "cut".toList :: (behindMainWord (wordsSigns headL)).tail := by kernel_rfl
  have e2 : stripLifts liftWords ("cut".toList :: (behindMainWord (wordsSigns headL)).tail) = ([], "cut".toList :: (behindMainWord (wordsSigns headL)).tail) := by kernel_rfl
  rw [e]
  dsimp only
  rw [e2, h3]
  first | rfl | (show (_ : Bool) = true; kernel_rfl)
end

theorem may : Tryz.prog.mayEnter = true := may_of _ head_list (by kernel_rfl) (by kernel_rfl) (by kernel_rfl)
theorem lifts : Tryz.prog.liftsFinal = false := lifts_of _ head_list
theorem made : Tryz.prog.make = some .cut := make_of _ head_list
theorem heard : Tryz.prog.stopsHeard = true := by kernel_rfl
theorem plain : Tryz.prog.plainKeys = false := by kernel_rfl
theorem rowed : mapsRowed Tryz.prog = true := by kernel_rfl

end Go.Proofs.YtdejdblopmfjfaaGreatDoor

