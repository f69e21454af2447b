/-
  Parts of the proof, 5: the abstract machine, the compiled code, contracts of the functions, plain laws.
-/
import Derived.Test.YtdejdblopmfjfaaGreatDoorR4
import Derived.Test.YtdejdblopmfjfaaGreatDoorRows
import Derived.WalkKit
import Derived.ProofKit
import Derived.OpenShut
import Derived.ShutString
import Derived.ChangeOld
import Derived.Below
import Derived.Test.YtdejdblopmfjfaaGreatDoorTie
import Derived.LaidMore
import Derived.LaidOnce
import Derived.Lay
import Derived.ChangeSame


/-! Contracts: counting, plain part; rows of an arena. -/
set_option linter.unusedVariables false
set_option linter.unusedSimpArgs false
set_option maxRecDepth 40000
set_option maxHeartbeats 4000000
namespace Go.Proofs.YtdejdblopmfjfaaGreatDoor
open Go.Am

/-! ### Counts of cells -/
def cntRow (m : Nat) (P : List (Int × Int)) (b : Nat) : List Int := (List.range m).map fun (c : Nat) => ((P.count ((b : Int), (c : Int)) : Nat) : Int)
def nBins (g : Gd) : Nat := (g.a * g.d).toNat
def countL (g : Gd) (P : List (Int × Int)) : List (List Int) := (List.range (nBins g)).map (cntRow g.cls.length P)
def allH (h : Nat → List (Int × Int)) (n : Nat) : List (Int × Int) := (List.range n).flatMap h
def cntN (L : Ld) (h : Nat → List (Int × Int)) : List (List Int) := countL L.g (allH h L.traces.length)

def noneC : Int × Int := (-1, -1)
def inG (g : Gd) (c : Int × Int) : Prop := (0 ≤ c.1 ∧ c.1 < g.a * g.d) ∧ 0 ≤ c.2 ∧ c.2 < (g.cls.length : Int)

theorem cntRow_len (m : Nat) (P : List (Int × Int)) (b : Nat) : (cntRow m P b).length = m := by simp [cntRow]
theorem countL_len (g : Gd) (P : List (Int × Int)) : (countL g P).length = nBins g := by simp [countL]
theorem countL_get {g : Gd} {P : List (Int × Int)} {b : Nat} (h : b < nBins g) : (countL g P)[b]? = some (cntRow g.cls.length P b) := by simp [countL, h]
theorem cntRow_get {m : Nat} {P : List (Int × Int)} {b c : Nat} (h : c < m) : (cntRow m P b)[c]? = some ((P.count ((b : Int), (c : Int)) : Nat) : Int) := by simp [cntRow, h]

theorem cntRow_off {m : Nat} {P : List (Int × Int)} {c : Int × Int} {b : Nat} (h : c.1 ≠ b) : cntRow m (P ++ [c]) b = cntRow m P b := by
  unfold cntRow
  refine List.map_congr_left fun k _ => ?_
  rw [List.count_append, List.count_singleton]
  have : (c == ((b : Int), (k : Int))) = false := by
    rw [beq_eq_false_iff_ne]; intro e; rw [e] at h; exact h rfl
  rw [this]; simp

theorem cntRow_on {m : Nat} {P : List (Int × Int)} {b k : Nat} (h : k < m) : cntRow m (P ++ [((b : Int), (k : Int))]) b = (cntRow m P b).set k (((P.count ((b : Int), (k : Int)) : Nat) : Int) + 1) := by
  refine List.ext_getElem? fun i => ?_
  by_cases hi : i < m
  · rw [cntRow_get hi]
    by_cases e : i = k
    · subst e
      rw [List.getElem?_set_self (by rw [cntRow_len]; exact hi), List.count_append, List.count_singleton]
      simp
    · rw [List.getElem?_set_ne (fun h => e h.symm), cntRow_get hi, List.count_append, List.count_singleton]
      have : ((((b : Int), (k : Int)) : Int × Int) == ((b : Int), (i : Int))) = false := by
        rw [beq_eq_false_iff_ne]; intro h; injection h with _ h; exact e (by omega)
      rw [this]; simp
  · rw [List.getElem?_eq_none (by rw [cntRow_len]; omega), List.getElem?_eq_none (by rw [List.length_set, cntRow_len]; omega)]

theorem countL_none (g : Gd) (P : List (Int × Int)) : countL g (P ++ [noneC]) = countL g P := by
  unfold countL
  refine List.map_congr_left fun b _ => cntRow_off ?_
  unfold noneC; simp only; omega

theorem countL_on {g : Gd} {P : List (Int × Int)} {b k : Nat} (hb : b < nBins g) (hk : k < g.cls.length) :
    countL g (P ++ [((b : Int), (k : Int))]) = (countL g P).set b ((cntRow g.cls.length P b).set k (((P.count ((b : Int), (k : Int)) : Nat) : Int) + 1)) := by
  refine List.ext_getElem? fun i => ?_
  by_cases hi : i < nBins g
  · rw [countL_get hi]
    by_cases e : i = b
    · subst e
      rw [List.getElem?_set_self (by rw [countL_len]; exact hi), cntRow_on hk]
    · rw [List.getElem?_set_ne (fun h => e h.symm), countL_get hi, cntRow_off]
      simp only; omega
  · rw [List.getElem?_eq_none (by rw [countL_len]; omega), List.getElem?_eq_none (by rw [List.length_set, countL_len]; omega)]

/-! ### Rows in an arena -/
def arn (rbs : List Nat) (rows : List (List Int)) : Arena := List.zipWith (fun b r => (b, Ob.cells (r.map I))) rbs rows

theorem arn_keys : ∀ {rbs : List Nat} {rows : List (List Int)}, rbs.length = rows.length → (arn rbs rows).map (·.1) = rbs
  | [], [], _ => rfl
  | b :: rbs, r :: rows, h => by
    have := arn_keys (rbs := rbs) (rows := rows) (by simpa using h)
    simp [arn] at this ⊢
    exact this

theorem arn_snoc : ∀ {rbs : List Nat} {rows : List (List Int)} (b : Nat) (r : List Int), rbs.length = rows.length → arn (rbs ++ [b]) (rows ++ [r]) = arn rbs rows ++ [(b, .cells (r.map I))]
  | [], [], b, r, _ => rfl
  | c :: rbs, q :: rows, b, r, h => by
    have := arn_snoc (rbs := rbs) (rows := rows) b r (by simpa using h)
    simp [arn] at this ⊢
    exact this

theorem arn_mem : ∀ {rbs : List Nat} {rows : List (List Int)} {j b : Nat} {r : List Int}, rbs[j]? = some b → rows[j]? = some r → (b, Ob.cells (r.map I)) ∈ arn rbs rows
  | [], _, _, _, _, h, _ => by simp at h
  | _ :: _, [], _, _, _, _, h => by simp at h
  | c :: rbs, q :: rows, 0, b, r, h, k => by simp at h k; subst h k; simp [arn]
  | c :: rbs, q :: rows, j + 1, b, r, h, k => by
    have := arn_mem (rbs := rbs) (rows := rows) (j := j) (b := b) (r := r) (by simpa using h) (by simpa using k)
    simp only [arn] at this ⊢
    simp only [List.zipWith_cons_cons]
    exact List.mem_cons_of_mem _ this

theorem setA_out {A : Arena} {b : Nat} {o : Ob} (h : b ∉ A.map (·.1)) : setA A b o = A := by
  unfold setA
  conv => rhs; rw [← List.map_id A]
  refine List.map_congr_left fun p hp => ?_
  rw [if_neg fun e => h (List.mem_map.2 ⟨p, hp, e⟩)]; rfl

theorem arn_set : ∀ {rbs : List Nat} {rows : List (List Int)} {j b : Nat} (r : List Int), rbs.Nodup → rbs.length = rows.length → rbs[j]? = some b → setA (arn rbs rows) b (.cells (r.map I)) = arn rbs (rows.set j r)
  | [], _, _, _, _, _, _, h => by simp at h
  | _ :: _, [], _, _, _, _, h, _ => by simp at h
  | c :: rbs, q :: rows, 0, b, r, hn, hl, h => by
    simp at h; subst h
    rw [List.nodup_cons] at hn
    have e : arn (c :: rbs) (q :: rows) = (c, .cells (q.map I)) :: arn rbs rows := rfl
    have e2 : arn (c :: rbs) ((q :: rows).set 0 r) = (c, .cells (r.map I)) :: arn rbs rows := rfl
    rw [e, e2]
    have := setA_out (A := arn rbs rows) (b := c) (o := .cells (r.map I)) (by rw [arn_keys (by simpa using hl)]; exact hn.1)
    unfold setA at this ⊢
    rw [List.map_cons, this]; simp
  | c :: rbs, q :: rows, j + 1, b, r, hn, hl, h => by
    rw [List.nodup_cons] at hn
    have h' : rbs[j]? = some b := by simpa using h
    have ih := arn_set (rbs := rbs) (rows := rows) (j := j) (b := b) r hn.2 (by simpa using hl) h'
    have hcb : c ≠ b := fun e => hn.1 (e ▸ List.mem_of_getElem? h')
    have e : arn (c :: rbs) (q :: rows) = (c, .cells (q.map I)) :: arn rbs rows := rfl
    have e2 : arn (c :: rbs) ((q :: rows).set (j + 1) r) = (c, .cells (q.map I)) :: arn rbs (rows.set j r) := rfl
    rw [e, e2, ← ih]
    unfold setA
    rw [List.map_cons, if_neg hcb]

theorem arn_drop {b : Nat} {r : List Int} {rbs : List Nat} {rows : List (List Int)} (hn : (b :: rbs).Nodup) (hl : rbs.length = rows.length) : dropA (arn (b :: rbs) (r :: rows)) b = arn rbs rows := by
  rw [List.nodup_cons] at hn
  have e : arn (b :: rbs) (r :: rows) = (b, .cells (r.map I)) :: arn rbs rows := rfl
  rw [e]
  unfold dropA
  rw [List.filter_cons]
  simp only [bne_self_eq_false, Bool.false_eq_true, if_false]
  refine List.filter_eq_self.2 fun p hp => ?_
  have : p.1 ∈ rbs := by rw [← arn_keys hl]; exact List.mem_map.2 ⟨p, hp, rfl⟩
  have : p.1 ≠ b := fun e => hn.1 (e ▸ this)
  simpa using this

section
variable {E : Env} {S0 : Sur} {l0 : List (List V)} {s0 : Bool}

def srefs (m : Nat) (rbs : List Nat) : List V := rbs.map fun b => .sref b 0 m m

/-- All rows of a slice become data. -/
theorem closeRows (hE : InA E S0 l0 s0) {t m : Nat} : ∀ (rbs : List Nat) (rows : List (List Int)) (pre : List V) (s : St), rbs.Nodup → rbs.length = rows.length → (∀ r ∈ rows, r.length = m) → (∀ y ∈ pre, cells y = [y]) → get s.env t = some (.slice 0 1 (pre ++ srefs m rbs)) → s.log = encA (arn rbs rows) →
    ∃ s', Wk E s s' ∧ get s'.env t = some (.slice 0 1 (pre ++ rows.map intsV)) ∧ s'.log = encA [] ∧ s'.stp = s.stp ∧ s'.bx = s.bx
  | [], [], pre, s, _, _, _, _, ht, hl => ⟨s, Wk.refl s, by simpa [srefs] using ht, hl, rfl, rfl⟩
  | b :: rbs, r :: rows, pre, s, hn, hlen, hm, hpre, ht, hl => by
    have hlen' : rbs.length = rows.length := by simpa using hlen
    have hrl : r.length = m := hm r (by simp)
    have h1 : ∀ y ∈ pre ++ srefs m (b :: rbs), cells y = [y] := fun y hy => by
      rcases List.mem_append.1 hy with hy | hy
      · exact hpre y hy
      · obtain ⟨_, _, rfl⟩ := List.mem_map.1 hy; rfl
    have w1 := Wk.closeIn (E := E) (S0 := S0) (l0 := l0) (s0 := s0) (A := arn (b :: rbs) (r :: rows)) hE (s := s) (t := t) (r := 0) (blk := b) (cap := m) (sz := 1) (j := pre.length) (cs := r.map I) (xs := r.map I) (ys := pre ++ srefs m (b :: rbs)) ht
      (by rw [List.length_map, hrl, List.getElem?_append_right (Nat.le_refl _), Nat.sub_self]; rfl) hl (by simp [arn]) (by omega) (by rw [List.length_map, hrl]; exact Nat.le_refl _) (fun x hx => by obtain ⟨_, _, rfl⟩ := List.mem_map.1 hx; rfl)
      (by rw [Nat.mul_one, List.take_length]; induction r with
          | nil => rfl
          | cons a r _ => rw [List.flatMap_def, List.map_map]; induction (a :: r) with
            | nil => rfl
            | cons a r ih => simp [cells] at ih ⊢; exact ih) h1
    have eset : (pre ++ srefs m (b :: rbs)).set pre.length (.slice 0 1 (r.map I)) = (pre ++ [intsV r]) ++ srefs m rbs := by
      rw [List.set_append_right _ _ (Nat.le_refl _), Nat.sub_self]
      simp [srefs, intsV]
    rw [eset, arn_drop hn hlen'] at w1
    rw [List.nodup_cons] at hn
    obtain ⟨s', w2, g1, g2, g3, g4⟩ := closeRows hE (t := t) rbs rows (pre ++ [intsV r]) hn.2 hlen' (fun q hq => hm q (by simp [hq])) (fun y hy => by
      rcases List.mem_append.1 hy with hy | hy
      · exact hpre y hy
      · rw [List.mem_singleton.1 hy]; rfl) (s := { s.put (some t) (.slice 0 1 ((pre ++ [intsV r]) ++ srefs m rbs)) with log := encA (arn rbs rows) }) (by show Am.get ((t, _) :: s.env) t = _; simp [Am.get]) rfl
    exact ⟨s', w1.trans w2, by rw [g1]; simp, g2, by rw [g3]; rfl, by rw [g4]; rfl⟩

end
end Go.Proofs.YtdejdblopmfjfaaGreatDoor


/-! Contracts: surely; counting. -/
set_option linter.unusedVariables false
set_option linter.unusedSimpArgs false
set_option maxRecDepth 40000
set_option maxHeartbeats 4000000
namespace Go.Proofs.YtdejdblopmfjfaaGreatDoor
open Go.Am
attribute [local simp] cells scalar mkv splice under2 under dem dem1 eB gridC sB laidC
def sureL : List (Int × Int) → List (Int × Int)
  | [c] => if c = noneC then [] else [c]
  | _ => []
def sureT (L : Ld) (t : Nat) : List (Int × Int) := sureL (hitsT L t)

theorem c_surely {L : Ld} (hL : LdOk L) {t : Nat} (ht : t < L.traces.length) : C Tryz.prog F.bin_laid_surely [.agg (laidC L), I (t : Nat)] (sB (sureT L t)) := by
  have kc := c_hits hL ht
  unfold sureT
  generalize hitsT L t = l at kc
  refine C_of mixed chk.bin_laid_surely (by simp) fun S ok => ?_
  refine Tr.seqR rfl (by simp) (Tr.seq (Tr.seqC rfl (by simp) (Steps.call rfl rfl kc (Steps.fin rfl (by simp) ?_))))
  rcases l with _ | ⟨c, _ | ⟨c2, r⟩⟩
  · refine Tr.seq (Tr.drawK (TraceK.runN 7 rfl (by simp) (TraceK.ggload (g := 0) (cs := [I (-1), I (-1)]) (gb := false) (by simp [globalsV]) rfl rfl rfl (by simp) ?_)))
    refine .done ⟨by kernel_rfl, by kernel_rfl, Steps.off (want := true) (.bool true) rfl rfl rfl (Steps.fin rfl (by simp) ?_)⟩
    refine Tr.condF rfl (Tr.skip (Tr.seqR rfl (by simp) ?_))
    refine Tr.weak (s' := { env := [(4, .slice 0 2 [])], bx := [], rw := [], log := [], stp := false }) (Wk.le (.cons rfl (.nil 0 2) .nil) .nil .nil rfl rfl) ?_
    exact Tr.retX rfl rfl rfl rfl trivial
  · refine Tr.seq (Tr.drawK (TraceK.runN 7 rfl (by simp) (TraceK.ggload (g := 0) (cs := [I (-1), I (-1)]) (gb := true) (by simp [globalsV]) rfl rfl rfl (by simp) ?_)))
    refine TraceK.run rfl (by simp) (.done ⟨by kernel_rfl, by kernel_rfl, Steps.fin rfl (by simp) ?_⟩)
    refine Tr.cond rfl rfl (fun h => ?_) (fun h => Tr.skip ?_)
    · have hc : c ≠ noneC := by
        rintro rfl
        revert h
        show (!((((-1 : Int) == -1) && ((-1 : Int) == -1)) : Bool)) = true → False
        decide
      refine Tr.seqR rfl (by simp) (Tr.retX rfl rfl rfl ?_ trivial)
      simp [sureL, hc, packR]
    · have hc : c = noneC := by
        have h : (!((c.1 == -1) && (c.2 == -1))) = false := by simpa using h
        simp at h
        exact Prod.ext h.1 h.2
      refine Tr.seqR rfl (by simp) ?_
      refine Tr.weak (s' := { env := [(4, .slice 0 2 [])], bx := [], rw := [], log := [], stp := false }) (Wk.le (.cons rfl (.nil 0 2) .nil) .nil .nil rfl rfl) ?_
      refine Tr.retX rfl rfl rfl ?_ trivial
      simp [sureL, hc, packR]
  · have hne : ((((c :: c2 :: r : List (Int × Int)).map eB).length : Int) == 1) = false := by
      rw [beq_eq_false_iff_ne]; simp; omega
    refine Tr.seq (Tr.drawK (TraceK.runN 4 rfl (by simp) ?_))
    refine TraceK.runN 3 rfl (by simp; omega) (TraceK.ggload (g := 0) (cs := [I (-1), I (-1)]) (by simp [globalsV]) rfl rfl rfl (by simp) ?_)
    refine .done ⟨by kernel_rfl, by kernel_rfl, Steps.off (want := true) (.bool true) rfl rfl (congrArg some hne) (Steps.fin rfl (by simp; omega) ?_)⟩
    refine Tr.cond rfl rfl (fun h => ?_) (fun h => Tr.skip (Tr.seqR rfl (by simp) ?_))
    · have h : (bif ((((c :: c2 :: r : List (Int × Int)).map eB).length : Int) == 1) then true else false) = true := h
      rw [hne] at h; cases h
    refine Tr.weak (s' := { env := [(4, .slice 0 2 [])], bx := [], rw := [], log := [], stp := false }) (Wk.le (.cons rfl (.nil 0 2) .nil) .nil .nil rfl rfl) ?_
    exact Tr.retX rfl rfl rfl rfl trivial

end Go.Proofs.YtdejdblopmfjfaaGreatDoor


/-! Plain laws of cells: the order of the places; what moves with the grid. -/
set_option linter.unusedVariables false
set_option linter.unusedSimpArgs false
set_option maxRecDepth 40000
set_option maxHeartbeats 4000000
namespace Go.Proofs.YtdejdblopmfjfaaGreatDoor
open Go.Am

/-- A cell is one of the grid, or none. -/
theorem cell_in {g : Gd} (hg : gridOk g = true) (a b : Int × Int) : cellN g a b = noneC ∨ inG g (cellN g a b) := by
  obtain ⟨_, _, ha, hd, hc, _⟩ := gridOk_spec hg
  unfold cellN
  split
  · rename_i h
    rw [Bool.and_eq_true, btw_iff, btw_iff] at h
    split
    · rename_i i hi
      have := clsAt_bd _ _ _ hi
      have m1 : 0 ≤ rowN g a b * g.a := Int.mul_nonneg (by omega) (by omega)
      have m2 : rowN g a b * g.a ≤ (g.d - 1) * g.a := Int.mul_le_mul_of_nonneg_right (by omega) (by omega)
      rw [Int.sub_mul, Int.mul_comm g.d g.a] at m2
      refine .inr ⟨⟨?_, ?_⟩, ?_, ?_⟩ <;> simp only <;> omega
    · exact .inl rfl
  · exact .inl rfl

theorem nBins_eq {g : Gd} (hg : gridOk g = true) : (nBins g : Int) = g.a * g.d ∧ 1 ≤ nBins g ∧ nBins g ≤ 256 := by
  obtain ⟨_, _, ha, hd, hc, _⟩ := gridOk_spec hg
  have h1 : 1 * 1 ≤ g.a * g.d := Int.mul_le_mul (by omega) (by omega) (by omega) (by omega)
  have h2 : g.a * g.d ≤ 16 * 16 := Int.mul_le_mul (by omega) (by omega) (by omega) (by omega)
  unfold nBins
  omega

theorem inG_nat {g : Gd} (hg : gridOk g = true) {c : Int × Int} (h : inG g c) : ∃ b k : Nat, c = ((b : Int), (k : Int)) ∧ b < nBins g ∧ k < g.cls.length := by
  obtain ⟨⟨h1, h2⟩, h3, h4⟩ := h
  have := (nBins_eq hg).1
  exact ⟨c.1.toNat, c.2.toNat, Prod.ext (by simp; omega) (by simp; omega), by omega, by omega⟩

end Go.Proofs.YtdejdblopmfjfaaGreatDoor


/-! Contracts: counting. -/
set_option linter.unusedVariables false
set_option linter.unusedSimpArgs false
set_option maxRecDepth 40000
set_option maxHeartbeats 4000000
namespace Go.Proofs.YtdejdblopmfjfaaGreatDoor
open Go.Am
attribute [local simp] cells scalar mkv splice under2 under dem dem1 eB gridC sB laidC
def rowsB (m : Nat) (rbs : List Nat) (k : Nat) : List V := (rbs.map fun b => V.sref b 0 m m) ++ List.replicate k .nils

theorem rowsB_refs (m : Nat) (rbs : List Nat) (k : Nat) (B : Nat → Bool) (R : Nat → Option (Nat × Nat × Nat)) : (rowsB m rbs k).all (refsOk B R 6) = true := by
  rw [List.all_eq_true]
  intro x hx
  rcases List.mem_append.1 hx with hx | hx
  · obtain ⟨_, _, rfl⟩ := List.mem_map.1 hx; rfl
  · rw [List.eq_of_mem_replicate hx]; rfl

theorem okRows {j m k : Nat} {rbs : List Nat} {env : List (Nat × V)} {bx : List (Nat × Box)} {rw : List (Nat × Nat × Nat × Nat)} (h : okRefs env ((j, ⟨[], false⟩) :: bx) rw = true) : okRefs env ((j, ⟨rowsB m rbs k, false⟩) :: bx) rw = true := by
  have e : hasKey ((j, (⟨rowsB m rbs k, false⟩ : Box)) :: bx) = hasKey ((j, (⟨[], false⟩ : Box)) :: bx) := rfl
  unfold okRefs at h ⊢
  rw [e]
  rw [Bool.and_eq_true] at h ⊢
  refine ⟨h.1, ?_⟩
  have h2 := h.2
  rw [List.all_cons, Bool.and_eq_true] at h2 ⊢
  exact ⟨rowsB_refs _ _ _ _ _, h2.2⟩

theorem rowsB_len (m : Nat) (rbs : List Nat) (k : Nat) : (rowsB m rbs k).length = rbs.length + k := by simp [rowsB]

theorem rowsB_set (m : Nat) (rbs : List Nat) (k b : Nat) : (rowsB m rbs (k + 1)).set rbs.length (.sref b 0 m m) = rowsB m (rbs ++ [b]) k := by
  unfold rowsB
  rw [List.set_append_right _ _ (by simp), List.length_map, Nat.sub_self, List.replicate_succ]
  simp

theorem rowsB_flat (m : Nat) (rbs : List Nat) : ∀ l : List V, l = (rbs.map fun b => V.sref b 0 m m) → l.flatMap cells = l := by
  induction rbs with
  | nil => rintro l rfl; rfl
  | cons b r ih => rintro l rfl; rw [List.map_cons, List.flatMap_cons, ih _ rfl]; rfl

theorem rowsB_holds (m : Nat) (rbs : List Nat) : Holds (rowsB m rbs 0) 0 1 rbs.length (rbs.map fun b => V.sref b 0 m m) := by
  refine ⟨by omega, by simp, fun x hx => ?_, ?_, fun x hx => ?_⟩
  · obtain ⟨_, _, rfl⟩ := List.mem_map.1 hx; rfl
  · rw [rowsB_flat m rbs _ rfl]; simp [rowsB, List.take_of_length_le]
  · obtain ⟨_, _, rfl⟩ := List.mem_map.1 hx; rfl

theorem allH_succ (h : Nat → List (Int × Int)) (k : Nat) : allH h (k + 1) = allH h k ++ h k := by
  unfold allH; rw [List.range_succ, List.flatMap_append]; simp

theorem count_bd {L : Ld} {h : Nat → List (Int × Int)} (hn : L.traces.length ≤ 64) (hr : ∀ t < L.traces.length, (h t).length ≤ 4096) : ∀ k ≤ L.traces.length, (allH h k).length ≤ k * 4096
  | 0, _ => by simp [allH]
  | k + 1, hk => by
    have := count_bd hn hr k (by omega)
    have h2 := hr k (by omega)
    rw [allH_succ, List.length_append]; omega

theorem splice_set {cs : List V} {i : Nat} (h : i < cs.length) (v : V) : splice cs i [v] = cs.set i v := by
  rw [List.set_eq_take_append_cons_drop, if_pos h]; simp [splice]

theorem c_count {L : Ld} (hL : LdOk L) {f : FuncId} {h : Nat → List (Int × Int)} (hf : ∀ t < L.traces.length, C Tryz.prog f [.agg (laidC L), I (t : Nat)] (sB (h t))) (hr : ∀ t < L.traces.length, (h t).length ≤ 4096 ∧ ∀ c ∈ h t, c = noneC ∨ inG L.g c) :
    C Tryz.prog F.bin_laid_count [.agg (laidC L), .func (.func f) [.agg (laidC L)] []] (foldV (cntN L h)) := by
  obtain ⟨_, hsz, hga, hgd, hcl, _⟩ := gridOk_spec hL.g
  have nb := nBins_eq hL.g
  have hab : IntKind.wrap .i64 (L.g.a * L.g.d) = (nBins L.g : Int) := by rw [nb.1]; exact w64 (by omega) (by omega)
  refine C_of mixed chk.bin_laid_count (by simp) fun S ok => ?_
  refine Tr.arena rfl rfl ?_
  have hA := InA.main (E := env0 Tryz.prog mixed 63 S ok) [] false
  refine Tr.seqR rfl (by simp) ?_
  refine Tr.seqR rfl (by simp; omega) ?_
  refine Tr.seq (Tr.seqR rfl (by simp) (Tr.block ?_))
  refine Tr.loop (α := Nat × List Nat) (fun p st => (p.1 ≤ nBins L.g ∧ p.2.length = p.1 ∧ p.2.Nodup) ∧
      st = { env := [(1, .func (.func f) [.agg (laidC L)] []), (2, .ptr 2 0), (5, .bsl 17 0 1 (nBins L.g)), (18, .bsl 17 0 1 (nBins L.g)), (19, I (nBins L.g : Nat)), (20, I (p.1 : Nat))], bx := [(17, ⟨rowsB L.g.cls.length p.2 (nBins L.g - p.1), false⟩), (2, ⟨laidC L, false⟩)], rw := [], log := encA (arn p.2 ((List.range p.1).map (cntRow L.g.cls.length []))), stp := false }) (fun p => nBins L.g - p.1) (0, [])
    (Wk.leL (.cons rfl (.refl _) (.cons rfl (.refl _) (.cons rfl (.of_eq ?_) (.cons rfl (.of_eq ?_) (.cons rfl (VLe.i ?_) (.cons rfl (.refl _) .nil)))))) (.cons rfl ?_ (.cons rfl (LLe.refl _) .nil)) .nil (okRows rfl) rfl rfl) ⟨⟨by omega, rfl, List.Pairwise.nil⟩, rfl⟩ ?_
  · show V.bsl 17 0 1 (IntKind.wrap .i64 (L.g.a * L.g.d)).toNat = _
    rw [hab]; rfl
  · show V.bsl 17 0 1 (IntKind.wrap .i64 (L.g.a * L.g.d)).toNat = _
    rw [hab]; rfl
  · rw [hab]; rfl
  · show LLe (List.replicate (IntKind.wrap .i64 (L.g.a * L.g.d)).toNat [V.nils]).flatten _
    rw [hab]
    have e : (List.replicate (nBins L.g) [V.nils]).flatten = rowsB L.g.cls.length [] (nBins L.g - 0) := by simp [rowsB]
    rw [Int.toNat_natCast, e]; exact LLe.refl _
  rintro ⟨k, rbs⟩ st ⟨⟨hk, hlen, hnd⟩, rfl⟩
  simp only at hk hlen hnd
  have hlr : rbs.length = ((List.range k).map (cntRow L.g.cls.length [])).length := by simp [hlen]
  refine Tr.seqR rfl (by simp) (Tr.seqI rfl (fun h1 => ?_) (fun h1 => ?_))
  · have h1 : k < nBins L.g := by simpa using h1
    refine Tr.skipT (Tr.seq (Tr.block (Tr.seqR rfl (by simp) (Tr.reg ?_))))
    refine Steps.runN 6 rfl (by simp) (Steps.amkbox hA (N := L.g.cls.length) rfl (by simp) (by simp) (by omega) (by omega) (by omega) rfl fun b hb => ?_)
    rw [arn_keys hlr] at hb
    refine Steps.fin rfl (by simp [rowsB_len, hlen]; omega) (Tr.regR rfl (by simp) ?_)
    have ez : (List.replicate L.g.cls.length [I 0]).flatten = (cntRow L.g.cls.length [] k).map I := by
      have : cntRow L.g.cls.length [] k = List.replicate L.g.cls.length 0 := by
        refine List.ext_getElem (by simp [cntRow]) fun i h1 h2 => by simp [cntRow]
      rw [this]; simp
    have eA : arn (rbs ++ [b]) ((List.range (k + 1)).map (cntRow L.g.cls.length [])) = arn rbs ((List.range k).map (cntRow L.g.cls.length [])) ++ [(b, .cells ((cntRow L.g.cls.length [] k).map I))] := by
      rw [List.range_succ, List.map_append]; exact arn_snoc _ _ hlr
    have hnd2 : (rbs ++ [b]).Nodup := by
      rw [List.nodup_append]
      exact ⟨hnd, by simp, fun x hx y hy e => by rw [List.mem_singleton.1 hy] at e; exact hb (e ▸ hx)⟩
    refine ⟨(k + 1, rbs ++ [b]), _, Wk.trans (Wk.leL (env := [(1, .func (.func f) [.agg (laidC L)] []), (2, .ptr 2 0), (5, .bsl 17 0 1 (nBins L.g)), (18, .bsl 17 0 1 (nBins L.g)), (19, I (nBins L.g : Nat)), (20, I ((k + 1 : Nat) : Int))]) (bx := [(17, ⟨rowsB L.g.cls.length (rbs ++ [b]) (nBins L.g - (k + 1)), false⟩), (2, ⟨laidC L, false⟩)]) (rw := [])
        (.cons rfl (.refl _) (.cons rfl (.refl _) (.cons rfl (.refl _) (.cons rfl (.refl _) (.cons rfl (.refl _) (.cons rfl (VLe.i (w64 (by omega) (by omega))) .nil)))))) (.cons rfl ?_ (.cons rfl (LLe.refl _) .nil)) .nil (okRows rfl) rfl rfl) (Wk.keep hA (B := arn (rbs ++ [b]) ((List.range (k + 1)).map (cntRow L.g.cls.length []))) rfl ?_ ?_), ⟨⟨by simp only; omega, by simp [hlen], hnd2⟩, rfl⟩, by simp only; omega⟩
    · have e1 : nBins L.g - k = (nBins L.g - (k + 1)) + 1 := by omega
      have e2 : (0 : Nat) + ((k : Nat) : Int).toNat * 1 = rbs.length := by simp [hlen]
      show LLe (splice (rowsB L.g.cls.length rbs (nBins L.g - k)) (0 + ((k : Nat) : Int).toNat * 1) [.sref b 0 L.g.cls.length L.g.cls.length]) _
      rw [e1, e2, splice_set (by rw [rowsB_len]; omega), rowsB_set]; exact LLe.refl _
    · intro p hp
      rw [eA] at hp
      rcases List.mem_append.1 hp with hp | hp
      · exact List.mem_cons_of_mem _ hp
      · rw [List.mem_singleton.1 hp, ez]; exact List.mem_cons_self
    · rw [arn_keys (by simp [hlen])]; exact hnd2
  have h1 : k = nBins L.g := by simp at h1; omega
  subst h1
  clear hlr
  refine Tr.exit ?_
  refine Tr.weak (s' := { env := [(1, .func (.func f) [.agg (laidC L)] []), (2, .ptr 2 0), (5, .bsl 17 0 1 rbs.length)], bx := [(17, ⟨rowsB L.g.cls.length rbs 0, false⟩), (2, ⟨laidC L, false⟩)], rw := [], log := encA (arn rbs (countL L.g (allH h 0))), stp := false })
    (Wk.leL (.cons rfl (.refl _) (.cons rfl (.refl _) (.cons rfl (.of_eq (by rw [hlen])) .nil))) (.cons rfl (by rw [Nat.sub_self]; exact LLe.refl _) (.cons rfl (LLe.refl _) .nil)) .nil (okRows rfl) rfl rfl) ?_
  refine Tr.weak (Wk.bsl (t := 5) rfl rfl (rowsB_holds _ _)) ?_
  refine Tr.seq (Tr.seqR rfl (by simp) (Tr.block ?_))
  refine Tr.loop (fun (k : Nat) st => k ≤ L.traces.length ∧ st = { env := [(1, .func (.func f) [.agg (laidC L)] []), (2, .ptr 2 0), (5, .slice 0 1 (rbs.map fun b => V.sref b 0 L.g.cls.length L.g.cls.length)), (33, sB L.traces), (34, I (L.traces.length : Nat)), (35, I (k : Nat))], bx := [(2, ⟨laidC L, false⟩)], rw := [], log := encA (arn rbs (countL L.g (allH h k))), stp := false }) (fun k => L.traces.length - k) 0
    (Wk.leL (.cons rfl (.refl _) (.cons rfl (.refl _) (.cons rfl (.refl _) (.cons rfl (.refl _) (.cons rfl (VLe.i (by simp)) (.cons rfl (.refl _) .nil)))))) (.cons rfl (LLe.refl _) .nil) .nil rfl rfl rfl) ⟨by omega, rfl⟩ ?_
  rintro k st ⟨hk, rfl⟩
  refine Tr.seqR rfl (by simp) (Tr.seqI rfl (fun h1 => ?_) (fun h1 => ?_))
  · have h1 : k < L.traces.length := by simpa using h1
    have hb := count_bd hL.t (fun t ht => (hr t ht).1) k hk
    have hr1 := hr k h1
    have hLt := hL.t
    refine Tr.skipT (Tr.seq (Tr.block (Tr.seqR rfl (by simp) (Tr.seqC rfl (by simp) (Steps.callv rfl rfl (hf k h1) (Steps.fin rfl (by simp) (Tr.block ?_)))))))
    refine Tr.loop (fun (j : Nat) st => j ≤ (h k).length ∧ st = { env := [(1, .func (.func f) [.agg (laidC L)] []), (2, .ptr 2 0), (5, .slice 0 1 (rbs.map fun b => V.sref b 0 L.g.cls.length L.g.cls.length)), (33, sB L.traces), (34, I (L.traces.length : Nat)), (35, I (k : Nat)), (40, sB (h k)), (41, I ((h k).length : Nat)), (42, I (j : Nat))], bx := [(2, ⟨laidC L, false⟩)], rw := [], log := encA (arn rbs (countL L.g (allH h k ++ (h k).take j))), stp := false }) (fun j => (h k).length - j) 0
      (Wk.leL (.cons rfl (.refl _) (.cons rfl (.refl _) (.cons rfl (.refl _) (.cons rfl (.refl _) (.cons rfl (.refl _) (.cons rfl (.refl _) (.cons rfl (.refl _) (.cons rfl (VLe.i (by simp)) (.cons rfl (.refl _) .nil))))))))) (.cons rfl (LLe.refl _) .nil) .nil rfl rfl (by show encA (arn rbs (countL L.g (allH h k))) = _; rw [List.take_zero, List.append_nil])) ⟨by omega, rfl⟩ ?_
    rintro j st ⟨hj, rfl⟩
    refine Tr.seqR rfl (by simp) (Tr.seqI rfl (fun h2 => ?_) (fun h2 => ?_))
    · have h2 : j < (h k).length := by simpa using h2
      refine Tr.skipT (Tr.seq (Tr.block (Tr.seq (Tr.reg (Steps.runN 1 rfl (by simp; omega) ?_)))))
      rw [getD_map h2]
      refine Steps.fin rfl (by simp) ?_
      refine Tr.seq (Tr.reg (Steps.runN 1 rfl (by simp) (Steps.gload (g := 0) (cs := [I (-1), I (-1)]) (by simp [globalsV]) rfl (by simp) (Steps.fin rfl (by simp) ?_))))
      have hmem := List.getElem_mem h2
      have eT : (h k).take (j + 1) = (h k).take j ++ [(h k)[j]] := by rw [List.take_add_one, List.getElem?_eq_getElem h2]; rfl
      obtain ⟨c, hc⟩ : ∃ c, (h k)[j] = c := ⟨_, rfl⟩
      rw [hc] at hmem eT ⊢
      rcases hr1.2 c hmem with rfl | hin
      · refine Tr.condF rfl (Tr.skip (Tr.regR rfl (by simp) ?_))
        exact ⟨j + 1, _, Wk.leL (.cons rfl (.refl _) (.cons rfl (.refl _) (.cons rfl (.refl _) (.cons rfl (.refl _) (.cons rfl (.refl _) (.cons rfl (.refl _) (.cons rfl (.refl _) (.cons rfl (.refl _) (.cons rfl (VLe.i (w64 (by omega) (by omega))) .nil))))))))) (.cons rfl (LLe.refl _) .nil) .nil rfl rfl (by rw [eT, ← List.append_assoc, countL_none]; rfl), ⟨by omega, rfl⟩, by omega⟩
      · obtain ⟨b, q, rfl, hbb, hq⟩ := inG_nat hL.g hin
        have hbl : b < rbs.length := by omega
        obtain ⟨P, hP⟩ : ∃ P, allH h k ++ (h k).take j = P := ⟨_, rfl⟩
        have hPl : P.length ≤ 300000 := by
          have h3 : ((h k).take j).length ≤ 4096 := by simp; omega
          rw [← hP, List.length_append]; omega
        obtain ⟨n0, hn0⟩ : ∃ n0, P.count ((b : Int), (q : Int)) = n0 := ⟨_, rfl⟩
        have hn1 : n0 ≤ 300000 := by rw [← hn0]; exact Nat.le_trans List.count_le_length hPl
        have hcl2 := countL_len L.g P
        have hrow := countL_get (P := P) hbb
        have hcell : ((cntRow L.g.cls.length P b).map I)[q]? = some (I n0) := by rw [List.getElem?_map, cntRow_get hq, hn0]; rfl
        have hrb : rbs[b]? = some rbs[b] := List.getElem?_eq_getElem hbl
        have hmA := arn_mem (rbs := rbs) hrb hrow
        rw [hP]
        refine Tr.condT rfl ?_
        refine Tr.drawK (TraceK.runN 4 rfl (by simp; omega) ?_)
        rw [getD_map hbl]
        refine TraceK.runN 3 rfl (by simp) (.done ⟨by kernel_rfl, by kernel_rfl, ?_⟩)
        refine Steps.sidx (blk := rbs[b]) (off := 0) (j := q) rfl rfl hq ?_
        refine Steps.aload hA (v := I n0) rfl rfl hmA (by simpa using hcell) (Steps.runN 1 rfl (by simp) ?_)
        refine Steps.sidx (blk := rbs[b]) (off := 0) (j := q) rfl rfl hq ?_
        refine Steps.astore hA rfl rfl hmA (by simp [cntRow_len]; omega) rfl rfl (Steps.fin rfl (by simp) ?_)
        have eL : setA (arn rbs (countL L.g P)) rbs[b] (.cells (((cntRow L.g.cls.length P b).map I).set (0 + q * 1) (I (IntKind.wrap .i64 ((n0 : Int) + 1))))) = arn rbs (countL L.g (P ++ [((b : Int), (q : Int))])) := by
          rw [countL_on hbb hq, hn0, w64 (by omega) (by omega), ← arn_set _ hnd (by rw [hcl2, hlen]) hrb, List.map_set, Nat.zero_add, Nat.mul_one]
        refine Tr.regR rfl (by simp) ?_
        exact ⟨j + 1, _, Wk.leL (.cons rfl (.refl _) (.cons rfl (.refl _) (.cons rfl (.refl _) (.cons rfl (.refl _) (.cons rfl (.refl _) (.cons rfl (.refl _) (.cons rfl (.refl _) (.cons rfl (.refl _) (.cons rfl (VLe.i (w64 (by omega) (by omega))) .nil))))))))) (.cons rfl (LLe.refl _) .nil) .nil rfl rfl (by rw [eT, ← List.append_assoc, hP, ← eL]; rfl), ⟨by omega, rfl⟩, by omega⟩
    · have h2 : j = (h k).length := by simp at h2; omega
      subst h2
      refine Tr.exit (Tr.regR rfl (by simp) ?_)
      exact ⟨k + 1, _, Wk.leL (.cons rfl (.refl _) (.cons rfl (.refl _) (.cons rfl (.refl _) (.cons rfl (.refl _) (.cons rfl (.refl _) (.cons rfl (VLe.i (w64 (by omega) (by omega))) .nil)))))) (.cons rfl (LLe.refl _) .nil) .nil rfl rfl (by rw [allH_succ, List.take_length]; rfl), ⟨by omega, rfl⟩, by omega⟩
  · have h1 : k = L.traces.length := by simp at h1; omega
    subst h1
    refine Tr.exit (Tr.seqR rfl (by simp) ?_)
    obtain ⟨s', w1, g1, g2, g3, g4⟩ := closeRows hA (t := 4) (m := L.g.cls.length) rbs (countL L.g (allH h L.traces.length)) [] { env := [(4, .slice 0 1 (srefs L.g.cls.length rbs))], bx := [], rw := [], log := encA (arn rbs (countL L.g (allH h L.traces.length))), stp := false } hnd (by rw [countL_len, hlen])
      (fun r hr => by obtain ⟨b, _, rfl⟩ := List.mem_map.1 hr; exact cntRow_len _ _ _) (by simp) rfl rfl
    have w2 := Wk.leL (E := (env0 Tryz.prog mixed 63 S ok).withA [] false) (s := s') (env := [(4, foldV (cntN L h))]) (bx := []) (rw := []) (.cons g1 (.of_eq rfl) .nil) .nil .nil rfl rfl g2
    refine Tr.weak (s' := { env := [(4, .slice 0 1 (srefs L.g.cls.length rbs))], bx := [], rw := [], log := encA (arn rbs (countL L.g (allH h L.traces.length))), stp := false }) (Wk.le (.cons rfl (.refl _) .nil) .nil .nil rfl rfl) ?_
    refine Tr.weak (w1.trans w2) ?_
    exact Tr.ret ⟨trivial, _, _, _, resVs_ok rfl, rfl, rfl⟩

end Go.Proofs.YtdejdblopmfjfaaGreatDoor


/-! Contracts: Hits, Fold. -/
set_option linter.unusedVariables false
set_option linter.unusedSimpArgs false
set_option maxRecDepth 40000
set_option maxHeartbeats 4000000
namespace Go.Proofs.YtdejdblopmfjfaaGreatDoor
open Go.Am
attribute [local simp] cells scalar mkv splice under2 under dem dem1 eB gridC sB laidC fourC eF layC
theorem mem_ptsN {x : Int} {q : Int × Int} : ∀ (n : Nat) (y : Int), q ∈ ptsN x n y ↔ q.1 = x ∧ y ≤ q.2 ∧ q.2 < y + n
  | 0, y => by simp [ptsN]
  | n + 1, y => by
    rw [ptsN, List.mem_cons, mem_ptsN n (y + 1)]
    constructor
    · rintro (rfl | ⟨h1, h2, h3⟩)
      · simp; omega
      · refine ⟨h1, ?_, ?_⟩ <;> push_cast <;> omega
    · rintro ⟨h1, h2, h3⟩
      push_cast at h3
      by_cases h : q.2 = y
      · exact .inl (Prod.ext h1 h)
      · exact .inr ⟨h1, by omega, by omega⟩

theorem mem_rowsN {f : Fr} {q : Int × Int} : ∀ (n : Nat) (x : Int), q ∈ (rowsN f n x).flatMap colP ↔ (x ≤ q.1 ∧ q.1 < x + n) ∧ lowY f q.1 ≤ q.2 ∧ q.2 ≤ highY f q.1
  | 0, x => by simp [rowsN]; omega
  | n + 1, x => by
    rw [rowsN_flat, List.mem_append, mem_rowsN n (x + 1)]
    unfold colAt
    rw [mem_ptsN]
    constructor
    · rintro (⟨h1, h2, h3⟩ | ⟨⟨h1, h2⟩, h3⟩)
      · subst h1
        refine ⟨⟨by omega, by push_cast; omega⟩, by omega, by omega⟩
      · exact ⟨⟨by omega, by push_cast; omega⟩, h3⟩
    · rintro ⟨⟨h1, h2⟩, h3, h4⟩
      push_cast at h2
      by_cases h : q.1 = x
      · subst h; exact .inl ⟨rfl, by omega, by omega⟩
      · exact .inr ⟨⟨by omega, by omega⟩, h3, h4⟩

theorem mem_placesL {f : Fr} {q : Int × Int} : q ∈ placesL f ↔ (f.x.1 ≤ q.1 ∧ q.1 ≤ f.x.2) ∧ lowY f q.1 ≤ q.2 ∧ q.2 ≤ highY f q.1 := by
  unfold placesL rowsL
  rw [mem_rowsN]
  constructor
  · rintro ⟨⟨h1, h2⟩, h3⟩; exact ⟨⟨h1, by omega⟩, h3⟩
  · rintro ⟨⟨h1, h2⟩, h3⟩; exact ⟨⟨h1, by omega⟩, h3⟩

theorem node_plane {f : Fr} (h : nodeOk f = true) {q : Int × Int} (hq : q ∈ placesL f) : planeB q = true := by
  simp only [nodeOk, Bool.and_eq_true, fitFB, fitBB, decide_eq_true_eq] at h
  have := mem_placesL.1 hq
  simp only [planeB, Bool.and_eq_true, btw_iff]
  unfold lowY highY at this
  omega

theorem lay_ok {g : Gd} {s : Ly} (hg : gridOk g = true) (hs : layOk s = true) : LdOk (layD g s) := by
  obtain ⟨⟨h1, h2⟩, h3, h4⟩ := layOk_spec hs
  refine ⟨hg, by simpa [layD] using h1, h2, fun l hl => ?_, fun t ht => ?_⟩
  · obtain ⟨f, hf, rfl⟩ := List.mem_map.1 hl
    have hn := h3 f hf
    have hn2 := hn
    simp only [nodeOk, Bool.and_eq_true, btw_iff] at hn2
    have := count_len (mid_of hn2.1)
    exact ⟨⟨by omega, by omega⟩, fun q hq => node_plane hn hq⟩
  · have := h4 t ht
    simp only [traceOk, Bool.and_eq_true, btw_iff] at this
    refine ⟨t.1.toNat, t.2.toNat, Prod.ext (by simp; omega) (by simp; omega), ?_, ?_⟩ <;> simp [layD] <;> omega

theorem hits_in {L : Ld} (hL : LdOk L) {t : Nat} (ht : t < L.traces.length) : (hitsT L t).length ≤ 4096 ∧ ∀ c ∈ hitsT L t, c = noneC ∨ inG L.g c := by
  obtain ⟨i, j, hij, hi, hj⟩ := hL.tr _ (List.getElem_mem ht)
  have hT : hitsT L t = hitsL L.g L.places[i] L.places[j] := by
    unfold hitsT pl
    have e : L.traces.getD t (0, 0) = ((i : Int), (j : Int)) := by simp [ht, hij]
    rw [e]
    simp [hi, hj]
  have hpi := (hL.p _ (List.getElem_mem hi)).1
  have hpj := (hL.p _ (List.getElem_mem hj)).1
  rw [hT]
  refine ⟨?_, fun c hc => ?_⟩
  · have n1 : (hitsL L.g L.places[i] L.places[j]).Nodup := by
      unfold List.Nodup hitsL
      exact (hitsOf_sorted _).imp fun {a b} h (e : a = b) => befC_irrefl (by rw [e] at h; exact h)
    have := n1.length_le_of_subset (l₂ := (pairsL L.places[i] L.places[j]).map (cellP L.g)) fun x hx => mem_hitsOf.1 hx
    rw [List.length_map, pairs_len] at this
    have h2 : L.places[i].length * L.places[j].length ≤ 64 * 64 := Nat.mul_le_mul (by omega) (by omega)
    omega
  · obtain ⟨p, _, rfl⟩ := List.mem_map.1 (mem_hitsOf.1 hc)
    exact cell_in hL.g p.1 p.2

theorem sureL_sub {l : List (Int × Int)} : (∀ c ∈ sureL l, c ∈ l ∧ c ≠ noneC) ∧ (sureL l).length ≤ l.length ∧ (sureL l).length ≤ 1 := by
  rcases l with _ | ⟨c, _ | ⟨d, r⟩⟩
  · simp [sureL]
  · simp only [sureL]
    split <;> simp_all
  · simp [sureL]

theorem sure_in {L : Ld} (hL : LdOk L) {t : Nat} (ht : t < L.traces.length) : (sureT L t).length ≤ 4096 ∧ ∀ c ∈ sureT L t, c = noneC ∨ inG L.g c := by
  obtain ⟨h1, h2⟩ := hits_in hL ht
  have h3 := sureL_sub (l := hitsT L t)
  exact ⟨by unfold sureT; omega, fun c hc => h2 c (h3.1 c hc).1⟩

theorem c_countS {L : Ld} (hL : LdOk L) : C Tryz.prog F.bin_laid_count [.agg (laidC L), .func (.func F.bin_laid_surely) [.agg (laidC L)] []] (foldV (cntN L (sureT L))) :=
  c_count hL (fun t ht => c_surely hL ht) fun t ht => sure_in hL ht
theorem c_countM {L : Ld} (hL : LdOk L) : C Tryz.prog F.bin_laid_count [.agg (laidC L), .func (.func F.bin_laid_hits) [.agg (laidC L)] []] (foldV (cntN L (hitsT L))) :=
  c_count hL (fun t ht => c_hits hL ht) fun t ht => hits_in hL ht

/-! ### Hits -/
def HitsR (g : Gd) (s : Ly) (t : Int) : V := if gridOk g then (if layOk s then (if btw t 0 ((s.traces.length : Int) - 1) then .tuple [sB (hitsT (layD g s) t.toNat), I 0] else .tuple [sB [], I 72]) else .tuple [sB [], I 71]) else .tuple [sB [], I 70]

theorem c_Hits {g : Gd} {s : Ly} (hl : g.cls.length ≤ 9223372036854775807) (hn : s.nodes.length ≤ 9223372036854775807) (ht : s.traces.length ≤ 9223372036854775807) (t : Int) : C Tryz.prog F.bin_Hits [.agg (gridC g), .agg (layC s), I t] (HitsR g s t) := by
  have kb := c_begun hl hn ht
  unfold HitsR
  refine C_of mixed chk.bin_Hits (by simp) fun S ok => ?_
  refine Tr.seqR rfl (by simp) ?_
  by_cases hg : gridOk g = true
  rotate_left
  · rw [if_neg hg] at kb ⊢
    refine Tr.seqC rfl (by simp) (Steps.call rfl rfl kb (Steps.fin rfl (by simp) (Tr.seq (Tr.seqR rfl (by simp) (Tr.condT rfl (Tr.seqR rfl (by simp) ?_))))))
    refine Tr.weak (s' := { env := [(6, .slice 0 2 []), (7, I 70)], bx := [], rw := [], log := [], stp := false }) (Wk.le (.cons rfl (.nil 0 2) (.cons rfl (.refl _) .nil)) .nil .nil rfl rfl) ?_
    exact Tr.retX rfl rfl rfl rfl trivial
  rw [if_pos hg] at kb ⊢
  by_cases hs : layOk s = true
  rotate_left
  · rw [if_neg hs] at kb ⊢
    refine Tr.seqC rfl (by simp) (Steps.call rfl rfl kb (Steps.fin rfl (by simp) (Tr.seq (Tr.seqR rfl (by simp) (Tr.condT rfl (Tr.seqR rfl (by simp) ?_))))))
    refine Tr.weak (s' := { env := [(6, .slice 0 2 []), (7, I 71)], bx := [], rw := [], log := [], stp := false }) (Wk.le (.cons rfl (.nil 0 2) (.cons rfl (.refl _) .nil)) .nil .nil rfl rfl) ?_
    exact Tr.retX rfl rfl rfl rfl trivial
  rw [if_pos hs] at kb ⊢
  have hL := lay_ok hg hs
  have hts := (layOk_spec hs).1.2
  have hw : IntKind.wrap .i64 (((s.traces.map eB).length : Int) - 1) = (s.traces.length : Int) - 1 := by rw [List.length_map, w64 (by omega) (by omega)]
  refine Tr.seqC rfl (by simp) (Steps.call rfl rfl kb (Steps.fin rfl (by simp [laidC]) (Tr.seq (Tr.seqR rfl (by simp) (Tr.condF rfl (Tr.skip ?_))))))
  refine Tr.seq (Tr.seqC rfl (by simp) (Steps.call rfl rfl (c_within t 0 (IntKind.wrap .i64 (((s.traces.map eB).length : Int) - 1))) (Steps.fin rfl (by simp) ?_)))
  rw [hw]
  refine Tr.cond rfl rfl (fun h1 => Tr.seqR rfl (by simp) ?_) (fun h1 => Tr.skip ?_)
  · have h1 : btw t 0 ((s.traces.length : Int) - 1) = false := by simpa using h1
    refine Tr.weak (s' := { env := [(6, .slice 0 2 []), (7, I 72)], bx := [], rw := [], log := [], stp := false }) (Wk.le (.cons rfl (.nil 0 2) (.cons rfl (.refl _) .nil)) .nil .nil rfl rfl) ?_
    refine Tr.retX rfl rfl rfl ?_ trivial
    rw [h1]; rfl
  · have h1 : btw t 0 ((s.traces.length : Int) - 1) = true := by simpa using h1
    have h1' := h1
    rw [btw_iff] at h1'
    obtain ⟨n, rfl⟩ : ∃ n : Nat, t = n := ⟨t.toNat, by omega⟩
    refine Tr.seqC rfl (by simp [laidC, layD]) (Steps.call rfl rfl (c_hits hL (t := n) (by show n < s.traces.length; omega)) (Steps.fin rfl (by simp) (Tr.retX rfl rfl rfl ?_ trivial)))
    rw [h1]; rfl

/-! ### Fold -/
def FoldR (g : Gd) (s : Ly) : V := if gridOk g then (if layOk s then .tuple [foldV (cntN (layD g s) (sureT (layD g s))), foldV (cntN (layD g s) (hitsT (layD g s))), I 0] else .tuple [foldV [], foldV [], I 71]) else .tuple [foldV [], foldV [], I 70]

theorem c_Fold {g : Gd} {s : Ly} (hl : g.cls.length ≤ 9223372036854775807) (hn : s.nodes.length ≤ 9223372036854775807) (ht : s.traces.length ≤ 9223372036854775807) : C Tryz.prog F.bin_Fold [.agg (gridC g), .agg (layC s)] (FoldR g s) := by
  have kb := c_begun hl hn ht
  unfold FoldR
  refine C_of mixed chk.bin_Fold (by simp) fun S ok => ?_
  refine Tr.seqR rfl (by simp) ?_
  by_cases hg : gridOk g = true
  rotate_left
  · rw [if_neg hg] at kb ⊢
    refine Tr.seqC rfl (by simp) (Steps.call rfl rfl kb (Steps.fin rfl (by simp) (Tr.seq (Tr.seqR rfl (by simp) (Tr.condT rfl (Tr.seqR rfl (by simp) ?_))))))
    refine Tr.weak (s' := { env := [(4, .slice 0 1 []), (5, .slice 0 1 []), (6, I 70)], bx := [], rw := [], log := [], stp := false }) (Wk.le (.cons rfl (.nil 0 1) (.cons rfl (.nil 0 1) (.cons rfl (.refl _) .nil))) .nil .nil rfl rfl) ?_
    exact Tr.retX rfl rfl rfl rfl trivial
  rw [if_pos hg] at kb ⊢
  by_cases hs : layOk s = true
  rotate_left
  · rw [if_neg hs] at kb ⊢
    refine Tr.seqC rfl (by simp) (Steps.call rfl rfl kb (Steps.fin rfl (by simp) (Tr.seq (Tr.seqR rfl (by simp) (Tr.condT rfl (Tr.seqR rfl (by simp) ?_))))))
    refine Tr.weak (s' := { env := [(4, .slice 0 1 []), (5, .slice 0 1 []), (6, I 71)], bx := [], rw := [], log := [], stp := false }) (Wk.le (.cons rfl (.nil 0 1) (.cons rfl (.nil 0 1) (.cons rfl (.refl _) .nil))) .nil .nil rfl rfl) ?_
    exact Tr.retX rfl rfl rfl rfl trivial
  rw [if_pos hs] at kb ⊢
  have hL := lay_ok hg hs
  refine Tr.seqC rfl (by simp) (Steps.call rfl rfl kb (Steps.fin rfl (by simp [laidC]) (Tr.seq (Tr.seqR rfl (by simp) (Tr.condF rfl (Tr.skip ?_))))))
  refine Tr.seqD rfl (by simp [laidC, layD]) (by kernel_rfl) ?_
  refine Tr.seq (Tr.drawK (TraceK.run rfl (by simp [laidC, layD]) (TraceK.call rfl rfl (c_countS hL) (TraceK.run rfl (by simp [laidC, layD]) (TraceK.call rfl rfl (c_countM hL) (TraceK.run rfl (by simp) (.done ⟨by kernel_rfl, by kernel_rfl, ?_⟩)))))))
  exact Tr.retX rfl rfl rfl rfl trivial

end Go.Proofs.YtdejdblopmfjfaaGreatDoor


/-! Contracts: lacks, Lacks. -/
set_option linter.unusedVariables false
set_option linter.unusedSimpArgs false
set_option maxRecDepth 40000
set_option maxHeartbeats 4000000
namespace Go.Proofs.YtdejdblopmfjfaaGreatDoor
open Go.Am
attribute [local simp] cells scalar mkv splice under2 under dem dem1 eB gridC sB laidC fourC eF layC
def eL (x : Int × Int × Int) : V := .agg [I x.1, I x.2.1, I x.2.2]
attribute [local simp] eL
def lackAt (ns : List Int) (f : List (List Int)) (i k : Nat) : List (Int × Int × Int) := if at2 f i k < ns.getD k 0 then [((i : Int), (k : Int), ns.getD k 0 - at2 f i k)] else []
def lackRow (ns : List Int) (f : List (List Int)) (i j : Nat) : List (Int × Int × Int) := (List.range j).flatMap (lackAt ns f i)
def lackN (ns : List Int) (f : List (List Int)) (k : Nat) : List (Int × Int × Int) := (List.range k).flatMap fun i => lackRow ns f i ns.length
def lacksL (L : Ld) (ns : List Int) : List (Int × Int × Int) := lackN ns (cntN L (sureT L)) (cntN L (sureT L)).length
def sL (l : List (Int × Int × Int)) : V := .slice 0 3 (l.map eL)
attribute [local simp] sL
theorem lackRow_succ (ns : List Int) (f : List (List Int)) (i j : Nat) : lackRow ns f i (j + 1) = lackRow ns f i j ++ lackAt ns f i j := by
  unfold lackRow; rw [List.range_succ, List.flatMap_append]; simp
theorem lackN_succ (ns : List Int) (f : List (List Int)) (k : Nat) : lackN ns f (k + 1) = lackN ns f k ++ lackRow ns f k ns.length := by
  unfold lackN; rw [List.range_succ, List.flatMap_append]; simp
theorem lackRow_len (ns : List Int) (f : List (List Int)) (i : Nat) : ∀ j, (lackRow ns f i j).length ≤ j
  | 0 => by simp [lackRow]
  | j + 1 => by
    have := lackRow_len ns f i j
    have h2 : (lackAt ns f i j).length ≤ 1 := by unfold lackAt; split <;> simp
    rw [lackRow_succ, List.length_append]; omega
theorem lackN_len (ns : List Int) (f : List (List Int)) : ∀ k, (lackN ns f k).length ≤ k * ns.length
  | 0 => by simp [lackN]
  | k + 1 => by
    have := lackN_len ns f k
    have h2 := lackRow_len ns f k ns.length
    rw [lackN_succ, List.length_append, Nat.add_mul]; omega

theorem at2_get {f : List (List Int)} {i k : Nat} (h : i < f.length) (h2 : k < f[i].length) : at2 f i k = f[i][k] := by
  unfold at2; simp [h, h2]
theorem cntN_nat (L : Ld) (h : Nat → List (Int × Int)) (i k : Nat) : ∃ n : Nat, at2 (cntN L h) i k = n := by
  unfold at2 cntN
  simp only [List.getD_eq_getElem?_getD]
  by_cases hi : i < nBins L.g
  · rw [countL_get hi, Option.getD_some]
    by_cases hk : k < L.g.cls.length
    · rw [cntRow_get hk]; exact ⟨_, rfl⟩
    · rw [List.getElem?_eq_none (by rw [cntRow_len]; omega)]; exact ⟨0, rfl⟩
  · rw [List.getElem?_eq_none (l := countL L.g (allH h L.traces.length)) (by rw [countL_len]; omega)]; exact ⟨0, rfl⟩
theorem cntN_len (L : Ld) (h : Nat → List (Int × Int)) : (cntN L h).length = nBins L.g := countL_len _ _
theorem cntN_row {L : Ld} {h : Nat → List (Int × Int)} {i : Nat} (hi : i < (cntN L h).length) : ((cntN L h)[i]).length = L.g.cls.length := by
  have h1 : i < nBins L.g := by rw [cntN_len] at hi; exact hi
  have h2 : (cntN L h)[i]? = some (cntRow L.g.cls.length (allH h L.traces.length) i) := countL_get h1
  rw [List.getElem?_eq_getElem hi] at h2
  rw [Option.some.inj h2, cntRow_len]

theorem needOk_spec {g : Gd} {ns : List Int} (h : needOk g ns = true) : ns.length = g.cls.length ∧ ∀ n ∈ ns, 0 ≤ n ∧ n ≤ 100 := by
  simp only [needOk, Bool.and_eq_true, decide_eq_true_eq, Bool.not_eq_true', List.any_eq_false, Bool.not_eq_true, Bool.not_eq_false', btw_iff] at h
  exact ⟨h.1, fun n hn => by have := h.2 n hn; simpa [btw_iff] using this⟩

theorem c_lacks {L : Ld} (hL : LdOk L) {ns : List Int} (hn : needOk L.g ns = true) : C Tryz.prog F.bin_laid_lacks [.agg (laidC L), intsV ns] (sL (lacksL L ns)) := by
  obtain ⟨hnl, hnb⟩ := needOk_spec hn
  obtain ⟨_, hsz, hga, hgd, hcl, _⟩ := gridOk_spec hL.g
  have nb := nBins_eq hL.g
  have kc := c_countS hL
  have hat := cntN_nat L (sureT L)
  have hfl := cntN_len L (sureT L)
  have hfr := fun i hi => cntN_row (L := L) (h := sureT L) (i := i) hi
  unfold lacksL
  generalize cntN L (sureT L) = f at kc hat hfl hfr ⊢
  refine C_of mixed chk.bin_laid_lacks (by simp) fun S ok => ?_
  refine Tr.seqR rfl (by simp [laidC]) (Tr.seqR rfl (by simp) ?_)
  refine Tr.seq (Tr.seqC rfl (by simp [laidC]) (Steps.call rfl rfl kc (Steps.fin rfl (by simp [foldV]) (Tr.block ?_))))
  refine Tr.loop (α := Nat × List (Int × Int × Int)) (fun p st => (p.1 ≤ f.length ∧ p.2 = lackN ns f p.1) ∧ st = { env := [(1, intsV ns), (5, .slice 45 3 (p.2.map eL)), (13, foldV f), (14, I (f.length : Nat)), (15, I (p.1 : Nat))], bx := [], rw := [(44, p.2.length, 3, 117)], log := [], stp := false }) (fun p => f.length - p.1) (0, [])
    (Wk.le (.cons rfl (.refl _) (.cons rfl (.nil 45 3) (.cons rfl (.refl _) (.cons rfl (VLe.i (by simp)) (.cons rfl (.refl _) .nil))))) .nil (.new rfl .nil) rfl rfl) ⟨⟨by omega, rfl⟩, rfl⟩ ?_
  rintro ⟨i, out⟩ st ⟨⟨hi, ho⟩, rfl⟩
  simp only at hi ho
  refine Tr.seqR rfl (by simp) (Tr.seqI rfl (fun h1 => ?_) (fun h1 => ?_))
  · have h1 : i < f.length := by simpa using h1
    have hri := hfr i h1
    refine Tr.skipT (Tr.seq (Tr.block (Tr.seq (Tr.reg (Steps.runN 2 rfl (by simp [foldV]; omega) ?_)))))
    rw [getD_map h1]
    refine Steps.fin rfl (by simp [intsV]) ?_
    refine Tr.seqR rfl (by simp [intsV]) (Tr.block ?_)
    refine Tr.loop (α := Nat × List (Int × Int × Int)) (fun p st => (p.1 ≤ f[i].length ∧ p.2 = lackN ns f i ++ lackRow ns f i p.1) ∧ st = { env := [(1, intsV ns), (5, .slice 45 3 (p.2.map eL)), (6, I (i : Nat)), (13, foldV f), (14, I (f.length : Nat)), (15, I (i : Nat)), (20, intsV f[i]), (21, I (f[i].length : Nat)), (22, I (p.1 : Nat))], bx := [], rw := [(44, p.2.length, 3, 117)], log := [], stp := false }) (fun p => f[i].length - p.1) (0, out)
      (Wk.le (.cons rfl (.refl _) (.cons rfl (.refl _) (.cons rfl (.refl _) (.cons rfl (.refl _) (.cons rfl (.refl _) (.cons rfl (.refl _) (.cons rfl (.refl _) (.cons rfl (VLe.i (by show ((f[i].map I).length : Int) = (f[i].length : Int); rw [List.length_map])) (.cons rfl (.refl _) .nil))))))))) .nil (.cons rfl .nil) rfl rfl) ⟨⟨by omega, by simp [lackRow, ho]⟩, rfl⟩ ?_
    rintro ⟨j, o2⟩ st ⟨⟨hj, ho2⟩, rfl⟩
    simp only at hj ho2
    refine Tr.seqR rfl (by simp) (Tr.seqI rfl (fun h2 => ?_) (fun h2 => ?_))
    · have h2 : j < f[i].length := by simpa using h2
      have h3 : j < ns.length := by omega
      have hlen : o2.length ≤ 2000 := by
        have e1 := lackN_len ns f i
        have e2 := lackRow_len ns f i j
        have e3 : i * ns.length ≤ 256 * 4 := Nat.mul_le_mul (by omega) (by omega)
        rw [ho2, List.length_append]; omega
      obtain ⟨m, hm⟩ := hat i j
      have hm2 := hm
      rw [at2_get h1 h2] at hm
      have hnj := hnb _ (List.getElem_mem h3)
      have hgd : ns.getD j 0 = ns[j] := by simp [h3]
      refine Tr.skipT (Tr.seq (Tr.block (Tr.seq (Tr.reg (Steps.runN 2 rfl (by simp [intsV]; omega) ?_)))))
      rw [getD_map h2, hm]
      refine Steps.fin rfl (by simp) ?_
      refine Tr.seq (Tr.reg (Steps.runN 4 rfl (by simp [intsV]; omega) ?_))
      rw [getD_map h3]
      refine Steps.fin rfl (by simp) (Tr.cond rfl rfl (fun h4 => ?_) (fun h4 => Tr.skip ?_))
      · have h4 : (m : Int) < ns[j] := by simpa using h4
        refine Tr.reg (Steps.runN 6 rfl (by simp [intsV]; omega) ?_)
        rw [getD_map h3]
        refine Steps.fin rfl (by simp; omega) (Tr.regR rfl (by simp) ?_)
        have eA : lackRow ns f i (j + 1) = lackRow ns f i j ++ [((i : Int), (j : Int), ns[j] - m)] := by
          rw [lackRow_succ]; unfold lackAt; rw [hm2, hgd, if_pos h4]
        have ew : IntKind.wrap .i64 (ns[j] - m) = ns[j] - m := w64 (by omega) (by omega)
        refine ⟨(j + 1, o2 ++ [((i : Int), (j : Int), ns[j] - m)]), _, Wk.le (.cons rfl (.refl _) (.cons rfl (.of_eq ?_) (.cons rfl (.refl _) (.cons rfl (.refl _) (.cons rfl (.refl _) (.cons rfl (.refl _) (.cons rfl (.refl _) (.cons rfl (.refl _) (.cons rfl (VLe.i (w64 (by omega) (by omega))) .nil))))))))) .nil (.cons ?_ .nil) rfl rfl, ⟨⟨by simp only; omega, by simp only; rw [eA, ho2, List.append_assoc]⟩, rfl⟩, by simp only; omega⟩
        · simp [ew]
        · show some _ = some _
          simp
      · have h4 : ¬ (m : Int) < ns[j] := by simpa using h4
        refine Tr.regR rfl (by simp) ?_
        have eA : lackRow ns f i (j + 1) = lackRow ns f i j := by
          rw [lackRow_succ]; unfold lackAt; rw [hm2, hgd, if_neg h4, List.append_nil]
        exact ⟨(j + 1, o2), _, Wk.le (.cons rfl (.refl _) (.cons rfl (.refl _) (.cons rfl (.refl _) (.cons rfl (.refl _) (.cons rfl (.refl _) (.cons rfl (.refl _) (.cons rfl (.refl _) (.cons rfl (.refl _) (.cons rfl (VLe.i (w64 (by omega) (by omega))) .nil))))))))) .nil (.cons rfl .nil) rfl rfl, ⟨⟨by simp only; omega, by simp only; rw [eA, ho2]⟩, rfl⟩, by simp only; omega⟩
    · have h2 : j = f[i].length := by simp at h2; omega
      refine Tr.exit (Tr.regR rfl (by simp) ?_)
      exact ⟨(i + 1, o2), _, Wk.le (.cons rfl (.refl _) (.cons rfl (.refl _) (.cons rfl (.refl _) (.cons rfl (.refl _) (.cons rfl (VLe.i (w64 (by omega) (by omega))) .nil))))) .nil (.cons rfl .nil) rfl rfl, ⟨⟨by simp only; omega, by simp only; rw [ho2, lackN_succ, h2, hri, hnl]⟩, rfl⟩, by simp only; omega⟩
  · have h1 : i = f.length := by simp at h1; omega
    refine Tr.exit (Tr.seqR rfl (by simp) (Tr.retX rfl rfl rfl ?_ trivial))
    rw [← h1, ← ho]; rfl

def LacksR (g : Gd) (s : Ly) (ns : List Int) : V := if gridOk g then (if layOk s then (if needOk g ns then .tuple [sL (lacksL (layD g s) ns), I 0] else .tuple [sL [], I 73]) else .tuple [sL [], I 71]) else .tuple [sL [], I 70]

theorem c_Lacks {g : Gd} {s : Ly} (hl : g.cls.length ≤ 9223372036854775807) (hn : s.nodes.length ≤ 9223372036854775807) (ht : s.traces.length ≤ 9223372036854775807) {ns : List Int} (hns : ns.length ≤ 9223372036854775807) : C Tryz.prog F.bin_Lacks [.agg (gridC g), .agg (layC s), intsV ns] (LacksR g s ns) := by
  have kb := c_begun hl hn ht
  unfold LacksR
  refine C_of mixed chk.bin_Lacks (by simp) fun S ok => ?_
  refine Tr.seqR rfl (by simp) ?_
  by_cases hg : gridOk g = true
  rotate_left
  · rw [if_neg hg] at kb ⊢
    refine Tr.seqC rfl (by simp) (Steps.call rfl rfl kb (Steps.fin rfl (by simp) (Tr.seq (Tr.seqR rfl (by simp) (Tr.condT rfl (Tr.seqR rfl (by simp) ?_))))))
    refine Tr.weak (s' := { env := [(6, .slice 0 3 []), (7, I 70)], bx := [], rw := [], log := [], stp := false }) (Wk.le (.cons rfl (.nil 0 3) (.cons rfl (.refl _) .nil)) .nil .nil rfl rfl) ?_
    exact Tr.retX rfl rfl rfl rfl trivial
  rw [if_pos hg] at kb ⊢
  by_cases hs : layOk s = true
  rotate_left
  · rw [if_neg hs] at kb ⊢
    refine Tr.seqC rfl (by simp) (Steps.call rfl rfl kb (Steps.fin rfl (by simp) (Tr.seq (Tr.seqR rfl (by simp) (Tr.condT rfl (Tr.seqR rfl (by simp) ?_))))))
    refine Tr.weak (s' := { env := [(6, .slice 0 3 []), (7, I 71)], bx := [], rw := [], log := [], stp := false }) (Wk.le (.cons rfl (.nil 0 3) (.cons rfl (.refl _) .nil)) .nil .nil rfl rfl) ?_
    exact Tr.retX rfl rfl rfl rfl trivial
  rw [if_pos hs] at kb ⊢
  have hL := lay_ok hg hs
  refine Tr.seqC rfl (by simp) (Steps.call rfl rfl kb (Steps.fin rfl (by simp [laidC]) (Tr.seq (Tr.seqR rfl (by simp) (Tr.condF rfl (Tr.skip ?_))))))
  refine Tr.seq (Tr.seqC rfl (by simp) (Steps.call rfl rfl (c_needed (g := g) hns) (Steps.fin rfl (by simp) ?_)))
  refine Tr.cond rfl rfl (fun h1 => Tr.seqR rfl (by simp) ?_) (fun h1 => Tr.skip ?_)
  · have h1 : needOk g ns = false := by simpa using h1
    refine Tr.weak (s' := { env := [(6, .slice 0 3 []), (7, I 73)], bx := [], rw := [], log := [], stp := false }) (Wk.le (.cons rfl (.nil 0 3) (.cons rfl (.refl _) .nil)) .nil .nil rfl rfl) ?_
    refine Tr.retX rfl rfl rfl ?_ trivial
    rw [h1]; rfl
  · have h1 : needOk g ns = true := by simpa using h1
    refine Tr.seqC rfl (by simp [laidC, layD]) (Steps.call rfl rfl (c_lacks hL h1) (Steps.fin rfl (by simp) (Tr.retX rfl rfl rfl ?_ trivial)))
    rw [h1]; rfl

end Go.Proofs.YtdejdblopmfjfaaGreatDoor


/-! Contracts: sure, Gain. -/
set_option linter.unusedVariables false
set_option linter.unusedSimpArgs false
set_option maxRecDepth 40000
set_option maxHeartbeats 4000000
namespace Go.Proofs.YtdejdblopmfjfaaGreatDoor
open Go.Am
attribute [local simp] cells scalar mkv splice under2 under dem dem1 eB gridC sB laidC fourC eF layC
def sureC (L : Ld) : Nat := (allH (sureT L) L.traces.length).length
def knownL (L : Ld) (i : Nat) (p : Int × Int) : Ld := { L with places := L.places.set i [p] }
def leastStep (acc n : Int) : Int := if acc < 0 ∨ n < acc then n else acc
def leastL (l : List Int) : Int := l.foldl leastStep (-1)
def gainL (L : Ld) (i : Nat) : Int := leastL ((pl L i).map fun p => (sureC (knownL L i p) : Int)) - sureC L

theorem sure_bd {L : Ld} (hn : L.traces.length ≤ 64) : ∀ k ≤ L.traces.length, (allH (sureT L) k).length ≤ k
  | 0, _ => by simp [allH]
  | k + 1, hk => by
    have := sure_bd hn k (by omega)
    have h2 := (sureL_sub (l := hitsT L k)).2.2
    rw [allH_succ, List.length_append]
    unfold sureT at *; omega

theorem c_sure {L : Ld} (hL : LdOk L) : C Tryz.prog F.bin_laid_sure [.agg (laidC L)] (I (sureC L : Nat)) := by
  have hLt := hL.t
  refine C_of mixed chk.bin_laid_sure (by simp) fun S ok => ?_
  refine Tr.seqR rfl (by simp) (Tr.seqR rfl (by simp) (Tr.seq (Tr.seqR rfl (by simp) (Tr.block ?_))))
  refine Tr.loop (fun (k : Nat) st => k ≤ L.traces.length ∧ st = { env := [(1, .ptr 1 0), (3, I ((allH (sureT L) k).length : Nat)), (6, sB L.traces), (7, I (L.traces.length : Nat)), (8, I (k : Nat))], bx := [(1, ⟨laidC L, false⟩)], rw := [], log := [], stp := false }) (fun k => L.traces.length - k) 0
    (Wk.le (.cons rfl (.refl _) (.cons rfl (.refl _) (.cons rfl (.refl _) (.cons rfl (VLe.i (by simp)) (.cons rfl (.refl _) .nil))))) (.cons rfl (LLe.refl _) .nil) .nil rfl rfl) ⟨by omega, rfl⟩ ?_
  rintro k st ⟨hk, rfl⟩
  refine Tr.seqR rfl (by simp) (Tr.seqI rfl (fun h1 => ?_) (fun h1 => ?_))
  · have h1 : k < L.traces.length := by simpa using h1
    have hb := sure_bd hLt k hk
    have hb2 : (sureT L k).length ≤ 1 := (sureL_sub (l := hitsT L k)).2.2
    refine Tr.skipT (Tr.seq (Tr.block (Tr.seqR rfl (by simp) (Tr.reg (Steps.run rfl (by simp [laidC]) (Steps.call rfl rfl (c_surely hL h1) (Steps.fin rfl (by simp) ?_)))))))
    refine Tr.regR rfl (by simp) ?_
    refine ⟨k + 1, _, Wk.le (.cons rfl (.refl _) (.cons rfl (VLe.i ?_) (.cons rfl (.refl _) (.cons rfl (.refl _) (.cons rfl (VLe.i (w64 (by omega) (by omega))) .nil))))) (.cons rfl (LLe.refl _) .nil) .nil rfl rfl, ⟨by omega, rfl⟩, by omega⟩
    show IntKind.wrap .i64 (((allH (sureT L) k).length : Int) + (((sureT L k).map eB).length : Int)) = _
    rw [List.length_map, allH_succ, List.length_append, w64 (by omega) (by omega)]
    push_cast; rfl
  · have h1 : k = L.traces.length := by simp at h1; omega
    subst h1
    exact Tr.exit (Tr.seqR rfl (by simp) (Tr.retX rfl rfl rfl rfl trivial))

theorem flat_sB : ∀ (ls : List (List (Int × Int))), (ls.map sB).flatMap cells = ls.map sB
  | [] => rfl
  | l :: ls => by rw [List.map_cons, List.flatMap_cons, flat_sB ls]; rfl

theorem c_CloneP {ls : List (List (Int × Int))} (hne : ls ≠ []) (hl : ls.length ≤ 2 ^ 24) : CO Tryz.prog F.slices_Clone_api_Point_api_Point [.slice 0 1 (ls.map sB)] 1 (ls.map sB) := by
  refine CO_of mixed chk.slices_Clone_api_Point_api_Point (by simp) fun S ok => ?_
  refine Tr.seqR rfl (by simp) (Tr.seq (Tr.seq (Tr.reg (Steps.runN 1 rfl (by simp) ?_))))
  refine Steps.nilS rfl fun b hb => ?_
  obtain rfl := hb (by simpa using hne)
  refine Steps.fin rfl (by simp) (Tr.condF rfl (Tr.skip (Tr.seq (Tr.reg ?_))))
  refine Steps.mkE rfl fun blk => Steps.runN 1 rfl (by simp) ?_
  refine Steps.appendE (r := 0) (sz := 1) (ys := ls.map sB) rfl rfl (by omega) (by simp; omega) (by simp; omega) (by simpa using hne) ?_
  refine Steps.fin rfl (by simp) (Tr.ret ?_)
  exact ⟨7, rfl, rfl, by rw [flat_sB, List.all_eq_true]; intro x hx; obtain ⟨_, _, rfl⟩ := List.mem_map.1 hx; rfl⟩

theorem known_ok {L : Ld} (hL : LdOk L) {i : Nat} {p : Int × Int} (hp : planeB p = true) : LdOk (knownL L i p) := by
  refine ⟨hL.g, by simpa [knownL] using hL.n, hL.t, fun l hl => ?_, fun t ht => ?_⟩
  · rcases List.mem_or_eq_of_mem_set hl with hl | rfl
    · exact hL.p l hl
    · exact ⟨⟨by simp, by simp⟩, fun q hq => by rw [List.mem_singleton.1 hq]; exact hp⟩
  · obtain ⟨a, b, h1, h2, h3⟩ := hL.tr t ht
    exact ⟨a, b, h1, by simpa [knownL] using h2, by simpa [knownL] using h3⟩

theorem LLe.set {v u : V} (h : VLe v u) : ∀ (l : List V) (i : Nat), LLe (l.set i v) (l.set i u)
  | [], _ => .nil
  | a :: l, 0 => .cons h (LLe.refl l)
  | a :: l, i + 1 => .cons (.refl a) (LLe.set h l i)

theorem sBs_refs (ls : List (List (Int × Int))) (B : Nat → Bool) (R : Nat → Option (Nat × Nat × Nat)) : (ls.map sB).all (refsOk B R 6) = true := by
  rw [List.all_eq_true]
  intro x hx
  obtain ⟨_, _, rfl⟩ := List.mem_map.1 hx; rfl

theorem okSBs {j : Nat} {ls : List (List (Int × Int))} {env : List (Nat × V)} {bx : List (Nat × Box)} {rw : List (Nat × Nat × Nat × Nat)} (h : okRefs env ((j, ⟨[], false⟩) :: bx) rw = true) : okRefs env ((j, ⟨ls.map sB, false⟩) :: bx) rw = true := by
  have e : hasKey ((j, (⟨ls.map sB, false⟩ : Box)) :: bx) = hasKey ((j, (⟨[], false⟩ : Box)) :: bx) := rfl
  unfold okRefs at h ⊢
  rw [e]
  rw [Bool.and_eq_true] at h ⊢
  refine ⟨h.1, ?_⟩
  have h2 := h.2
  rw [List.all_cons, Bool.and_eq_true] at h2 ⊢
  exact ⟨sBs_refs _ _ _, h2.2⟩

theorem sBs_holds (ls : List (List (Int × Int))) : Holds (ls.map sB) 0 1 ls.length (ls.map sB) := by
  refine ⟨by omega, by simp, fun x hx => ?_, ?_, fun x hx => ?_⟩
  · obtain ⟨_, _, rfl⟩ := List.mem_map.1 hx; rfl
  · rw [flat_sB, List.drop_zero, Nat.mul_one, List.take_of_length_le (by simp)]
  · obtain ⟨_, _, rfl⟩ := List.mem_map.1 hx; rfl

def GainR (g : Gd) (s : Ly) (i : Int) : V := if gridOk g then (if layOk s then (if btw i 0 ((s.nodes.length : Int) - 1) then .tuple [I (gainL (layD g s) i.toNat), I 0] else .tuple [I 0, I 72]) else .tuple [I 0, I 71]) else .tuple [I 0, I 70]

theorem c_Gain {g : Gd} {s : Ly} (hl : g.cls.length ≤ 9223372036854775807) (hn : s.nodes.length ≤ 9223372036854775807) (ht : s.traces.length ≤ 9223372036854775807) (i : Int) : C Tryz.prog F.bin_Gain [.agg (gridC g), .agg (layC s), I i] (GainR g s i) := by
  have kb := c_begun hl hn ht
  unfold GainR
  refine C_of mixed chk.bin_Gain (by simp) fun S ok => ?_
  refine Tr.seqR rfl (by simp) ?_
  by_cases hg : gridOk g = true
  rotate_left
  · rw [if_neg hg] at kb ⊢
    refine Tr.seqC rfl (by simp) (Steps.call rfl rfl kb (Steps.fin rfl (by simp) (Tr.seq (Tr.seqR rfl (by simp) (Tr.condT rfl (Tr.seqR rfl (by simp) ?_))))))
    exact Tr.retX rfl rfl rfl rfl trivial
  rw [if_pos hg] at kb ⊢
  by_cases hs : layOk s = true
  rotate_left
  · rw [if_neg hs] at kb ⊢
    refine Tr.seqC rfl (by simp) (Steps.call rfl rfl kb (Steps.fin rfl (by simp) (Tr.seq (Tr.seqR rfl (by simp) (Tr.condT rfl (Tr.seqR rfl (by simp) ?_))))))
    exact Tr.retX rfl rfl rfl rfl trivial
  rw [if_pos hs] at kb ⊢
  have hL := lay_ok hg hs
  have hns := (layOk_spec hs).1.1
  have hw : IntKind.wrap .i64 (((s.nodes.map eF).length : Int) - 1) = (s.nodes.length : Int) - 1 := by rw [List.length_map, w64 (by omega) (by omega)]
  refine Tr.seqC rfl (by simp) (Steps.call rfl rfl kb (Steps.fin rfl (by simp [laidC]) (Tr.seq (Tr.seqR rfl (by simp) (Tr.condF rfl (Tr.skip ?_))))))
  refine Tr.seq (Tr.seqC rfl (by simp) (Steps.call rfl rfl (c_within i 0 (IntKind.wrap .i64 (((s.nodes.map eF).length : Int) - 1))) (Steps.fin rfl (by simp) ?_)))
  rw [hw]
  refine Tr.cond rfl rfl (fun h1 => Tr.seqR rfl (by simp) ?_) (fun h1 => Tr.skip ?_)
  · have h1 : btw i 0 ((s.nodes.length : Int) - 1) = false := by simpa using h1
    refine Tr.retX rfl rfl rfl ?_ trivial
    rw [h1]; rfl
  have h1 : btw i 0 ((s.nodes.length : Int) - 1) = true := by simpa using h1
  have h1' := h1
  rw [btw_iff] at h1'
  obtain ⟨n, rfl⟩ : ∃ n : Nat, i = n := ⟨i.toNat, by omega⟩
  rw [if_pos h1, Int.toNat_natCast]
  have hLn : n < (layD g s).places.length := by simp [layD]; omega
  obtain ⟨L, eL0⟩ : ∃ L, layD g s = L := ⟨_, rfl⟩
  rw [eL0] at hL hLn ⊢
  have hne : L.places ≠ [] := fun e => by rw [e] at hLn; simp at hLn
  have hLm := hL.n
  have hpl : pl L n = L.places[n] := by unfold pl; simp [hLn]
  have hpn := hL.p _ (List.getElem_mem hLn)
  have hLt := hL.t
  refine Tr.seqC rfl (by simp [laidC]) (Steps.call rfl rfl (c_sure hL) (Steps.fin rfl (by simp) ?_))
  refine Tr.seqR rfl (by simp) ?_
  refine Tr.seq (Tr.seq (Tr.reg (Steps.runN 4 rfl (by simp [laidC]; omega) ?_)))
  rw [getD_map hLn]
  refine Steps.fin rfl (by simp) (Tr.block ?_)
  unfold gainL leastL
  rw [hpl]
  obtain ⟨ps, hps⟩ : ∃ ps, L.places[n] = ps := ⟨_, rfl⟩
  rw [hps] at hpn ⊢
  obtain ⟨fs, hfs⟩ : ∃ fs : List Int, ps.map (fun p => (sureC (knownL L n p) : Int)) = fs := ⟨_, rfl⟩
  have hfl : fs.length = ps.length := by rw [← hfs, List.length_map]
  rw [hfs]
  refine Tr.loop (fun (k : Nat) st => (k ≤ ps.length ∧ -1 ≤ (fs.take k).foldl leastStep (-1) ∧ (fs.take k).foldl leastStep (-1) ≤ 64) ∧ st = { env := [(2, I (n : Nat)), (8, .ptr 8 0), (10, I (sureC L : Nat)), (11, I ((fs.take k).foldl leastStep (-1))), (38, sB ps), (39, I (ps.length : Nat)), (40, I (k : Nat))], bx := [(8, ⟨laidC L, false⟩)], rw := [], log := [], stp := false }) (fun k => ps.length - k) 0
    (Wk.le (.cons rfl (.refl _) (.cons rfl (.refl _) (.cons rfl (.refl _) (.cons rfl (.refl _) (.cons rfl (.refl _) (.cons rfl (VLe.i (by simp)) (.cons rfl (.refl _) .nil))))))) (.cons rfl (LLe.refl _) .nil) .nil rfl rfl) ⟨⟨by omega, by simp, by simp⟩, rfl⟩ ?_
  rintro k st ⟨⟨hk, ha1, ha2⟩, rfl⟩
  refine Tr.seqR rfl (by simp) (Tr.seqI rfl (fun h2 => ?_) (fun h2 => ?_))
  · have h2 : k < ps.length := by simpa using h2
    have hp := hpn.2 _ (List.getElem_mem h2)
    have hK := known_ok hL (i := n) hp
    refine Tr.skipT (Tr.seq (Tr.block (Tr.seq (Tr.reg (Steps.runN 1 rfl (by simp; omega) ?_)))))
    rw [getD_map h2]
    refine Steps.fin rfl (by simp) ?_
    refine Tr.seqR rfl (by simp [laidC]) ?_
    refine Tr.seq (Tr.reg (Steps.run rfl (by simp [laidC]) ?_))
    refine Steps.callO (ys := L.places.map sB) (sz := 1) rfl (fun _ => rfl) (c_CloneP hne (by omega)) rfl ?_
    rw [flat_sB]
    refine Steps.fin rfl (by simp) ?_
    refine Tr.seqR rfl (by simp; omega) ?_
    have eS : (knownL L n ps[k]).places.map sB = (L.places.map sB).set n (sB [ps[k]]) := by
      unfold knownL; rw [List.map_set]
    have eSl : ((knownL L n ps[k]).places.map sB).length = L.places.length := by simp [knownL]
    refine Tr.weak (s' := { env := [(2, I (n : Nat)), (8, .ptr 8 0), (10, I (sureC L : Nat)), (11, I ((fs.take k).foldl leastStep (-1))), (14, .ptr 14 0), (38, sB ps), (39, I (ps.length : Nat)), (40, I (k : Nat))], bx := [(47, ⟨(knownL L n ps[k]).places.map sB, false⟩), (14, ⟨gridC L.g ++ [sB L.traces, .bsl 47 0 1 L.places.length], false⟩), (8, ⟨laidC L, false⟩)], rw := [], log := [], stp := false })
      (Wk.le (.cons rfl (.refl _) (.cons rfl (.refl _) (.cons rfl (.refl _) (.cons rfl (.refl _) (.cons rfl (.refl _) (.cons rfl (.refl _) (.cons rfl (.refl _) (.cons rfl (.refl _) .nil)))))))) (.cons rfl ?_ (.cons rfl ?_ (.cons rfl (LLe.refl _) .nil))) .nil (okSBs rfl) rfl) ?_
    · rw [eS]
      show LLe (splice (L.places.map sB) (0 + ((n : Nat) : Int).toNat * 1) [.slice _ 2 [eB ps[k]]]) _
      rw [splice_set (by simp; omega), Nat.mul_one, Nat.zero_add, Int.toNat_natCast]
      exact LLe.set (VLe.dem _ _ _) _ _
    · exact .cons (.refl _) (.cons (.refl _) (.cons (.refl _) (.cons (.refl _) (.cons (.refl _) (.cons (.refl _) (.cons (.refl _) (.cons (.of_eq (by simp)) .nil)))))))
    have hH := sBs_holds (knownL L n ps[k]).places
    rw [show (knownL L n ps[k]).places.length = L.places.length by simp [knownL]] at hH
    refine Tr.weak (Wk.bslB (k := 14) (j := 7) (i := 47) (by decide) rfl rfl rfl hH) ?_
    refine Tr.seqC rfl (by simp) (Steps.call (us := [.agg (laidC (knownL L n ps[k]))]) rfl rfl (c_sure hK) (Steps.fin rfl (by simp) ?_))
    obtain ⟨N, hN⟩ : ∃ N, sureC (knownL L n ps[k]) = N := ⟨_, rfl⟩
    have hN64 : N ≤ 64 := by
      rw [← hN]
      have : sureC (knownL L n ps[k]) ≤ L.traces.length := sure_bd (L := knownL L n ps[k]) hLt _ (Nat.le_refl _)
      omega
    rw [hN]
    have hfk : k < fs.length := by omega
    have efk : fs[k] = (N : Int) := by
      have : (ps.map (fun p => (sureC (knownL L n p) : Int)))[k]'(by simp; omega) = (N : Int) := by rw [List.getElem_map, hN]
      simp only [hfs] at this; exact this
    obtain ⟨acc, hacc⟩ : ∃ acc, (fs.take k).foldl leastStep (-1) = acc := ⟨_, rfl⟩
    have eT : (fs.take (k + 1)).foldl leastStep (-1) = leastStep acc N := by
      rw [List.take_add_one, List.getElem?_eq_getElem hfk, List.foldl_append, hacc, efk]; rfl
    rw [hacc] at ha1 ha2 ⊢
    refine Tr.seqR rfl (by simp) (Tr.cond rfl rfl (fun h3 => Tr.regR rfl (by simp) (Tr.regR rfl (by simp) ?_)) (fun h3 => Tr.skip (Tr.regR rfl (by simp) ?_)))
    · have h3 : acc < 0 ∨ (N : Int) < acc := by
        have h3 : (bif decide (acc < 0) then true else decide ((N : Int) < acc)) = true := h3
        by_cases h : acc < 0
        · exact .inl h
        · simp [h] at h3; exact .inr h3
      have eS2 : leastStep acc N = N := by unfold leastStep; rw [if_pos h3]
      rw [eS2] at eT
      refine ⟨k + 1, _, Wk.le (.cons rfl (.refl _) (.cons rfl (.refl _) (.cons rfl (.refl _) (.cons rfl (VLe.i eT.symm) (.cons rfl (.refl _) (.cons rfl (.refl _) (.cons rfl (VLe.i (w64 (by omega) (by omega))) .nil))))))) (.cons rfl (LLe.refl _) .nil) .nil rfl rfl, ⟨⟨by omega, by omega, by omega⟩, rfl⟩, by omega⟩
    · have h3 : ¬ (acc < 0 ∨ (N : Int) < acc) := by
        have h3 : (bif decide (acc < 0) then true else decide ((N : Int) < acc)) = false := h3
        by_cases h : acc < 0
        · simp [h] at h3
        · simp [h] at h3; omega
      have eS2 : leastStep acc N = acc := by unfold leastStep; rw [if_neg h3]
      rw [eS2] at eT
      refine ⟨k + 1, _, Wk.le (.cons rfl (.refl _) (.cons rfl (.refl _) (.cons rfl (.refl _) (.cons rfl (VLe.i eT.symm) (.cons rfl (.refl _) (.cons rfl (.refl _) (.cons rfl (VLe.i (w64 (by omega) (by omega))) .nil))))))) (.cons rfl (LLe.refl _) .nil) .nil rfl rfl, ⟨⟨by omega, by omega, by omega⟩, rfl⟩, by omega⟩
  · have h2 : k = ps.length := by simp at h2; omega
    subst h2
    have hb : sureC L ≤ L.traces.length := sure_bd (L := L) hLt _ (Nat.le_refl _)
    rw [← hfl, List.take_length] at ha1 ha2 ⊢
    refine Tr.exit (Tr.seqR rfl (by simp) (Tr.retX rfl rfl rfl ?_ trivial))
    show _ = packR [I (IntKind.wrap .i64 (fs.foldl leastStep (-1) - (sureC L : Nat))), I 0]
    rw [w64 (by omega) (by omega)]; rfl

end Go.Proofs.YtdejdblopmfjfaaGreatDoor


/-! The chapter's examples: the bin chapter. -/
set_option linter.unusedVariables false
set_option linter.unusedSimpArgs false
set_option maxRecDepth 20000
namespace Go.Am
open Go.RowKit

/-! ### Guards that are known to hold -/
theorem compOp_noguard {P : Program} {nt : Nat} {slots : List (Option Nat)} {o : Oper} {d : Option Nat} {k : Am.K} {xs : List X} {g : Option (Nat × Bool)} (hc : compOp P nt slots o = some ⟨d, k, xs, g⟩) (sl : List (Option Nat)) : compOp P nt sl { o with guard := none } = some ⟨d, k, xs, none⟩ := by
  unfold compOp at hc ⊢
  cases h1 : opK P o.op with
  | none => rw [h1] at hc; cases hc
  | some q =>
    obtain ⟨k', os⟩ := q
    rw [h1] at hc
    simp only at hc
    cases h2 : os.mapM compX with
    | none => rw [h2] at hc; cases hc
    | some xs' =>
      rw [h2] at hc
      simp only at hc
      cases h3 : guardG slots o.guard with
      | none => rw [h3] at hc; cases hc
      | some g' =>
        rw [h3] at hc
        simp only at hc
        cases h4 : dstOk nt k' o.dst with
        | false => rw [h4] at hc; cases hc
        | true =>
          rw [h4] at hc
          cases hc
          simp only [h1, h2, h4, cond_true]
          rfl

theorem Step1.on {E : Env} {K : St → Prop} {s : St} {d : Option Nat} {k : Am.K} {xs : List X} {t : Nat} {want : Bool} {gv : V} (hgv : Am.get s.env t = some gv) (hgb : guardOf want gv = some true) (h : Step1 E ⟨d, k, xs, none⟩ K s) : Step1 E ⟨d, k, xs, some (t, want)⟩ K s := by
  refine Step1.raw fun slots ops o i ro n a w g hc hs hi R Q next hn => ?_
  have hc' := compOp_noguard hc (#[{ o with guard := none }].toList.map (·.dst))
  have h1 := step_ok (ro := ro) (n := n) (ops := #[{ o with guard := none }]) (i := 0) h hc' rfl rfl R (Q := Q) (next := next) hn
  unfold wpOpIn at h1 ⊢
  obtain ⟨os, cc⟩ := comp_of hc
  obtain ⟨j, want', t', g1, g2, g3⟩ : ∃ j want t, o.guard = some (j, want) ∧ slots[j]? = some (some t) ∧ (some (t, want)) = (some (t, want)) ∧ True := by
    rcases cc.guard with ⟨e, _⟩ | ⟨j, w', t', e1, e2, e3⟩
    · cases e
    · exact ⟨j, w', t', e1, e2, rfl, trivial⟩
  have hw : Region.wanted o (yielded ops a.tmps) = true := by
    rcases cc.guard with ⟨e, _⟩ | ⟨j, w', t', e1, e2, e3⟩
    · cases e
    · cases e3
      exact (guard_wanted R hs e1 e2 (by rw [fs_g]; exact hgv) hgb).1 rfl
  simp only [hi, hw, if_true]
  have hw' : Region.wanted { o with guard := none } (yielded #[{ o with guard := none }] a.tmps) = true := by unfold Region.wanted; rfl
  simp only [List.getElem?_toArray, List.getElem?_cons_zero, hw', if_true] at h1
  exact h1

theorem Steps.on {E : Env} {K : St → Prop} {s : St} {d : Option Nat} {k : Am.K} {xs : List X} {t : Nat} {want : Bool} {gv : V} {rest : List Ins} (hgv : Am.get s.env t = some gv) (hgb : guardOf want gv = some true) (h : Am.Steps E (⟨d, k, xs, none⟩ :: rest) K s) : Am.Steps E (⟨d, k, xs, some (t, want)⟩ :: rest) K s := Step1.on hgv hgb h

/-- One step where guards are known to hold. -/
def stepG (ins : Ins) (s : St) : Option (Prop × Eff × List Loc) :=
  match ins.g with
  | none => stepP ins s
  | some (t, want) => match Am.get s.env t with
    | some (.bool b) => match b == want with
      | true => stepP { ins with g := none } s
      | false => none
    | _ => none

theorem step_G {E : Env} {ins : Ins} {s : St} {p : Prop} {eff : Eff} {rd : List Loc} {K : St → Prop} (h : stepG ins s = some (p, eff, rd)) (hp : p) (hk : K ((s.eff eff).put ins.d eff.v)) : Step1 E ins K s := by
  obtain ⟨d, k, xs, g⟩ := ins
  unfold stepG at h
  cases g with
  | none => exact .does (stepP_ok h hp) hk
  | some tw =>
    obtain ⟨t, want⟩ := tw
    simp only at h
    split at h
    · rename_i b hb
      split at h
      · rename_i hbw
        exact Step1.on hb (by simp only [guardOf, hbw]) (.does (stepP_ok h hp) hk)
      · cases h
    · cases h

def runG : List Ins → St → Prop → Prop × St × List Ins
  | [], s, p => (p, s, [])
  | i :: r, s, p => match stepG i s with
    | some (q, eff, _) => runG r ((s.eff eff).put i.d eff.v) (p ∧ q)
    | none => (p, s, i :: r)

theorem runG_pre : ∀ (il : List Ins) (s : St) (p : Prop), (runG il s p).1 → p
  | [], s, p, h => h
  | i :: r, s, p, h => by
    unfold runG at h
    split at h
    · exact (runG_pre r _ _ h).1
    · exact h

theorem runG_ok {E : Env} {K : St → Prop} : ∀ (il : List Ins) (s : St) (p : Prop), (runG il s p).1 → Am.Steps E (runG il s p).2.2 K (runG il s p).2.1 → Am.Steps E il K s
  | [], s, p, _, h => h
  | i :: r, s, p, h1, h2 => by
    unfold runG at h1 h2
    split at h1
    · rename_i q eff rd hq
      rw [hq] at h2
      exact step_G hq (runG_pre r _ _ h1).2 (runG_ok r _ _ h1 h2)
    · rename_i hq
      rw [hq] at h2
      exact h2

theorem Steps.runG {E : Env} {K : St → Prop} {s s' : St} {il rest : List Ins} {p : Prop} (h : Am.runG il s True = (p, s', rest)) (hp : p) (hs : Am.Steps E rest K s') : Am.Steps E il K s := by
  refine runG_ok il s True ?_ ?_
  · rw [h]; exact hp
  · rw [h]; exact hs

/-- At most so many instructions, where guards are known to hold. -/
def runGN : Nat → List Ins → St → Prop → Prop × St × List Ins
  | 0, il, s, p => (p, s, il)
  | _ + 1, [], s, p => (p, s, [])
  | n + 1, i :: r, s, p => match stepG i s with
    | some (q, eff, _) => runGN n r ((s.eff eff).put i.d eff.v) (p ∧ q)
    | none => (p, s, i :: r)

theorem runGN_pre : ∀ (n : Nat) (il : List Ins) (s : St) (p : Prop), (runGN n il s p).1 → p
  | 0, il, s, p, h => h
  | _ + 1, [], s, p, h => h
  | n + 1, i :: r, s, p, h => by
    unfold runGN at h
    split at h
    · exact (runGN_pre n r _ _ h).1
    · exact h

theorem runGN_ok {E : Env} {K : St → Prop} : ∀ (n : Nat) (il : List Ins) (s : St) (p : Prop), (runGN n il s p).1 → Am.Steps E (runGN n il s p).2.2 K (runGN n il s p).2.1 → Am.Steps E il K s
  | 0, il, s, p, _, h => h
  | _ + 1, [], s, p, _, h => h
  | n + 1, i :: r, s, p, h1, h2 => by
    unfold runGN at h1 h2
    split at h1
    · rename_i q eff rd hq
      rw [hq] at h2
      exact step_G hq (runGN_pre n r _ _ h1).2 (runGN_ok n r _ _ h1 h2)
    · rename_i hq
      rw [hq] at h2
      exact h2

theorem Steps.runGN {E : Env} {K : St → Prop} (n : Nat) {s s' : St} {il rest : List Ins} {p : Prop} (h : Am.runGN n il s True = (p, s', rest)) (hp : p) (hs : Am.Steps E rest K s') : Am.Steps E il K s := by
  refine runGN_ok n il s True ?_ ?_
  · rw [h]; exact hp
  · rw [h]; exact hs

theorem Steps.strEq {E : Env} {K : St → Prop} {s : St} {d : Nat} {x y : X} {a : ByteArray} {rest : List Ins} (hx : evXs s.env [x, y] = some [.str a, .str a]) (hk : Am.Steps E rest K (s.put (some d) (.bool true))) : Am.Steps E (⟨some d, .bin .eql, [x, y], none⟩ :: rest) K s := by
  refine Step1.does (ins := ⟨some d, .bin .eql, [x, y], none⟩) (eff := { v := .bool true }) (rd := xslots [x, y]) (stepP_ok (p := True) ?_ trivial) hk
  unfold stepP
  rw [hx]
  simp [evalK, nilOk]

end Go.Am

namespace Go.Proofs.YtdejdblopmfjfaaGreatDoor
open Go.Am
attribute [local simp] cells scalar mkv splice under2 under dem dem1 eB gridC sB fourC eF layC eQ nfC intsV foldV
theorem c_bound (a b : Int) : C Tryz.prog F.law07_bound [I a, I b] (.agg [I a, I b]) := by
  refine C_of mixed chk.law07_bound (by simp) fun S ok => ?_
  exact Tr.seqR rfl (by simp) (Tr.seqR rfl (by simp) (Tr.retX rfl rfl rfl rfl trivial))

def spotF (x y : Int) : Fr := ⟨(x, x), (y, y), (w (x + y), w (x + y)), (w (x - y), w (x - y))⟩
theorem c_spot (x y : Int) : C Tryz.prog F.law07_spot [I x, I y] (eF (spotF x y)) := by
  refine C_of mixed chk.law07_spot (by simp) fun S ok => ?_
  refine Tr.seqR rfl (by simp) (Tr.seqC rfl (by simp) ?_)
  refine Steps.call rfl rfl (c_bound x x) (Steps.run rfl (by simp) ?_)
  refine Steps.call rfl rfl (c_bound y y) (Steps.run rfl (by simp) ?_)
  refine Steps.call rfl rfl (c_bound (w (x + y)) (w (x + y))) (Steps.run rfl (by simp) ?_)
  refine Steps.call rfl rfl (c_bound (w (x - y)) (w (x - y))) (Steps.fin rfl (by simp) (Tr.retX rfl rfl rfl rfl trivial))

def exG : Gd := ⟨(0, 0), 2, 3, 2, [(0, 25), (26, 400)]⟩
def exY : Ly := ⟨[⟨(1, 1), (1, 1), (2, 2), (0, 0)⟩, ⟨(3, 3), (3, 3), (6, 6), (0, 0)⟩, ⟨(7, 9), (3, 3), (10, 12), (4, 6)⟩], [(0, 1), (0, 2), (1, 2)]⟩
def exN : Nf := ⟨[2, 1], [⟨4, [2, 0]⟩, ⟨3, [0, 1]⟩, ⟨5, [1, 1]⟩, ⟨6, [2, 1]⟩]⟩

theorem c_grid : C Tryz.prog F.law07_grid [] (.agg (gridC exG)) := by
  refine C_of mixed chk.law07_grid (by simp) fun S ok => ?_
  refine Tr.seqR rfl (by simp) (Tr.seqC rfl (by simp) ?_)
  refine Steps.call rfl rfl (c_bound 0 25) (Steps.run rfl (by simp) ?_)
  refine Steps.call rfl rfl (c_bound 26 400) (Steps.fin rfl (by simp) (Tr.retX rfl rfl rfl rfl trivial))

theorem c_lines : C Tryz.prog F.law07_lines [] (.agg (layC exY)) := by
  refine C_of mixed chk.law07_lines (by simp) fun S ok => ?_
  refine Tr.seqR rfl (by simp) (Tr.seqC rfl (by simp) ?_)
  refine Steps.call rfl rfl (c_spot 1 1) (Steps.run rfl (by simp) ?_)
  refine Steps.call rfl rfl (c_spot 3 3) (Steps.run rfl (by simp) ?_)
  refine Steps.call rfl rfl (c_bound 7 9) (Steps.run rfl (by simp) ?_)
  refine Steps.call rfl rfl (c_bound 3 3) (Steps.run rfl (by simp) ?_)
  refine Steps.call rfl rfl (c_bound 10 12) (Steps.run rfl (by simp) ?_)
  refine Steps.call rfl rfl (c_bound 4 6) (Steps.fin rfl (by simp) (Tr.retX rfl rfl rfl rfl trivial))

theorem c_gaps : C Tryz.prog F.law07_gaps [] (.agg (nfC exN)) := by
  refine C_of mixed chk.law07_gaps (by simp) fun S ok => ?_
  exact Tr.seqR rfl (by simp) (Tr.seqR rfl (by simp) (Tr.retX rfl rfl rfl rfl trivial))

theorem c_cells (l l' : List (Int × Int)) (hl : l.length ≤ 9223372036854775807) : C Tryz.prog F.law07_cells [sB l, sB l'] (.bool (decide (l = l'))) := by
  refine C_of mixed chk.law07_cells (by simp) fun S ok => ?_
  refine Tr.seqR rfl (by simp) (Tr.seq (Tr.seqR rfl (by simp) ?_))
  refine Tr.cond rfl rfl (fun h1 => Tr.seqR rfl (by simp) (Tr.retX rfl rfl rfl ?_ trivial)) (fun h1 => Tr.skip ?_)
  · have h1 : (((l.map eB).length : Int) != ((l'.map eB).length : Int)) = true := h1
    simp only [packR, V.bool.injEq]
    rw [decide_eq_false]
    rintro rfl
    simp at h1
  · have h1 : (((l.map eB).length : Int) != ((l'.map eB).length : Int)) = false := h1
    have hll : l.length = l'.length := by simp at h1; omega
    refine Tr.seq (Tr.seqR rfl (by simp) (Tr.block ?_))
    refine Tr.loop (fun k st => (k ≤ l.length ∧ l.take k = l'.take k) ∧ st = { env := [(0, sB l), (1, sB l'), (5, I k)], bx := [], rw := [], log := [], stp := false }) (fun k => l.length - k) 0
      (Wk.le (.cons rfl (.refl _) (.cons rfl (.refl _) (.cons rfl (.refl _) .nil))) .nil .nil rfl rfl) ⟨⟨by omega, by simp⟩, rfl⟩ ?_
    rintro k st ⟨⟨hk, he⟩, rfl⟩
    refine Tr.seq (Tr.seqR rfl (by simp) (Tr.cond rfl rfl (fun h3 => ?_) (fun h3 => ?_)))
    · have h3 : k < l.length := by simpa using h3
      have h4 : k < l'.length := by omega
      refine Tr.skip (Tr.seq (Tr.block (Tr.seq (Tr.drawK (TraceK.runN 3 rfl (by simp; omega) ?_)))))
      rw [getD_map h3]
      refine TraceK.runN 4 rfl (by simp; omega) ?_
      rw [getD_map h4]
      refine TraceK.run rfl (by simp) (.done ⟨by kernel_rfl, by kernel_rfl, ?_⟩)
      refine Tr.cond rfl rfl (fun h5 => Tr.seqR rfl (by simp) (Tr.retX rfl rfl rfl ?_ trivial)) (fun h5 => Tr.skip (Tr.regR rfl (by simp) ?_))
      · have h5 : l[k] ≠ l'[k] := by
          intro e; rw [e] at h5; simp at h5
        simp only [packR, V.bool.injEq]
        rw [decide_eq_false]
        rintro rfl
        exact h5 rfl
      · have h5 : l[k] = l'[k] := by
          have := h5
          simp at this
          exact Prod.ext this.1 this.2
        exact ⟨k + 1, _, Wk.le (.cons rfl (.refl _) (.cons rfl (.refl _) (.cons rfl (VLe.i (w64 (by omega) (by omega))) .nil))) .nil .nil rfl rfl, ⟨⟨h3, take_ext h3 h4 he h5⟩, rfl⟩, by omega⟩
    · have h3 : k = l.length := by simp at h3; omega
      subst h3
      refine Tr.exit (Tr.seqR rfl (by simp) (Tr.retX rfl rfl rfl ?_ trivial))
      rw [List.take_length, hll, List.take_length] at he
      simp [packR, he]

theorem c_AlikeLists (l l' : List (List Int)) (hl : l.length ≤ 9223372036854775807) (hr : ∀ r ∈ l, r.length ≤ 9223372036854775807) : C Tryz.prog F.ref00_AlikeLists [foldV l, foldV l'] (.bool (decide (l = l'))) := by
  refine C_of mixed chk.ref00_AlikeLists (by simp) fun S ok => ?_
  refine Tr.seqR rfl (by simp) (Tr.seq (Tr.seqR rfl (by simp) ?_))
  refine Tr.cond rfl rfl (fun h1 => Tr.seqR rfl (by simp) (Tr.retX rfl rfl rfl ?_ trivial)) (fun h1 => Tr.skip ?_)
  · have h1 : (((l.map intsV).length : Int) != ((l'.map intsV).length : Int)) = true := h1
    simp only [packR, V.bool.injEq]
    rw [decide_eq_false]
    rintro rfl
    simp at h1
  · have h1 : (((l.map intsV).length : Int) != ((l'.map intsV).length : Int)) = false := h1
    have hll : l.length = l'.length := by simp at h1; omega
    refine Tr.seq (Tr.seqR rfl (by simp) (Tr.block ?_))
    refine Tr.loop (fun k st => (k ≤ l.length ∧ l.take k = l'.take k) ∧ st = { env := [(0, foldV l), (1, foldV l'), (5, I k)], bx := [], rw := [], log := [], stp := false }) (fun k => l.length - k) 0
      (Wk.le (.cons rfl (.refl _) (.cons rfl (.refl _) (.cons rfl (.refl _) .nil))) .nil .nil rfl rfl) ⟨⟨by omega, by simp⟩, rfl⟩ ?_
    rintro k st ⟨⟨hk, he⟩, rfl⟩
    refine Tr.seq (Tr.seqR rfl (by simp) (Tr.cond rfl rfl (fun h3 => ?_) (fun h3 => ?_)))
    · have h3 : k < l.length := by simpa using h3
      have h4 : k < l'.length := by omega
      refine Tr.skip (Tr.seq (Tr.block (Tr.seq (Tr.drawK (TraceK.runN 3 rfl (by simp; omega) ?_)))))
      rw [getD_map h3]
      refine TraceK.runN 4 rfl (by simp; omega) ?_
      rw [getD_map h4]
      refine TraceK.run rfl (by simp) (TraceK.call rfl rfl (c_Alike l[k] l'[k] (hr _ (List.getElem_mem h3))) (TraceK.run rfl (by simp) (.done ⟨by kernel_rfl, by kernel_rfl, ?_⟩)))
      refine Tr.cond rfl rfl (fun h5 => Tr.seqR rfl (by simp) (Tr.retX rfl rfl rfl ?_ trivial)) (fun h5 => Tr.skip (Tr.regR rfl (by simp) ?_))
      · have h5 : (!decide (l[k] = l'[k])) = true := h5
        simp only [packR, V.bool.injEq]
        rw [decide_eq_false]
        rintro rfl
        simp at h5
      · have h5 : (!decide (l[k] = l'[k])) = false := h5
        have h5 : l[k] = l'[k] := by simpa using h5
        exact ⟨k + 1, _, Wk.le (.cons rfl (.refl _) (.cons rfl (.refl _) (.cons rfl (VLe.i (w64 (by omega) (by omega))) .nil))) .nil .nil rfl rfl, ⟨⟨h3, take_ext h3 h4 he h5⟩, rfl⟩, by omega⟩
    · have h3 : k = l.length := by simp at h3; omega
      subst h3
      refine Tr.exit (Tr.seqR rfl (by simp) (Tr.retX rfl rfl rfl ?_ trivial))
      rw [List.take_length, hll, List.take_length] at he
      simp [packR, he]

end Go.Proofs.YtdejdblopmfjfaaGreatDoor


/-! The chapter's examples come out as it says. -/
set_option linter.unusedVariables false
set_option linter.unusedSimpArgs false
set_option maxRecDepth 40000
set_option maxHeartbeats 4000000
namespace Go.Proofs.YtdejdblopmfjfaaGreatDoor
open Go.Am
attribute [local simp] cells scalar mkv splice under2 under dem dem1 eB gridC sB fourC eF layC eQ nfC intsV foldV eL sL eC cutsV
theorem ex1 : (if gridOk exG then (if planeB (1, 1) && planeB (9, 3) then .tuple [eB (cellN exG (1, 1) (9, 3)), I 0] else .tuple [.agg [I 0, I 0], I 10]) else .tuple [.agg [I 0, I 0], I 70] : V) = .tuple [eB (5, 1), I 0] := by kernel_rfl
theorem ex2 : HitsR exG exY 2 = .tuple [sB [(-1, -1), (5, 0)], I 0] := by kernel_rfl
theorem ex3 : FoldR exG exY = .tuple [foldV [[0, 0], [0, 0], [0, 0], [0, 0], [1, 0], [0, 1]], foldV [[0, 0], [0, 0], [0, 0], [0, 0], [1, 0], [1, 1]], I 0] := by kernel_rfl
theorem ex4 : MapR exG [[0, 0], [0, 0], [0, 0], [0, 0], [1, 0], [0, 1]] 0 = .tuple [.str ⟨#[46, 49, 46, 10, 46, 46, 46, 10]⟩, I 0] := by kernel_rfl
theorem ex5 : LacksR exG exY [0, 2] = .tuple [sL [(0, 1, 2), (1, 1, 2), (2, 1, 2), (3, 1, 2), (4, 1, 2), (5, 1, 1)], I 0] := by kernel_rfl
theorem ex6 : GainR exG exY 2 = .tuple [I 0, I 0] := by kernel_rfl
theorem ex7 : BestR exN = .tuple [intsV [3], I 6, I 0] := by kernel_rfl
theorem ex8 : WithoutR exN 3 = .tuple [I 1, I 0] := by kernel_rfl
theorem ex9 : BoundR exN [⟨-1, [2, 2]⟩] = .tuple [I 6, I 0] := by kernel_rfl

theorem exG_l : exG.cls.length ≤ 9223372036854775807 := by decide
theorem exY_n : exY.nodes.length ≤ 9223372036854775807 := by decide
theorem exY_t : exY.traces.length ≤ 9223372036854775807 := by decide
theorem exN_a : ∀ p ∈ exN.passes, p.adds.length ≤ 9223372036854775807 := by decide
theorem exF_r : ∀ r ∈ ([[0, 0], [0, 0], [0, 0], [0, 0], [1, 0], [0, 1]] : List (List Int)), r.length ≤ 9223372036854775807 := by decide
theorem exF2_r : ∀ r ∈ ([[0, 0], [0, 0], [0, 0], [0, 0], [1, 0], [1, 1]] : List (List Int)), r.length ≤ 9223372036854775807 := by decide

/-- **THE CHAPTER's EXAMPLES** come out as it says. -/
theorem c_works : C Tryz.prog F.law07_works [] (.bool true) := by
  refine C_of mixed chk.law07_works (by simp) fun S ok => ?_
  refine Tr.seqR rfl (by simp) ?_
  refine Tr.seqC rfl (by simp) (Steps.call rfl rfl c_grid (Steps.run rfl (by simp) ?_))
  refine Steps.call rfl rfl (ex1 ▸ c_Cell exG_l (1, 1) (9, 3)) (Steps.fin rfl (by simp) ?_)
  refine Tr.seqC rfl (by simp) (Steps.call rfl rfl c_grid (Steps.run rfl (by simp) ?_))
  refine Steps.call rfl rfl c_lines (Steps.run rfl (by simp) ?_)
  refine Steps.call rfl rfl (ex2 ▸ c_Hits exG_l exY_n exY_t 2) (Steps.fin rfl (by simp) ?_)
  refine Tr.seqC rfl (by simp) (Steps.call rfl rfl c_grid (Steps.run rfl (by simp) ?_))
  refine Steps.call rfl rfl c_lines (Steps.run rfl (by simp) ?_)
  refine Steps.call rfl rfl (ex3 ▸ c_Fold exG_l exY_n exY_t) (Steps.fin rfl (by simp) ?_)
  refine Tr.seq (Tr.seq (Tr.reg (Steps.runG rfl (by simp) ?_)))
  refine Steps.on rfl rfl (Steps.call rfl rfl (c_cells [(-1, -1), (5, 0)] [(-1, -1), (5, 0)] (by decide)) (Steps.runG rfl (by simp) ?_))
  refine Steps.on rfl rfl (Steps.call rfl rfl (c_AlikeLists [[0, 0], [0, 0], [0, 0], [0, 0], [1, 0], [0, 1]] [[0, 0], [0, 0], [0, 0], [0, 0], [1, 0], [0, 1]] (by decide) exF_r) (Steps.runG rfl (by simp) ?_))
  refine Steps.on rfl rfl (Steps.call rfl rfl (c_AlikeLists [[0, 0], [0, 0], [0, 0], [0, 0], [1, 0], [1, 1]] [[0, 0], [0, 0], [0, 0], [0, 0], [1, 0], [1, 1]] (by decide) exF2_r) (Steps.runG rfl (by simp) ?_))
  refine Tr.condF (by kernel_rfl) (Tr.skip ?_)
  refine Tr.seqC rfl (by simp) (Steps.call rfl rfl c_grid (Steps.run rfl (by simp) ?_))
  refine Steps.call rfl rfl (ex4 ▸ c_Map exG_l exF_r (by decide) 0) (Steps.fin rfl (by simp) ?_)
  refine Tr.seqC rfl (by simp) (Steps.call rfl rfl c_grid (Steps.run rfl (by simp) ?_))
  refine Steps.call rfl rfl c_lines (Steps.run rfl (by simp) ?_)
  refine Steps.call rfl rfl (ex5 ▸ c_Lacks exG_l exY_n exY_t (ns := [0, 2]) (by decide)) (Steps.fin rfl (by simp) ?_)
  refine Tr.seqC rfl (by simp) (Steps.call rfl rfl c_grid (Steps.run rfl (by simp) ?_))
  refine Steps.call rfl rfl c_lines (Steps.run rfl (by simp) ?_)
  refine Steps.call rfl rfl (ex6 ▸ c_Gain exG_l exY_n exY_t 2) (Steps.fin rfl (by simp) ?_)
  refine Tr.seqC rfl (by simp) (Steps.call rfl rfl c_gaps (Steps.run rfl (by simp) ?_))
  refine Steps.call rfl rfl (ex7 ▸ c_Best exN_a) (Steps.fin rfl (by simp) ?_)
  refine Tr.seqC rfl (by simp) (Steps.call rfl rfl c_gaps (Steps.run rfl (by simp) ?_))
  refine Steps.call rfl rfl (ex8 ▸ c_Without exN_a 3) (Steps.fin rfl (by simp) ?_)
  refine Tr.seqC rfl (by simp) (Steps.call rfl rfl c_gaps (Steps.run rfl (by simp) ?_))
  refine Steps.call rfl rfl (ex9 ▸ c_Bound exN_a (pf := [⟨-1, [2, 2]⟩]) (by decide)) (Steps.fin rfl (by simp) ?_)
  refine Tr.seq (Tr.reg (Steps.runGN 24 rfl (by simp) ?_))
  refine Steps.on rfl rfl (Steps.strEq rfl (Steps.runG rfl (by simp) ?_))
  refine Steps.on rfl rfl (Steps.call rfl rfl (c_Alike [3] [3] (by decide)) (Steps.runG rfl (by simp) ?_))
  exact Tr.retX rfl rfl rfl (by kernel_rfl) trivial

end Go.Proofs.YtdejdblopmfjfaaGreatDoor


/-! Contracts: what a number leaves. -/
set_option linter.unusedVariables false
set_option linter.unusedSimpArgs false
set_option maxRecDepth 40000
set_option maxHeartbeats 4000000
namespace Go.Proofs.YtdejdblopmfjfaaGreatDoor
open Go.Am
attribute [local simp] cells scalar mkv splice under2 under dem dem1 eB intsV
def restI (n m : Int) : Int := if m < 1 then 0 else n % m

theorem rest_tmod {n m : Int} (hm : 1 ≤ m) : (n.tmod m < 0 → n.tmod m + m = n % m) ∧ (¬ n.tmod m < 0 → n.tmod m = n % m) := by
  have h1 := Int.emod_nonneg n (show m ≠ 0 by omega)
  have h2 := Int.emod_lt_of_pos n (show 0 < m by omega)
  have h3 := Int.tmod_eq_emod (a := n) (b := m)
  split at h3
  · omega
  · have : (m.natAbs : Int) = m := by omega
    omega

theorem restI_bd {n m : Int} (hm : 1 ≤ m) : 0 ≤ restI n m ∧ restI n m < m := by
  unfold restI
  rw [if_neg (by omega)]
  exact ⟨Int.emod_nonneg n (by omega), Int.emod_lt_of_pos n (by omega)⟩

theorem c_Rest (n m : Int) (hm : m ≤ 9223372036854775807) : C Tryz.prog F.ref00_Rest [I n, I m] (I (restI n m)) := by
  refine C_of mixed chk.ref00_Rest (by simp) fun S ok => ?_
  refine Tr.seqR rfl (by simp) (Tr.seq (Tr.seqR rfl (by simp) (Tr.cond rfl rfl (fun h1 => Tr.seqR rfl (by simp) (Tr.retX rfl rfl rfl ?_ trivial)) (fun h1 => Tr.skip ?_))))
  · have h1 : m < 1 := by simpa using h1
    simp [packR, restI, h1]
  have h1 : ¬ m < 1 := by simpa using h1
  have hr := restI_bd (n := n) (m := m) (by omega)
  obtain ⟨k1, k2⟩ := rest_tmod (n := n) (m := m) (by omega)
  have e : restI n m = n % m := by unfold restI; rw [if_neg h1]
  refine Tr.seqR rfl (by simp; omega) (Tr.seq (Tr.seqR rfl (by simp) (Tr.cond rfl rfl (fun h2 => Tr.regR rfl (by simp) ?_) (fun h2 => Tr.skip ?_))))
  · have h2 : n.tmod m < 0 := by simpa using h2
    refine Tr.seqR rfl (by simp) (Tr.retX rfl rfl rfl ?_ trivial)
    show I (restI n m) = I (IntKind.i64.wrap (n.tmod m + m))
    rw [e, k1 h2, w64 (by omega) (by omega)]
  · have h2 : ¬ n.tmod m < 0 := by simpa using h2
    refine Tr.seqR rfl (by simp) (Tr.retX rfl rfl rfl ?_ trivial)
    show I (restI n m) = I (n.tmod m)
    rw [e, k2 h2]

end Go.Proofs.YtdejdblopmfjfaaGreatDoor


/-! Contracts: Tight, Pick, chosen; a place that numbers choose lies in its region. -/
set_option linter.unusedVariables false
set_option linter.unusedSimpArgs false
set_option maxRecDepth 40000
set_option maxHeartbeats 4000000
namespace Go.Proofs.YtdejdblopmfjfaaGreatDoor
open Go.Am
attribute [local simp] cells scalar mkv splice under2 under dem dem1 eB fourC intsV
/-! ### The hull of points of the plane -/
structure HullOk (T : Fr) (l : List (Int × Int)) : Prop where
  i : ∀ p ∈ l, (T.x.1 ≤ p.1 ∧ p.1 ≤ T.x.2) ∧ (T.y.1 ≤ p.2 ∧ p.2 ≤ T.y.2) ∧ (T.s.1 ≤ p.1 + p.2 ∧ p.1 + p.2 ≤ T.s.2) ∧ T.d.1 ≤ p.1 - p.2 ∧ p.1 - p.2 ≤ T.d.2
  a1 : ∃ p ∈ l, p.1 = T.x.1
  a2 : ∃ p ∈ l, p.1 = T.x.2
  b1 : ∃ p ∈ l, p.2 = T.y.1
  b2 : ∃ p ∈ l, p.2 = T.y.2
  c1 : ∃ p ∈ l, p.1 + p.2 = T.s.1
  c2 : ∃ p ∈ l, p.1 + p.2 = T.s.2
  d1 : ∃ p ∈ l, p.1 - p.2 = T.d.1
  d2 : ∃ p ∈ l, p.1 - p.2 = T.d.2

theorem ofF_pl {p : Int × Int} (h : planeB p = true) : ofF p = ⟨(p.1, p.1), (p.2, p.2), (p.1 + p.2, p.1 + p.2), (p.1 - p.2, p.1 - p.2)⟩ := by
  simp only [planeB, Bool.and_eq_true, btw_iff] at h
  unfold ofF w
  rw [w64 (n := p.1 + p.2) (by omega) (by omega), w64 (n := p.1 - p.2) (by omega) (by omega)]

theorem attain {l : List (Int × Int)} {f : Int × Int → Int} {m : Int} {p : Int × Int} (h : ∃ q ∈ l, f q = m) : (∃ q ∈ l ++ [p], f q = min m (f p)) ∧ ∃ q ∈ l ++ [p], f q = max m (f p) := by
  obtain ⟨q, hq, rfl⟩ := h
  constructor
  · by_cases h : f q ≤ f p
    · exact ⟨q, by simp [hq], by omega⟩
    · exact ⟨p, by simp, by omega⟩
  · by_cases h : f q ≤ f p
    · exact ⟨p, by simp, by omega⟩
    · exact ⟨q, by simp [hq], by omega⟩

theorem hull_one {p : Int × Int} (hp : planeB p = true) : hullS [p] = (⟨(p.1, p.1), (p.2, p.2), (p.1 + p.2, p.1 + p.2), (p.1 - p.2, p.1 - p.2)⟩, true) := by
  simp [hullS, hstep, comb, spanB, ofF_pl hp]

theorem hull_ok : ∀ (n : Nat) (l : List (Int × Int)), l.length = n + 1 → (∀ p ∈ l, planeB p = true) → (hullS l).2 = true ∧ HullOk (hullS l).1 l
  | 0, l, hl, hp => by
    match l, hl with
    | [p], _ =>
      rw [hull_one (hp p (by simp))]
      refine ⟨rfl, ⟨?_, ?_, ?_, ?_, ?_, ?_, ?_, ?_, ?_⟩⟩
      · intro q hq
        rw [List.mem_singleton.1 hq]; simp
      all_goals exact ⟨p, by simp, rfl⟩
  | n + 1, l, hl, hp => by
    have hne : l ≠ [] := fun e => by rw [e] at hl; simp at hl
    obtain ⟨m, p, rfl⟩ : ∃ m p, l = m ++ [p] := ⟨l.dropLast, l.getLast hne, (List.dropLast_concat_getLast hne).symm⟩
    obtain ⟨h2, ih⟩ := hull_ok n m (by simpa using hl) fun q hq => hp q (by simp [hq])
    have e : hullS (m ++ [p]) = hstep (hullS m) p := by unfold hullS; rw [List.foldl_append]; rfl
    rw [e]
    obtain ⟨⟨T, b⟩, hT⟩ : ∃ T, hullS m = T := ⟨_, rfl⟩
    rw [hT] at h2 ih ⊢
    simp only at h2 ih
    subst h2
    refine ⟨rfl, ?_⟩
    have eT : (hstep (T, true) p).1 = ⟨(min T.x.1 p.1, max T.x.2 p.1), (min T.y.1 p.2, max T.y.2 p.2), (min T.s.1 (p.1 + p.2), max T.s.2 (p.1 + p.2)), (min T.d.1 (p.1 - p.2), max T.d.2 (p.1 - p.2))⟩ := by
      simp [hstep, comb, spanB, ofF_pl (hp p (by simp))]
    rw [eT]
    refine ⟨?_, (attain (f := fun q => q.1) ih.a1).1, (attain (f := fun q => q.1) ih.a2).2, (attain (f := fun q => q.2) ih.b1).1, (attain (f := fun q => q.2) ih.b2).2, (attain (f := fun q => q.1 + q.2) ih.c1).1, (attain (f := fun q => q.1 + q.2) ih.c2).2, (attain (f := fun q => q.1 - q.2) ih.d1).1, (attain (f := fun q => q.1 - q.2) ih.d2).2⟩
    intro q hq
    simp only
    rcases List.mem_append.1 hq with hq | hq
    · have := ih.i q hq
      omega
    · rw [List.mem_singleton.1 hq]
      omega

theorem rows_mem {f : Fr} {r : Int × Int × Int} : ∀ (n : Nat) (x : Int), r ∈ rowsN f n x → (x ≤ r.1 ∧ r.1 < x + n) ∧ r.2.1 = lowY f r.1 ∧ r.2.2 = highY f r.1 ∧ r.2.1 ≤ r.2.2
  | 0, x, h => by cases h
  | n + 1, x, h => by
    simp only [rowsN] at h
    split at h
    · rename_i h1
      rcases List.mem_cons.1 h with rfl | h
      · exact ⟨⟨by simp, by simp; omega⟩, rfl, rfl, h1⟩
      · have := rows_mem n (x + 1) h
        exact ⟨⟨by omega, by push_cast; omega⟩, this.2⟩
    · have := rows_mem n (x + 1) h
      exact ⟨⟨by omega, by push_cast; omega⟩, this.2⟩

theorem ends_places {f : Fr} {p : Int × Int} (hp : p ∈ endsL f) : p ∈ placesL f := by
  unfold endsL at hp
  obtain ⟨r, hr, hp⟩ := List.mem_flatMap.1 hp
  obtain ⟨h1, h2, h3, h4⟩ := rows_mem _ _ hr
  rw [mem_placesL]
  unfold endsR at hp
  split at hp
  · rw [List.mem_singleton.1 hp]
    exact ⟨⟨by simp only; omega, by simp only; omega⟩, by simp only; omega, by simp only; omega⟩
  · rcases List.mem_cons.1 hp with rfl | hp
    · exact ⟨⟨by simp only; omega, by simp only; omega⟩, by simp only; omega, by simp only; omega⟩
    · rw [List.mem_singleton.1 hp]
      exact ⟨⟨by simp only; omega, by simp only; omega⟩, by simp only; omega, by simp only; omega⟩

def tightF (f : Fr) : Fr := (hullS (endsL f)).1

theorem tight_ok {f : Fr} (h : nodeOk f = true) : (hullS (endsL f)).2 = true ∧ HullOk (tightF f) (endsL f) := by
  have hn2 := h
  simp only [nodeOk, Bool.and_eq_true, btw_iff] at hn2
  have hc := count_len (mid_of hn2.1)
  have hne : endsL f ≠ [] := by
    intro e
    have hr : rowsL f = [] := by
      unfold endsL at e
      cases h4 : rowsL f with
      | nil => rfl
      | cons r l =>
        rw [h4, List.flatMap_cons] at e
        have := (List.append_eq_nil_iff.1 e).1
        unfold endsR at this
        split at this <;> cases this
    have : placesL f = [] := by unfold placesL; rw [hr]; rfl
    rw [this] at hc
    simp at hc; omega
  exact hull_ok ((endsL f).length - 1) _ (by have := List.length_pos_iff.2 hne; omega) fun p hp => node_plane h (ends_places hp)

theorem c_Tight {f : Fr} (h : nodeOk f = true) : C Tryz.prog F.region_Tight [.agg (fourC f)] (.tuple [.agg (fourC (tightF f)), I 0]) := by
  have hn2 := h
  simp only [nodeOk, Bool.and_eq_true, btw_iff] at hn2
  have kc := c_CheckF f
  rw [if_pos hn2.1] at kc
  refine C_of mixed chk.region_Tight (by simp) fun S ok => ?_
  refine Tr.seqR rfl (by simp) (Tr.seq (Tr.seqC rfl (by simp) (Steps.call rfl rfl kc (Steps.fin rfl (by simp) (Tr.seqR rfl (by simp) (Tr.condF rfl (Tr.skip ?_)))))))
  refine Tr.seqC rfl (by simp) (Steps.call rfl rfl (c_bounds f) (Steps.call rfl rfl (c_tight (mid_of hn2.1) (tight_ok h).1) (Steps.run rfl (by simp) ?_)))
  exact Steps.call rfl rfl (c_done (tightF f)) (Steps.fin rfl (by simp) (Tr.retX rfl rfl rfl rfl trivial))

end Go.Proofs.YtdejdblopmfjfaaGreatDoor


/-! Contracts: Pick, chosen, stood. -/
set_option linter.unusedVariables false
set_option linter.unusedSimpArgs false
set_option maxRecDepth 40000
set_option maxHeartbeats 4000000
namespace Go.Proofs.YtdejdblopmfjfaaGreatDoor
open Go.Am
attribute [local simp] cells scalar mkv splice under2 under dem dem1 eB fourC intsV sB eF
def pickI (l : List Int) (i : Int) : Int := l.getD (restI i l.length).toNat 0

theorem c_Pick (l : List Int) (i : Int) (hl : l.length ≤ 9223372036854775807) : C Tryz.prog F.ref00_Pick [intsV l, I i] (I (pickI l i)) := by
  refine C_of mixed chk.ref00_Pick (by simp) fun S ok => ?_
  refine Tr.seqR rfl (by simp) (Tr.seq (Tr.seqR rfl (by simp [intsV]) (Tr.cond rfl rfl (fun h1 => Tr.seqR rfl (by simp) (Tr.retX rfl rfl rfl ?_ trivial)) (fun h1 => Tr.skip ?_))))
  · have h1 : l = [] := by simpa using h1
    subst h1; rfl
  have h1 : l ≠ [] := by simpa using h1
  have h0 : 0 < l.length := List.length_pos_iff.2 h1
  have hb := restI_bd (n := i) (m := l.length) (by omega)
  obtain ⟨q, hq⟩ : ∃ q : Nat, restI i l.length = (q : Int) := ⟨(restI i l.length).toNat, by omega⟩
  have hql : q < l.length := by omega
  have hc : C Tryz.prog F.ref00_Rest [I i, I ((l.map I).length : Int)] (I (q : Int)) := by
    rw [List.length_map]; exact hq ▸ c_Rest i l.length (by omega)
  refine Tr.seqC rfl (by simp [intsV]) (Steps.call rfl rfl hc (Steps.runN 1 rfl (by simp [intsV]; omega) ?_))
  rw [getD_map hql]
  refine Steps.fin rfl (by simp) (Tr.retX rfl rfl rfl ?_ trivial)
  simp [packR, pickI, hq, List.getElem?_eq_getElem hql]

/-! ### A place that numbers choose -/
def chX (f : Fr) (a : Int) : Int := (tightF f).x.1 + restI a ((tightF f).x.2 - (tightF f).x.1 + 1)
def chosenN (f : Fr) (a b : Int) : Int × Int := (chX f a, lowY (tightF f) (chX f a) + restI b (highY (tightF f) (chX f a) - lowY (tightF f) (chX f a) + 1))

theorem lowY_le {f : Fr} {x y : Int} : lowY f x ≤ y ↔ f.y.1 ≤ y ∧ f.s.1 - x ≤ y ∧ x - f.d.2 ≤ y := by unfold lowY; omega
theorem le_highY {f : Fr} {x y : Int} : y ≤ highY f x ↔ y ≤ f.y.2 ∧ y ≤ f.s.2 - x ∧ y ≤ x - f.d.1 := by unfold highY; omega

theorem tight_bd {f : Fr} (h : nodeOk f = true) : ((-32768 ≤ (tightF f).x.1 ∧ (tightF f).x.1 ≤ (tightF f).x.2 ∧ (tightF f).x.2 ≤ 32768) ∧ (-32768 ≤ (tightF f).y.1 ∧ (tightF f).y.2 ≤ 32768) ∧ (-65536 ≤ (tightF f).s.1 ∧ (tightF f).s.2 ≤ 65536) ∧ -65536 ≤ (tightF f).d.1 ∧ (tightF f).d.2 ≤ 65536) ∧
    ((tightF f).y.1 ≤ 32768 ∧ -32768 ≤ (tightF f).y.2) ∧ ((tightF f).s.1 ≤ 65536 ∧ -65536 ≤ (tightF f).s.2) ∧ (tightF f).d.1 ≤ 65536 ∧ -65536 ≤ (tightF f).d.2 := by
  have H := (tight_ok h).2
  have pl : ∀ p ∈ endsL f, (-32768 ≤ p.1 ∧ p.1 ≤ 32768) ∧ -32768 ≤ p.2 ∧ p.2 ≤ 32768 := fun p hp => by
    have := node_plane h (ends_places hp)
    simpa only [planeB, Bool.and_eq_true, btw_iff] using this
  obtain ⟨p1, m1, e1⟩ := H.a1; obtain ⟨p2, m2, e2⟩ := H.a2; obtain ⟨p3, m3, e3⟩ := H.b1; obtain ⟨p4, m4, e4⟩ := H.b2
  obtain ⟨p5, m5, e5⟩ := H.c1; obtain ⟨p6, m6, e6⟩ := H.c2; obtain ⟨p7, m7, e7⟩ := H.d1; obtain ⟨p8, m8, e8⟩ := H.d2
  have k1 := pl _ m1; have k2 := pl _ m2; have k3 := pl _ m3; have k4 := pl _ m4; have k5 := pl _ m5; have k6 := pl _ m6; have k7 := pl _ m7; have k8 := pl _ m8
  have k9 := H.i _ m1
  refine ⟨⟨⟨?_, ?_, ?_⟩, ⟨?_, ?_⟩, ⟨?_, ?_⟩, ?_, ?_⟩, ⟨?_, ?_⟩, ⟨?_, ?_⟩, ?_, ?_⟩ <;> omega

/-- No column between is empty. -/
theorem tight_col {f : Fr} (h : nodeOk f = true) {x : Int} (h1 : (tightF f).x.1 ≤ x) (h2 : x ≤ (tightF f).x.2) : lowY (tightF f) x ≤ highY (tightF f) x := by
  have H := (tight_ok h).2
  obtain ⟨p1, m1, e1⟩ := H.a1; obtain ⟨p2, m2, e2⟩ := H.a2
  have i1 := H.i _ m1; have i2 := H.i _ m2
  rw [lowY_le, le_highY, le_highY, le_highY]
  refine ⟨⟨?_, ?_, ?_⟩, ⟨?_, ?_, ?_⟩, ⟨?_, ?_, ?_⟩⟩ <;> omega

theorem tight_sub {f : Fr} (h : nodeOk f = true) {q : Int × Int} (h1 : (tightF f).x.1 ≤ q.1) (h2 : q.1 ≤ (tightF f).x.2) (h3 : lowY (tightF f) q.1 ≤ q.2) (h4 : q.2 ≤ highY (tightF f) q.1) : q ∈ placesL f := by
  have H := (tight_ok h).2
  have pl : ∀ p ∈ endsL f, (f.x.1 ≤ p.1 ∧ p.1 ≤ f.x.2) ∧ (f.y.1 ≤ p.2 ∧ f.s.1 - p.1 ≤ p.2 ∧ p.1 - f.d.2 ≤ p.2) ∧ p.2 ≤ f.y.2 ∧ p.2 ≤ f.s.2 - p.1 ∧ p.2 ≤ p.1 - f.d.1 := fun p hp => by
    have := mem_placesL.1 (ends_places hp)
    rw [lowY_le, le_highY] at this; exact this
  obtain ⟨p1, m1, e1⟩ := H.a1; obtain ⟨p2, m2, e2⟩ := H.a2; obtain ⟨p3, m3, e3⟩ := H.b1; obtain ⟨p4, m4, e4⟩ := H.b2
  obtain ⟨p5, m5, e5⟩ := H.c1; obtain ⟨p6, m6, e6⟩ := H.c2; obtain ⟨p7, m7, e7⟩ := H.d1; obtain ⟨p8, m8, e8⟩ := H.d2
  have k1 := pl _ m1; have k2 := pl _ m2; have k3 := pl _ m3; have k4 := pl _ m4; have k5 := pl _ m5; have k6 := pl _ m6; have k7 := pl _ m7; have k8 := pl _ m8
  rw [lowY_le] at h3
  rw [le_highY] at h4
  rw [mem_placesL, lowY_le, le_highY]
  refine ⟨⟨?_, ?_⟩, ⟨?_, ?_, ?_⟩, ⟨?_, ?_, ?_⟩⟩
  · clear k2 k3 k4 k5 k6 k7 k8; omega
  · clear k1 k3 k4 k5 k6 k7 k8; omega
  · clear k1 k2 k4 k5 k6 k7 k8; omega
  · clear k1 k2 k3 k4 k6 k7 k8; omega
  · clear k1 k2 k3 k4 k5 k6 k7; omega
  · clear k1 k2 k3 k5 k6 k7 k8; omega
  · clear k1 k2 k3 k4 k5 k7 k8; omega
  · clear k1 k2 k3 k4 k5 k6 k8; omega

theorem chX_in {f : Fr} (h : nodeOk f = true) (a : Int) : (tightF f).x.1 ≤ chX f a ∧ chX f a ≤ (tightF f).x.2 := by
  have hb := (tight_bd h).1.1
  have := restI_bd (n := a) (m := (tightF f).x.2 - (tightF f).x.1 + 1) (by omega)
  unfold chX; omega

theorem chosen_in {f : Fr} (h : nodeOk f = true) (a b : Int) : chosenN f a b ∈ placesL f := by
  obtain ⟨x1, x2⟩ := chX_in h a
  have hc := tight_col h x1 x2
  have := restI_bd (n := b) (m := highY (tightF f) (chX f a) - lowY (tightF f) (chX f a) + 1) (by omega)
  exact tight_sub h x1 x2 (by simp only [chosenN]; omega) (by simp only [chosenN]; omega)

theorem c_chosen {f : Fr} (h : nodeOk f = true) (a b : Int) : C Tryz.prog F.law07_chosen [.agg (fourC f), I a, I b] (.tuple [eB (chosenN f a b), .bool true]) := by
  obtain ⟨⟨⟨t1, t2, t3⟩, ⟨t4, t5⟩, ⟨t6, t7⟩, t8, t9⟩, ⟨u1, u2⟩, ⟨u3, u4⟩, u5, u6⟩ := tight_bd h
  obtain ⟨x1, x2⟩ := chX_in h a
  have hc := tight_col h x1 x2
  have kt := c_Tight h
  obtain ⟨T, hT⟩ : ∃ T, tightF f = T := ⟨_, rfl⟩
  have hch : chosenN f a b = (chX f a, lowY T (chX f a) + restI b (highY T (chX f a) - lowY T (chX f a) + 1)) := by unfold chosenN; rw [hT]
  have hxx : chX f a = T.x.1 + restI a (T.x.2 - T.x.1 + 1) := by unfold chX; rw [hT]
  rw [hch]
  rw [hT] at kt t1 t2 t3 t4 t5 t6 t7 t8 t9 u1 u2 u3 u4 u5 u6 x1 x2 hc
  have hr1 := restI_bd (n := a) (m := T.x.2 - T.x.1 + 1) (by omega)
  have k1 : C Tryz.prog F.ref00_Rest [I a, I (IntKind.wrap .i64 (IntKind.wrap .i64 (T.x.2 - T.x.1) + 1))] (I (restI a (T.x.2 - T.x.1 + 1))) := by
    rw [w64 (n := T.x.2 - T.x.1) (by omega) (by omega), w64 (by omega) (by omega)]; exact c_Rest _ _ (by omega)
  obtain ⟨x, hx⟩ : ∃ x, chX f a = x := ⟨_, rfl⟩
  rw [hx] at hxx x1 x2 hc ⊢
  have hbl : -200000 ≤ lowY T x ∧ highY T x ≤ 200000 := by
    have l1 : T.y.1 ≤ lowY T x := (lowY_le.1 (Int.le_refl _)).1
    have l2 : highY T x ≤ T.y.2 := (le_highY.1 (Int.le_refl _)).1
    omega
  have hr2 := restI_bd (n := b) (m := highY T x - lowY T x + 1) (by omega)
  have k2 : C Tryz.prog F.ref00_Rest [I b, I (IntKind.wrap .i64 (IntKind.wrap .i64 (highY T x - lowY T x) + 1))] (I (restI b (highY T x - lowY T x + 1))) := by
    rw [w64 (n := highY T x - lowY T x) (by omega) (by omega), w64 (by omega) (by omega)]; exact c_Rest _ _ (by omega)
  refine C_of mixed chk.law07_chosen (by simp) fun S ok => ?_
  refine Tr.seqR rfl (by simp) (Tr.seqC rfl (by simp) (Steps.call rfl rfl kt (Steps.fin rfl (by simp) ?_)))
  refine Tr.seq (Tr.seqR rfl (by simp) (Tr.condF rfl (Tr.skip ?_)))
  refine Tr.seq (Tr.drawK (TraceK.run rfl (by simp) (TraceK.call rfl rfl k1 (TraceK.run rfl (by simp) (.done ⟨by kernel_rfl, by kernel_rfl, ?_⟩)))))
  rw [show IntKind.wrap .i64 (T.x.1 + restI a (T.x.2 - T.x.1 + 1)) = x by rw [w64 (by omega) (by omega)]; exact hxx.symm]
  refine Tr.seq (Tr.drawK (TraceK.run rfl (by simp) (.done ⟨by kernel_rfl, by kernel_rfl, ?_⟩)))
  refine Tr.weak (s' := { env := [(2, I b), (6, .ptr 6 0), (10, I x), (11, I (lowY T x)), (12, I (highY T x))], bx := [(6, ⟨[I 0, I 0], false⟩)], rw := [], log := [], stp := false })
    (Wk.le (.cons rfl (.refl _) (.cons rfl (.refl _) (.cons rfl (.refl _) (.cons rfl (VLe.i ?_) (.cons rfl (VLe.i ?_) .nil))))) (.cons rfl (LLe.refl _) .nil) .nil rfl rfl) ?_
  · show (bif true then (if IntKind.wrap .i64 (x - T.d.2) > (bif true then (if IntKind.wrap .i64 (T.s.1 - x) > T.y.1 then IntKind.wrap .i64 (T.s.1 - x) else T.y.1) else _) then IntKind.wrap .i64 (x - T.d.2) else (bif true then (if IntKind.wrap .i64 (T.s.1 - x) > T.y.1 then IntKind.wrap .i64 (T.s.1 - x) else T.y.1) else _)) else _) = lowY T x
    simp only [cond_true]
    rw [w64 (n := x - T.d.2) (by omega) (by omega), w64 (n := T.s.1 - x) (by omega) (by omega), ifMax, ifMax]; rfl
  · show (bif false then _ else (if IntKind.wrap .i64 (x - T.d.1) < (bif false then _ else (if IntKind.wrap .i64 (T.s.2 - x) < T.y.2 then IntKind.wrap .i64 (T.s.2 - x) else T.y.2)) then IntKind.wrap .i64 (x - T.d.1) else (bif false then _ else (if IntKind.wrap .i64 (T.s.2 - x) < T.y.2 then IntKind.wrap .i64 (T.s.2 - x) else T.y.2)))) = highY T x
    simp only [cond_false]
    rw [w64 (n := x - T.d.1) (by omega) (by omega), w64 (n := T.s.2 - x) (by omega) (by omega), ifMin, ifMin]; rfl
  refine Tr.seqC rfl (by simp) (Steps.call rfl rfl k2 (Steps.fin rfl (by simp) (Tr.retX rfl rfl rfl ?_ trivial)))
  show V.tuple [.agg [I x, I (lowY T x + restI b (highY T x - lowY T x + 1))], .bool true] = .tuple [.agg [I x, I (IntKind.wrap .i64 (lowY T x + restI b (highY T x - lowY T x + 1)))], .bool (decide (lowY T x ≤ highY T x))]
  rw [w64 (by omega) (by omega), decide_eq_true hc]

end Go.Proofs.YtdejdblopmfjfaaGreatDoor


/-! From the reading of a row's arguments to values. -/
set_option linter.unusedVariables false
set_option linter.unusedSimpArgs false
set_option maxRecDepth 20000
namespace Go.Proofs.YtdejdblopmfjfaaGreatDoor
open Go.Am Go.ChangeShapes Go.WideShapes Go.ChangeAt Go.RowKit

/-- Everything that was there is stable. -/
def phi (W : World) : Nat → Nat := fun b => match W.heap[b]? with
  | some (.cells cs _ _) => cs.size
  | _ => 0

theorem phi_top {W : World} : ∀ b, W.heap.size ≤ b → phi W b = 0 := fun b hb => by
  unfold phi
  rw [Array.getElem?_eq_none hb]

theorem phi_lt {W : World} {b o : Nat} {z : Value} (h : W.cell? ⟨b, o, none⟩ = some z) : o < phi W b := by
  unfold World.cell? at h
  unfold phi
  cases hb : W.heap[b]? with
  | none => rw [hb] at h; simp at h
  | some ob =>
    rw [hb] at h
    cases ob with
    | cells c e m => simp only at h ⊢; exact (Array.getElem?_eq_some_iff.1 h).1
    | _ => simp at h

section
variable {H : Type} (enc : TypeId × Value → H) (W : World)

def Got (Pr : List V → Prop) (cs : List Value) : Prop := ∃ vs, Pr vs ∧ vs.length = cs.length ∧ ∀ (i : Nat) v c, vs[i]? = some v → cs[i]? = some c → RepD W (phi W) v c ∧ scalar v = true

/-- Whatever reads as this type has such values. -/
def Reads (t : TypeId) (Pr : List V → Prop) : Prop := ∀ fuel cs x, DataW.trod enc Tryz.prog W 0 (fun _ => true) true fuel t cs = some x → Got W Pr cs

def trods (fuel : Nat) : List TypeId → List Value → Prop
  | [], cs => cs = []
  | t :: ts, cs => (∃ x, DataW.trod enc Tryz.prog W 0 (fun _ => true) true fuel t (cs.take (Tryz.prog.cellsOf t)) = some x) ∧ Tryz.prog.cellsOf t ≤ cs.length ∧ trods fuel ts (cs.drop (Tryz.prog.cellsOf t))

def ReadsL (ts : List TypeId) (Pr : List V → Prop) : Prop := ∀ fuel cs, trods enc W fuel ts cs → Got W Pr cs

variable {enc W}

theorem Got.mono {P Q : List V → Prop} {cs : List Value} (h : Got W P cs) (k : ∀ vs, P vs → Q vs) : Got W Q cs := let ⟨vs, a, b⟩ := h; ⟨vs, k vs a, b⟩
theorem Reads.mono {t : TypeId} {P Q : List V → Prop} (h : Reads enc W t P) (k : ∀ vs, P vs → Q vs) : Reads enc W t Q := fun fuel cs x hx => (h fuel cs x hx).mono k

theorem readsL_nil : ReadsL enc W [] (fun vs => vs = []) := fun fuel cs h => by
  have h : cs = [] := h
  subst h
  exact ⟨[], rfl, rfl, fun i v c h => by simp at h⟩

theorem readsL_cons {t : TypeId} {ts : List TypeId} {P Q : List V → Prop} (h : Reads enc W t P) (k : ReadsL enc W ts Q) : ReadsL enc W (t :: ts) (fun vs => ∃ a b, P a ∧ Q b ∧ vs = a ++ b) := fun fuel cs ht => by
  obtain ⟨⟨x, hx⟩, hle, hr⟩ := ht
  obtain ⟨a, ha, la, ra⟩ := h _ _ _ hx
  obtain ⟨b, hb, lb, rb⟩ := k _ _ hr
  rw [List.length_take] at la
  rw [List.length_drop] at lb
  refine ⟨a ++ b, ⟨a, b, ha, hb, rfl⟩, by simp; omega, fun i v c hv hc => ?_⟩
  by_cases hi : i < a.length
  · rw [List.getElem?_append_left hi] at hv
    exact ra i v c hv (by rw [List.getElem?_take, if_pos (by omega)]; exact hc)
  · rw [List.getElem?_append_right (by omega)] at hv
    refine rb (i - a.length) v c hv ?_
    rw [List.getElem?_drop, show Tryz.prog.cellsOf t + (i - a.length) = i by omega]
    exact hc

theorem reads_int {t : TypeId} (ht : Tryz.prog.underlying t = some (.int .i64)) : Reads enc W t (fun vs => ∃ n : Int, vs = [I n] ∧ -9223372036854775808 ≤ n ∧ n ≤ 9223372036854775807) := fun fuel cs x hx => by
  obtain ⟨n, rfl, _, hw⟩ := DataW.trod_int ht hx
  have hb := Go.bounds_i64 hw
  refine ⟨[I n], ⟨n, rfl, by omega, by omega⟩, rfl, fun i v c hv hc => ?_⟩
  cases i with
  | zero => cases hv; cases hc; exact ⟨.int _ _, rfl⟩
  | succ i => cases hv

/-- Fields one behind the other. -/
noncomputable def offsB : List Field → Nat → Nat → Bool
  | [], o, n => o == n
  | f :: r, o, n => f.offset == o && offsB r (o + Tryz.prog.cellsOf f.type) n

theorem trods_of {fuel : Nat} : ∀ (fs : List Field) (o n : Nat) (cs : List Value), offsB fs o n = true → cs.length = n → o ≤ n → (∀ f ∈ fs, ∃ x, DataW.trod enc Tryz.prog W 0 (fun _ => true) true fuel f.type ((cs.drop f.offset).take (Tryz.prog.cellsOf f.type)) = some x) → trods enc W fuel (fs.map (·.type)) (cs.drop o)
  | [], o, n, cs, h, hl, _, _ => by
    simp only [offsB, beq_iff_eq] at h
    show cs.drop o = []
    rw [List.drop_eq_nil_of_le (by omega)]
  | f :: r, o, n, cs, h, hl, ho, hf => by
    simp only [offsB, Bool.and_eq_true, beq_iff_eq] at h
    have hle : o + Tryz.prog.cellsOf f.type ≤ n := by
      have : ∀ (fs : List Field) (o n : Nat), offsB fs o n = true → o ≤ n := by
        intro fs
        induction fs with
        | nil => intro o n h; simp only [offsB, beq_iff_eq] at h; omega
        | cons g r ih => intro o n h; simp only [offsB, Bool.and_eq_true, beq_iff_eq] at h; have := ih _ _ h.2; omega
      exact this _ _ _ h.2
    refine ⟨?_, by rw [List.length_drop]; show Tryz.prog.cellsOf f.type ≤ _; omega, ?_⟩
    · have := hf f (by simp)
      rw [h.1] at this
      exact this
    · rw [List.drop_drop]
      exact trods_of r _ n cs h.2 hl hle fun g hg => hf g (by simp [hg])

theorem reads_struct {t : TypeId} {fs : Array Field} {Pr : List V → Prop} (ht : Tryz.prog.underlying t = some (.struct fs)) (ho : offsB fs.toList 0 (Tryz.prog.cellsOf t) = true) (h : ReadsL enc W (fs.toList.map (·.type)) Pr) : Reads enc W t Pr := fun fuel cs x hx => by
  obtain ⟨xs, n, _, _, hl, hxs, hf⟩ := DataW.trod_struct ht hx
  refine h n cs ?_
  have := trods_of (enc := enc) (W := W) (fuel := n) fs.toList 0 _ cs ho hl (Nat.zero_le _) fun f hm => by
    obtain ⟨i, hi, rfl⟩ := List.mem_iff_getElem.1 hm
    have h1 := hf i fs.toList[i] (by simp at hi ⊢)
    rw [h1]
    have : i < xs.length := by simp at hi; omega
    exact ⟨_, List.getElem?_eq_getElem this⟩
  simpa using this

theorem trods_rep {fuel : Nat} {e : TypeId} : ∀ (n k : Nat) (cs : List Value), cs.length = (k + n) * Tryz.prog.cellsOf e → (∀ i, i < n → ∃ x, DataW.trod enc Tryz.prog W 0 (fun _ => true) true fuel e ((cs.drop ((k + i) * Tryz.prog.cellsOf e)).take (Tryz.prog.cellsOf e)) = some x) → trods enc W fuel (List.replicate n e) (cs.drop (k * Tryz.prog.cellsOf e))
  | 0, k, cs, hl, _ => by
    show cs.drop _ = []
    rw [List.drop_eq_nil_of_le (by rw [hl]; simp)]
  | n + 1, k, cs, hl, hf => by
    have e1 : (k + (n + 1)) * Tryz.prog.cellsOf e = k * Tryz.prog.cellsOf e + (n * Tryz.prog.cellsOf e + Tryz.prog.cellsOf e) := by rw [Nat.add_mul, Nat.succ_mul]
    refine ⟨by simpa using hf 0 (by omega), by rw [List.length_drop]; omega, ?_⟩
    rw [List.drop_drop, show k * Tryz.prog.cellsOf e + Tryz.prog.cellsOf e = (k + 1) * Tryz.prog.cellsOf e by rw [Nat.succ_mul]]
    exact trods_rep n (k + 1) cs (by rw [hl]; congr 1; omega) fun i hi => by
      have := hf (i + 1) (by omega)
      rwa [show k + 1 + i = k + (i + 1) by omega]

theorem reads_array {t e : TypeId} {n : Nat} {Pr : List V → Prop} (ht : Tryz.prog.underlying t = some (.array n e)) (hc : Tryz.prog.cellsOf t = n * Tryz.prog.cellsOf e) (h : ReadsL enc W (List.replicate n e) Pr) : Reads enc W t Pr := fun fuel cs x hx => by
  obtain ⟨xs, m, _, _, hl, hxs, hf⟩ := DataW.trod_array ht hx
  refine h m cs ?_
  have := trods_rep (enc := enc) (W := W) (fuel := m) (e := e) n 0 cs (by rw [hl, hc]; simp) fun i hi => by
    rw [Nat.zero_add, hf i hi]
    exact ⟨_, List.getElem?_eq_getElem (by omega)⟩
  simpa using this

def wrapV (agg : Bool) (x : List V) : V := bif agg then .agg x else x.headD nothing

theorem cells_wrap {agg : Bool} {x : List V} {sz : Nat} (hx : x.length = sz) (hs : ∀ v ∈ x, scalar v = true) (ha : agg = false → sz = 1) : cells (wrapV agg x) = x := by
  cases agg with
  | true => rfl
  | false =>
    have := ha rfl
    subst this
    match x, hx with
    | [v], _ =>
      have hv := hs v (by simp)
      show cells v = [v]
      cases v <;> simp [scalar] at hv <;> rfl

theorem cell_spot {a : Addr} {z : Value} (h : W.cell? a = some z) : a = ⟨a.block, a.off, none⟩ := by
  have := World.cell?_spot h
  obtain ⟨b, o, s⟩ := a
  simp only at this
  subst this; rfl

theorem reads_slice {t e : TypeId} {sz : Nat} {Pe : List V → Prop} (agg : Bool) (ht : Tryz.prog.underlying t = some (.slice e)) (hc : Tryz.prog.cellsOf e = sz) (h0 : 0 < sz) (ha : agg = false → sz = 1) (h : Reads enc W e Pe) :
    Reads enc W t (fun vs => ∃ xs : List (List V), (∀ x ∈ xs, Pe x) ∧ xs.length ≤ 9223372036854775807 ∧ vs = [.slice 0 sz (xs.map (wrapV agg))]) := fun fuel cs x hx => by
  subst hc
  rcases DataW.trod_slice ht hx with ⟨rfl, _⟩ | ⟨a, len, cap, elems, rest, n, _, rfl, _, _, hlc, hcm, hel, hE, _⟩
  · refine ⟨[.slice 0 _ []], ⟨[], fun x hx => by simp at hx, by simp, rfl⟩, rfl, fun i v c hv hc => ?_⟩
    cases i with
    | zero => cases hv; cases hc; exact ⟨.slice0 _ _ _, rfl⟩
    | succ i => cases hv
  · have hcm' : cap ≤ 9223372036854775807 := by unfold maxLen at hcm; omega
    -- the elements, one by one
    have step : ∀ m, m ≤ len → ∃ xs : List (List V), xs.length = m ∧ (∀ x ∈ xs, Pe x ∧ x.length = Tryz.prog.cellsOf e) ∧
        ∀ (i : Nat) x (j : Nat) v, xs[i]? = some x → x[j]? = some v → ∃ c, W.cell? (a.add (i * Tryz.prog.cellsOf e + j)) = some c ∧ RepD W (phi W) v c ∧ scalar v = true := by
      intro m
      induction m with
      | zero => exact fun _ => ⟨[], rfl, fun x hx => by simp at hx, fun i x j v hx => by simp at hx⟩
      | succ m ih =>
        intro hm
        obtain ⟨xs, l1, l2, l3⟩ := ih (by omega)
        have h1 := hE m (by omega)
        rw [List.getElem?_eq_getElem (by omega)] at h1
        rw [Option.bind_eq_some_iff] at h1
        obtain ⟨ccs, h2, h3⟩ := h1
        obtain ⟨vs, v1, v2, v3⟩ := h _ _ _ h3
        have hcc : ccs.length = Tryz.prog.cellsOf e ∧ ∀ (j : Nat) c, ccs[j]? = some c → W.cell? (a.add (m * Tryz.prog.cellsOf e + j)) = some c := by
          unfold World.cells? at h2
          rw [if_pos (Nat.zero_le _)] at h2
          refine ⟨by simpa using mapM_some_length h2, fun j c hj => ?_⟩
          have hjl : j < Tryz.prog.cellsOf e := by
            have := (List.getElem?_eq_some_iff.1 hj).1
            have hh := mapM_some_length h2
            simp at hh; omega
          have := mapM_some_get h2 j j (by simp [hjl])
          rw [hj] at this
          rw [← this, Addr.add_add]
        refine ⟨xs ++ [vs], by simp [l1], fun x hx => ?_, fun i x j v hx hj => ?_⟩
        · rcases List.mem_append.1 hx with hx | hx
          · exact l2 x hx
          · simp at hx; subst hx; exact ⟨v1, by omega⟩
        · by_cases hi : i < xs.length
          · rw [List.getElem?_append_left hi] at hx
            exact l3 i x j v hx hj
          · have hi' : i = xs.length := by
              have := (List.getElem?_eq_some_iff.1 hx).1
              simp at this; omega
            subst hi'
            rw [List.getElem?_append_right (by omega)] at hx
            simp at hx; subst hx
            have hjl : j < ccs.length := by have := (List.getElem?_eq_some_iff.1 hj).1; omega
            rw [l1]
            exact ⟨ccs[j], hcc.2 j _ (List.getElem?_eq_getElem hjl), v3 j v _ hj (List.getElem?_eq_getElem hjl)⟩
    obtain ⟨xs, l1, l2, l3⟩ := step len (Nat.le_refl _)
    have hsc : ∀ x ∈ xs, ∀ v ∈ x, scalar v = true := fun x hx v hv => by
      obtain ⟨i, hi, rfl⟩ := List.mem_iff_getElem.1 hx
      obtain ⟨j, hj, rfl⟩ := List.mem_iff_getElem.1 hv
      obtain ⟨c, _, _, hs⟩ := l3 i _ j _ (List.getElem?_eq_getElem hi) (List.getElem?_eq_getElem hj)
      exact hs
    have hcw : ∀ x ∈ xs, cells (wrapV agg x) = x := fun x hx => cells_wrap (l2 x hx).2 (hsc x hx) ha
    refine ⟨[.slice 0 _ (xs.map (wrapV agg))], ⟨xs, fun x hx => (l2 x hx).1, by omega, rfl⟩, rfl, fun i v c hv hc => ?_⟩
    cases i with
    | succ i => cases hv
    | zero =>
      cases hv; cases hc
      refine ⟨?_, rfl⟩
      by_cases hl0 : len = 0
      · subst hl0
        have : xs = [] := List.eq_nil_of_length_eq_zero l1
        subst this
        exact .slice0 _ _ _
      · -- the place of the first cell
        have hx0 : 0 < xs.length := by omega
        have hlen0 := (l2 _ (List.getElem_mem hx0)).2
        obtain ⟨c0, hc0, _⟩ := l3 0 xs[0] 0 (xs[0][0]'(by omega)) (List.getElem?_eq_getElem hx0) (List.getElem?_eq_getElem (by omega))
        have hsp := cell_spot hc0
        obtain ⟨b, off, sp⟩ := a
        have : sp = none := by simpa [Addr.add] using hsp
        subst this
        have hwl : ∀ y ∈ xs.map (wrapV agg), (cells y).length = Tryz.prog.cellsOf e := fun y hy => by
          obtain ⟨x, hx, rfl⟩ := List.mem_map.1 hy
          rw [hcw x hx, (l2 x hx).2]
        have at_ : ∀ (j : Nat) v, ((xs.map (wrapV agg)).flatMap cells)[j]? = some v → ∃ c, W.cell? ⟨b, off + j, none⟩ = some c ∧ RepD W (phi W) v c ∧ scalar v = true := fun j v hj => by
          obtain ⟨i, u, k, hu, hk, rfl⟩ := flat_split h0 hwl j v hj
          rw [List.getElem?_map, Option.map_eq_some_iff] at hu
          obtain ⟨x, hx, rfl⟩ := hu
          rw [hcw x (List.mem_of_getElem? hx)] at hk
          obtain ⟨c, q1, q2⟩ := l3 i x k v hx hk
          refine ⟨c, ?_, q2⟩
          rw [← q1]
          unfold Addr.add
          split
          · rename_i h; rw [h]; rfl
          · rfl
        refine .slice _ _ b off len cap (fun j => (W.cell? ⟨b, off + j, none⟩).getD undef) h0 (by simp [l1]) hlc hwl (fun j v hj => ?_) (fun j v hj => ?_)
        · obtain ⟨c, q1, q2, q3⟩ := at_ j v hj
          exact ⟨phi_lt q1, by rw [q1]; rfl, q3⟩
        · obtain ⟨c, q1, q2, q3⟩ := at_ j v hj
          rw [q1]; exact q2

/-! ### Arguments -/
theorem arg_agg {t : TypeId} {Pr : List V → Prop} {v : Value} {d : DataW H} {p : List MemPlace} (ha : aggB Tryz.prog t = true) (h : Reads enc W t Pr) (hv : Value.okWide Tryz.prog W .any 0 t v) (ht : DataW.Trod enc Tryz.prog W 0 (fun _ => true) true t v d p) : ∃ vs, Pr vs ∧ RepD W (phi W) (.agg vs) v := by
  obtain ⟨fuel, hf⟩ := ht
  obtain ⟨vs, h1, h2, h3⟩ := h _ _ _ hf
  obtain ⟨cs, rfl, _⟩ : ∃ cs, v = .agg cs ∧ True := by
    unfold aggB at ha
    unfold Value.okWide at hv
    split at ha
    · rename_i hu; rw [hu] at hv; obtain ⟨cs, rfl, _⟩ := hv; exact ⟨cs, rfl, trivial⟩
    · rename_i hu; rw [hu] at hv; obtain ⟨cs, rfl, _⟩ := hv; exact ⟨cs, rfl, trivial⟩
    · cases ha
  refine ⟨vs, h1, .agg _ _ (by simpa [Value.cells] using h2) fun i v x hv hx => (h3 i v x hv ?_).1⟩
  simpa [Value.cells] using hx

theorem arg_one {t : TypeId} {Pr : List V → Prop} {v : Value} {d : DataW H} {p : List MemPlace} (hc : v.cells = #[v]) (h : Reads enc W t Pr) (ht : DataW.Trod enc Tryz.prog W 0 (fun _ => true) true t v d p) : ∃ u, Pr [u] ∧ RepD W (phi W) u v := by
  obtain ⟨fuel, hf⟩ := ht
  obtain ⟨vs, h1, h2, h3⟩ := h _ _ _ hf
  rw [hc] at h2 h3
  match vs, h2 with
  | [u], _ => exact ⟨u, h1, (h3 0 u v rfl rfl).1⟩

theorem exists_list {α : Type} {xs : List (List V)} {R : α → Prop} {g : α → List V} (h : ∀ x ∈ xs, ∃ a, R a ∧ x = g a) : ∃ l : List α, xs = l.map g ∧ ∀ a ∈ l, R a := by
  induction xs with
  | nil => exact ⟨[], rfl, fun a ha => by simp at ha⟩
  | cons x r ih =>
    obtain ⟨a, ha, rfl⟩ := h x (by simp)
    obtain ⟨l, rfl, hl⟩ := ih fun y hy => h y (by simp [hy])
    exact ⟨a :: l, rfl, fun b hb => by
      rcases List.mem_cons.1 hb with rfl | hb
      · exact ha
      · exact hl b hb⟩

end
end Go.Proofs.YtdejdblopmfjfaaGreatDoor


/-! What the arguments of the statements of the bin chapter read as. -/
set_option linter.unusedVariables false
set_option linter.unusedSimpArgs false
set_option maxRecDepth 20000
namespace Go.Proofs.YtdejdblopmfjfaaGreatDoor
open Go.Am Go.ChangeShapes Go.WideShapes Go.ChangeAt Go.RowKit

section
variable {H : Type} {enc : TypeId × Value → H} {W : World}

theorem rd_int : Reads enc W 3 (fun vs => ∃ n : Int, vs = [I n] ∧ -9223372036854775808 ≤ n ∧ n ≤ 9223372036854775807) := reads_int Tryz.underlying3

theorem rd_point : Reads enc W 23 (fun vs => ∃ b : Int × Int, vs = [I b.1, I b.2]) := by
  refine (reads_struct Tryz.underlying23 (by kernel_rfl) (readsL_cons rd_int (readsL_cons rd_int readsL_nil))).mono ?_
  rintro vs ⟨a, b, ⟨x, rfl, _⟩, ⟨c, d, ⟨y, rfl, _⟩, rfl, rfl⟩, rfl⟩
  exact ⟨(x, y), rfl⟩

theorem rd_bound : Reads enc W 83 (fun vs => ∃ b : Int × Int, vs = [I b.1, I b.2]) := by
  refine (reads_struct Tryz.underlying83 (by kernel_rfl) (readsL_cons rd_int (readsL_cons rd_int readsL_nil))).mono ?_
  rintro vs ⟨a, b, ⟨x, rfl, _⟩, ⟨c, d, ⟨y, rfl, _⟩, rfl, rfl⟩, rfl⟩
  exact ⟨(x, y), rfl⟩

theorem rd_bounds : Reads enc W 24 (fun vs => ∃ l : List (Int × Int), l.length ≤ 9223372036854775807 ∧ vs = [sB l]) := by
  refine (reads_slice (sz := 2) true Tryz.underlying24 (by kernel_rfl) (by decide) (by decide) rd_bound).mono ?_
  rintro vs ⟨xs, h1, h2, rfl⟩
  obtain ⟨l, rfl, _⟩ := exists_list (R := fun _ => True) (g := fun b : Int × Int => [I b.1, I b.2]) fun x hx => by obtain ⟨b, rfl⟩ := h1 x hx; exact ⟨b, trivial, rfl⟩
  refine ⟨l, by simpa using h2, ?_⟩
  simp [sB, wrapV, Function.comp_def, eB]

theorem rd_grid : Reads enc W 26 (fun vs => ∃ g : Gd, g.cls.length ≤ 9223372036854775807 ∧ vs = gridC g) := by
  refine (reads_struct Tryz.underlying26 (by kernel_rfl) (readsL_cons rd_point (readsL_cons rd_int (readsL_cons rd_int (readsL_cons rd_int (readsL_cons rd_bounds readsL_nil)))))).mono ?_
  rintro vs ⟨a, b, ⟨o, rfl⟩, ⟨c, d, ⟨x, rfl, _⟩, ⟨e, f, ⟨y, rfl, _⟩, ⟨k, m, ⟨z, rfl, _⟩, ⟨p, q, ⟨l, hl, rfl⟩, rfl, rfl⟩, rfl⟩, rfl⟩, rfl⟩, rfl⟩
  exact ⟨⟨o, x, y, z, l⟩, hl, rfl⟩

theorem rd_region : Reads enc W 85 (fun vs => ∃ f : Fr, vs = fourC f) := by
  refine (reads_struct Tryz.underlying85 (by kernel_rfl) (readsL_cons rd_bound (readsL_cons rd_bound (readsL_cons rd_bound (readsL_cons rd_bound readsL_nil))))).mono ?_
  rintro vs ⟨a, b, ⟨x, rfl⟩, ⟨c, d, ⟨y, rfl⟩, ⟨e, f, ⟨z, rfl⟩, ⟨p, q, ⟨l, rfl⟩, rfl, rfl⟩, rfl⟩, rfl⟩, rfl⟩
  exact ⟨⟨x, y, z, l⟩, rfl⟩

theorem rd_regions : Reads enc W 27 (fun vs => ∃ l : List Fr, l.length ≤ 9223372036854775807 ∧ vs = [.slice 0 8 (l.map eF)]) := by
  refine (reads_slice (sz := 8) true Tryz.underlying27 (by kernel_rfl) (by decide) (by decide) rd_region).mono ?_
  rintro vs ⟨xs, h1, h2, rfl⟩
  obtain ⟨l, rfl, _⟩ := exists_list (R := fun _ => True) (g := fun f : Fr => fourC f) fun x hx => by obtain ⟨b, rfl⟩ := h1 x hx; exact ⟨b, trivial, rfl⟩
  refine ⟨l, by simpa using h2, ?_⟩
  simp [wrapV, Function.comp_def, eF]

theorem rd_int2 : Reads enc W 97 (fun vs => ∃ a b : Int, vs = [I a, I b]) := by
  refine (reads_array Tryz.underlying97 (by kernel_rfl) (readsL_cons rd_int (readsL_cons rd_int readsL_nil))).mono ?_
  rintro vs ⟨a, b, ⟨x, rfl, _⟩, ⟨c, d, ⟨y, rfl, _⟩, rfl, rfl⟩, rfl⟩
  exact ⟨x, y, rfl⟩

theorem rd_traces : Reads enc W 28 (fun vs => ∃ l : List (Int × Int), l.length ≤ 9223372036854775807 ∧ vs = [sB l]) := by
  refine (reads_slice (sz := 2) true Tryz.underlying28 (by kernel_rfl) (by decide) (by decide) rd_int2).mono ?_
  rintro vs ⟨xs, h1, h2, rfl⟩
  obtain ⟨l, rfl, _⟩ := exists_list (R := fun _ => True) (g := fun b : Int × Int => [I b.1, I b.2]) fun x hx => by obtain ⟨a, b, rfl⟩ := h1 x hx; exact ⟨(a, b), trivial, rfl⟩
  refine ⟨l, by simpa using h2, ?_⟩
  simp [sB, wrapV, Function.comp_def, eB]

theorem rd_layout : Reads enc W 30 (fun vs => ∃ s : Ly, s.nodes.length ≤ 9223372036854775807 ∧ s.traces.length ≤ 9223372036854775807 ∧ vs = layC s) := by
  refine (reads_struct Tryz.underlying30 (by kernel_rfl) (readsL_cons rd_regions (readsL_cons rd_traces readsL_nil))).mono ?_
  rintro vs ⟨a, b, ⟨l, hl, rfl⟩, ⟨c, d, ⟨m, hm, rfl⟩, rfl, rfl⟩, rfl⟩
  exact ⟨⟨l, m⟩, hl, hm, rfl⟩

theorem rd_ints : Reads enc W 48 (fun vs => ∃ l : List Int, l.length ≤ 9223372036854775807 ∧ vs = [intsV l]) := by
  refine (reads_slice (sz := 1) false Tryz.underlying48 (by kernel_rfl) (by decide) (fun _ => rfl) rd_int).mono ?_
  rintro vs ⟨xs, h1, h2, rfl⟩
  obtain ⟨l, rfl, _⟩ := exists_list (R := fun _ => True) (g := fun n : Int => [I n]) fun x hx => by obtain ⟨b, rfl, _⟩ := h1 x hx; exact ⟨b, trivial, rfl⟩
  refine ⟨l, by simpa using h2, ?_⟩
  simp [intsV, wrapV, Function.comp_def]

end

theorem repR_bool {w : World} {φ : Nat → Nat} {b : Bool} {x : Value} (h : RepR w φ (.bool b) x) : x = .bool b := by
  cases h with
  | data r => cases r; rfl

theorem repL3 {w : World} {φ : Nat → Nat} {a b c : V} {x y z : Value} (h : RepD w φ a x) (k : RepD w φ b y) (m : RepD w φ c z) : RepL w φ [a, b, c] #[x, y, z] := ⟨rfl, fun i v y h1 h2 => by
  match i with
  | 0 => cases h1; cases h2; exact h
  | 1 => cases h1; cases h2; exact k
  | 2 => cases h1; cases h2; exact m
  | i + 3 => simp at h1⟩

/-- From a contract to the walk that a row asks for. -/
theorem walk_of {f : FuncId} {args : List V} {xs : Array Value} {W : World} (hc : C Tryz.prog f args (.bool true)) (hg : Gl W (phi W)) (hr : RepL W (phi W) args xs) : Calls Tryz.prog f xs W fun e W' => e = .returned (.bool true) ∧ Below W.heap.size W W' :=
  (hc.2 W (phi W) xs phi_top hg hr).mono fun e w' ⟨φ', x, he, hx, hb, _⟩ => ⟨by rw [he, repR_bool hx], hb⟩

theorem own : ownKnob Tryz.prog.godebug = none := by kernel_rfl
theorem laidOut : laidOutB Tryz.prog = true := by kernel_rfl

end Go.Proofs.YtdejdblopmfjfaaGreatDoor


/-! Plain laws of choices: the best one; a lack less, a pass more; choices as numbers. -/
set_option linter.unusedVariables false
set_option linter.unusedSimpArgs false
set_option maxRecDepth 40000
set_option maxHeartbeats 4000000
namespace Go.Proofs.YtdejdblopmfjfaaGreatDoor
open Go.Am

/-! ### The best choice -/
/-! ### A lack less -/
def LeI : List Int → List Int → Prop
  | [], [] => True
  | a :: l, b :: m => a ≤ b ∧ LeI l m
  | _, _ => False

theorem LeI.refl : ∀ l, LeI l l
  | [] => trivial
  | a :: l => ⟨Int.le_refl a, LeI.refl l⟩
theorem LeI.rest : ∀ {c d : List Int} (a : List Int), LeI c d → LeI (restN c a) (restN d a)
  | [], [], a, _ => by simp [restN, LeI]
  | x :: c, y :: d, [], _ => trivial
  | x :: c, y :: d, z :: a, h => by
    have := LeI.rest a h.2
    have h1 := h.1
    have e : max 0 (x - z) ≤ max 0 (y - z) := by omega
    exact ⟨e, this⟩
  | [], _ :: _, _, h => h.elim
  | _ :: _, [], _, h => h.elim
/-! ### A pass more -/
/-! ### A choice as a number -/
end Go.Proofs.YtdejdblopmfjfaaGreatDoor


/-! counted over an arena; what is shot when all lines of a choice are. -/
set_option linter.unusedVariables false
set_option linter.unusedSimpArgs false
set_option maxRecDepth 40000
set_option maxHeartbeats 4000000
namespace Go.Proofs.YtdejdblopmfjfaaGreatDoor
open Go.Am
attribute [local simp] cells scalar mkv splice under2 under dem dem1 eB gridC sB fourC eF layC
/-! ### Tables over cells -/
def cntF (P : List (Int × Int)) (b c : Nat) : Int := ((P.count ((b : Int), (c : Int)) : Nat) : Int)

/-! ### What is shot -/
theorem cntF_bd (P : List (Int × Int)) (b c : Nat) : 0 ≤ cntF P b c ∧ cntF P b c ≤ P.length := by
  have : P.count ((b : Int), (c : Int)) ≤ P.length := List.count_le_length
  unfold cntF; omega

/-! ### A choice that covers fills all cells -/
end Go.Proofs.YtdejdblopmfjfaaGreatDoor


/-! Contracts: the region of a place; reach; what lies in a region. -/
set_option linter.unusedVariables false
set_option linter.unusedSimpArgs false
set_option maxRecDepth 20000
set_option maxHeartbeats 2000000
namespace Go.Proofs.YtdejdblopmfjfaaGreatDoor
open Go.Am

theorem c_indexP {l : List (Int × Int)} {p : Int × Int → Bool} {f : FuncId} (hl : l.length ≤ 9223372036854775807) (hp : ∀ b ∈ l, C Tryz.prog f [eB b] (.bool (p b))) :
    C Tryz.prog F.slices_IndexFunc_api_Point_api_Point [sB l, .func (.func f) [] []] (I (firstI p l 0)) := by
  refine C_of mixed chk.slices_IndexFunc_api_Point_api_Point (by simp) fun S ok => ?_
  refine Tr.seqR rfl (by simp) ?_
  refine Tr.seq (Tr.seqR rfl (by simp) (Tr.block ?_))
  refine Tr.loop (fun k s => (k ≤ l.length ∧ firstI p l 0 = firstI p (l.drop k) k) ∧ s = { env := [(0, sB l), (1, .func (.func f) [] []), (7, I l.length), (8, I k)], bx := [], rw := [], log := [], stp := false }) (fun k => l.length - k) 0
    (Wk.le (.cons rfl (.refl _) (.cons rfl (.refl _) (.cons rfl (VLe.i (by simp)) (.cons rfl (.refl _) .nil)))) .nil .nil rfl rfl) ⟨⟨by omega, by simp⟩, rfl⟩ ?_
  rintro k s ⟨⟨hk, hf⟩, rfl⟩
  refine Tr.seqR rfl (by simp) (Tr.seqI rfl (fun h1 => ?_) (fun h1 => ?_))
  · have h1 : k < l.length := by simpa using h1
    refine Tr.skipT (Tr.seq (Tr.block (Tr.seqR rfl (by simp) (Tr.seqC rfl ?_ ?_))))
    · rw [getD_map h1]; simp [eB, cells]; omega
    · rw [getD_map h1]
      refine Steps.callv rfl rfl (hp l[k] (List.getElem_mem h1)) (Steps.fin rfl (by simp) ?_)
      refine Tr.cond rfl rfl (fun h2 => ?_) (fun h2 => ?_)
      · refine Tr.seqR rfl (by simp) (Tr.ret ?_)
        refine ⟨trivial, _, _, _, resVs_ok rfl, rfl, ?_⟩
        rw [hf, firstI_drop p l h1, if_pos h2]; rfl
      · refine Tr.skip (Tr.regR rfl (by simp) ?_)
        refine ⟨k + 1, _, ?_, ⟨⟨by omega, ?_⟩, rfl⟩, by omega⟩
        · exact Wk.le (.cons rfl (.refl _) (.cons rfl (.refl _) (.cons rfl (.refl _) (.cons rfl (VLe.i (w64 (by omega) (by omega))) .nil)))) .nil .nil rfl rfl
        · rw [hf, firstI_drop p l h1, if_neg (by simp [h2])]
  · have h1 : k = l.length := by simp at h1; omega
    subst h1
    refine Tr.exit (Tr.seqR rfl (by simp) (Tr.retQ rfl rfl ?_ trivial))
    rw [hf, List.drop_length]; rfl

theorem c_containsP {l : List (Int × Int)} {p : Int × Int → Bool} {f : FuncId} (hl : l.length ≤ 9223372036854775807) (hp : ∀ b ∈ l, C Tryz.prog f [eB b] (.bool (p b))) :
    C Tryz.prog F.slices_ContainsFunc_api_Point_api_Point [sB l, .func (.func f) [] []] (.bool (l.any p)) := by
  refine C_of mixed chk.slices_ContainsFunc_api_Point_api_Point (by simp) fun S ok => ?_
  refine Tr.seqR rfl (by simp) ?_
  refine Tr.seqC rfl (by simp) (Steps.call rfl rfl (c_indexP hl hp) (Steps.fin rfl (by simp) (Tr.retQ rfl rfl ?_ trivial)))
  rw [← firstI_nn p l 0]; rfl

attribute [local simp] cells scalar mkv splice under2 under dem dem1 eB fourC
theorem c_Of1 {p : Int × Int} (h : inPlane p) : C Tryz.prog F.region_Of_1 [eB p] (.bool false) := by
  refine C_of mixed chk.region_Of_1 (by simp) fun S ok => ?_
  exact Tr.seqR rfl (by simp) (Tr.seqC rfl (by simp) (Steps.call rfl rfl (c_CheckPoint h) (Steps.fin rfl (by simp) (Tr.retX rfl rfl rfl rfl trivial))))

theorem i_Of2 (p : Int × Int) : Iter Tryz.prog F.region_Of_2 [.vptr [sB [p]] 0] ([p].map eEnd) := by
  refine Iter_of mixed chk.region_Of_2 (by simp) fun S ok => ?_
  refine Tr.seqR rfl (by simp [sB]) (Tr.block ?_)
  refine Tr.rounds 2 (TrN.succ ?_)
  refine Tr.seqR rfl (by simp) (Tr.seqI rfl (fun _ => ?_) (fun h => ?_))
  rotate_left
  · simp at h
  refine Tr.skipT (Tr.seq (Tr.block (Tr.seqR rfl (by simp) ?_)))
  refine Tr.seqC rfl (by simp) (Steps.yield rfl (by simp) rfl (List.prefix_refl _) rfl (fun b => Steps.fin rfl (by simp) ?_))
  cases b with
  | false => exact Tr.condT rfl (Tr.ret ⟨.inl rfl, [], [], [], rfl, rfl, rfl⟩)
  | true =>
    refine Tr.condF rfl (Tr.skip (Tr.regR rfl (by simp) (TrN.succ ?_)))
    refine Tr.seqR rfl (by simp) (Tr.seqI rfl (fun h => ?_) (fun _ => ?_))
    · simp at h
    exact Tr.exit ⟨.inr rfl, [], [], [], rfl, rfl, rfl⟩

theorem plain_one (p : Int × Int) : Plain [.vptr [sB [p]] 0] := ⟨fun b => rfl, fun B R => rfl⟩

theorem span_self (b : Int × Int) : spanB b b = b := by
  obtain ⟨x, y⟩ := b
  unfold spanB
  simp

theorem hull_oneS (p : Int × Int) : hullS [p] = (ofF p, true) := by
  show (comb spanB (ofF p) (ofF p), true) = _
  unfold comb
  rw [span_self, span_self, span_self, span_self]

theorem c_OfOne {p : Int × Int} (h : inPlane p) : C Tryz.prog F.region_Of [sB [p]] (.tuple [.agg (fourC (ofF p)), I 0]) := by
  have k1 := c_containsP (l := [p]) (p := fun _ => false) (f := F.region_Of_1) (by simp) (fun b hb => by
    obtain rfl : b = p := by simpa using hb
    exact c_Of1 h)
  have k2 := c_hull (plain_one p) (i_Of2 p)
  rw [hull_oneS] at k2
  refine C_of mixed chk.region_Of (by simp) fun S ok => ?_
  refine Tr.seqR rfl (by simp [sB]) (Tr.seq (Tr.block ?_))
  refine Tr.seqR rfl (by simp [sB]) (Tr.condF rfl ?_)
  refine Tr.seqR rfl (by simp [sB]) (Tr.condF rfl ?_)
  refine Tr.seqC rfl (by simp [sB]) ?_
  refine Steps.call rfl rfl k1 ?_
  refine Steps.fin rfl (by simp) ?_
  refine Tr.condF rfl (Tr.skip ?_)
  refine Tr.seqN 1 rfl (by simp) ?_
  refine stepsWk (wkData (t := 21) (u := .func (.func F.region_Of_2) [] [.vptr [sB [p]] 0]) (ids := [1]) rfl rfl) ?_
  refine Steps.run rfl (by simp) (Steps.call rfl rfl k2 (Steps.fin rfl (by simp) ?_))
  exact Tr.seqC rfl (by simp) (Steps.call rfl rfl (c_region (ofF p)) (Steps.fin rfl (by simp) (Tr.retX rfl rfl rfl rfl trivial)))

end Go.Proofs.YtdejdblopmfjfaaGreatDoor


/-! A node that is known better: hits, folds, gain. -/
set_option linter.unusedVariables false
set_option linter.unusedSimpArgs false
set_option maxRecDepth 40000
set_option maxHeartbeats 4000000
namespace Go.Proofs.YtdejdblopmfjfaaGreatDoor
open Go.Am

/-! ### The region of one place -/
theorem of_in {p : Int × Int} (h : planeB p = true) : ofF p = ⟨(p.1, p.1), (p.2, p.2), (p.1 + p.2, p.1 + p.2), (p.1 - p.2, p.1 - p.2)⟩ := by
  simp only [planeB, Bool.and_eq_true, btw_iff] at h
  unfold ofF w
  rw [w64 (n := p.1 + p.2) (by omega) (by omega), w64 (n := p.1 - p.2) (by omega) (by omega)]

theorem rows_of {p : Int × Int} (h : planeB p = true) : rowsL (ofF p) = [(p.1, p.2, p.2)] := by
  have e1 : lowY (ofF p) p.1 = p.2 := by rw [of_in h]; unfold lowY; simp only; omega
  have e2 : highY (ofF p) p.1 = p.2 := by rw [of_in h]; unfold highY; simp only; omega
  unfold rowsL
  rw [show (ofF p).x = (p.1, p.1) from rfl]
  rw [show (p.1 + 1 - p.1).toNat = 1 by omega]
  simp only [rowsN, e1, e2, Int.le_refl, if_true]

theorem places_of {p : Int × Int} (h : planeB p = true) : placesL (ofF p) = [p] := by
  unfold placesL
  rw [rows_of h]
  simp only [List.flatMap_cons, List.flatMap_nil, List.append_nil, colP]
  rw [show (p.2 + 1 - p.2).toNat = 1 by omega]
  rfl

theorem node_of {p : Int × Int} (h : planeB p = true) : nodeOk (ofF p) = true := by
  have h' := h
  simp only [planeB, Bool.and_eq_true, btw_iff] at h'
  simp only [nodeOk, Bool.and_eq_true]
  refine ⟨?_, ?_⟩
  · rw [fitFB_iff, of_in h]
    simp only [fitF, fitB]
    omega
  · unfold countN
    rw [rows_of h]
    simp only [List.map_cons, List.map_nil, List.foldl_cons, List.foldl_nil, rowM, btw_iff]
    omega

/-! ### A layout with one node known -/
def setY (s : Ly) (i : Nat) (p : Int × Int) : Ly := { s with nodes := s.nodes.set i (ofF p) }

theorem layD_set {g : Gd} {s : Ly} {i : Nat} {p : Int × Int} (h : planeB p = true) : layD g (setY s i p) = knownL (layD g s) i p := by
  unfold layD setY knownL
  rw [List.map_set, places_of h]

theorem layOk_set {s : Ly} {i : Nat} {p : Int × Int} (hs : layOk s = true) (h : planeB p = true) : layOk (setY s i p) = true := by
  simp only [layOk, Bool.and_eq_true, decide_eq_true_eq, List.all_eq_true] at hs ⊢
  refine ⟨⟨⟨by simpa [setY] using hs.1.1.1, hs.1.1.2⟩, fun f hf => ?_⟩, fun t ht => by simpa [setY] using hs.2 t ht⟩
  rcases List.mem_or_eq_of_mem_set (show f ∈ s.nodes.set i (ofF p) from hf) with hf | rfl
  · exact hs.1.2 f hf
  · exact node_of h

theorem pl_known {L : Ld} {n : Nat} {p : Int × Int} (hp : p ∈ pl L n) {i : Int} {q : Int × Int} (h : q ∈ pl (knownL L n p) i) : q ∈ pl L i := by
  unfold pl knownL at h
  simp only [List.getD_eq_getElem?_getD] at h
  by_cases e : i.toNat = n
  · rw [e] at h
    by_cases hn : n < L.places.length
    · rw [List.getElem?_set_self hn] at h
      have hq : q = p := by simpa using h
      rw [hq]
      unfold pl at hp ⊢
      rw [e]; simpa using hp
    · rw [List.getElem?_eq_none (by simp; omega)] at h
      simp at h
  · rw [List.getElem?_set_ne (by omega)] at h
    unfold pl
    rw [List.getD_eq_getElem?_getD]; exact h

theorem hits_known {L : Ld} {n : Nat} {p : Int × Int} (hp : p ∈ pl L n) {t : Nat} {x : Int × Int} (h : x ∈ hitsT (knownL L n p) t) : x ∈ hitsT L t := by
  unfold hitsT hitsL at h ⊢
  rw [mem_hitsOf] at h ⊢
  obtain ⟨q, hq, rfl⟩ := List.mem_map.1 h
  obtain ⟨h1, h2⟩ := mem_pairs.1 hq
  exact List.mem_map.2 ⟨q, mem_pairs.2 ⟨pl_known hp h1, pl_known hp h2⟩, rfl⟩

theorem hitsT_nodup (L : Ld) (t : Nat) : (hitsT L t).Nodup := by
  unfold List.Nodup hitsT hitsL
  exact (hitsOf_sorted _).imp fun {a b} h (e : a = b) => befC_irrefl (by rw [e] at h; exact h)

theorem hitsT_ne {L : Ld} (hL : LdOk L) {t : Nat} (ht : t < L.traces.length) : hitsT L t ≠ [] := by
  obtain ⟨i, j, hij, hi, hj⟩ := hL.tr _ (List.getElem_mem ht)
  have e : L.traces.getD t (0, 0) = ((i : Int), (j : Int)) := by simp [ht, hij]
  have h1 := (hL.p _ (List.getElem_mem hi)).1.1
  have h2 := (hL.p _ (List.getElem_mem hj)).1.1
  intro h0
  have : cellP L.g (L.places[i][0], L.places[j][0]) ∈ hitsT L t := by
    unfold hitsT hitsL
    rw [mem_hitsOf, e]
    refine List.mem_map.2 ⟨_, mem_pairs.2 ⟨?_, ?_⟩, rfl⟩
    · simp [pl, hi]
    · simp [pl, hj]
  rw [h0] at this; cases this

theorem sure_more {L : Ld} (hL : LdOk L) {n : Nat} {p : Int × Int} (hp : p ∈ pl L n) (hpp : planeB p = true) {t : Nat} (ht : t < L.traces.length) : sureT L t = [] ∨ sureT L t = sureT (knownL L n p) t := by
  have h1 : ∀ x, x ∈ hitsT (knownL L n p) t → x ∈ hitsT L t := fun x => hits_known hp
  have h2 := hitsT_ne (known_ok hL (i := n) hpp) (t := t) ht
  have h3 := hitsT_nodup (knownL L n p) t
  unfold sureT
  generalize hitsT (knownL L n p) t = l' at h1 h2 h3
  generalize hitsT L t = l at h1
  match l, h1 with
  | [], _ => exact .inl rfl
  | [c], h1 =>
    right
    match l', h1, h2, h3 with
    | [d], h1, _, _ => rw [List.mem_singleton.1 (h1 d (by simp))]
    | d :: e :: r, h1, _, h3 =>
      exfalso
      have a := List.mem_singleton.1 (h1 d (by simp))
      have b := List.mem_singleton.1 (h1 e (by simp))
      rw [a, b] at h3
      simp at h3
  | c :: d :: r, _ => exact .inl rfl

theorem may_less {L : Ld} {n : Nat} {p : Int × Int} (hp : p ∈ pl L n) (t : Nat) (x : Int × Int) : (hitsT (knownL L n p) t).count x ≤ (hitsT L t).count x := by
  by_cases h : x ∈ hitsT (knownL L n p) t
  · have a := List.nodup_iff_count.1 (hitsT_nodup (knownL L n p) t) x
    have b := List.count_pos_iff.2 (hits_known hp h)
    omega
  · rw [List.count_eq_zero_of_not_mem h]; exact Nat.zero_le _

theorem all_more {L : Ld} (hL : LdOk L) {n : Nat} {p : Int × Int} (hp : p ∈ pl L n) (hpp : planeB p = true) (x : Int × Int) : ∀ k ≤ L.traces.length, ((allH (sureT L) k).count x ≤ (allH (sureT (knownL L n p)) k).count x ∧ (allH (sureT L) k).length ≤ (allH (sureT (knownL L n p)) k).length) ∧ (allH (hitsT (knownL L n p)) k).count x ≤ (allH (hitsT L) k).count x
  | 0, _ => by simp [allH]
  | k + 1, hk => by
    obtain ⟨⟨i1, i2⟩, i3⟩ := all_more hL hp hpp x k (by omega)
    have h1 := sure_more hL hp hpp (t := k) (by omega)
    have h2 := may_less hp k x
    rw [allH_succ, allH_succ, allH_succ, allH_succ]
    simp only [List.count_append, List.length_append]
    rcases h1 with h1 | h1
    · rw [h1]; simp only [List.count_nil, List.length_nil]; omega
    · rw [h1]; omega

theorem sure_inG {L : Ld} (hg : gridOk L.g = true) {t : Nat} {x : Int × Int} (h : x ∈ sureT L t) : inG L.g x := by
  have key : ∀ l : List (Int × Int), x ∈ sureL l → x ∈ l ∧ x ≠ noneC := fun l hx => by
    rcases l with _ | ⟨c, _ | ⟨d, r⟩⟩
    · cases hx
    · by_cases hc : c = noneC
      · simp [sureL, hc] at hx
      · have hx : x = c := by simpa [sureL, hc] using hx
        rw [hx]; exact ⟨by simp, hc⟩
    · cases hx
  obtain ⟨h1, h2⟩ := key _ h
  unfold hitsT hitsL at h1
  rw [mem_hitsOf] at h1
  obtain ⟨q, _, rfl⟩ := List.mem_map.1 h1
  rcases cell_in hg q.1 q.2 with h3 | h3
  · exact absurd h3 h2
  · exact h3

theorem all_in {L : Ld} (hg : gridOk L.g = true) (k : Nat) : ∀ x ∈ allH (sureT L) k, inG L.g x := fun x hx => by
  unfold allH at hx
  obtain ⟨t, _, h⟩ := List.mem_flatMap.1 hx
  exact sure_inG hg h

/-! ### Sums over all cells -/
def sumR : Nat → (Nat → Int) → Int
  | 0, _ => 0
  | n + 1, f => sumR n f + f n

theorem sumR_add (f h : Nat → Int) : ∀ n, sumR n (fun i => f i + h i) = sumR n f + sumR n h
  | 0 => rfl
  | n + 1 => by simp only [sumR, sumR_add f h n]; omega
theorem sumR_one (k : Nat) (a : Int) : ∀ n, sumR n (fun i => if i = k then a else 0) = if k < n then a else 0
  | 0 => by simp [sumR]
  | n + 1 => by
    simp only [sumR, sumR_one k a n]
    by_cases h1 : k < n
    · rw [if_pos h1, if_neg (by omega), if_pos (by omega)]; omega
    · by_cases h2 : n = k
      · rw [if_neg h1, if_pos h2, if_pos (by omega)]; omega
      · rw [if_neg h1, if_neg h2, if_neg (by omega)]; omega
theorem sumR_zero : ∀ n, sumR n (fun _ => 0) = 0
  | 0 => rfl
  | n + 1 => by simp only [sumR, sumR_zero n]; omega
theorem sumR_congr {f h : Nat → Int} : ∀ n, (∀ i < n, f i = h i) → sumR n f = sumR n h
  | 0, _ => rfl
  | n + 1, e => by simp only [sumR, sumR_congr n fun i hi => e i (by omega), e n (by omega)]

def totF (g : Gd) (F : Nat → Nat → Int) (n c : Nat) : Int := sumR n (fun b => sumR g.cls.length (F b)) + sumR c (F n)

theorem tot_row (g : Gd) (F : Nat → Nat → Int) (n : Nat) : totF g F n g.cls.length = totF g F (n + 1) 0 := by
  simp only [totF, sumR]; omega
theorem tot_step (g : Gd) (F : Nat → Nat → Int) (n c : Nat) : totF g F n (c + 1) = totF g F n c + F n c := by
  simp only [totF, sumR]; omega

theorem tot_all {g : Gd} (hg : gridOk g = true) : ∀ P : List (Int × Int), (∀ x ∈ P, inG g x) → totF g (cntF P) (nBins g) 0 = P.length
  | [], _ => by
    have e : ∀ b, cntF [] b = fun _ => 0 := fun b => by funext c; simp [cntF]
    have e2 : (fun b => sumR g.cls.length (cntF [] b)) = fun _ => 0 := by funext b; rw [e, sumR_zero]
    simp only [totF, sumR, e2, sumR_zero]; simp
  | x :: P, h => by
    have ih := tot_all hg P fun y hy => h y (by simp [hy])
    obtain ⟨b0, k0, rfl, hb, hk⟩ := inG_nat hg (h x (by simp))
    have e : ∀ b c, cntF ((((b0 : Nat) : Int), ((k0 : Nat) : Int)) :: P) b c = cntF P b c + if b = b0 then (if c = k0 then 1 else 0) else 0 := fun b c => by
      unfold cntF
      rw [List.count_cons]
      by_cases e1 : b = b0
      · subst e1
        by_cases e2 : c = k0
        · subst e2; simp
        · have : ((((b : Int), (k0 : Int)) : Int × Int) == ((b : Int), (c : Int))) = false := by
            simp; omega
          rw [this, if_pos rfl, if_neg e2]; simp
      · have : ((((b0 : Int), (k0 : Int)) : Int × Int) == ((b : Int), (c : Int))) = false := by
          simp; omega
        rw [this, if_neg e1]; simp
    have e2 : ∀ b, sumR g.cls.length (cntF ((((b0 : Nat) : Int), ((k0 : Nat) : Int)) :: P) b) = sumR g.cls.length (cntF P b) + if b = b0 then 1 else 0 := fun b => by
      rw [sumR_congr g.cls.length (h := fun c => cntF P b c + if b = b0 then (if c = k0 then 1 else 0) else 0) fun c _ => e b c, sumR_add]
      congr 1
      by_cases e1 : b = b0
      · simp only [if_pos e1]; rw [sumR_one, if_pos hk]
      · simp only [if_neg e1]; exact sumR_zero _
    have e3 : sumR (nBins g) (fun b => sumR g.cls.length (cntF ((((b0 : Nat) : Int), ((k0 : Nat) : Int)) :: P) b)) = sumR (nBins g) (fun b => sumR g.cls.length (cntF P b)) + 1 := by
      rw [sumR_congr (nBins g) (h := fun b => sumR g.cls.length (cntF P b) + if b = b0 then 1 else 0) fun b _ => e2 b, sumR_add, sumR_one, if_pos hb]
    unfold totF at ih ⊢
    rw [e3]
    simp only [sumR] at ih ⊢
    simp only [List.length_cons]; omega

theorem tot_bd {g : Gd} {P : List (Int × Int)} {m : Nat} (hm : P.length ≤ m) : ∀ n, (0 ≤ sumR n (fun b => sumR g.cls.length (cntF P b)) ∧ sumR n (fun b => sumR g.cls.length (cntF P b)) ≤ n * (g.cls.length * m)) ∧ ∀ b c, 0 ≤ sumR c (cntF P b) ∧ sumR c (cntF P b) ≤ c * m := by
  have h1 : ∀ b c, 0 ≤ sumR c (cntF P b) ∧ sumR c (cntF P b) ≤ c * m := fun b c => by
    induction c with
    | zero => simp [sumR]
    | succ c ih =>
      have := cntF_bd P b c
      simp only [sumR]
      have e : ((c + 1 : Nat) : Int) * m = c * m + m := by push_cast; rw [Int.add_mul]; omega
      rw [e]; omega
  intro n
  refine ⟨?_, h1⟩
  induction n with
  | zero => simp [sumR]
  | succ n ih =>
    have := h1 n g.cls.length
    simp only [sumR]
    have e : ((n + 1 : Nat) : Int) * (g.cls.length * m) = n * (g.cls.length * m) + g.cls.length * m := by push_cast; rw [Int.add_mul]; omega
    rw [e]; omega

/-! ### The gain -/
theorem least_bd {m : Int} (hm : 0 ≤ m) : ∀ (xs : List Int) (acc : Int), m ≤ acc → (∀ x ∈ xs, m ≤ x) → (m ≤ xs.foldl leastStep acc ∧ xs.foldl leastStep acc ≤ acc) ∧ ∀ x ∈ xs, xs.foldl leastStep acc ≤ x
  | [], acc, h, _ => ⟨⟨h, Int.le_refl _⟩, fun x hx => by cases hx⟩
  | y :: xs, acc, h, hx => by
    have h0 := hx y (by simp)
    have e : leastStep acc y ≤ acc ∧ leastStep acc y ≤ y ∧ m ≤ leastStep acc y := by unfold leastStep; split <;> omega
    obtain ⟨⟨i1, i2⟩, i3⟩ := least_bd hm xs (leastStep acc y) e.2.2 fun x h => hx x (by simp [h])
    rw [List.foldl_cons]
    refine ⟨⟨i1, by omega⟩, fun x h => ?_⟩
    rcases List.mem_cons.1 h with rfl | h
    · omega
    · exact i3 x h

theorem gain_bdK {L : Ld} (hL : LdOk L) {n : Nat} (hn : n < L.places.length) {p : Int × Int} (hp : p ∈ pl L n) : 0 ≤ gainL L n ∧ gainL L n ≤ (sureC (knownL L n p) : Int) - sureC L := by
  have hpl : pl L n = L.places[n] := by simp [pl, hn]
  have hpp : ∀ q ∈ pl L n, planeB q = true := fun q hq => by rw [hpl] at hq; exact (hL.p _ (List.getElem_mem hn)).2 q hq
  have hge : ∀ q ∈ pl L n, (sureC L : Int) ≤ sureC (knownL L n q) := fun q hq => by
    have := (all_more hL hq (hpp q hq) (0, 0) _ (Nat.le_refl _)).1.2
    unfold sureC
    have e : (knownL L n q).traces = L.traces := rfl
    rw [e]; omega
  unfold gainL leastL
  obtain ⟨xs, hxs⟩ : ∃ xs, (pl L n).map (fun p => (sureC (knownL L n p) : Int)) = xs := ⟨_, rfl⟩
  have hall : ∀ x ∈ xs, (sureC L : Int) ≤ x := fun x hx => by
    rw [← hxs] at hx
    obtain ⟨q, hq, rfl⟩ := List.mem_map.1 hx
    exact hge q hq
  have hpx : (sureC (knownL L n p) : Int) ∈ xs := by rw [← hxs]; exact List.mem_map.2 ⟨p, hp, rfl⟩
  rw [hxs]
  match xs, hall, hpx with
  | y :: ys, hall, hpx =>
    have e : leastStep (-1) y = y := by unfold leastStep; simp
    rw [List.foldl_cons, e]
    obtain ⟨⟨i1, i2⟩, i3⟩ := least_bd (m := (sureC L : Int)) (by omega) ys y (hall y (by simp)) fun x h => hall x (by simp [h])
    rcases List.mem_cons.1 hpx with h | h
    · omega
    · have := i3 _ h; omega

end Go.Proofs.YtdejdblopmfjfaaGreatDoor


/-! AM, part Zx: an empty slice that is made, and what is appended to it, in regions whose order is drawn. -/
set_option linter.unusedVariables false
set_option linter.unusedSimpArgs false
namespace Go.Am
open Go.RowKit

section
variable {E : Env} {σ : FSt}

theorem ok_emp {σ : FSt} {h : Gh} {w : World} {x : Value} (o : Ok σ h w .emp x) : ∃ blk, x = .slice (some ⟨blk, 0, none⟩) 0 0 := by
  obtain ⟨r, _⟩ := o
  cases r with
  | data r => cases r with
    | emp blk => exact ⟨blk, rfl⟩

/-- An empty slice that is made. -/
theorem does_mkEmp {d sz e : Nat} (hd : σ.b d = none) : Does E σ ⟨some d, .mkslice sz e, [], none⟩ { v := .emp, wb := [(d, ⟨[], false⟩)], rb := [d] } [.bx d] := by
  refine .sem fun τ hτ slots ops i o ro n log stp a w h hc hs hi R Q next hn => ?_
  have hd' : τ.b d = none := by rw [b_eq (hτ (.bx d) (by simp))]; exact hd
  obtain ⟨os, cc⟩ := comp_of hc
  have hgo : o.guard = none := by
    rcases cc.guard with ⟨_, e⟩ | ⟨_, _, _, _, _, e⟩
    · exact e
    · cases e
  obtain ⟨t, len, parts, ie, z, ho, ht, hie, hz, hzs, hsz, hidx, rfl⟩ := opK_mksliceE cc.op
  have hO := opds_of R.1 cc.xs (vs := []) rfl
  have hlen : len = 0 := by
    have h1 := hO.get.1
    have h2 := congrArg List.length hidx
    simp at h1 h2
    omega
  subst hlen
  have hp : parts = #[] := by
    have h1 := hO.get.1
    simp at h1
    exact Array.size_eq_zero_iff.1 h1.symm
  have hrun : (Instr.buildSlice t 0 (parts.map fun (i, x) => (i, a.eval x))).run E.P w = .ok (.slice (some ⟨w.heap.size, 0, none⟩) 0 0) (w.alloc (.cells #[] e)) := by
    subst hp
    have hr0 : Array.range 0 = #[] := rfl
    simp [Instr.buildSlice, run_underlying ht, sizeOf, typeInfo, zeroValue, hie, hz, newRow, Instr.fill, hr0]
  have R1 := R.1.newBox (e := e) (cs := #[]) (zs := []) (d := d) E.ok hd' (by simp) (fun j v x hv hx => by simp at hv)
  have hex : (execOp a.eval o).run E.P w = .ok (.value (.slice (some ⟨w.heap.size, 0, none⟩) 0 0)) (w.alloc (.cells #[] e)) := by
    simp only [execOp, ho, Sem.run_bind, hrun]; rfl
  have key := rel_after (eff := { v := .emp, wb := [(d, ⟨[], false⟩)], rb := [d] }) cc R R1 (x := .slice (some ⟨w.heap.size, 0, none⟩) 0 0) ⟨.data (.emp _), GrowV.of_data (w0 := w) (φ0 := h.φ) (.emp w.heap.size)⟩ rfl
  exact wpOp_done hi (wanted_none hgo) (opK_defer cc.op) (.inl hex) (hn _ _ { h with M := fun b => h.M b ∨ b = w.heap.size, β := fun i => if i = d then some w.heap.size else h.β i } key rfl)

/-- An append to an empty slice makes a box. -/
theorem does_appendEmp {d : Nat} {x y : X} {sz bytes e r : Nat} {ys : List V} (hx : [x, y].mapM (evX σ) = some [.emp, .slice r sz ys]) (hd : σ.b d = none) (h0 : 0 < sz) (hb : ys.length * bytes ≤ 2 ^ 47) (hm : ys.length ≤ 2 ^ 47) (hne : ys ≠ []) :
    Does E σ ⟨some d, .append sz bytes e, [x, y], none⟩ { v := .bsl d 0 sz ys.length, wb := [(d, ⟨ys.flatMap cells, false⟩)], rb := [d] } (xslots [x, y] ++ [.bx d]) := by
  refine .sem fun τ hτ slots ops i o ro n log stp a w h hc hs hi R Q next hn => ?_
  have hd' : τ.b d = none := by rw [b_eq (hτ (.bx d) (by simp))]; exact hd
  have hx' : [x, y].mapM (evX τ) = some [.emp, .slice r sz ys] := evX_reads hx fun l hl => hτ l (by simp [hl])
  obtain ⟨os, cc⟩ := comp_of hc
  have hgo : o.guard = none := by
    rcases cc.guard with ⟨_, e⟩ | ⟨_, _, _, _, _, e⟩
    · exact e
    · cases e
  obtain ⟨c, p, q, t, ie, z, ho, hcal, hca, hct, ht, hie, hz, hzs, hsz, hby, rfl⟩ := opK_append cc.op
  obtain ⟨u, v, huv, hu, hv'⟩ := (opds_of R.1 cc.xs hx').two
  cases huv
  obtain ⟨blk, hu⟩ := ok_emp hu
  obtain ⟨x1, w', h', hr', R', ok, hy⟩ := done_appendE (d := d) (pre := True) (rb := [d]) R.1 E.ok ho hcal hca hct ht hie hz hzs hsz hby hu rfl (ok_slice hv') hd' h0 hb hm hne
  exact wpOp_done hi (wanted_none hgo) (opK_defer cc.op) hr' (hn _ _ h' (rel_after cc R R' ok hy) hy)

end

theorem TraceK.mkEmp {E : Env} {s : St} {K : List (List Loc × List Loc) → St → List Ins → Prop} {d sz e : Nat} {rest : List Ins} (hd : get s.bx d = none)
    (tr : TraceK E ((s.setB d ⟨[], false⟩).put (some d) .emp) rest fun fp s' r' => K ((wrOf ⟨some d, .mkslice sz e, [], none⟩ { v := .emp, wb := [(d, ⟨[], false⟩)], rb := [d] }, [.bx d]) :: fp) s' r') : TraceK E s (⟨some d, .mkslice sz e, [], none⟩ :: rest) K :=
  .step (ins := ⟨some d, .mkslice sz e, [], none⟩) (eff := { v := .emp, wb := [(d, ⟨[], false⟩)], rb := [d] }) (does_mkEmp (by rw [fs_b]; exact hd)) tr

theorem TraceK.appendEmp {E : Env} {s : St} {K : List (List Loc × List Loc) → St → List Ins → Prop} {d : Nat} {x y : X} {sz bytes e r : Nat} {ys : List V} {rest : List Ins} (hx : evXs s.env [x, y] = some [.emp, .slice r sz ys]) (hd : get s.bx d = none) (h0 : 0 < sz) (hb : ys.length * bytes ≤ 2 ^ 47) (hm : ys.length ≤ 2 ^ 47) (hne : ys ≠ [])
    (tr : TraceK E ((s.setB d ⟨ys.flatMap cells, false⟩).put (some d) (.bsl d 0 sz ys.length)) rest fun fp s' r' => K ((wrOf ⟨some d, .append sz bytes e, [x, y], none⟩ { v := .bsl d 0 sz ys.length, wb := [(d, ⟨ys.flatMap cells, false⟩)], rb := [d] }, xslots [x, y] ++ [.bx d]) :: fp) s' r') : TraceK E s (⟨some d, .append sz bytes e, [x, y], none⟩ :: rest) K :=
  .step (ins := ⟨some d, .append sz bytes e, [x, y], none⟩) (eff := { v := .bsl d 0 sz ys.length, wb := [(d, ⟨ys.flatMap cells, false⟩)], rb := [d] }) (does_appendEmp (evXs_ok hx) (by rw [fs_b]; exact hd) h0 hb hm hne) tr

end Go.Am


/-! Contract of the law BinBetter. -/
set_option linter.unusedVariables false
set_option linter.unusedSimpArgs false
set_option maxRecDepth 40000
set_option maxHeartbeats 4000000
namespace Go.Proofs.YtdejdblopmfjfaaGreatDoor
open Go.Am
attribute [local simp] cells scalar mkv splice under2 under dem dem1 eB gridC sB fourC layC eF intsV foldV
theorem flat8_len (l : List Fr) : ((l.map eF).flatMap cells).length = l.length * 8 := by
  induction l with
  | nil => rfl
  | cons f l ih => rw [List.map_cons, List.flatMap_cons, List.length_append, ih, List.length_cons]; simp; omega

theorem flat8_set : ∀ (l : List Fr) (i : Nat) (f : Fr), i < l.length → splice ((l.map eF).flatMap cells) (i * 8) (fourC f) = ((l.set i f).map eF).flatMap cells
  | [], i, f, h => by simp at h
  | a :: l, 0, f, _ => by simp
  | a :: l, i + 1, f, h => by
    have ih := flat8_set l i f (by simpa using h)
    rw [show (i + 1) * 8 = i * 8 + 8 by omega]
    rw [List.set_cons_succ, List.map_cons, List.flatMap_cons, List.map_cons, List.flatMap_cons, ← ih]
    simp [Nat.add_assoc]

def flatI (l : List Fr) : List Int := l.flatMap fun f => [f.x.1, f.x.2, f.y.1, f.y.2, f.s.1, f.s.2, f.d.1, f.d.2]
theorem flat8_I (l : List Fr) : (l.map eF).flatMap cells = (flatI l).map I := by
  induction l with
  | nil => rfl
  | cons f l ih => rw [List.map_cons, List.flatMap_cons, ih]; simp [flatI, fourC]

theorem holds8 (l : List Fr) : Holds ((l.map eF).flatMap cells) 0 8 l.length (l.map eF) := by
  refine ⟨by omega, by simp, fun x hx => ?_, ?_, fun x hx => ?_⟩
  · obtain ⟨c, _, rfl⟩ := List.mem_map.1 hx; rfl
  · rw [List.drop_zero, List.take_of_length_le (by rw [flat8_len]; exact Nat.le_refl _)]
  · obtain ⟨c, _, rfl⟩ := List.mem_map.1 hx; rfl

theorem c_BinBetter {g : Gd} {s : Ly} (hl : g.cls.length ≤ 9223372036854775807) (hn : s.nodes.length ≤ 9223372036854775807) (ht : s.traces.length ≤ 9223372036854775807) {bits : List Int} (hb : bits.length ≤ 9223372036854775807) : C Tryz.prog F.law07_BinBetter [.agg (gridC g), .agg (layC s), intsV bits] (.bool true) := by
  have kf := c_Fold hl hn ht
  unfold FoldR at kf
  refine C_of mixed chk.law07_BinBetter (by simp) fun S ok => ?_
  refine Tr.seqR rfl (by simp) ?_
  by_cases hg : gridOk g = true
  rotate_left
  · rw [if_neg hg] at kf
    refine Tr.seqC rfl (by simp) (Steps.call rfl rfl kf (Steps.fin rfl (by simp) ?_))
    refine Tr.seq (Tr.seqR rfl (by simp) (Tr.condT rfl ?_))
    exact Tr.seqC rfl (by simp) (Steps.call rfl rfl c_works (Steps.fin rfl (by simp) (Tr.retX rfl rfl rfl rfl trivial)))
  rw [if_pos hg] at kf
  by_cases hs : layOk s = true
  rotate_left
  · rw [if_neg hs] at kf
    refine Tr.seqC rfl (by simp) (Steps.call rfl rfl kf (Steps.fin rfl (by simp) ?_))
    refine Tr.seq (Tr.seqR rfl (by simp) (Tr.condT rfl ?_))
    exact Tr.seqC rfl (by simp) (Steps.call rfl rfl c_works (Steps.fin rfl (by simp) (Tr.retX rfl rfl rfl rfl trivial)))
  rw [if_pos hs] at kf
  obtain ⟨⟨h16, h64⟩, hno, _⟩ := layOk_spec hs
  have hL := lay_ok hg hs
  refine Tr.seqC rfl (by simp) (Steps.call rfl rfl kf (Steps.fin rfl (by simp) ?_))
  by_cases hne : s.nodes = []
  · refine Tr.seq (Tr.seqR rfl (by simp) (Tr.condT (congrArg (fun b => some (V.bool b)) (show (bif false then true else (((s.nodes.map eF).length : Int) == 0)) = true by rw [hne]; rfl)) ?_))
    exact Tr.seqC rfl (by simp) (Steps.call rfl rfl c_works (Steps.fin rfl (by simp) (Tr.retX rfl rfl rfl rfl trivial)))
  have hpos : 0 < s.nodes.length := List.length_pos_iff.2 hne
  have hlm : (s.nodes.map eF).length = s.nodes.length := List.length_map _
  refine Tr.seq (Tr.seqR rfl (by simp) (Tr.condF (congrArg (fun b => some (V.bool b)) (show (bif false then true else (((s.nodes.map eF).length : Int) == 0)) = false by rw [hlm]; simp; omega)) (Tr.skip ?_)))
  -- the numbers choose
  have q0 := c_Pick bits 0 hb
  have q1 := c_Pick bits 1 hb
  have q2 := c_Pick bits 2 hb
  have hr := restI_bd (n := pickI bits 0) (m := (s.nodes.length : Int)) (by omega)
  obtain ⟨i, hi⟩ : ∃ i : Nat, restI (pickI bits 0) (s.nodes.length : Int) = i := ⟨(restI (pickI bits 0) (s.nodes.length : Int)).toNat, by omega⟩
  have hil : i < s.nodes.length := by omega
  have kr : C Tryz.prog F.ref00_Rest [I (pickI bits 0), I ((s.nodes.map eF).length : Nat)] (I (i : Nat)) := by rw [hlm]; exact hi ▸ c_Rest _ _ (by omega)
  have hnode := hno _ (List.getElem_mem hil)
  have kch := c_chosen hnode (pickI bits 1) (pickI bits 2)
  have hpin := chosen_in hnode (pickI bits 1) (pickI bits 2)
  have hpp := node_plane hnode hpin
  obtain ⟨p, hp⟩ : ∃ p, chosenN s.nodes[i] (pickI bits 1) (pickI bits 2) = p := ⟨_, rfl⟩
  rw [hp] at kch hpin hpp
  have hpi : inPlane p := by
    have := hpp
    simp only [planeB, Bool.and_eq_true, btw_iff] at this
    exact this
  have kof := c_OfOne hpi
  have hpl : p ∈ pl (layD g s) i := by
    unfold pl layD
    simpa [hil] using hpin
  have hs2 := layOk_set (i := i) hs hpp
  have kf2 := c_Fold (g := g) (s := setY s i p) hl (by simpa [setY] using hn) ht
  unfold FoldR at kf2
  rw [if_pos hg, if_pos hs2, layD_set hpp] at kf2
  have hmore := fun x => all_more hL hpl hpp x _ (Nat.le_refl _)
  have hin := all_in (L := layD g s) hg (layD g s).traces.length
  have hin2 := all_in (L := knownL (layD g s) i p) hg (layD g s).traces.length
  have hgb := gain_bdK hL (n := i) (by simpa [layD] using hil) hpl
  have kg := c_Gain hl hn ht (i : Int) (g := g) (s := s)
  unfold GainR at kg
  rw [if_pos hg, if_pos hs, if_pos (by rw [btw_iff]; omega), Int.toNat_natCast] at kg
  have eA : cntN (layD g s) (sureT (layD g s)) = countL g (allH (sureT (layD g s)) s.traces.length) := rfl
  have eB1 : cntN (layD g s) (hitsT (layD g s)) = countL g (allH (hitsT (layD g s)) s.traces.length) := rfl
  have eA2 : cntN (knownL (layD g s) i p) (sureT (knownL (layD g s) i p)) = countL g (allH (sureT (knownL (layD g s) i p)) s.traces.length) := rfl
  have eB2 : cntN (knownL (layD g s) i p) (hitsT (knownL (layD g s) i p)) = countL g (allH (hitsT (knownL (layD g s) i p)) s.traces.length) := rfl
  have eC1 : sureC (layD g s) = (allH (sureT (layD g s)) s.traces.length).length := rfl
  have eC2 : sureC (knownL (layD g s) i p) = (allH (sureT (knownL (layD g s) i p)) s.traces.length).length := rfl
  have etr : (layD g s).traces.length = s.traces.length := rfl
  have hbd1 := sure_bd (L := layD g s) h64 _ (Nat.le_refl _)
  have hbd2 := sure_bd (L := knownL (layD g s) i p) h64 _ (Nat.le_refl _)
  have etr2 : (knownL (layD g s) i p).traces.length = s.traces.length := rfl
  rw [eA, eB1] at kf
  rw [eA2, eB2] at kf2
  rw [eC1, eC2] at hgb
  rw [etr] at hmore hin hin2 hbd1
  rw [etr2] at hbd2
  obtain ⟨G, hG⟩ : ∃ G, gainL (layD g s) i = G := ⟨_, rfl⟩
  rw [hG] at hgb kg
  obtain ⟨PA, hPA⟩ : ∃ P, allH (sureT (layD g s)) s.traces.length = P := ⟨_, rfl⟩
  obtain ⟨PB, hPB⟩ : ∃ P, allH (hitsT (layD g s)) s.traces.length = P := ⟨_, rfl⟩
  obtain ⟨QA, hQA⟩ : ∃ P, allH (sureT (knownL (layD g s) i p)) s.traces.length = P := ⟨_, rfl⟩
  obtain ⟨QB, hQB⟩ : ∃ P, allH (hitsT (knownL (layD g s) i p)) s.traces.length = P := ⟨_, rfl⟩
  rw [eA, eB1, hPA, hPB]
  rw [hPA, hPB] at kf
  rw [hQA, hQB] at kf2
  rw [hPA, hQA] at hgb
  rw [hPA] at hin hbd1
  rw [hQA] at hin2 hbd2
  simp only [hPA, hPB, hQA, hQB] at hmore
  have htA := tot_all hg PA hin
  have htQ := tot_all hg QA hin2
  clear eA eB1 eA2 eB2 eC1 eC2 hPA hPB hQA hQB hin hin2
  have lA := countL_len g PA; have lB := countL_len g PB; have mA := countL_len g QA; have mB := countL_len g QB
  have nb := (nBins_eq hg).2
  have hcl4 : g.cls.length ≤ 4 := by obtain ⟨_, _, _, _, h, _⟩ := gridOk_spec hg; exact h.2
  refine Tr.seq (Tr.drawK (TraceK.run rfl (by simp) (TraceK.call rfl rfl q0 (TraceK.run rfl (by simp) (TraceK.call rfl rfl kr (TraceK.run rfl (by simp) (.done ⟨by kernel_rfl, by kernel_rfl, ?_⟩)))))))
  refine Tr.seq (Tr.drawK (TraceK.runN 4 rfl (by simp; omega) ?_))
  rw [getD_map hil]
  refine TraceK.run rfl (by simp) (TraceK.call rfl rfl q1 (TraceK.run rfl (by simp) (TraceK.call rfl rfl q2 (TraceK.call rfl rfl kch (TraceK.run rfl (by simp) (.done ⟨by kernel_rfl, by kernel_rfl, ?_⟩))))))
  refine Tr.seqC rfl (by simp) (Steps.call rfl rfl kof (Steps.fin rfl (by simp) ?_))
  refine Tr.seq (Tr.seqR rfl (by simp) (Tr.condF rfl (Tr.skip ?_)))
  refine Tr.weak (s' := { env := [(3, .ptr 3 0), (4, .ptr 4 0), (7, foldV (countL g PA)), (8, foldV (countL g PB)), (10, I (i : Nat)), (13, .ptr 13 0)], bx := [(3, ⟨gridC g, false⟩), (4, ⟨layC s, false⟩), (13, ⟨fourC (ofF p), false⟩)], rw := [], log := [], stp := false })
    (Wk.le (.cons rfl (.refl _) (.cons rfl (.refl _) (.cons rfl (.refl _) (.cons rfl (.refl _) (.cons rfl (.refl _) (.cons rfl (.refl _) .nil)))))) (.cons rfl (LLe.refl _) (.cons rfl (LLe.refl _) (.cons rfl (LLe.refl _) .nil))) .nil rfl rfl) ?_
  have hne2 : s.nodes.map eF ≠ [] := by simpa using hne
  have hset := flat8_set s.nodes i (ofF p) hil
  have hfl := flat8_len s.nodes
  refine Tr.seq (Tr.drawK (TraceK.mkEmp rfl (TraceK.runN 2 rfl (by simp) (TraceK.appendEmp (r := 0) (ys := s.nodes.map eF) rfl rfl (by omega) (by rw [hlm]; omega) (by rw [hlm]; omega) hne2 ?_))))
  obtain ⟨C0, hC0⟩ : ∃ C0, (s.nodes.map eF).flatMap cells = C0 := ⟨_, rfl⟩
  rw [hC0] at hset hfl ⊢
  rw [hlm]
  refine TraceK.run rfl (by simp) (.done ⟨by kernel_rfl, by kernel_rfl, ?_⟩)
  have hk0 : 0 + ((i : Nat) : Int).toNat * 8 = i * 8 := by omega
  refine Tr.seq (Tr.reg (Steps.runN 5 rfl (by simp; omega) ?_))
  rw [hk0]
  refine Steps.fin rfl (by simp; omega) ?_
  have hH := holds8 (s.nodes.set i (ofF p))
  rw [flat8_I, List.length_set] at hH
  rw [flat8_I] at hset
  refine Tr.weak (s' := { env := [(3, .ptr 3 0), (4, .ptr 4 0), (7, foldV (countL g PA)), (8, foldV (countL g PB)), (10, I (i : Nat)), (14, .ptr 14 0)], bx := [(14, ⟨layC (setY s i p), false⟩), (3, ⟨gridC g, false⟩), (4, ⟨layC s, false⟩)], rw := [], log := [], stp := false })
    (Wk.trans (Wk.le (env := [(3, .ptr 3 0), (4, .ptr 4 0), (7, foldV (countL g PA)), (8, foldV (countL g PB)), (10, I (i : Nat)), (14, .ptr 14 0)]) (bx := [(72, ⟨(flatI (s.nodes.set i (ofF p))).map I, false⟩), (14, ⟨[.bsl 72 0 8 s.nodes.length, .slice 0 2 (s.traces.map eB)], false⟩), (3, ⟨gridC g, false⟩), (4, ⟨layC s, false⟩)]) (rw := [])
        (.cons rfl (.refl _) (.cons rfl (.refl _) (.cons rfl (.refl _) (.cons rfl (.refl _) (.cons rfl (.refl _) (.cons rfl (.refl _) .nil)))))) (.cons rfl (by rw [← hset]; exact LLe.refl _) (.cons rfl (LLe.refl _) (.cons rfl (LLe.refl _) (.cons rfl (LLe.refl _) .nil)))) .nil (okI rfl) rfl)
      (Wk.trans (Wk.bslB (k := 14) (j := 0) (i := 72) (by decide) rfl rfl rfl hH) (Wk.le (.cons rfl (.refl _) (.cons rfl (.refl _) (.cons rfl (.refl _) (.cons rfl (.refl _) (.cons rfl (.refl _) (.cons rfl (.refl _) .nil)))))) (.cons rfl (LLe.refl _) (.cons rfl (LLe.refl _) (.cons rfl (LLe.refl _) .nil))) .nil rfl rfl))) ?_
  refine Tr.seqC rfl (by simp) (Steps.call rfl rfl kf2 (Steps.fin rfl (by simp) ?_))
  refine Tr.seq (Tr.seqR rfl (by simp) (Tr.condF ?_ (Tr.skip ?_)))
  · show some (V.bool (bif (bif false then true else (((countL g QA).map intsV).length : Int) != (((countL g PA).map intsV).length : Int)) then true else (((countL g QB).map intsV).length : Int) != (((countL g PB).map intsV).length : Int))) = _
    rw [List.length_map, List.length_map, List.length_map, List.length_map, lA, lB, mA, mB]; simp
  refine Tr.seqR rfl (by simp) ?_
  refine Tr.seq (Tr.seqR rfl (by simp) (Tr.block ?_))
  refine Tr.loop (fun (n : Nat) st => n ≤ nBins g ∧ st = { env := [(3, .ptr 3 0), (4, .ptr 4 0), (7, foldV (countL g PA)), (8, foldV (countL g PB)), (10, I (i : Nat)), (15, foldV (countL g QA)), (16, foldV (countL g QB)), (17, I (totF g (cntF PA) n 0)), (18, I (totF g (cntF QA) n 0)), (19, I (n : Nat))], bx := [(3, ⟨gridC g, false⟩), (4, ⟨layC s, false⟩)], rw := [], log := [], stp := false }) (fun n => nBins g - n) 0
    (Wk.le (.cons rfl (.refl _) (.cons rfl (.refl _) (.cons rfl (.refl _) (.cons rfl (.refl _) (.cons rfl (.refl _) (.cons rfl (.refl _) (.cons rfl (.refl _) (.cons rfl (.of_eq rfl) (.cons rfl (.of_eq rfl) (.cons rfl (.refl _) .nil)))))))))) (.cons rfl (LLe.refl _) (.cons rfl (LLe.refl _) .nil)) .nil rfl rfl) ⟨by omega, rfl⟩ ?_
  rintro n st ⟨hn1, rfl⟩
  refine Tr.seq (Tr.seqR rfl (by simp) (Tr.cond rfl rfl (fun h1 => Tr.skip ?_) (fun h1 => Tr.exit ?_)))
  rotate_left
  · have h1 : n = nBins g := by
      have h1 : decide ((n : Int) < (((countL g QA).map intsV).length : Int)) = false := h1
      rw [List.length_map, mA] at h1
      have := of_decide_eq_false h1; omega
    subst h1
    rw [htA, htQ]
    have kbt : C Tryz.prog F.ref00_Between [I G, I 0, I (IntKind.wrap .i64 ((QA.length : Int) - (PA.length : Int)))] (.bool true) := by
      have : btw G 0 (IntKind.wrap .i64 ((QA.length : Int) - (PA.length : Int))) = true := by rw [w64 (by omega) (by omega), btw_iff]; omega
      exact this ▸ c_between _ _ _
    refine Tr.seqC rfl (by simp) (Steps.call rfl rfl kg (Steps.fin rfl (by simp) ?_))
    exact Tr.seqC rfl (by simp) (Steps.gcall rfl rfl rfl rfl (by simp) (fun _ => kbt) (Steps.run rfl (by simp) (Steps.gcall rfl rfl rfl rfl (by simp) (fun _ => c_works) (Steps.fin rfl (by simp) (Tr.retX rfl rfl rfl rfl trivial)))))
  have h1 : n < nBins g := by
    have h1 : decide ((n : Int) < (((countL g QA).map intsV).length : Int)) = true := h1
    rw [List.length_map, mA] at h1
    simpa using h1
  have row : ∀ P : List (Int × Int), ∃ h : n < (countL g P).length, (countL g P)[n] = cntRow g.cls.length P n := fun P => by
    have h : n < (countL g P).length := by rw [countL_len]; exact h1
    have := countL_get (P := P) h1
    rw [List.getElem?_eq_getElem h] at this
    exact ⟨h, Option.some.inj this⟩
  obtain ⟨nA, rA⟩ := row PA; obtain ⟨nB, rB⟩ := row PB; obtain ⟨nQ, rQ⟩ := row QA; obtain ⟨nR, rR⟩ := row QB
  have cA := cntRow_len g.cls.length PA n; have cB := cntRow_len g.cls.length PB n; have cQ := cntRow_len g.cls.length QA n; have cR := cntRow_len g.cls.length QB n
  refine Tr.seq (Tr.block ?_)
  refine Tr.seq (Tr.seq (Tr.drawK (TraceK.runN 3 rfl (by simp; omega) ?_)))
  rw [getD_map nQ, rQ]
  refine TraceK.runN 5 rfl (by simp; omega) ?_
  rw [getD_map nA, rA]
  refine TraceK.runN 7 rfl (by simp; omega) ?_
  rw [getD_map nR, rR]
  refine TraceK.runN 5 rfl (by simp; omega) ?_
  rw [getD_map nB, rB]
  refine TraceK.runN 8 rfl (by simp; omega) ?_
  rw [getD_map nQ, rQ]
  refine TraceK.runN 5 rfl (by simp; omega) ?_
  rw [getD_map nR, rR]
  refine TraceK.run rfl (by simp) (.done ⟨by kernel_rfl, by kernel_rfl, ?_⟩)
  refine Tr.condF ?_ (Tr.skip ?_)
  · show some (V.bool (bif (bif (((cntRow g.cls.length QA n).map I).length : Int) != (((cntRow g.cls.length PA n).map I).length : Int) then true else (((cntRow g.cls.length QB n).map I).length : Int) != (((cntRow g.cls.length PB n).map I).length : Int)) then true else (((cntRow g.cls.length QA n).map I).length : Int) != (((cntRow g.cls.length QB n).map I).length : Int))) = _
    rw [List.length_map, List.length_map, List.length_map, List.length_map, cA, cB, cQ, cR]; simp
  refine Tr.seqR rfl (by simp) (Tr.block ?_)
  refine Tr.loop (fun (c : Nat) st => c ≤ g.cls.length ∧ st = { env := [(3, .ptr 3 0), (4, .ptr 4 0), (7, foldV (countL g PA)), (8, foldV (countL g PB)), (10, I (i : Nat)), (15, foldV (countL g QA)), (16, foldV (countL g QB)), (17, I (totF g (cntF PA) n c)), (18, I (totF g (cntF QA) n c)), (19, I (n : Nat)), (20, I (c : Nat))], bx := [(3, ⟨gridC g, false⟩), (4, ⟨layC s, false⟩)], rw := [], log := [], stp := false }) (fun c => g.cls.length - c) 0
    (Wk.le (.cons rfl (.refl _) (.cons rfl (.refl _) (.cons rfl (.refl _) (.cons rfl (.refl _) (.cons rfl (.refl _) (.cons rfl (.refl _) (.cons rfl (.refl _) (.cons rfl (.refl _) (.cons rfl (.refl _) (.cons rfl (.refl _) (.cons rfl (.refl _) .nil))))))))))) (.cons rfl (LLe.refl _) (.cons rfl (LLe.refl _) .nil)) .nil rfl rfl) ⟨by omega, rfl⟩ ?_
  rintro c st ⟨hc1, rfl⟩
  refine Tr.seq (Tr.seq (Tr.reg (Steps.runN 4 rfl (by simp; omega) ?_)))
  rw [getD_map nQ, rQ]
  refine Steps.fin rfl (by simp) (Tr.cond rfl rfl (fun h2 => Tr.skip ?_) (fun h2 => Tr.exit ?_))
  rotate_left
  · have h2 : c = g.cls.length := by
      have h2 : decide ((c : Int) < (((cntRow g.cls.length QA n).map I).length : Int)) = false := h2
      rw [List.length_map, cQ] at h2
      have := of_decide_eq_false h2; omega
    subst h2
    refine Tr.regR rfl (by simp) ?_
    rw [tot_row, tot_row]
    exact ⟨n + 1, _, Wk.le (.cons rfl (.refl _) (.cons rfl (.refl _) (.cons rfl (.refl _) (.cons rfl (.refl _) (.cons rfl (.refl _) (.cons rfl (.refl _) (.cons rfl (.refl _) (.cons rfl (.refl _) (.cons rfl (.refl _) (.cons rfl (VLe.i (w64 (by omega) (by omega))) .nil)))))))))) (.cons rfl (LLe.refl _) (.cons rfl (LLe.refl _) .nil)) .nil rfl rfl, ⟨h1, rfl⟩, by omega⟩
  have h2 : c < g.cls.length := by
    have h2 : decide ((c : Int) < (((cntRow g.cls.length QA n).map I).length : Int)) = true := h2
    rw [List.length_map, cQ] at h2
    simpa using h2
  have cell : ∀ P : List (Int × Int), ∃ h : c < (cntRow g.cls.length P n).length, (cntRow g.cls.length P n)[c] = cntF P n c := fun P => by
    have h : c < (cntRow g.cls.length P n).length := by rw [cntRow_len]; exact h2
    have := cntRow_get (P := P) (b := n) h2
    rw [List.getElem?_eq_getElem h] at this
    exact ⟨h, Option.some.inj this⟩
  obtain ⟨xA, vA⟩ := cell PA; obtain ⟨xB, vB⟩ := cell PB; obtain ⟨xQ, vQ⟩ := cell QA; obtain ⟨xR, vR⟩ := cell QB
  have hm := hmore ((n : Int), (c : Int))
  have g1 : cntF PA n c ≤ cntF QA n c := by unfold cntF; omega
  have g2 : cntF QB n c ≤ cntF PB n c := by unfold cntF; omega
  have tb : ∀ P : List (Int × Int), P.length ≤ 64 → (0 ≤ totF g (cntF P) n c ∧ totF g (cntF P) n c ≤ 100000) ∧ 0 ≤ cntF P n c ∧ cntF P n c ≤ 64 := fun P hP => by
    obtain ⟨⟨a1, a2⟩, a3⟩ := tot_bd (g := g) hP n
    have a4 := a3 n c
    have a5 := cntF_bd P n c
    have e1 : (n : Int) * (g.cls.length * (64 : Nat)) ≤ 256 * (4 * 64) := Int.mul_le_mul (by omega) (by omega) (by omega) (by omega)
    unfold totF
    omega
  have tA := tb PA (by omega)
  have tQ := tb QA (by omega)
  have sA := tot_step g (cntF PA) n c
  have sQ := tot_step g (cntF QA) n c
  refine Tr.seq (Tr.block ?_)
  refine Tr.seq (Tr.drawK (TraceK.runN 4 rfl (by simp; omega) ?_))
  rw [getD_map nA, rA]
  refine TraceK.runN 3 rfl (by simp; omega) ?_
  rw [getD_map xA, vA]
  refine TraceK.runN 6 rfl (by simp; omega) ?_
  rw [getD_map nQ, rQ]
  refine TraceK.runN 3 rfl (by simp; omega) ?_
  rw [getD_map xQ, vQ]
  refine TraceK.run rfl (by simp) (.done ⟨by kernel_rfl, by kernel_rfl, ?_⟩)
  refine Tr.seq (Tr.drawK (TraceK.runN 3 rfl (by simp; omega) ?_))
  rw [getD_map nQ, rQ]
  refine TraceK.runN 3 rfl (by simp; omega) ?_
  rw [getD_map xQ, vQ]
  refine TraceK.runN 4 rfl (by simp; omega) ?_
  rw [getD_map nA, rA]
  refine TraceK.runN 3 rfl (by simp; omega) ?_
  rw [getD_map xA, vA]
  refine TraceK.runN 6 rfl (by simp; omega) ?_
  rw [getD_map nR, rR]
  refine TraceK.runN 3 rfl (by simp; omega) ?_
  rw [getD_map xR, vR]
  refine TraceK.runN 4 rfl (by simp; omega) ?_
  rw [getD_map nB, rB]
  refine TraceK.runN 3 rfl (by simp; omega) ?_
  rw [getD_map xB, vB]
  refine TraceK.run rfl (by simp) (.done ⟨by kernel_rfl, by kernel_rfl, ?_⟩)
  refine Tr.condF ?_ (Tr.skip (Tr.regR rfl (by simp) ?_))
  · show some (V.bool (bif decide (cntF QA n c < cntF PA n c) then true else decide (cntF QB n c > cntF PB n c))) = _
    rw [decide_eq_false (by omega), decide_eq_false (by omega)]; rfl
  exact ⟨c + 1, _, Wk.le (.cons rfl (.refl _) (.cons rfl (.refl _) (.cons rfl (.refl _) (.cons rfl (.refl _) (.cons rfl (.refl _) (.cons rfl (.refl _) (.cons rfl (.refl _) (.cons rfl (VLe.i (by rw [sA]; exact w64 (by omega) (by omega))) (.cons rfl (VLe.i (by rw [sQ]; exact w64 (by omega) (by omega))) (.cons rfl (.refl _) (.cons rfl (VLe.i (w64 (by omega) (by omega))) .nil))))))))))) (.cons rfl (LLe.refl _) (.cons rfl (LLe.refl _) .nil)) .nil rfl rfl, ⟨h2, rfl⟩, by omega⟩

end Go.Proofs.YtdejdblopmfjfaaGreatDoor


/-! Facts on the rows: what the load's head says. -/
set_option linter.unusedVariables false
set_option linter.unusedSimpArgs false
set_option maxRecDepth 100000
namespace Go.Proofs.YtdejdblopmfjfaaGreatDoor
open Go.Am Go.ChangeShapes Go.WideShapes Go.ChangeAt Go.RowKit

noncomputable def headL : List Char := ([104, 97, 114, 110, 101, 115, 115, 32, 101, 99, 49, 57, 102, 53, 55, 48, 55, 98, 98, 50, 55, 51, 57, 53, 52, 99, 99, 99, 101, 55, 55, 54, 54, 53, 52, 53, 49, 53, 54, 52, 101, 48, 56, 53, 48, 56, 56, 56, 50, 48, 97, 99, 50, 55, 97, 98, 53, 51, 100, 101, 101, 99, 100, 99, 101, 48, 102, 54, 54, 49, 102, 99, 32, 99, 117, 116, 32, 97, 116, 32, 112, 97, 114, 97, 118, 97, 110, 101, 47, 112, 97, 114, 97, 118, 97, 110, 101, 108, 97, 119, 48, 55, 46, 66, 105, 110, 67, 101, 108, 108, 115, 32, 112, 97, 114, 97, 118, 97, 110, 101, 47, 112, 97, 114, 97, 118, 97, 110, 101, 108, 97, 119, 48, 55, 46, 66, 105, 110, 70, 111, 108, 100, 115, 32, 112, 97, 114, 97, 118, 97, 110, 101, 47, 112, 97, 114, 97, 118, 97, 110, 101, 108, 97, 119, 48, 55, 46, 66, 105, 110, 71, 97, 105, 110, 115, 32, 112, 97, 114, 97, 118, 97, 110, 101, 47, 112, 97, 114, 97, 118, 97, 110, 101, 108, 97, 119, 48, 55, 46, 66, 105, 110, 80, 114, 111, 111, 102, 115, 32, 112, 97, 114, 97, 118, 97, 110, 101, 47, 112, 97, 114, 97, 118, 97, 110, 101, 108, 97, 119, 48, 55, 46, 66, 105, 110, 66, 117, 105, 108, 100, 115, 32, 112, 97, 114, 97, 118, 97, 110, 101, 47, 112, 97, 114, 97, 118, 97, 110, 101, 108, 97, 119, 48, 55, 46, 66, 105, 110, 66, 101, 116, 116, 101, 114, 32, 112, 97, 114, 97, 118, 97, 110, 101, 47, 112, 97, 114, 97, 118, 97, 110, 101, 108, 97, 119, 48, 55, 46, 66, 105, 110, 70, 105, 108, 108, 101, 100] : List Nat).map Char.ofNat
theorem head_chars : Tryz.prog.initOrder = String.ofList (([104, 97, 114, 110, 101, 115, 115, 32, 101, 99, 49, 57, 102, 53, 55, 48, 55, 98, 98, 50, 55, 51, 57, 53, 52, 99, 99, 99, 101, 55, 55, 54, 54, 53, 52, 53, 49, 53, 54, 52, 101, 48, 56, 53, 48, 56, 56, 56, 50, 48, 97, 99, 50, 55, 97, 98, 53, 51, 100, 101, 101, 99, 100, 99, 101, 48, 102, 54, 54, 49, 102, 99, 32, 99, 117, 116, 32, 97, 116, 32, 112, 97, 114, 97, 118, 97, 110, 101, 47, 112, 97, 114, 97, 118, 97, 110, 101, 108, 97, 119, 48, 55, 46, 66, 105, 110, 67, 101, 108, 108, 115, 32, 112, 97, 114, 97, 118, 97, 110, 101, 47, 112, 97, 114, 97, 118, 97, 110, 101, 108, 97, 119, 48, 55, 46, 66, 105, 110, 70, 111, 108, 100, 115, 32, 112, 97, 114, 97, 118, 97, 110, 101, 47, 112, 97, 114, 97, 118, 97, 110, 101, 108, 97, 119, 48, 55, 46, 66, 105, 110, 71, 97, 105, 110, 115, 32, 112, 97, 114, 97, 118, 97, 110, 101, 47, 112, 97, 114, 97, 118, 97, 110, 101, 108, 97, 119, 48, 55, 46, 66, 105, 110, 80, 114, 111, 111, 102, 115, 32, 112, 97, 114, 97, 118, 97, 110, 101, 47, 112, 97, 114, 97, 118, 97, 110, 101, 108, 97, 119, 48, 55, 46, 66, 105, 110, 66, 117, 105, 108, 100, 115, 32, 112, 97, 114, 97, 118, 97, 110, 101, 47, 112, 97, 114, 97, 118, 97, 110, 101, 108, 97, 119, 48, 55, 46, 66, 105, 110, 66, 101, 116, 116, 101, 114, 32, 112, 97, 114, 97, 118, 97, 110, 101, 47, 112, 97, 114, 97, 118, 97, 110, 101, 108, 97, 119, 48, 55, 46, 66, 105, 110, 70, 105, 108, 108, 101, 100] : List Nat).map Char.ofNat) := by
  unfold Tryz.prog
  dsimp only
  show (_ : String) = _
  kernel_rfl
theorem head_list : Tryz.prog.initOrder.toList = headL := (congrArg String.toList head_chars).trans String.toList_ofList

section
variable (P : Program) (h : P.initOrder.toList = headL)
include h
theorem make_of : P.make = some .cut := by
  unfold Program.make
  rw [h]
  kernel_rfl
theorem headLifts_of : P.headLifts = [] := by
  unfold Program.headLifts
  rw [h]
  kernel_rfl
theorem lifts_of : P.liftsFinal = false := by
  unfold Program.liftsFinal
  rw [h, headLifts_of P h]
  kernel_rfl
theorem may_of (h1 : P.laysLater = false) (h2 : P.bearsReflect = false) (h3 : P.doorFits [] = true) : P.mayEnter = true := by
  unfold Program.mayEnter
  rw [h, h1, h2]
  have e : behindMainWord (wordsSigns headL) = "cut".toList :: (behindMainWord (wordsSigns headL)).tail := by kernel_rfl
  have e2 : stripLifts liftWords ("cut".toList :: (behindMainWord (wordsSigns headL)).tail) = ([], "cut".toList :: (behindMainWord (wordsSigns headL)).tail) := by kernel_rfl
  rw [e]
  dsimp only
  rw [e2, h3]
  first | rfl | (show (_ : Bool) = true; kernel_rfl)
end

theorem may : Tryz.prog.mayEnter = true := may_of _ head_list (by kernel_rfl) (by kernel_rfl) (by kernel_rfl)
theorem lifts : Tryz.prog.liftsFinal = false := lifts_of _ head_list
theorem made : Tryz.prog.make = some .cut := make_of _ head_list
theorem heard : Tryz.prog.stopsHeard = true := by kernel_rfl
theorem plain : Tryz.prog.plainKeys = false := by kernel_rfl
theorem rowed : mapsRowed Tryz.prog = true := by kernel_rfl

end Go.Proofs.YtdejdblopmfjfaaGreatDoor


/-! What the package's variable holds where a statement begins. -/
set_option linter.unusedVariables false
set_option linter.unusedSimpArgs false
set_option maxRecDepth 100000
namespace Go.Proofs.YtdejdblopmfjfaaGreatDoor
open Go.Am Go.ChangeShapes Go.WideShapes Go.ChangeAt Go.RowKit

def laidV : List (String × DataW Unit) := [("paravane/bin.none", Rows.laid_paravane_bin_none)]

theorem none_cells {W : World} (h : laidMetH Tryz.prog laidV W) : W.var? Tryz.prog "paravane/bin.none" = some #[.int .i64 (-1), .int .i64 (-1)] := by
  rw [MakeChecks.laidMetH_plain _ _ _ (by kernel_rfl)] at h
  obtain ⟨ps, ⟨g, t, cs, fuel, p, q, hg, ht, hv, hd, _, _⟩, _, _⟩ := h
  obtain rfl := Option.some.inj ((show Tryz.prog.globalNamed "paravane/bin.none" = some 0 by kernel_rfl).symm.trans hg)
  obtain rfl := Option.some.inj ((show (Tryz.prog.globals[0]?).map (·.type) = some 39 by kernel_rfl).symm.trans ht)
  have ci : Tryz.prog.cellsOf 3 = 1 := by kernel_rfl
  have cc : Tryz.prog.cellsOf 39 = 2 := by kernel_rfl
  obtain ⟨y0, y1, n, ex, hlen, k0, k1⟩ := trod_struct2 Tryz.underlying39 hd
  rw [cc] at hlen
  obtain ⟨l⟩ := cs
  match l, hlen with
  | [a, b], _ =>
    have e3 := DataW.agg.inj (Prod.mk.inj ex).1
    simp only [List.cons.injEq, and_true] at e3
    simp only at k0 k1
    rw [ci] at k0 k1
    obtain ⟨z0, a0, b0, _⟩ := DataW.trod_int Tryz.underlying3 k0
    obtain ⟨z1, a1, b1, _⟩ := DataW.trod_int Tryz.underlying3 k1
    rw [b0, b1] at e3
    have e4 : (-1 : Int) = z0 ∧ (-1 : Int) = z1 := by simpa [Rows.laid_paravane_bin_none] using e3
    have a2 : a = .int .i64 z0 := by simpa using a0
    have a3 : b = .int .i64 z1 := by simpa using a1
    rw [hv, a2, a3, ← e4.1, ← e4.2]

theorem gl_of {W : World} (h : laidMetH Tryz.prog laidV W) : Gl W (phi W) := by
  have hc := fun j => World.var?_cell (show Tryz.prog.globalNamed "paravane/bin.none" = some 0 by kernel_rfl) (none_cells h) j
  intro p hp
  obtain rfl : p = (0, [.int .i64 (-1), .int .i64 (-1)]) := by simpa [globalsV] using hp
  refine .vptr _ 0 0 0 (fun _ => .int .i64 (-1)) (fun j v hj => ?_) (fun j v hj => ?_)
  · match j, hj with
    | 0, hj => cases hj; exact ⟨phi_lt (hc 0), hc 0, rfl⟩
    | 1, hj => cases hj; exact ⟨phi_lt (hc 1), hc 1, rfl⟩
  · match j, hj with
    | 0, hj => cases hj; exact .int _ _
    | 1, hj => cases hj; exact .int _ _

end Go.Proofs.YtdejdblopmfjfaaGreatDoor

