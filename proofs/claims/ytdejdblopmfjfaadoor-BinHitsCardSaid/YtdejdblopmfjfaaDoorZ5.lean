/-
  Parts of the proof, 5: the abstract machine, the compiled code, contracts of the functions, plain laws.
-/
import Derived.Test.YtdejdblopmfjfaaDoorZ4
import Derived.Test.YtdejdblopmfjfaaDoorRows
import Derived.WalkKit
import Derived.ProofKit
import Derived.OpenShut
import Derived.ShutString
import Derived.ChangeOld
import Derived.Below
import Derived.Test.YtdejdblopmfjfaaDoorTie
import Derived.LaidMore
import Derived.LaidOnce
import Derived.Lay
import Derived.ChangeSame


/-! Contracts: lacks, Lacks. -/
set_option linter.unusedVariables false
set_option linter.unusedSimpArgs false
set_option maxRecDepth 40000
set_option maxHeartbeats 4000000
namespace Go.Proofs.YtdejdblopmfjfaaDoor
open Go.Am
attribute [local simp] cells scalar mkv splice under2 under dem dem1 eB gridC sB laidC fourC eF layC
def eL (x : Int × Int × Int) : V := .agg [I x.1, I x.2.1, I x.2.2]
attribute [local simp] eL
def lackAt (ns : List Int) (f : List (List Int)) (i k : Nat) : List (Int × Int × Int) := if at2 f i k < ns.getD k 0 then [((i : Int), (k : Int), ns.getD k 0 - at2 f i k)] else []
def lackRow (ns : List Int) (f : List (List Int)) (i j : Nat) : List (Int × Int × Int) := (List.range j).flatMap (lackAt ns f i)
def lackN (ns : List Int) (f : List (List Int)) (k : Nat) : List (Int × Int × Int) := (List.range k).flatMap fun i => lackRow ns f i ns.length
def lacksL (L : Ld) (ns : List Int) : List (Int × Int × Int) := lackN ns (cntN L (sureT L)) (cntN L (sureT L)).length
def sL (l : List (Int × Int × Int)) : V := .slice 0 3 (l.map eL)
attribute [local simp] sL
theorem lackRow_succ (ns : List Int) (f : List (List Int)) (i j : Nat) : lackRow ns f i (j + 1) = lackRow ns f i j ++ lackAt ns f i j := by
  unfold lackRow; rw [List.range_succ, List.flatMap_append]; simp
theorem lackN_succ (ns : List Int) (f : List (List Int)) (k : Nat) : lackN ns f (k + 1) = lackN ns f k ++ lackRow ns f k ns.length := by
  unfold lackN; rw [List.range_succ, List.flatMap_append]; simp
theorem lackRow_len (ns : List Int) (f : List (List Int)) (i : Nat) : ∀ j, (lackRow ns f i j).length ≤ j
  | 0 => by simp [lackRow]
  | j + 1 => by
    have := lackRow_len ns f i j
    have h2 : (lackAt ns f i j).length ≤ 1 := by unfold lackAt; split <;> simp
    rw [lackRow_succ, List.length_append]; omega
theorem lackN_len (ns : List Int) (f : List (List Int)) : ∀ k, (lackN ns f k).length ≤ k * ns.length
  | 0 => by simp [lackN]
  | k + 1 => by
    have := lackN_len ns f k
    have h2 := lackRow_len ns f k ns.length
    rw [lackN_succ, List.length_append, Nat.add_mul]; omega

theorem at2_get {f : List (List Int)} {i k : Nat} (h : i < f.length) (h2 : k < f[i].length) : at2 f i k = f[i][k] := by
  unfold at2; simp [h, h2]
theorem cntN_nat (L : Ld) (h : Nat → List (Int × Int)) (i k : Nat) : ∃ n : Nat, at2 (cntN L h) i k = n := by
  unfold at2 cntN
  simp only [List.getD_eq_getElem?_getD]
  by_cases hi : i < nBins L.g
  · rw [countL_get hi, Option.getD_some]
    by_cases hk : k < L.g.cls.length
    · rw [cntRow_get hk]; exact ⟨_, rfl⟩
    · rw [List.getElem?_eq_none (by rw [cntRow_len]; omega)]; exact ⟨0, rfl⟩
  · rw [List.getElem?_eq_none (l := countL L.g (allH h L.traces.length)) (by rw [countL_len]; omega)]; exact ⟨0, rfl⟩
theorem cntN_len (L : Ld) (h : Nat → List (Int × Int)) : (cntN L h).length = nBins L.g := countL_len _ _
theorem cntN_row {L : Ld} {h : Nat → List (Int × Int)} {i : Nat} (hi : i < (cntN L h).length) : ((cntN L h)[i]).length = L.g.cls.length := by
  have h1 : i < nBins L.g := by rw [cntN_len] at hi; exact hi
  have h2 : (cntN L h)[i]? = some (cntRow L.g.cls.length (allH h L.traces.length) i) := countL_get h1
  rw [List.getElem?_eq_getElem hi] at h2
  rw [Option.some.inj h2, cntRow_len]

theorem needOk_spec {g : Gd} {ns : List Int} (h : needOk g ns = true) : ns.length = g.cls.length ∧ ∀ n ∈ ns, 0 ≤ n ∧ n ≤ 100 := by
  simp only [needOk, Bool.and_eq_true, decide_eq_true_eq, Bool.not_eq_true', List.any_eq_false, Bool.not_eq_true, Bool.not_eq_false', btw_iff] at h
  exact ⟨h.1, fun n hn => by have := h.2 n hn; simpa [btw_iff] using this⟩

theorem c_lacks {L : Ld} (hL : LdOk L) {ns : List Int} (hn : needOk L.g ns = true) : C Tryd.prog F.bin_laid_lacks [.agg (laidC L), intsV ns] (sL (lacksL L ns)) := by
  obtain ⟨hnl, hnb⟩ := needOk_spec hn
  obtain ⟨_, hsz, hga, hgd, hcl, _⟩ := gridOk_spec hL.g
  have nb := nBins_eq hL.g
  have kc := c_countS hL
  have hat := cntN_nat L (sureT L)
  have hfl := cntN_len L (sureT L)
  have hfr := fun i hi => cntN_row (L := L) (h := sureT L) (i := i) hi
  unfold lacksL
  generalize cntN L (sureT L) = f at kc hat hfl hfr ⊢
  refine C_of mixed chk.bin_laid_lacks (by simp) fun S ok => ?_
  refine Tr.seqR rfl (by simp [laidC]) (Tr.seqR rfl (by simp) ?_)
  refine Tr.seq (Tr.seqC rfl (by simp [laidC]) (Steps.call rfl rfl kc (Steps.fin rfl (by simp [foldV]) (Tr.block ?_))))
  refine Tr.loop (α := Nat × List (Int × Int × Int)) (fun p st => (p.1 ≤ f.length ∧ p.2 = lackN ns f p.1) ∧ st = { env := [(1, intsV ns), (5, .slice 45 3 (p.2.map eL)), (13, foldV f), (14, I (f.length : Nat)), (15, I (p.1 : Nat))], bx := [], rw := [(44, p.2.length, 3, 76)], log := [], stp := false }) (fun p => f.length - p.1) (0, [])
    (Wk.le (.cons rfl (.refl _) (.cons rfl (.nil 45 3) (.cons rfl (.refl _) (.cons rfl (VLe.i (by simp)) (.cons rfl (.refl _) .nil))))) .nil (.new rfl .nil) rfl rfl) ⟨⟨by omega, rfl⟩, rfl⟩ ?_
  rintro ⟨i, out⟩ st ⟨⟨hi, ho⟩, rfl⟩
  simp only at hi ho
  refine Tr.seqR rfl (by simp) (Tr.seqI rfl (fun h1 => ?_) (fun h1 => ?_))
  · have h1 : i < f.length := by simpa using h1
    have hri := hfr i h1
    refine Tr.skipT (Tr.seq (Tr.block (Tr.seq (Tr.reg (Steps.runN 2 rfl (by simp [foldV]; omega) ?_)))))
    rw [getD_map h1]
    refine Steps.fin rfl (by simp [intsV]) ?_
    refine Tr.seqR rfl (by simp [intsV]) (Tr.block ?_)
    refine Tr.loop (α := Nat × List (Int × Int × Int)) (fun p st => (p.1 ≤ f[i].length ∧ p.2 = lackN ns f i ++ lackRow ns f i p.1) ∧ st = { env := [(1, intsV ns), (5, .slice 45 3 (p.2.map eL)), (6, I (i : Nat)), (13, foldV f), (14, I (f.length : Nat)), (15, I (i : Nat)), (20, intsV f[i]), (21, I (f[i].length : Nat)), (22, I (p.1 : Nat))], bx := [], rw := [(44, p.2.length, 3, 76)], log := [], stp := false }) (fun p => f[i].length - p.1) (0, out)
      (Wk.le (.cons rfl (.refl _) (.cons rfl (.refl _) (.cons rfl (.refl _) (.cons rfl (.refl _) (.cons rfl (.refl _) (.cons rfl (.refl _) (.cons rfl (.refl _) (.cons rfl (VLe.i (by show ((f[i].map I).length : Int) = (f[i].length : Int); rw [List.length_map])) (.cons rfl (.refl _) .nil))))))))) .nil (.cons rfl .nil) rfl rfl) ⟨⟨by omega, by simp [lackRow, ho]⟩, rfl⟩ ?_
    rintro ⟨j, o2⟩ st ⟨⟨hj, ho2⟩, rfl⟩
    simp only at hj ho2
    refine Tr.seqR rfl (by simp) (Tr.seqI rfl (fun h2 => ?_) (fun h2 => ?_))
    · have h2 : j < f[i].length := by simpa using h2
      have h3 : j < ns.length := by omega
      have hlen : o2.length ≤ 2000 := by
        have e1 := lackN_len ns f i
        have e2 := lackRow_len ns f i j
        have e3 : i * ns.length ≤ 256 * 4 := Nat.mul_le_mul (by omega) (by omega)
        rw [ho2, List.length_append]; omega
      obtain ⟨m, hm⟩ := hat i j
      have hm2 := hm
      rw [at2_get h1 h2] at hm
      have hnj := hnb _ (List.getElem_mem h3)
      have hgd : ns.getD j 0 = ns[j] := by simp [h3]
      refine Tr.skipT (Tr.seq (Tr.block (Tr.seq (Tr.reg (Steps.runN 2 rfl (by simp [intsV]; omega) ?_)))))
      rw [getD_map h2, hm]
      refine Steps.fin rfl (by simp) ?_
      refine Tr.seq (Tr.reg (Steps.runN 4 rfl (by simp [intsV]; omega) ?_))
      rw [getD_map h3]
      refine Steps.fin rfl (by simp) (Tr.cond rfl rfl (fun h4 => ?_) (fun h4 => Tr.skip ?_))
      · have h4 : (m : Int) < ns[j] := by simpa using h4
        refine Tr.reg (Steps.runN 6 rfl (by simp [intsV]; omega) ?_)
        rw [getD_map h3]
        refine Steps.fin rfl (by simp; omega) (Tr.regR rfl (by simp) ?_)
        have eA : lackRow ns f i (j + 1) = lackRow ns f i j ++ [((i : Int), (j : Int), ns[j] - m)] := by
          rw [lackRow_succ]; unfold lackAt; rw [hm2, hgd, if_pos h4]
        have ew : IntKind.wrap .i64 (ns[j] - m) = ns[j] - m := w64 (by omega) (by omega)
        refine ⟨(j + 1, o2 ++ [((i : Int), (j : Int), ns[j] - m)]), _, Wk.le (.cons rfl (.refl _) (.cons rfl (.of_eq ?_) (.cons rfl (.refl _) (.cons rfl (.refl _) (.cons rfl (.refl _) (.cons rfl (.refl _) (.cons rfl (.refl _) (.cons rfl (.refl _) (.cons rfl (VLe.i (w64 (by omega) (by omega))) .nil))))))))) .nil (.cons ?_ .nil) rfl rfl, ⟨⟨by simp only; omega, by simp only; rw [eA, ho2, List.append_assoc]⟩, rfl⟩, by simp only; omega⟩
        · simp [ew]
        · show some _ = some _
          simp
      · have h4 : ¬ (m : Int) < ns[j] := by simpa using h4
        refine Tr.regR rfl (by simp) ?_
        have eA : lackRow ns f i (j + 1) = lackRow ns f i j := by
          rw [lackRow_succ]; unfold lackAt; rw [hm2, hgd, if_neg h4, List.append_nil]
        exact ⟨(j + 1, o2), _, Wk.le (.cons rfl (.refl _) (.cons rfl (.refl _) (.cons rfl (.refl _) (.cons rfl (.refl _) (.cons rfl (.refl _) (.cons rfl (.refl _) (.cons rfl (.refl _) (.cons rfl (.refl _) (.cons rfl (VLe.i (w64 (by omega) (by omega))) .nil))))))))) .nil (.cons rfl .nil) rfl rfl, ⟨⟨by simp only; omega, by simp only; rw [eA, ho2]⟩, rfl⟩, by simp only; omega⟩
    · have h2 : j = f[i].length := by simp at h2; omega
      refine Tr.exit (Tr.regR rfl (by simp) ?_)
      exact ⟨(i + 1, o2), _, Wk.le (.cons rfl (.refl _) (.cons rfl (.refl _) (.cons rfl (.refl _) (.cons rfl (.refl _) (.cons rfl (VLe.i (w64 (by omega) (by omega))) .nil))))) .nil (.cons rfl .nil) rfl rfl, ⟨⟨by simp only; omega, by simp only; rw [ho2, lackN_succ, h2, hri, hnl]⟩, rfl⟩, by simp only; omega⟩
  · have h1 : i = f.length := by simp at h1; omega
    refine Tr.exit (Tr.seqR rfl (by simp) (Tr.retX rfl rfl rfl ?_ trivial))
    rw [← h1, ← ho]; rfl

def LacksR (g : Gd) (s : Ly) (ns : List Int) : V := if gridOk g then (if layOk s then (if needOk g ns then .tuple [sL (lacksL (layD g s) ns), I 0] else .tuple [sL [], I 73]) else .tuple [sL [], I 71]) else .tuple [sL [], I 70]

theorem c_Lacks {g : Gd} {s : Ly} (hl : g.cls.length ≤ 9223372036854775807) (hn : s.nodes.length ≤ 9223372036854775807) (ht : s.traces.length ≤ 9223372036854775807) {ns : List Int} (hns : ns.length ≤ 9223372036854775807) : C Tryd.prog F.bin_Lacks [.agg (gridC g), .agg (layC s), intsV ns] (LacksR g s ns) := by
  have kb := c_begun hl hn ht
  unfold LacksR
  refine C_of mixed chk.bin_Lacks (by simp) fun S ok => ?_
  refine Tr.seqR rfl (by simp) ?_
  by_cases hg : gridOk g = true
  rotate_left
  · rw [if_neg hg] at kb ⊢
    refine Tr.seqC rfl (by simp) (Steps.call rfl rfl kb (Steps.fin rfl (by simp) (Tr.seq (Tr.seqR rfl (by simp) (Tr.condT rfl (Tr.seqR rfl (by simp) ?_))))))
    refine Tr.weak (s' := { env := [(6, .slice 0 3 []), (7, I 70)], bx := [], rw := [], log := [], stp := false }) (Wk.le (.cons rfl (.nil 0 3) (.cons rfl (.refl _) .nil)) .nil .nil rfl rfl) ?_
    exact Tr.retX rfl rfl rfl rfl trivial
  rw [if_pos hg] at kb ⊢
  by_cases hs : layOk s = true
  rotate_left
  · rw [if_neg hs] at kb ⊢
    refine Tr.seqC rfl (by simp) (Steps.call rfl rfl kb (Steps.fin rfl (by simp) (Tr.seq (Tr.seqR rfl (by simp) (Tr.condT rfl (Tr.seqR rfl (by simp) ?_))))))
    refine Tr.weak (s' := { env := [(6, .slice 0 3 []), (7, I 71)], bx := [], rw := [], log := [], stp := false }) (Wk.le (.cons rfl (.nil 0 3) (.cons rfl (.refl _) .nil)) .nil .nil rfl rfl) ?_
    exact Tr.retX rfl rfl rfl rfl trivial
  rw [if_pos hs] at kb ⊢
  have hL := lay_ok hg hs
  refine Tr.seqC rfl (by simp) (Steps.call rfl rfl kb (Steps.fin rfl (by simp [laidC]) (Tr.seq (Tr.seqR rfl (by simp) (Tr.condF rfl (Tr.skip ?_))))))
  refine Tr.seq (Tr.seqC rfl (by simp) (Steps.call rfl rfl (c_needed (g := g) hns) (Steps.fin rfl (by simp) ?_)))
  refine Tr.cond rfl rfl (fun h1 => Tr.seqR rfl (by simp) ?_) (fun h1 => Tr.skip ?_)
  · have h1 : needOk g ns = false := by simpa using h1
    refine Tr.weak (s' := { env := [(6, .slice 0 3 []), (7, I 73)], bx := [], rw := [], log := [], stp := false }) (Wk.le (.cons rfl (.nil 0 3) (.cons rfl (.refl _) .nil)) .nil .nil rfl rfl) ?_
    refine Tr.retX rfl rfl rfl ?_ trivial
    rw [h1]; rfl
  · have h1 : needOk g ns = true := by simpa using h1
    refine Tr.seqC rfl (by simp [laidC, layD]) (Steps.call rfl rfl (c_lacks hL h1) (Steps.fin rfl (by simp) (Tr.retX rfl rfl rfl ?_ trivial)))
    rw [h1]; rfl

end Go.Proofs.YtdejdblopmfjfaaDoor


/-! Contracts: sure, Gain. -/
set_option linter.unusedVariables false
set_option linter.unusedSimpArgs false
set_option maxRecDepth 40000
set_option maxHeartbeats 4000000
namespace Go.Proofs.YtdejdblopmfjfaaDoor
open Go.Am
attribute [local simp] cells scalar mkv splice under2 under dem dem1 eB gridC sB laidC fourC eF layC
def sureC (L : Ld) : Nat := (allH (sureT L) L.traces.length).length
def knownL (L : Ld) (i : Nat) (p : Int × Int) : Ld := { L with places := L.places.set i [p] }
def leastStep (acc n : Int) : Int := if acc < 0 ∨ n < acc then n else acc
def leastL (l : List Int) : Int := l.foldl leastStep (-1)
def gainL (L : Ld) (i : Nat) : Int := leastL ((pl L i).map fun p => (sureC (knownL L i p) : Int)) - sureC L

theorem sure_bd {L : Ld} (hn : L.traces.length ≤ 64) : ∀ k ≤ L.traces.length, (allH (sureT L) k).length ≤ k
  | 0, _ => by simp [allH]
  | k + 1, hk => by
    have := sure_bd hn k (by omega)
    have h2 := (sureL_sub (l := hitsT L k)).2.2
    rw [allH_succ, List.length_append]
    unfold sureT at *; omega

theorem c_sure {L : Ld} (hL : LdOk L) : C Tryd.prog F.bin_laid_sure [.agg (laidC L)] (I (sureC L : Nat)) := by
  have hLt := hL.t
  refine C_of mixed chk.bin_laid_sure (by simp) fun S ok => ?_
  refine Tr.seqR rfl (by simp) (Tr.seqR rfl (by simp) (Tr.seq (Tr.seqR rfl (by simp) (Tr.block ?_))))
  refine Tr.loop (fun (k : Nat) st => k ≤ L.traces.length ∧ st = { env := [(1, .ptr 1 0), (3, I ((allH (sureT L) k).length : Nat)), (6, sB L.traces), (7, I (L.traces.length : Nat)), (8, I (k : Nat))], bx := [(1, ⟨laidC L, false⟩)], rw := [], log := [], stp := false }) (fun k => L.traces.length - k) 0
    (Wk.le (.cons rfl (.refl _) (.cons rfl (.refl _) (.cons rfl (.refl _) (.cons rfl (VLe.i (by simp)) (.cons rfl (.refl _) .nil))))) (.cons rfl (LLe.refl _) .nil) .nil rfl rfl) ⟨by omega, rfl⟩ ?_
  rintro k st ⟨hk, rfl⟩
  refine Tr.seqR rfl (by simp) (Tr.seqI rfl (fun h1 => ?_) (fun h1 => ?_))
  · have h1 : k < L.traces.length := by simpa using h1
    have hb := sure_bd hLt k hk
    have hb2 : (sureT L k).length ≤ 1 := (sureL_sub (l := hitsT L k)).2.2
    refine Tr.skipT (Tr.seq (Tr.block (Tr.seqR rfl (by simp) (Tr.reg (Steps.run rfl (by simp [laidC]) (Steps.call rfl rfl (c_surely hL h1) (Steps.fin rfl (by simp) ?_)))))))
    refine Tr.regR rfl (by simp) ?_
    refine ⟨k + 1, _, Wk.le (.cons rfl (.refl _) (.cons rfl (VLe.i ?_) (.cons rfl (.refl _) (.cons rfl (.refl _) (.cons rfl (VLe.i (w64 (by omega) (by omega))) .nil))))) (.cons rfl (LLe.refl _) .nil) .nil rfl rfl, ⟨by omega, rfl⟩, by omega⟩
    show IntKind.wrap .i64 (((allH (sureT L) k).length : Int) + (((sureT L k).map eB).length : Int)) = _
    rw [List.length_map, allH_succ, List.length_append, w64 (by omega) (by omega)]
    push_cast; rfl
  · have h1 : k = L.traces.length := by simp at h1; omega
    subst h1
    exact Tr.exit (Tr.seqR rfl (by simp) (Tr.retX rfl rfl rfl rfl trivial))

theorem flat_sB : ∀ (ls : List (List (Int × Int))), (ls.map sB).flatMap cells = ls.map sB
  | [] => rfl
  | l :: ls => by rw [List.map_cons, List.flatMap_cons, flat_sB ls]; rfl

theorem c_CloneP {ls : List (List (Int × Int))} (hne : ls ≠ []) (hl : ls.length ≤ 2 ^ 24) : CO Tryd.prog F.slices_Clone_api_Point_api_Point [.slice 0 1 (ls.map sB)] 1 (ls.map sB) := by
  refine CO_of mixed chk.slices_Clone_api_Point_api_Point (by simp) fun S ok => ?_
  refine Tr.seqR rfl (by simp) (Tr.seq (Tr.seq (Tr.reg (Steps.runN 1 rfl (by simp) ?_))))
  refine Steps.nilS rfl fun b hb => ?_
  obtain rfl := hb (by simpa using hne)
  refine Steps.fin rfl (by simp) (Tr.condF rfl (Tr.skip (Tr.seq (Tr.reg ?_))))
  refine Steps.mkE rfl fun blk => Steps.runN 1 rfl (by simp) ?_
  refine Steps.appendE (r := 0) (sz := 1) (ys := ls.map sB) rfl rfl (by omega) (by simp; omega) (by simp; omega) (by simpa using hne) ?_
  refine Steps.fin rfl (by simp) (Tr.ret ?_)
  exact ⟨7, rfl, rfl, by rw [flat_sB, List.all_eq_true]; intro x hx; obtain ⟨_, _, rfl⟩ := List.mem_map.1 hx; rfl⟩

theorem known_ok {L : Ld} (hL : LdOk L) {i : Nat} {p : Int × Int} (hp : planeB p = true) : LdOk (knownL L i p) := by
  refine ⟨hL.g, by simpa [knownL] using hL.n, hL.t, fun l hl => ?_, fun t ht => ?_⟩
  · rcases List.mem_or_eq_of_mem_set hl with hl | rfl
    · exact hL.p l hl
    · exact ⟨⟨by simp, by simp⟩, fun q hq => by rw [List.mem_singleton.1 hq]; exact hp⟩
  · obtain ⟨a, b, h1, h2, h3⟩ := hL.tr t ht
    exact ⟨a, b, h1, by simpa [knownL] using h2, by simpa [knownL] using h3⟩

theorem LLe.set {v u : V} (h : VLe v u) : ∀ (l : List V) (i : Nat), LLe (l.set i v) (l.set i u)
  | [], _ => .nil
  | a :: l, 0 => .cons h (LLe.refl l)
  | a :: l, i + 1 => .cons (.refl a) (LLe.set h l i)

theorem sBs_refs (ls : List (List (Int × Int))) (B : Nat → Bool) (R : Nat → Option (Nat × Nat × Nat)) : (ls.map sB).all (refsOk B R 6) = true := by
  rw [List.all_eq_true]
  intro x hx
  obtain ⟨_, _, rfl⟩ := List.mem_map.1 hx; rfl

theorem okSBs {j : Nat} {ls : List (List (Int × Int))} {env : List (Nat × V)} {bx : List (Nat × Box)} {rw : List (Nat × Nat × Nat × Nat)} (h : okRefs env ((j, ⟨[], false⟩) :: bx) rw = true) : okRefs env ((j, ⟨ls.map sB, false⟩) :: bx) rw = true := by
  have e : hasKey ((j, (⟨ls.map sB, false⟩ : Box)) :: bx) = hasKey ((j, (⟨[], false⟩ : Box)) :: bx) := rfl
  unfold okRefs at h ⊢
  rw [e]
  rw [Bool.and_eq_true] at h ⊢
  refine ⟨h.1, ?_⟩
  have h2 := h.2
  rw [List.all_cons, Bool.and_eq_true] at h2 ⊢
  exact ⟨sBs_refs _ _ _, h2.2⟩

theorem sBs_holds (ls : List (List (Int × Int))) : Holds (ls.map sB) 0 1 ls.length (ls.map sB) := by
  refine ⟨by omega, by simp, fun x hx => ?_, ?_, fun x hx => ?_⟩
  · obtain ⟨_, _, rfl⟩ := List.mem_map.1 hx; rfl
  · rw [flat_sB, List.drop_zero, Nat.mul_one, List.take_of_length_le (by simp)]
  · obtain ⟨_, _, rfl⟩ := List.mem_map.1 hx; rfl

def GainR (g : Gd) (s : Ly) (i : Int) : V := if gridOk g then (if layOk s then (if btw i 0 ((s.nodes.length : Int) - 1) then .tuple [I (gainL (layD g s) i.toNat), I 0] else .tuple [I 0, I 72]) else .tuple [I 0, I 71]) else .tuple [I 0, I 70]

theorem c_Gain {g : Gd} {s : Ly} (hl : g.cls.length ≤ 9223372036854775807) (hn : s.nodes.length ≤ 9223372036854775807) (ht : s.traces.length ≤ 9223372036854775807) (i : Int) : C Tryd.prog F.bin_Gain [.agg (gridC g), .agg (layC s), I i] (GainR g s i) := by
  have kb := c_begun hl hn ht
  unfold GainR
  refine C_of mixed chk.bin_Gain (by simp) fun S ok => ?_
  refine Tr.seqR rfl (by simp) ?_
  by_cases hg : gridOk g = true
  rotate_left
  · rw [if_neg hg] at kb ⊢
    refine Tr.seqC rfl (by simp) (Steps.call rfl rfl kb (Steps.fin rfl (by simp) (Tr.seq (Tr.seqR rfl (by simp) (Tr.condT rfl (Tr.seqR rfl (by simp) ?_))))))
    exact Tr.retX rfl rfl rfl rfl trivial
  rw [if_pos hg] at kb ⊢
  by_cases hs : layOk s = true
  rotate_left
  · rw [if_neg hs] at kb ⊢
    refine Tr.seqC rfl (by simp) (Steps.call rfl rfl kb (Steps.fin rfl (by simp) (Tr.seq (Tr.seqR rfl (by simp) (Tr.condT rfl (Tr.seqR rfl (by simp) ?_))))))
    exact Tr.retX rfl rfl rfl rfl trivial
  rw [if_pos hs] at kb ⊢
  have hL := lay_ok hg hs
  have hns := (layOk_spec hs).1.1
  have hw : IntKind.wrap .i64 (((s.nodes.map eF).length : Int) - 1) = (s.nodes.length : Int) - 1 := by rw [List.length_map, w64 (by omega) (by omega)]
  refine Tr.seqC rfl (by simp) (Steps.call rfl rfl kb (Steps.fin rfl (by simp [laidC]) (Tr.seq (Tr.seqR rfl (by simp) (Tr.condF rfl (Tr.skip ?_))))))
  refine Tr.seq (Tr.seqC rfl (by simp) (Steps.call rfl rfl (c_within i 0 (IntKind.wrap .i64 (((s.nodes.map eF).length : Int) - 1))) (Steps.fin rfl (by simp) ?_)))
  rw [hw]
  refine Tr.cond rfl rfl (fun h1 => Tr.seqR rfl (by simp) ?_) (fun h1 => Tr.skip ?_)
  · have h1 : btw i 0 ((s.nodes.length : Int) - 1) = false := by simpa using h1
    refine Tr.retX rfl rfl rfl ?_ trivial
    rw [h1]; rfl
  have h1 : btw i 0 ((s.nodes.length : Int) - 1) = true := by simpa using h1
  have h1' := h1
  rw [btw_iff] at h1'
  obtain ⟨n, rfl⟩ : ∃ n : Nat, i = n := ⟨i.toNat, by omega⟩
  rw [if_pos h1, Int.toNat_natCast]
  have hLn : n < (layD g s).places.length := by simp [layD]; omega
  obtain ⟨L, eL0⟩ : ∃ L, layD g s = L := ⟨_, rfl⟩
  rw [eL0] at hL hLn ⊢
  have hne : L.places ≠ [] := fun e => by rw [e] at hLn; simp at hLn
  have hLm := hL.n
  have hpl : pl L n = L.places[n] := by unfold pl; simp [hLn]
  have hpn := hL.p _ (List.getElem_mem hLn)
  have hLt := hL.t
  refine Tr.seqC rfl (by simp [laidC]) (Steps.call rfl rfl (c_sure hL) (Steps.fin rfl (by simp) ?_))
  refine Tr.seqR rfl (by simp) ?_
  refine Tr.seq (Tr.seq (Tr.reg (Steps.runN 4 rfl (by simp [laidC]; omega) ?_)))
  rw [getD_map hLn]
  refine Steps.fin rfl (by simp) (Tr.block ?_)
  unfold gainL leastL
  rw [hpl]
  obtain ⟨ps, hps⟩ : ∃ ps, L.places[n] = ps := ⟨_, rfl⟩
  rw [hps] at hpn ⊢
  obtain ⟨fs, hfs⟩ : ∃ fs : List Int, ps.map (fun p => (sureC (knownL L n p) : Int)) = fs := ⟨_, rfl⟩
  have hfl : fs.length = ps.length := by rw [← hfs, List.length_map]
  rw [hfs]
  refine Tr.loop (fun (k : Nat) st => (k ≤ ps.length ∧ -1 ≤ (fs.take k).foldl leastStep (-1) ∧ (fs.take k).foldl leastStep (-1) ≤ 64) ∧ st = { env := [(2, I (n : Nat)), (8, .ptr 8 0), (10, I (sureC L : Nat)), (11, I ((fs.take k).foldl leastStep (-1))), (38, sB ps), (39, I (ps.length : Nat)), (40, I (k : Nat))], bx := [(8, ⟨laidC L, false⟩)], rw := [], log := [], stp := false }) (fun k => ps.length - k) 0
    (Wk.le (.cons rfl (.refl _) (.cons rfl (.refl _) (.cons rfl (.refl _) (.cons rfl (.refl _) (.cons rfl (.refl _) (.cons rfl (VLe.i (by simp)) (.cons rfl (.refl _) .nil))))))) (.cons rfl (LLe.refl _) .nil) .nil rfl rfl) ⟨⟨by omega, by simp, by simp⟩, rfl⟩ ?_
  rintro k st ⟨⟨hk, ha1, ha2⟩, rfl⟩
  refine Tr.seqR rfl (by simp) (Tr.seqI rfl (fun h2 => ?_) (fun h2 => ?_))
  · have h2 : k < ps.length := by simpa using h2
    have hp := hpn.2 _ (List.getElem_mem h2)
    have hK := known_ok hL (i := n) hp
    refine Tr.skipT (Tr.seq (Tr.block (Tr.seq (Tr.reg (Steps.runN 1 rfl (by simp; omega) ?_)))))
    rw [getD_map h2]
    refine Steps.fin rfl (by simp) ?_
    refine Tr.seqR rfl (by simp [laidC]) ?_
    refine Tr.seq (Tr.reg (Steps.run rfl (by simp [laidC]) ?_))
    refine Steps.callO (ys := L.places.map sB) (sz := 1) rfl (fun _ => rfl) (c_CloneP hne (by omega)) rfl ?_
    rw [flat_sB]
    refine Steps.fin rfl (by simp) ?_
    refine Tr.seqR rfl (by simp; omega) ?_
    have eS : (knownL L n ps[k]).places.map sB = (L.places.map sB).set n (sB [ps[k]]) := by
      unfold knownL; rw [List.map_set]
    have eSl : ((knownL L n ps[k]).places.map sB).length = L.places.length := by simp [knownL]
    refine Tr.weak (s' := { env := [(2, I (n : Nat)), (8, .ptr 8 0), (10, I (sureC L : Nat)), (11, I ((fs.take k).foldl leastStep (-1))), (14, .ptr 14 0), (38, sB ps), (39, I (ps.length : Nat)), (40, I (k : Nat))], bx := [(47, ⟨(knownL L n ps[k]).places.map sB, false⟩), (14, ⟨gridC L.g ++ [sB L.traces, .bsl 47 0 1 L.places.length], false⟩), (8, ⟨laidC L, false⟩)], rw := [], log := [], stp := false })
      (Wk.le (.cons rfl (.refl _) (.cons rfl (.refl _) (.cons rfl (.refl _) (.cons rfl (.refl _) (.cons rfl (.refl _) (.cons rfl (.refl _) (.cons rfl (.refl _) (.cons rfl (.refl _) .nil)))))))) (.cons rfl ?_ (.cons rfl ?_ (.cons rfl (LLe.refl _) .nil))) .nil (okSBs rfl) rfl) ?_
    · rw [eS]
      show LLe (splice (L.places.map sB) (0 + ((n : Nat) : Int).toNat * 1) [.slice _ 2 [eB ps[k]]]) _
      rw [splice_set (by simp; omega), Nat.mul_one, Nat.zero_add, Int.toNat_natCast]
      exact LLe.set (VLe.dem _ _ _) _ _
    · exact .cons (.refl _) (.cons (.refl _) (.cons (.refl _) (.cons (.refl _) (.cons (.refl _) (.cons (.refl _) (.cons (.refl _) (.cons (.of_eq (by simp)) .nil)))))))
    have hH := sBs_holds (knownL L n ps[k]).places
    rw [show (knownL L n ps[k]).places.length = L.places.length by simp [knownL]] at hH
    refine Tr.weak (Wk.bslB (k := 14) (j := 7) (i := 47) (by decide) rfl rfl rfl hH) ?_
    refine Tr.seqC rfl (by simp) (Steps.call (us := [.agg (laidC (knownL L n ps[k]))]) rfl rfl (c_sure hK) (Steps.fin rfl (by simp) ?_))
    obtain ⟨N, hN⟩ : ∃ N, sureC (knownL L n ps[k]) = N := ⟨_, rfl⟩
    have hN64 : N ≤ 64 := by
      rw [← hN]
      have : sureC (knownL L n ps[k]) ≤ L.traces.length := sure_bd (L := knownL L n ps[k]) hLt _ (Nat.le_refl _)
      omega
    rw [hN]
    have hfk : k < fs.length := by omega
    have efk : fs[k] = (N : Int) := by
      have : (ps.map (fun p => (sureC (knownL L n p) : Int)))[k]'(by simp; omega) = (N : Int) := by rw [List.getElem_map, hN]
      simp only [hfs] at this; exact this
    obtain ⟨acc, hacc⟩ : ∃ acc, (fs.take k).foldl leastStep (-1) = acc := ⟨_, rfl⟩
    have eT : (fs.take (k + 1)).foldl leastStep (-1) = leastStep acc N := by
      rw [List.take_add_one, List.getElem?_eq_getElem hfk, List.foldl_append, hacc, efk]; rfl
    rw [hacc] at ha1 ha2 ⊢
    refine Tr.seqR rfl (by simp) (Tr.cond rfl rfl (fun h3 => Tr.regR rfl (by simp) (Tr.regR rfl (by simp) ?_)) (fun h3 => Tr.skip (Tr.regR rfl (by simp) ?_)))
    · have h3 : acc < 0 ∨ (N : Int) < acc := by
        have h3 : (bif decide (acc < 0) then true else decide ((N : Int) < acc)) = true := h3
        by_cases h : acc < 0
        · exact .inl h
        · simp [h] at h3; exact .inr h3
      have eS2 : leastStep acc N = N := by unfold leastStep; rw [if_pos h3]
      rw [eS2] at eT
      refine ⟨k + 1, _, Wk.le (.cons rfl (.refl _) (.cons rfl (.refl _) (.cons rfl (.refl _) (.cons rfl (VLe.i eT.symm) (.cons rfl (.refl _) (.cons rfl (.refl _) (.cons rfl (VLe.i (w64 (by omega) (by omega))) .nil))))))) (.cons rfl (LLe.refl _) .nil) .nil rfl rfl, ⟨⟨by omega, by omega, by omega⟩, rfl⟩, by omega⟩
    · have h3 : ¬ (acc < 0 ∨ (N : Int) < acc) := by
        have h3 : (bif decide (acc < 0) then true else decide ((N : Int) < acc)) = false := h3
        by_cases h : acc < 0
        · simp [h] at h3
        · simp [h] at h3; omega
      have eS2 : leastStep acc N = acc := by unfold leastStep; rw [if_neg h3]
      rw [eS2] at eT
      refine ⟨k + 1, _, Wk.le (.cons rfl (.refl _) (.cons rfl (.refl _) (.cons rfl (.refl _) (.cons rfl (VLe.i eT.symm) (.cons rfl (.refl _) (.cons rfl (.refl _) (.cons rfl (VLe.i (w64 (by omega) (by omega))) .nil))))))) (.cons rfl (LLe.refl _) .nil) .nil rfl rfl, ⟨⟨by omega, by omega, by omega⟩, rfl⟩, by omega⟩
  · have h2 : k = ps.length := by simp at h2; omega
    subst h2
    have hb : sureC L ≤ L.traces.length := sure_bd (L := L) hLt _ (Nat.le_refl _)
    rw [← hfl, List.take_length] at ha1 ha2 ⊢
    refine Tr.exit (Tr.seqR rfl (by simp) (Tr.retX rfl rfl rfl ?_ trivial))
    show _ = packR [I (IntKind.wrap .i64 (fs.foldl leastStep (-1) - (sureC L : Nat))), I 0]
    rw [w64 (by omega) (by omega)]; rfl

end Go.Proofs.YtdejdblopmfjfaaDoor


/-! The chapter's examples: the bin chapter. -/
set_option linter.unusedVariables false
set_option linter.unusedSimpArgs false
set_option maxRecDepth 20000
namespace Go.Am
open Go.RowKit

/-! ### Guards that are known to hold -/
theorem compOp_noguard {P : Program} {nt : Nat} {slots : List (Option Nat)} {o : Oper} {d : Option Nat} {k : Am.K} {xs : List X} {g : Option (Nat × Bool)} (hc : compOp P nt slots o = some ⟨d, k, xs, g⟩) (sl : List (Option Nat)) : compOp P nt sl { o with guard := none } = some ⟨d, k, xs, none⟩ := by
  unfold compOp at hc ⊢
  cases h1 : opK P o.op with
  | none => rw [h1] at hc; cases hc
  | some q =>
    obtain ⟨k', os⟩ := q
    rw [h1] at hc
    simp only at hc
    cases h2 : os.mapM compX with
    | none => rw [h2] at hc; cases hc
    | some xs' =>
      rw [h2] at hc
      simp only at hc
      cases h3 : guardG slots o.guard with
      | none => rw [h3] at hc; cases hc
      | some g' =>
        rw [h3] at hc
        simp only at hc
        cases h4 : dstOk nt k' o.dst with
        | false => rw [h4] at hc; cases hc
        | true =>
          rw [h4] at hc
          cases hc
          simp only [h1, h2, h4, cond_true]
          rfl

theorem Step1.on {E : Env} {K : St → Prop} {s : St} {d : Option Nat} {k : Am.K} {xs : List X} {t : Nat} {want : Bool} {gv : V} (hgv : Am.get s.env t = some gv) (hgb : guardOf want gv = some true) (h : Step1 E ⟨d, k, xs, none⟩ K s) : Step1 E ⟨d, k, xs, some (t, want)⟩ K s := by
  refine Step1.raw fun slots ops o i ro n a w g hc hs hi R Q next hn => ?_
  have hc' := compOp_noguard hc (#[{ o with guard := none }].toList.map (·.dst))
  have h1 := step_ok (ro := ro) (n := n) (ops := #[{ o with guard := none }]) (i := 0) h hc' rfl rfl R (Q := Q) (next := next) hn
  unfold wpOpIn at h1 ⊢
  obtain ⟨os, cc⟩ := comp_of hc
  obtain ⟨j, want', t', g1, g2, g3⟩ : ∃ j want t, o.guard = some (j, want) ∧ slots[j]? = some (some t) ∧ (some (t, want)) = (some (t, want)) ∧ True := by
    rcases cc.guard with ⟨e, _⟩ | ⟨j, w', t', e1, e2, e3⟩
    · cases e
    · exact ⟨j, w', t', e1, e2, rfl, trivial⟩
  have hw : Region.wanted o (yielded ops a.tmps) = true := by
    rcases cc.guard with ⟨e, _⟩ | ⟨j, w', t', e1, e2, e3⟩
    · cases e
    · cases e3
      exact (guard_wanted R hs e1 e2 (by rw [fs_g]; exact hgv) hgb).1 rfl
  simp only [hi, hw, if_true]
  have hw' : Region.wanted { o with guard := none } (yielded #[{ o with guard := none }] a.tmps) = true := by unfold Region.wanted; rfl
  simp only [List.getElem?_toArray, List.getElem?_cons_zero, hw', if_true] at h1
  exact h1

theorem Steps.on {E : Env} {K : St → Prop} {s : St} {d : Option Nat} {k : Am.K} {xs : List X} {t : Nat} {want : Bool} {gv : V} {rest : List Ins} (hgv : Am.get s.env t = some gv) (hgb : guardOf want gv = some true) (h : Am.Steps E (⟨d, k, xs, none⟩ :: rest) K s) : Am.Steps E (⟨d, k, xs, some (t, want)⟩ :: rest) K s := Step1.on hgv hgb h

/-- One step where guards are known to hold. -/
def stepG (ins : Ins) (s : St) : Option (Prop × Eff × List Loc) :=
  match ins.g with
  | none => stepP ins s
  | some (t, want) => match Am.get s.env t with
    | some (.bool b) => match b == want with
      | true => stepP { ins with g := none } s
      | false => none
    | _ => none

theorem step_G {E : Env} {ins : Ins} {s : St} {p : Prop} {eff : Eff} {rd : List Loc} {K : St → Prop} (h : stepG ins s = some (p, eff, rd)) (hp : p) (hk : K ((s.eff eff).put ins.d eff.v)) : Step1 E ins K s := by
  obtain ⟨d, k, xs, g⟩ := ins
  unfold stepG at h
  cases g with
  | none => exact .does (stepP_ok h hp) hk
  | some tw =>
    obtain ⟨t, want⟩ := tw
    simp only at h
    split at h
    · rename_i b hb
      split at h
      · rename_i hbw
        exact Step1.on hb (by simp only [guardOf, hbw]) (.does (stepP_ok h hp) hk)
      · cases h
    · cases h

def runG : List Ins → St → Prop → Prop × St × List Ins
  | [], s, p => (p, s, [])
  | i :: r, s, p => match stepG i s with
    | some (q, eff, _) => runG r ((s.eff eff).put i.d eff.v) (p ∧ q)
    | none => (p, s, i :: r)

theorem runG_pre : ∀ (il : List Ins) (s : St) (p : Prop), (runG il s p).1 → p
  | [], s, p, h => h
  | i :: r, s, p, h => by
    unfold runG at h
    split at h
    · exact (runG_pre r _ _ h).1
    · exact h

theorem runG_ok {E : Env} {K : St → Prop} : ∀ (il : List Ins) (s : St) (p : Prop), (runG il s p).1 → Am.Steps E (runG il s p).2.2 K (runG il s p).2.1 → Am.Steps E il K s
  | [], s, p, _, h => h
  | i :: r, s, p, h1, h2 => by
    unfold runG at h1 h2
    split at h1
    · rename_i q eff rd hq
      rw [hq] at h2
      exact step_G hq (runG_pre r _ _ h1).2 (runG_ok r _ _ h1 h2)
    · rename_i hq
      rw [hq] at h2
      exact h2

theorem Steps.runG {E : Env} {K : St → Prop} {s s' : St} {il rest : List Ins} {p : Prop} (h : Am.runG il s True = (p, s', rest)) (hp : p) (hs : Am.Steps E rest K s') : Am.Steps E il K s := by
  refine runG_ok il s True ?_ ?_
  · rw [h]; exact hp
  · rw [h]; exact hs

/-- At most so many instructions, where guards are known to hold. -/
def runGN : Nat → List Ins → St → Prop → Prop × St × List Ins
  | 0, il, s, p => (p, s, il)
  | _ + 1, [], s, p => (p, s, [])
  | n + 1, i :: r, s, p => match stepG i s with
    | some (q, eff, _) => runGN n r ((s.eff eff).put i.d eff.v) (p ∧ q)
    | none => (p, s, i :: r)

theorem runGN_pre : ∀ (n : Nat) (il : List Ins) (s : St) (p : Prop), (runGN n il s p).1 → p
  | 0, il, s, p, h => h
  | _ + 1, [], s, p, h => h
  | n + 1, i :: r, s, p, h => by
    unfold runGN at h
    split at h
    · exact (runGN_pre n r _ _ h).1
    · exact h

theorem runGN_ok {E : Env} {K : St → Prop} : ∀ (n : Nat) (il : List Ins) (s : St) (p : Prop), (runGN n il s p).1 → Am.Steps E (runGN n il s p).2.2 K (runGN n il s p).2.1 → Am.Steps E il K s
  | 0, il, s, p, _, h => h
  | _ + 1, [], s, p, _, h => h
  | n + 1, i :: r, s, p, h1, h2 => by
    unfold runGN at h1 h2
    split at h1
    · rename_i q eff rd hq
      rw [hq] at h2
      exact step_G hq (runGN_pre n r _ _ h1).2 (runGN_ok n r _ _ h1 h2)
    · rename_i hq
      rw [hq] at h2
      exact h2

theorem Steps.runGN {E : Env} {K : St → Prop} (n : Nat) {s s' : St} {il rest : List Ins} {p : Prop} (h : Am.runGN n il s True = (p, s', rest)) (hp : p) (hs : Am.Steps E rest K s') : Am.Steps E il K s := by
  refine runGN_ok n il s True ?_ ?_
  · rw [h]; exact hp
  · rw [h]; exact hs

theorem Steps.strEq {E : Env} {K : St → Prop} {s : St} {d : Nat} {x y : X} {a : ByteArray} {rest : List Ins} (hx : evXs s.env [x, y] = some [.str a, .str a]) (hk : Am.Steps E rest K (s.put (some d) (.bool true))) : Am.Steps E (⟨some d, .bin .eql, [x, y], none⟩ :: rest) K s := by
  refine Step1.does (ins := ⟨some d, .bin .eql, [x, y], none⟩) (eff := { v := .bool true }) (rd := xslots [x, y]) (stepP_ok (p := True) ?_ trivial) hk
  unfold stepP
  rw [hx]
  simp [evalK, nilOk]

end Go.Am

namespace Go.Proofs.YtdejdblopmfjfaaDoor
open Go.Am
attribute [local simp] cells scalar mkv splice under2 under dem dem1 eB gridC sB fourC eF layC eQ nfC intsV foldV
theorem c_bound (a b : Int) : C Tryd.prog F.law07_bound [I a, I b] (.agg [I a, I b]) := by
  refine C_of mixed chk.law07_bound (by simp) fun S ok => ?_
  exact Tr.seqR rfl (by simp) (Tr.seqR rfl (by simp) (Tr.retX rfl rfl rfl rfl trivial))

def spotF (x y : Int) : Fr := ⟨(x, x), (y, y), (w (x + y), w (x + y)), (w (x - y), w (x - y))⟩
theorem c_spot (x y : Int) : C Tryd.prog F.law07_spot [I x, I y] (eF (spotF x y)) := by
  refine C_of mixed chk.law07_spot (by simp) fun S ok => ?_
  refine Tr.seqR rfl (by simp) (Tr.seqC rfl (by simp) ?_)
  refine Steps.call rfl rfl (c_bound x x) (Steps.run rfl (by simp) ?_)
  refine Steps.call rfl rfl (c_bound y y) (Steps.run rfl (by simp) ?_)
  refine Steps.call rfl rfl (c_bound (w (x + y)) (w (x + y))) (Steps.run rfl (by simp) ?_)
  refine Steps.call rfl rfl (c_bound (w (x - y)) (w (x - y))) (Steps.fin rfl (by simp) (Tr.retX rfl rfl rfl rfl trivial))

def exG : Gd := ⟨(0, 0), 2, 3, 2, [(0, 25), (26, 400)]⟩
def exY : Ly := ⟨[⟨(1, 1), (1, 1), (2, 2), (0, 0)⟩, ⟨(3, 3), (3, 3), (6, 6), (0, 0)⟩, ⟨(7, 9), (3, 3), (10, 12), (4, 6)⟩], [(0, 1), (0, 2), (1, 2)]⟩
def exN : Nf := ⟨[2, 1], [⟨4, [2, 0]⟩, ⟨3, [0, 1]⟩, ⟨5, [1, 1]⟩, ⟨6, [2, 1]⟩]⟩

theorem c_grid : C Tryd.prog F.law07_grid [] (.agg (gridC exG)) := by
  refine C_of mixed chk.law07_grid (by simp) fun S ok => ?_
  refine Tr.seqR rfl (by simp) (Tr.seqC rfl (by simp) ?_)
  refine Steps.call rfl rfl (c_bound 0 25) (Steps.run rfl (by simp) ?_)
  refine Steps.call rfl rfl (c_bound 26 400) (Steps.fin rfl (by simp) (Tr.retX rfl rfl rfl rfl trivial))

theorem c_lines : C Tryd.prog F.law07_lines [] (.agg (layC exY)) := by
  refine C_of mixed chk.law07_lines (by simp) fun S ok => ?_
  refine Tr.seqR rfl (by simp) (Tr.seqC rfl (by simp) ?_)
  refine Steps.call rfl rfl (c_spot 1 1) (Steps.run rfl (by simp) ?_)
  refine Steps.call rfl rfl (c_spot 3 3) (Steps.run rfl (by simp) ?_)
  refine Steps.call rfl rfl (c_bound 7 9) (Steps.run rfl (by simp) ?_)
  refine Steps.call rfl rfl (c_bound 3 3) (Steps.run rfl (by simp) ?_)
  refine Steps.call rfl rfl (c_bound 10 12) (Steps.run rfl (by simp) ?_)
  refine Steps.call rfl rfl (c_bound 4 6) (Steps.fin rfl (by simp) (Tr.retX rfl rfl rfl rfl trivial))

theorem c_gaps : C Tryd.prog F.law07_gaps [] (.agg (nfC exN)) := by
  refine C_of mixed chk.law07_gaps (by simp) fun S ok => ?_
  exact Tr.seqR rfl (by simp) (Tr.seqR rfl (by simp) (Tr.retX rfl rfl rfl rfl trivial))

theorem c_cells (l l' : List (Int × Int)) (hl : l.length ≤ 9223372036854775807) : C Tryd.prog F.law07_cells [sB l, sB l'] (.bool (decide (l = l'))) := by
  refine C_of mixed chk.law07_cells (by simp) fun S ok => ?_
  refine Tr.seqR rfl (by simp) (Tr.seq (Tr.seqR rfl (by simp) ?_))
  refine Tr.cond rfl rfl (fun h1 => Tr.seqR rfl (by simp) (Tr.retX rfl rfl rfl ?_ trivial)) (fun h1 => Tr.skip ?_)
  · have h1 : (((l.map eB).length : Int) != ((l'.map eB).length : Int)) = true := h1
    simp only [packR, V.bool.injEq]
    rw [decide_eq_false]
    rintro rfl
    simp at h1
  · have h1 : (((l.map eB).length : Int) != ((l'.map eB).length : Int)) = false := h1
    have hll : l.length = l'.length := by simp at h1; omega
    refine Tr.seq (Tr.seqR rfl (by simp) (Tr.block ?_))
    refine Tr.loop (fun k st => (k ≤ l.length ∧ l.take k = l'.take k) ∧ st = { env := [(0, sB l), (1, sB l'), (5, I k)], bx := [], rw := [], log := [], stp := false }) (fun k => l.length - k) 0
      (Wk.le (.cons rfl (.refl _) (.cons rfl (.refl _) (.cons rfl (.refl _) .nil))) .nil .nil rfl rfl) ⟨⟨by omega, by simp⟩, rfl⟩ ?_
    rintro k st ⟨⟨hk, he⟩, rfl⟩
    refine Tr.seq (Tr.seqR rfl (by simp) (Tr.cond rfl rfl (fun h3 => ?_) (fun h3 => ?_)))
    · have h3 : k < l.length := by simpa using h3
      have h4 : k < l'.length := by omega
      refine Tr.skip (Tr.seq (Tr.block (Tr.seq (Tr.drawK (TraceK.runN 3 rfl (by simp; omega) ?_)))))
      rw [getD_map h3]
      refine TraceK.runN 4 rfl (by simp; omega) ?_
      rw [getD_map h4]
      refine TraceK.run rfl (by simp) (.done ⟨by kernel_rfl, by kernel_rfl, ?_⟩)
      refine Tr.cond rfl rfl (fun h5 => Tr.seqR rfl (by simp) (Tr.retX rfl rfl rfl ?_ trivial)) (fun h5 => Tr.skip (Tr.regR rfl (by simp) ?_))
      · have h5 : l[k] ≠ l'[k] := by
          intro e; rw [e] at h5; simp at h5
        simp only [packR, V.bool.injEq]
        rw [decide_eq_false]
        rintro rfl
        exact h5 rfl
      · have h5 : l[k] = l'[k] := by
          have := h5
          simp at this
          exact Prod.ext this.1 this.2
        exact ⟨k + 1, _, Wk.le (.cons rfl (.refl _) (.cons rfl (.refl _) (.cons rfl (VLe.i (w64 (by omega) (by omega))) .nil))) .nil .nil rfl rfl, ⟨⟨h3, take_ext h3 h4 he h5⟩, rfl⟩, by omega⟩
    · have h3 : k = l.length := by simp at h3; omega
      subst h3
      refine Tr.exit (Tr.seqR rfl (by simp) (Tr.retX rfl rfl rfl ?_ trivial))
      rw [List.take_length, hll, List.take_length] at he
      simp [packR, he]

theorem c_AlikeLists (l l' : List (List Int)) (hl : l.length ≤ 9223372036854775807) (hr : ∀ r ∈ l, r.length ≤ 9223372036854775807) : C Tryd.prog F.ref00_AlikeLists [foldV l, foldV l'] (.bool (decide (l = l'))) := by
  refine C_of mixed chk.ref00_AlikeLists (by simp) fun S ok => ?_
  refine Tr.seqR rfl (by simp) (Tr.seq (Tr.seqR rfl (by simp) ?_))
  refine Tr.cond rfl rfl (fun h1 => Tr.seqR rfl (by simp) (Tr.retX rfl rfl rfl ?_ trivial)) (fun h1 => Tr.skip ?_)
  · have h1 : (((l.map intsV).length : Int) != ((l'.map intsV).length : Int)) = true := h1
    simp only [packR, V.bool.injEq]
    rw [decide_eq_false]
    rintro rfl
    simp at h1
  · have h1 : (((l.map intsV).length : Int) != ((l'.map intsV).length : Int)) = false := h1
    have hll : l.length = l'.length := by simp at h1; omega
    refine Tr.seq (Tr.seqR rfl (by simp) (Tr.block ?_))
    refine Tr.loop (fun k st => (k ≤ l.length ∧ l.take k = l'.take k) ∧ st = { env := [(0, foldV l), (1, foldV l'), (5, I k)], bx := [], rw := [], log := [], stp := false }) (fun k => l.length - k) 0
      (Wk.le (.cons rfl (.refl _) (.cons rfl (.refl _) (.cons rfl (.refl _) .nil))) .nil .nil rfl rfl) ⟨⟨by omega, by simp⟩, rfl⟩ ?_
    rintro k st ⟨⟨hk, he⟩, rfl⟩
    refine Tr.seq (Tr.seqR rfl (by simp) (Tr.cond rfl rfl (fun h3 => ?_) (fun h3 => ?_)))
    · have h3 : k < l.length := by simpa using h3
      have h4 : k < l'.length := by omega
      refine Tr.skip (Tr.seq (Tr.block (Tr.seq (Tr.drawK (TraceK.runN 3 rfl (by simp; omega) ?_)))))
      rw [getD_map h3]
      refine TraceK.runN 4 rfl (by simp; omega) ?_
      rw [getD_map h4]
      refine TraceK.run rfl (by simp) (TraceK.call rfl rfl (c_Alike l[k] l'[k] (hr _ (List.getElem_mem h3))) (TraceK.run rfl (by simp) (.done ⟨by kernel_rfl, by kernel_rfl, ?_⟩)))
      refine Tr.cond rfl rfl (fun h5 => Tr.seqR rfl (by simp) (Tr.retX rfl rfl rfl ?_ trivial)) (fun h5 => Tr.skip (Tr.regR rfl (by simp) ?_))
      · have h5 : (!decide (l[k] = l'[k])) = true := h5
        simp only [packR, V.bool.injEq]
        rw [decide_eq_false]
        rintro rfl
        simp at h5
      · have h5 : (!decide (l[k] = l'[k])) = false := h5
        have h5 : l[k] = l'[k] := by simpa using h5
        exact ⟨k + 1, _, Wk.le (.cons rfl (.refl _) (.cons rfl (.refl _) (.cons rfl (VLe.i (w64 (by omega) (by omega))) .nil))) .nil .nil rfl rfl, ⟨⟨h3, take_ext h3 h4 he h5⟩, rfl⟩, by omega⟩
    · have h3 : k = l.length := by simp at h3; omega
      subst h3
      refine Tr.exit (Tr.seqR rfl (by simp) (Tr.retX rfl rfl rfl ?_ trivial))
      rw [List.take_length, hll, List.take_length] at he
      simp [packR, he]

end Go.Proofs.YtdejdblopmfjfaaDoor


/-! The chapter's examples come out as it says. -/
set_option linter.unusedVariables false
set_option linter.unusedSimpArgs false
set_option maxRecDepth 40000
set_option maxHeartbeats 4000000
namespace Go.Proofs.YtdejdblopmfjfaaDoor
open Go.Am
attribute [local simp] cells scalar mkv splice under2 under dem dem1 eB gridC sB fourC eF layC eQ nfC intsV foldV eL sL eC cutsV
theorem ex1 : (if gridOk exG then (if planeB (1, 1) && planeB (9, 3) then .tuple [eB (cellN exG (1, 1) (9, 3)), I 0] else .tuple [.agg [I 0, I 0], I 10]) else .tuple [.agg [I 0, I 0], I 70] : V) = .tuple [eB (5, 1), I 0] := by kernel_rfl
theorem ex2 : HitsR exG exY 2 = .tuple [sB [(-1, -1), (5, 0)], I 0] := by kernel_rfl
theorem ex3 : FoldR exG exY = .tuple [foldV [[0, 0], [0, 0], [0, 0], [0, 0], [1, 0], [0, 1]], foldV [[0, 0], [0, 0], [0, 0], [0, 0], [1, 0], [1, 1]], I 0] := by kernel_rfl
theorem ex4 : MapR exG [[0, 0], [0, 0], [0, 0], [0, 0], [1, 0], [0, 1]] 0 = .tuple [.str ⟨#[46, 49, 46, 10, 46, 46, 46, 10]⟩, I 0] := by kernel_rfl
theorem ex5 : LacksR exG exY [0, 2] = .tuple [sL [(0, 1, 2), (1, 1, 2), (2, 1, 2), (3, 1, 2), (4, 1, 2), (5, 1, 1)], I 0] := by kernel_rfl
theorem ex6 : GainR exG exY 2 = .tuple [I 0, I 0] := by kernel_rfl
theorem ex7 : BestR exN = .tuple [intsV [3], I 6, I 0] := by kernel_rfl
theorem ex8 : WithoutR exN 3 = .tuple [I 1, I 0] := by kernel_rfl
theorem ex9 : BoundR exN [⟨-1, [2, 2]⟩] = .tuple [I 6, I 0] := by kernel_rfl

theorem exG_l : exG.cls.length ≤ 9223372036854775807 := by decide
theorem exY_n : exY.nodes.length ≤ 9223372036854775807 := by decide
theorem exY_t : exY.traces.length ≤ 9223372036854775807 := by decide
theorem exN_a : ∀ p ∈ exN.passes, p.adds.length ≤ 9223372036854775807 := by decide
theorem exF_r : ∀ r ∈ ([[0, 0], [0, 0], [0, 0], [0, 0], [1, 0], [0, 1]] : List (List Int)), r.length ≤ 9223372036854775807 := by decide
theorem exF2_r : ∀ r ∈ ([[0, 0], [0, 0], [0, 0], [0, 0], [1, 0], [1, 1]] : List (List Int)), r.length ≤ 9223372036854775807 := by decide

/-- **THE CHAPTER's EXAMPLES** come out as it says. -/
theorem c_works : C Tryd.prog F.law07_works [] (.bool true) := by
  refine C_of mixed chk.law07_works (by simp) fun S ok => ?_
  refine Tr.seqR rfl (by simp) ?_
  refine Tr.seqC rfl (by simp) (Steps.call rfl rfl c_grid (Steps.run rfl (by simp) ?_))
  refine Steps.call rfl rfl (ex1 ▸ c_Cell exG_l (1, 1) (9, 3)) (Steps.fin rfl (by simp) ?_)
  refine Tr.seqC rfl (by simp) (Steps.call rfl rfl c_grid (Steps.run rfl (by simp) ?_))
  refine Steps.call rfl rfl c_lines (Steps.run rfl (by simp) ?_)
  refine Steps.call rfl rfl (ex2 ▸ c_Hits exG_l exY_n exY_t 2) (Steps.fin rfl (by simp) ?_)
  refine Tr.seqC rfl (by simp) (Steps.call rfl rfl c_grid (Steps.run rfl (by simp) ?_))
  refine Steps.call rfl rfl c_lines (Steps.run rfl (by simp) ?_)
  refine Steps.call rfl rfl (ex3 ▸ c_Fold exG_l exY_n exY_t) (Steps.fin rfl (by simp) ?_)
  refine Tr.seq (Tr.seq (Tr.reg (Steps.runG rfl (by simp) ?_)))
  refine Steps.on rfl rfl (Steps.call rfl rfl (c_cells [(-1, -1), (5, 0)] [(-1, -1), (5, 0)] (by decide)) (Steps.runG rfl (by simp) ?_))
  refine Steps.on rfl rfl (Steps.call rfl rfl (c_AlikeLists [[0, 0], [0, 0], [0, 0], [0, 0], [1, 0], [0, 1]] [[0, 0], [0, 0], [0, 0], [0, 0], [1, 0], [0, 1]] (by decide) exF_r) (Steps.runG rfl (by simp) ?_))
  refine Steps.on rfl rfl (Steps.call rfl rfl (c_AlikeLists [[0, 0], [0, 0], [0, 0], [0, 0], [1, 0], [1, 1]] [[0, 0], [0, 0], [0, 0], [0, 0], [1, 0], [1, 1]] (by decide) exF2_r) (Steps.runG rfl (by simp) ?_))
  refine Tr.condF (by kernel_rfl) (Tr.skip ?_)
  refine Tr.seqC rfl (by simp) (Steps.call rfl rfl c_grid (Steps.run rfl (by simp) ?_))
  refine Steps.call rfl rfl (ex4 ▸ c_Map exG_l exF_r (by decide) 0) (Steps.fin rfl (by simp) ?_)
  refine Tr.seqC rfl (by simp) (Steps.call rfl rfl c_grid (Steps.run rfl (by simp) ?_))
  refine Steps.call rfl rfl c_lines (Steps.run rfl (by simp) ?_)
  refine Steps.call rfl rfl (ex5 ▸ c_Lacks exG_l exY_n exY_t (ns := [0, 2]) (by decide)) (Steps.fin rfl (by simp) ?_)
  refine Tr.seqC rfl (by simp) (Steps.call rfl rfl c_grid (Steps.run rfl (by simp) ?_))
  refine Steps.call rfl rfl c_lines (Steps.run rfl (by simp) ?_)
  refine Steps.call rfl rfl (ex6 ▸ c_Gain exG_l exY_n exY_t 2) (Steps.fin rfl (by simp) ?_)
  refine Tr.seqC rfl (by simp) (Steps.call rfl rfl c_gaps (Steps.run rfl (by simp) ?_))
  refine Steps.call rfl rfl (ex7 ▸ c_Best exN_a) (Steps.fin rfl (by simp) ?_)
  refine Tr.seqC rfl (by simp) (Steps.call rfl rfl c_gaps (Steps.run rfl (by simp) ?_))
  refine Steps.call rfl rfl (ex8 ▸ c_Without exN_a 3) (Steps.fin rfl (by simp) ?_)
  refine Tr.seqC rfl (by simp) (Steps.call rfl rfl c_gaps (Steps.run rfl (by simp) ?_))
  refine Steps.call rfl rfl (ex9 ▸ c_Bound exN_a (pf := [⟨-1, [2, 2]⟩]) (by decide)) (Steps.fin rfl (by simp) ?_)
  refine Tr.seq (Tr.reg (Steps.runGN 24 rfl (by simp) ?_))
  refine Steps.on rfl rfl (Steps.strEq rfl (Steps.runG rfl (by simp) ?_))
  refine Steps.on rfl rfl (Steps.call rfl rfl (c_Alike [3] [3] (by decide)) (Steps.runG rfl (by simp) ?_))
  exact Tr.retX rfl rfl rfl (by kernel_rfl) trivial

end Go.Proofs.YtdejdblopmfjfaaDoor


/-! Contract of the law BinHits. -/
set_option linter.unusedVariables false
set_option linter.unusedSimpArgs false
set_option maxRecDepth 40000
set_option maxHeartbeats 4000000
namespace Go.Proofs.YtdejdblopmfjfaaDoor
open Go.Am
attribute [local simp] cells scalar mkv splice under2 under dem dem1 eB gridC sB fourC layC eF intsV foldV
theorem getD_srefC {m b : Nat} {r : List (Nat × Nat)} (h : b < r.length) : (srefC m r).getD ((b : Nat) : Int).toNat nothing = .sref r[b].1 0 m r[b].2 := by
  unfold srefC
  exact getD_map h

theorem isD_ints (l : List Int) : (l.map I).all isD = true := by
  rw [List.all_eq_true]
  intro v hv
  obtain ⟨x, _, rfl⟩ := List.mem_map.1 hv
  rfl

section
variable {g : Gd} {s : Ly} {FA FB : List (List Int)} {N n m : Nat}
theorem okR2 (r1 r2 : List (Nat × Nat)) : okRefs [(2, .ptr 2 0), (3, .ptr 3 0), (5, foldV FA), (6, foldV FB), (8, I (N : Nat)), (9, .bsl 54 0 1 N), (10, .bsl 56 0 1 N), (11, I (n : Nat))] [(54, ⟨outC m N r1, false⟩), (56, ⟨outC m N r2, false⟩), (2, ⟨gridC g, false⟩), (3, ⟨layC s, false⟩)] [] = true :=
  okCells (bx0 := [(54, ⟨[], false⟩), (56, ⟨[], false⟩), (2, ⟨gridC g, false⟩), (3, ⟨layC s, false⟩)]) rfl rfl fun p hp => by
    simp only [List.mem_cons, List.not_mem_nil, or_false] at hp
    rcases hp with rfl | rfl | rfl | rfl
    · exact outC_refs _ _ _ _ _
    · exact outC_refs _ _ _ _ _
    · rfl
    · rfl
theorem okR3 (r1 r2 : List (Nat × Nat)) (z : List Int) : okRefs [(2, .ptr 2 0), (3, .ptr 3 0), (5, foldV FA), (6, foldV FB), (8, I (N : Nat)), (9, .bsl 54 0 1 N), (10, .bsl 56 0 1 N), (11, I (n : Nat))] [(73, ⟨z.map I, false⟩), (54, ⟨outC m N r1, false⟩), (56, ⟨(outC m N r2).set n (.bsl 73 0 1 m), false⟩), (2, ⟨gridC g, false⟩), (3, ⟨layC s, false⟩)] [] = true :=
  okCells (bx0 := [(73, ⟨[], false⟩), (54, ⟨[], false⟩), (56, ⟨[], false⟩), (2, ⟨gridC g, false⟩), (3, ⟨layC s, false⟩)]) rfl rfl fun p hp => by
    simp only [List.mem_cons, List.not_mem_nil, or_false] at hp
    rcases hp with rfl | rfl | rfl | rfl | rfl
    · exact ints_refs _ _ _
    · exact outC_refs _ _ _ _ _
    · exact outB_refs _ _ _ _ _ _ _ rfl
    · rfl
    · rfl
theorem okR4 (r1 r2 : List (Nat × Nat)) (z : List Int) : okRefs [(2, .ptr 2 0), (3, .ptr 3 0), (5, foldV FA), (6, foldV FB), (8, I (N : Nat)), (9, .bsl 54 0 1 N), (10, .bsl 56 0 1 N), (11, I (n : Nat))] [(69, ⟨z.map I, false⟩), (73, ⟨z.map I, false⟩), (54, ⟨(outC m N r1).set n (.bsl 69 0 1 m), false⟩), (56, ⟨(outC m N r2).set n (.bsl 73 0 1 m), false⟩), (2, ⟨gridC g, false⟩), (3, ⟨layC s, false⟩)] [] = true :=
  okCells (bx0 := [(69, ⟨[], false⟩), (73, ⟨[], false⟩), (54, ⟨[], false⟩), (56, ⟨[], false⟩), (2, ⟨gridC g, false⟩), (3, ⟨layC s, false⟩)]) rfl rfl fun p hp => by
    simp only [List.mem_cons, List.not_mem_nil, or_false] at hp
    rcases hp with rfl | rfl | rfl | rfl | rfl | rfl
    · exact ints_refs _ _ _
    · exact ints_refs _ _ _
    · exact outB_refs _ _ _ _ _ _ _ rfl
    · exact outB_refs _ _ _ _ _ _ _ rfl
    · rfl
    · rfl
end

theorem c_BinHits {g : Gd} {s : Ly} (hl : g.cls.length ≤ 9223372036854775807) (hn : s.nodes.length ≤ 9223372036854775807) (ht : s.traces.length ≤ 9223372036854775807) : C Tryd.prog F.law07_BinHits [.agg (gridC g), .agg (layC s)] (.bool true) := by
  have kf := c_Fold hl hn ht
  unfold FoldR at kf
  refine C_of mixed chk.law07_BinHits (by simp) fun S ok => ?_
  refine Tr.seqR rfl (by simp) ?_
  by_cases hg : gridOk g = true
  rotate_left
  · rw [if_neg hg] at kf
    refine Tr.seqC rfl (by simp) (Steps.call rfl rfl kf (Steps.fin rfl (by simp) ?_))
    refine Tr.seq (Tr.seqR rfl (by simp) (Tr.condT rfl ?_))
    exact Tr.seqC rfl (by simp) (Steps.gcall rfl rfl rfl rfl (by simp) (fun _ => c_works) (Steps.fin rfl (by simp) (Tr.retX rfl rfl rfl rfl trivial)))
  rw [if_pos hg] at kf
  by_cases hs : layOk s = true
  rotate_left
  · rw [if_neg hs] at kf
    refine Tr.seqC rfl (by simp) (Steps.call rfl rfl kf (Steps.fin rfl (by simp) ?_))
    refine Tr.seq (Tr.seqR rfl (by simp) (Tr.condT rfl ?_))
    exact Tr.seqC rfl (by simp) (Steps.gcall rfl rfl rfl rfl (by simp) (fun _ => c_works) (Steps.fin rfl (by simp) (Tr.retX rfl rfl rfl rfl trivial)))
  rw [if_pos hs] at kf
  obtain ⟨⟨h16, h64⟩, hno, _⟩ := layOk_spec hs
  have hL := lay_ok hg hs
  obtain ⟨_, hsz, hga, hgd, hcl, _⟩ := gridOk_spec hg
  have nb := nBins_eq hg
  have hab : IntKind.wrap .i64 (g.a * g.d) = (nBins g : Int) := by rw [nb.1]; exact w64 (by omega) (by omega)
  have ba : btw g.a 1 16 = true := by rw [btw_iff]; exact hga
  have bd : btw g.d 1 16 = true := by rw [btw_iff]; exact hgd
  have ka : C Tryd.prog F.ref00_Between [I g.a, I 1, I 16] (.bool true) := ba ▸ c_between _ _ _
  have kd : C Tryd.prog F.ref00_Between [I g.d, I 1, I 16] (.bool true) := bd ▸ c_between _ _ _
  have eA : cntN (layD g s) (sureT (layD g s)) = countL g (allH (sureT (layD g s)) s.traces.length) := rfl
  have eB1 : cntN (layD g s) (hitsT (layD g s)) = countL g (allH (hitsT (layD g s)) s.traces.length) := rfl
  rw [eA, eB1] at kf
  have nb0 : 0 < nBins g := by
    have : 1 ≤ g.a * g.d := by have := Int.mul_le_mul hga.1 hgd.1 (by omega) (by omega); omega
    omega
  refine Tr.seqC rfl (by simp) (Steps.call rfl rfl kf (Steps.fin rfl (by simp) ?_))
  refine Tr.seq (Tr.seqR rfl (by simp) (Tr.condF rfl (Tr.skip ?_)))
  refine Tr.seq (Tr.seqC rfl (by simp) (Steps.call rfl rfl ka (Steps.run rfl (by simp) ?_)))
  refine Steps.gcall rfl rfl rfl rfl (by simp) (fun _ => kd) (Steps.fin rfl (by simp) (Tr.condF rfl (Tr.skip ?_)))
  refine Tr.seqR rfl (by simp) ?_
  obtain ⟨FA, hFA⟩ : ∃ F, countL g (allH (sureT (layD g s)) s.traces.length) = F := ⟨_, rfl⟩
  obtain ⟨FB, hFB⟩ : ∃ F, countL g (allH (hitsT (layD g s)) s.traces.length) = F := ⟨_, rfl⟩
  rw [hFA, hFB, hab]
  refine Tr.weak (s' := { env := [(2, .ptr 2 0), (3, .ptr 3 0), (5, foldV FA), (6, foldV FB), (8, I (nBins g : Nat))], bx := [(2, ⟨gridC g, false⟩), (3, ⟨layC s, false⟩)], rw := [], log := [], stp := false })
    (Wk.le (.cons rfl (.refl _) (.cons rfl (.refl _) (.cons rfl (.refl _) (.cons rfl (.refl _) (.cons rfl (.refl _) .nil))))) (.cons rfl (LLe.refl _) (.cons rfl (LLe.refl _) .nil)) .nil rfl rfl) ?_
  refine Tr.arena rfl rfl ?_
  have hA := InA.main (E := env0 Tryd.prog mixed 199 S ok) [] false
  refine Tr.seq (Tr.drawK (TraceK.run rfl (by simp; omega) (.done ⟨by kernel_rfl, by kernel_rfl, ?_⟩)))
  have efl : ∀ n, (List.replicate n [V.nils]).flatten = List.replicate n V.nils := fun n => by simp
  obtain ⟨m, hm⟩ : ∃ m, g.cls.length = m := ⟨_, rfl⟩
  have Zr : (zerosR m 0) = [] := rfl
  refine Tr.seq (Tr.seqR rfl (by simp) (Tr.block ?_))
  refine Tr.loop (α := Nat × List (Nat × Nat) × List (Nat × Nat)) (fun p st => (p.1 ≤ nBins g ∧ (p.2.1.length = p.1 ∧ p.2.2.length = p.1) ∧ ((∀ b ∈ p.2.1, m ≤ b.2) ∧ ∀ b ∈ p.2.2, m ≤ b.2) ∧ (keysR p.2.1 ++ keysR p.2.2).Nodup) ∧
      st = { env := [(2, .ptr 2 0), (3, .ptr 3 0), (5, foldV FA), (6, foldV FB), (8, I (nBins g : Nat)), (9, .bsl 54 0 1 (nBins g)), (10, .bsl 56 0 1 (nBins g)), (11, I (p.1 : Nat))], bx := [(54, ⟨outC m (nBins g) p.2.1, false⟩), (56, ⟨outC m (nBins g) p.2.2, false⟩), (2, ⟨gridC g, false⟩), (3, ⟨layC s, false⟩)], rw := [], log := encA (arn (keysR p.2.1) (zerosR m p.1) ++ arn (keysR p.2.2) (zerosR m p.1)), stp := false }) (fun p => nBins g - p.1) (0, [], [])
    (Wk.leL (.cons rfl (.refl _) (.cons rfl (.refl _) (.cons rfl (.refl _) (.cons rfl (.refl _) (.cons rfl (.refl _) (.cons rfl (.of_eq rfl) (.cons rfl (.of_eq rfl) (.cons rfl (.refl _) .nil)))))))) (.cons rfl ?_ (.cons rfl ?_ (.cons rfl (LLe.refl _) (.cons rfl (LLe.refl _) .nil)))) .nil (okR2 _ _) rfl rfl) ⟨⟨by omega, ⟨rfl, rfl⟩, ⟨by simp, by simp⟩, List.Pairwise.nil⟩, rfl⟩ ?_
  · show LLe (List.replicate (nBins g) [V.nils]).flatten (outC m (nBins g) [])
    rw [efl, outC_zero]; exact LLe.refl _
  · show LLe (List.replicate (nBins g) [V.nils]).flatten (outC m (nBins g) [])
    rw [efl, outC_zero]; exact LLe.refl _
  rintro ⟨n, r1, r2⟩ st ⟨⟨hn1, ⟨l1, l2⟩, ⟨c1, c2⟩, hnd⟩, rfl⟩
  simp only at hn1 l1 l2 c1 c2 hnd
  have q1 : (outC m (nBins g) r1).length = nBins g := outC_len (by omega)
  have q2 : (outC m (nBins g) r2).length = nBins g := outC_len (by omega)
  refine Tr.seq (Tr.seqR rfl (by simp) (Tr.cond rfl rfl (fun h1 => Tr.skip ?_) (fun h1 => Tr.exit ?_)))
  · have h1 : n < nBins g := by simpa using h1
    refine Tr.seq (Tr.block (Tr.drawK (TraceK.run rfl (by simp [q1, q2]; omega) (.done ⟨by kernel_rfl, by kernel_rfl, ?_⟩))))
    have eN : 0 + ((n : Nat) : Int).toNat * 1 = n := by omega
    have eM : ((((g.cls.map eB).length : Nat) : Int)).toNat = m := by rw [List.length_map, hm]; omega
    have s1 : ∀ blk cap, ((outC m (nBins g) r1).set n (.bsl 69 0 1 m)).set n (.sref blk 0 m cap) = outC m (nBins g) (r1 ++ [(blk, cap)]) := fun blk cap => by
      rw [List.set_set, ← outC_set (by omega), l1]
    have s2 : ∀ blk cap, ((outC m (nBins g) r2).set n (.bsl 73 0 1 m)).set n (.sref blk 0 m cap) = outC m (nBins g) (r2 ++ [(blk, cap)]) := fun blk cap => by
      rw [List.set_set, ← outC_set (by omega), l2]
    have hz : ∀ (l : List V) (v : V), n < l.length → splice l n [v] = l.set n v := fun l v h => by
      unfold splice
      rw [List.set_eq_take_append_cons_drop, if_pos h]; simp
    refine Tr.weak (s' := { env := [(2, .ptr 2 0), (3, .ptr 3 0), (5, foldV FA), (6, foldV FB), (8, I (nBins g : Nat)), (9, .bsl 54 0 1 (nBins g)), (10, .bsl 56 0 1 (nBins g)), (11, I (n : Nat))], bx := [(69, ⟨(List.replicate m (0 : Int)).map I, false⟩), (73, ⟨(List.replicate m (0 : Int)).map I, false⟩), (54, ⟨(outC m (nBins g) r1).set n (.bsl 69 0 1 m), false⟩), (56, ⟨(outC m (nBins g) r2).set n (.bsl 73 0 1 m), false⟩), (2, ⟨gridC g, false⟩), (3, ⟨layC s, false⟩)], rw := [], log := encA (arn (keysR r1) (zerosR m n) ++ arn (keysR r2) (zerosR m n)), stp := false })
      (Wk.le (.cons rfl (.refl _) (.cons rfl (.refl _) (.cons rfl (.refl _) (.cons rfl (.refl _) (.cons rfl (.refl _) (.cons rfl (.refl _) (.cons rfl (.refl _) (.cons rfl (.refl _) .nil)))))))) (.cons rfl ?_ (.cons rfl ?_ (.cons rfl ?_ (.cons rfl ?_ (.cons rfl (LLe.refl _) (.cons rfl (LLe.refl _) .nil)))))) .nil (okR4 _ _ _) rfl) ?_
    · show LLe (List.replicate ((((g.cls.map eB).length : Nat) : Int)).toNat [I 0]).flatten _
      rw [eM, flat_zero]; exact LLe.refl _
    · show LLe (List.replicate ((((g.cls.map eB).length : Nat) : Int)).toNat [I 0]).flatten _
      rw [eM, flat_zero]; exact LLe.refl _
    · show LLe (splice (outC m (nBins g) r1) (0 + ((n : Nat) : Int).toNat * 1) [.bsl 69 0 1 ((((g.cls.map eB).length : Nat) : Int)).toNat]) _
      rw [eM, eN, hz _ _ (by omega)]; exact LLe.refl _
    · show LLe (splice (outC m (nBins g) r2) (0 + ((n : Nat) : Int).toNat * 1) [.bsl 73 0 1 ((((g.cls.map eB).length : Nat) : Int)).toNat]) _
      rw [eM, eN, hz _ _ (by omega)]; exact LLe.refl _
    refine Tr.give (i := 69) (k := 54) (j := n) (sz := 1) (n := m) (cs := (List.replicate m (0 : Int)).map I) (env := [(2, .ptr 2 0), (3, .ptr 3 0), (5, foldV FA), (6, foldV FB), (8, I (nBins g : Nat)), (9, .bsl 54 0 1 (nBins g)), (10, .bsl 56 0 1 (nBins g)), (11, I (n : Nat))]) (bx := fun blk cap => [(73, ⟨(List.replicate m (0 : Int)).map I, false⟩), (54, ⟨outC m (nBins g) (r1 ++ [(blk, cap)]), false⟩), (56, ⟨(outC m (nBins g) r2).set n (.bsl 73 0 1 m), false⟩), (2, ⟨gridC g, false⟩), (3, ⟨layC s, false⟩)]) (rw := [])
      (by decide) rfl rfl (by rw [List.getElem?_set_self (by omega)]) (isD_ints _) rfl (.cons rfl (.refl _) (.cons rfl (.refl _) (.cons rfl (.refl _) (.cons rfl (.refl _) (.cons rfl (.refl _) (.cons rfl (.refl _) (.cons rfl (.refl _) (.cons rfl (.refl _) .nil))))))))
      (fun blk cap => .cons rfl (LLe.refl _) (.cons rfl (by rw [← s1]; exact LLe.refl _) (.cons rfl (LLe.refl _) (.cons rfl (LLe.refl _) (.cons rfl (LLe.refl _) .nil))))) .nil (fun blk cap => okR3 _ _ _) (fun _ _ => rfl) (fun _ _ => rfl) fun b1 p1 hp1 hb1 => ?_
    refine Tr.give (i := 73) (k := 56) (j := n) (sz := 1) (n := m) (cs := (List.replicate m (0 : Int)).map I) (env := [(2, .ptr 2 0), (3, .ptr 3 0), (5, foldV FA), (6, foldV FB), (8, I (nBins g : Nat)), (9, .bsl 54 0 1 (nBins g)), (10, .bsl 56 0 1 (nBins g)), (11, I (n : Nat))]) (bx := fun blk cap => [(54, ⟨outC m (nBins g) (r1 ++ [(b1, p1)]), false⟩), (56, ⟨outC m (nBins g) (r2 ++ [(blk, cap)]), false⟩), (2, ⟨gridC g, false⟩), (3, ⟨layC s, false⟩)]) (rw := [])
      (by decide) rfl rfl (by rw [List.getElem?_set_self (by omega)]) (isD_ints _) rfl (.cons rfl (.refl _) (.cons rfl (.refl _) (.cons rfl (.refl _) (.cons rfl (.refl _) (.cons rfl (.refl _) (.cons rfl (.refl _) (.cons rfl (.refl _) (.cons rfl (.refl _) .nil))))))))
      (fun blk cap => .cons rfl (LLe.refl _) (.cons rfl (by rw [← s2]; exact LLe.refl _) (.cons rfl (LLe.refl _) (.cons rfl (LLe.refl _) .nil)))) .nil (fun blk cap => okR2 _ _) (fun _ _ => rfl) (fun _ _ => rfl) fun b2 p2 hp2 hb2 => ?_
    have a1 : arn (keysR (r1 ++ [(b1, p1)])) (zerosR m (n + 1)) = arn (keysR r1) (zerosR m n) ++ [(b1, .cells ((List.replicate m (0 : Int)).map I))] := by
      rw [keysR_snoc, zerosR_succ, arn_snoc _ _ (by rw [keysR_len, zerosR_len, l1])]
    have a2 : arn (keysR (r2 ++ [(b2, p2)])) (zerosR m (n + 1)) = arn (keysR r2) (zerosR m n) ++ [(b2, .cells ((List.replicate m (0 : Int)).map I))] := by
      rw [keysR_snoc, zerosR_succ, arn_snoc _ _ (by rw [keysR_len, zerosR_len, l2])]
    have k1 : (arn (keysR r1) (zerosR m n)).map (·.1) = keysR r1 := arn_keys (by rw [keysR_len, zerosR_len, l1])
    have k2 : (arn (keysR r2) (zerosR m n)).map (·.1) = keysR r2 := arn_keys (by rw [keysR_len, zerosR_len, l2])
    rw [List.map_append, k1, k2] at hb1
    rw [List.map_append, List.map_append, k1, k2] at hb2
    have hnd2 : (keysR (r1 ++ [(b1, p1)]) ++ keysR (r2 ++ [(b2, p2)])).Nodup := by
      rw [keysR_snoc, keysR_snoc]
      show (keysR r1 ++ [b1] ++ (keysR r2 ++ [b2])).Nodup
      simp only [List.mem_append, List.map_cons, List.map_nil, List.mem_singleton, not_or] at hb1 hb2
      rw [List.nodup_append] at hnd ⊢
      obtain ⟨d1, d2, d3⟩ := hnd
      refine ⟨?_, ?_, ?_⟩
      · rw [List.nodup_append]
        exact ⟨d1, by simp, fun x hx y hy e => hb1.1 (by rw [← List.mem_singleton.1 hy, ← e]; exact hx)⟩
      · rw [List.nodup_append]
        exact ⟨d2, by simp, fun x hx y hy e => hb2.1.2 (by rw [← List.mem_singleton.1 hy, ← e]; exact hx)⟩
      · intro x hx y hy e
        subst e
        rcases List.mem_append.1 hx with hx | hx <;> rcases List.mem_append.1 hy with hy | hy
        · exact d3 x hx x hy rfl
        · exact hb2.1.1 (by rw [← List.mem_singleton.1 hy]; exact hx)
        · exact hb1.2 (by rw [← List.mem_singleton.1 hx]; exact hy)
        · exact hb2.2 (by rw [← List.mem_singleton.1 hy]; exact List.mem_singleton.1 hx)
    refine Tr.weak (Wk.keep hA (B := arn (keysR (r1 ++ [(b1, p1)])) (zerosR m (n + 1)) ++ arn (keysR (r2 ++ [(b2, p2)])) (zerosR m (n + 1))) rfl (fun p hp => ?_) (by
      rw [List.map_append, arn_keys (by rw [keysR_len, zerosR_len]; simp [l1]), arn_keys (by rw [keysR_len, zerosR_len]; simp [l2])]; exact hnd2)) ?_
    · rw [a1, a2] at hp
      simp only [List.mem_append, List.mem_singleton] at hp ⊢
      rcases hp with (hp | hp) | hp | hp
      · exact .inl (.inl (.inl hp))
      · exact .inl (.inr hp)
      · exact .inl (.inl (.inr hp))
      · exact .inr hp
    refine Tr.regR rfl (by simp) ?_
    refine ⟨(n + 1, r1 ++ [(b1, p1)], r2 ++ [(b2, p2)]), _, Wk.le (.cons rfl (.refl _) (.cons rfl (.refl _) (.cons rfl (.refl _) (.cons rfl (.refl _) (.cons rfl (.refl _) (.cons rfl (.refl _) (.cons rfl (.refl _) (.cons rfl (VLe.i (w64 (by omega) (by omega))) .nil)))))))) (.cons rfl (LLe.refl _) (.cons rfl (LLe.refl _) (.cons rfl (LLe.refl _) (.cons rfl (LLe.refl _) .nil)))) .nil (okR2 _ _) rfl, ⟨⟨h1, ⟨by simp [l1], by simp [l2]⟩, ⟨fun b hb => ?_, fun b hb => ?_⟩, hnd2⟩, rfl⟩, by simp only; omega⟩
    · rcases List.mem_append.1 hb with hb | hb
      · exact c1 b hb
      · rw [List.mem_singleton.1 hb]; exact hp1
    · rcases List.mem_append.1 hb with hb | hb
      · exact c2 b hb
      · rw [List.mem_singleton.1 hb]; exact hp2
  have h1 : n = nBins g := by simp at h1; omega
  subst h1
  subst hm
  rw [outC_all l1, outC_all l2]
  have H1 := holdsC (m := g.cls.length) r1
  have H2 := holdsC (m := g.cls.length) r2
  rw [l1] at H1
  rw [l2] at H2
  have kn1 : (arn (keysR r1) (countL g [])).map (·.1) = keysR r1 := arn_keys (by rw [keysR_len, countL_len, l1])
  refine Tr.weak (s' := { env := [(2, .ptr 2 0), (3, .ptr 3 0), (5, foldV FA), (6, foldV FB), (8, I (nBins g : Nat)), (9, .slice 0 1 (srefC g.cls.length r1)), (10, .slice 0 1 (srefC g.cls.length r2))], bx := [(2, ⟨gridC g, false⟩), (3, ⟨layC s, false⟩)], rw := [], log := encA (arn (keysR r1) (countL g []) ++ arn (keysR r2) (countL g [])), stp := false })
    (Wk.trans (Wk.trans (Wk.bsl (t := 9) (i := 54) rfl rfl H1) (Wk.bsl (t := 10) (i := 56) rfl rfl H2)) (Wk.leL (.cons rfl (.refl _) (.cons rfl (.refl _) (.cons rfl (.refl _) (.cons rfl (.refl _) (.cons rfl (.refl _) (.cons rfl (.refl _) (.cons rfl (.refl _) .nil))))))) (.cons rfl (LLe.refl _) (.cons rfl (LLe.refl _) .nil)) .nil rfl rfl (by rw [zerosR_count]; rfl))) ?_
  have hd12 := List.nodup_append.1 hnd
  have htrs : (layD g s).traces.length = s.traces.length := rfl
  refine Tr.seq (Tr.seqR rfl (by simp) (Tr.block ?_))
  refine Tr.loop (fun (i : Nat) st => i ≤ s.traces.length ∧ st = { env := [(2, .ptr 2 0), (3, .ptr 3 0), (5, foldV FA), (6, foldV FB), (8, I (nBins g : Nat)), (9, .slice 0 1 (srefC g.cls.length r1)), (10, .slice 0 1 (srefC g.cls.length r2)), (12, I (i : Nat))], bx := [(2, ⟨gridC g, false⟩), (3, ⟨layC s, false⟩)], rw := [], log := encA (arn (keysR r1) (countL g (allH (sureT (layD g s)) i)) ++ arn (keysR r2) (countL g (allH (hitsT (layD g s)) i))), stp := false }) (fun i => s.traces.length - i) 0
    (Wk.le (.cons rfl (.refl _) (.cons rfl (.refl _) (.cons rfl (.refl _) (.cons rfl (.refl _) (.cons rfl (.refl _) (.cons rfl (.refl _) (.cons rfl (.refl _) (.cons rfl (.refl _) .nil)))))))) (.cons rfl (LLe.refl _) (.cons rfl (LLe.refl _) .nil)) .nil rfl rfl) ⟨by omega, rfl⟩ ?_
  rintro i st ⟨hi, rfl⟩
  refine Tr.seq (Tr.seqR rfl (by simp) (Tr.cond rfl rfl (fun h1 => Tr.skip ?_) (fun h1 => Tr.exit ?_)))
  rotate_left
  · have h1 : i = s.traces.length := by simp at h1; omega
    subst h1
    rw [hFA, hFB]
    have lA : FA.length = nBins g := by rw [← hFA, countL_len]
    have lB : FB.length = nBins g := by rw [← hFB, countL_len]
    have mA : ∀ r ∈ FA, r.length = g.cls.length := fun r hr => by rw [← hFA] at hr; obtain ⟨b, _, rfl⟩ := List.mem_map.1 hr; exact cntRow_len _ _ _
    have mB : ∀ r ∈ FB, r.length = g.cls.length := fun r hr => by rw [← hFB] at hr; obtain ⟨b, _, rfl⟩ := List.mem_map.1 hr; exact cntRow_len _ _ _
    have kB : (arn (keysR r2) FB).map (·.1) = keysR r2 := arn_keys (by rw [keysR_len, lB, l2])
    obtain ⟨s1, w1, g1, g2, g3, g4, g5⟩ := closeRowsF hA (t := 9) (m := g.cls.length) (F := arn (keysR r2) FB) r1 FA [] { env := [(2, .ptr 2 0), (3, .ptr 3 0), (5, foldV FA), (6, foldV FB), (8, I (nBins g : Nat)), (9, .slice 0 1 (srefC g.cls.length r1)), (10, .slice 0 1 (srefC g.cls.length r2)), (12, I (s.traces.length : Nat))], bx := [(2, ⟨gridC g, false⟩), (3, ⟨layC s, false⟩)], rw := [], log := encA (arn (keysR r1) FA ++ arn (keysR r2) FB), stp := false } hd12.1 (fun b hb hb2 => by rw [kB] at hb2; exact hd12.2.2 b hb b hb2 rfl) c1 (by rw [lA, l1]) mA (by simp) rfl rfl
    obtain ⟨s2, w2, f1, f2, f3, f4, f5⟩ := closeRowsF hA (t := 10) (m := g.cls.length) (F := []) r2 FB [] s1 hd12.2.1 (fun b hb => by simp) c2 (by rw [lB, l2]) mB (by simp) (by rw [g5 10 (by decide)]; rfl) (by rw [g2, List.append_nil])
    have w3 := Wk.leL (E := (env0 Tryd.prog mixed 199 S ok).withA [] false) (s := s2) (env := [(5, foldV FA), (6, foldV FB), (9, foldV FA), (10, foldV FB)]) (bx := []) (rw := []) (.cons (by rw [f5 5 (by decide), g5 5 (by decide)]; rfl) (.refl _) (.cons (by rw [f5 6 (by decide), g5 6 (by decide)]; rfl) (.refl _) (.cons (by rw [f5 9 (by decide), g1]; rfl) (.refl _) (.cons f1 (.of_eq rfl) .nil)))) .nil .nil rfl rfl f2
    rw [show s2.stp = false by rw [f3, g3]] at w3
    refine Tr.weak (s' := { env := [(2, .ptr 2 0), (3, .ptr 3 0), (5, foldV FA), (6, foldV FB), (8, I (nBins g : Nat)), (9, .slice 0 1 (srefC g.cls.length r1)), (10, .slice 0 1 (srefC g.cls.length r2)), (12, I (s.traces.length : Nat))], bx := [(2, ⟨gridC g, false⟩), (3, ⟨layC s, false⟩)], rw := [], log := encA (arn (keysR r1) FA ++ arn (keysR r2) FB), stp := false }) (Wk.le (.cons rfl (.refl _) (.cons rfl (.refl _) (.cons rfl (.refl _) (.cons rfl (.refl _) (.cons rfl (.refl _) (.cons rfl (.refl _) (.cons rfl (.refl _) (.cons rfl (.refl _) .nil)))))))) (.cons rfl (LLe.refl _) (.cons rfl (LLe.refl _) .nil)) .nil rfl rfl) ?_
    refine Tr.weak ((w1.trans w2).trans w3) ?_
    have kA := c_AlikeLists FA FA (by omega) (fun r hr => by have := mA r hr; omega)
    have kB2 := c_AlikeLists FB FB (by omega) (fun r hr => by have := mB r hr; omega)
    rw [decide_eq_true rfl] at kA kB2
    exact Tr.seqC rfl (by simp) (Steps.call rfl rfl kA (Steps.run rfl (by simp) (Steps.gcall rfl rfl rfl rfl (by simp) (fun _ => kB2) (Steps.run rfl (by simp) (Steps.gcall rfl rfl rfl rfl (by simp) (fun _ => c_works) (Steps.fin rfl (by simp) (Tr.retX rfl rfl rfl rfl trivial)))))))
  have h1 : i < s.traces.length := by simpa using h1
  have kh := c_Hits hl hn ht (i : Int) (g := g) (s := s)
  unfold HitsR at kh
  rw [if_pos hg, if_pos hs, if_pos (by rw [btw_iff]; omega), Int.toNat_natCast] at kh
  have hne := hits_ne2 hL (t := i) (by omega)
  have hlen := (hits_in hL (t := i) (by omega)).1
  have hins := (hits_in hL (t := i) (by omega)).2
  have hsort : (hitsT (layD g s) i).Pairwise befC := by unfold hitsT hitsL; exact hitsOf_sorted _
  have hsucA : allH (sureT (layD g s)) (i + 1) = allH (sureT (layD g s)) i ++ sureL (hitsT (layD g s) i) := by rw [allH_succ]; rfl
  have hsucB : allH (hitsT (layD g s)) (i + 1) = allH (hitsT (layD g s)) i ++ hitsT (layD g s) i := allH_succ _ _
  have hbA := sure_bd (L := layD g s) h64 i (by omega)
  have hbB := all_len hL i (by omega)
  obtain ⟨l, hl0⟩ : ∃ l, hitsT (layD g s) i = l := ⟨_, rfl⟩
  obtain ⟨PA, hPA⟩ : ∃ P, allH (sureT (layD g s)) i = P := ⟨_, rfl⟩
  obtain ⟨PB, hPB⟩ : ∃ P, allH (hitsT (layD g s)) i = P := ⟨_, rfl⟩
  rw [hl0] at kh hne hlen hins hsort hsucA hsucB
  rw [hPA] at hsucA hbA
  rw [hPB] at hsucB hbB
  rw [hPA, hPB]
  have hl1 : (l.map eB).length = l.length := List.length_map _
  have hlp : 0 < l.length := List.length_pos_iff.2 hne
  refine Tr.seq (Tr.block (Tr.seqC rfl (by simp) (Steps.call rfl rfl kh (Steps.fin rfl (by simp) ?_))))
  refine Tr.seq (Tr.seqR rfl (by simp) (Tr.condF (congrArg (fun b => some (V.bool b)) (show (bif false then true else (((l.map eB).length : Int) == 0)) = false by rw [hl1]; simp; omega)) (Tr.skip ?_)))
  refine Tr.seqR rfl (by simp) (Tr.block ?_)
  refine Tr.loop (fun (k : Nat) st => k ≤ l.length ∧ st = { env := [(2, .ptr 2 0), (3, .ptr 3 0), (5, foldV FA), (6, foldV FB), (8, I (nBins g : Nat)), (9, .slice 0 1 (srefC g.cls.length r1)), (10, .slice 0 1 (srefC g.cls.length r2)), (12, I (i : Nat)), (13, sB l), (15, I (k : Nat))], bx := [(2, ⟨gridC g, false⟩), (3, ⟨layC s, false⟩)], rw := [], log := encA (arn (keysR r1) (countL g (PA ++ oneL l k)) ++ arn (keysR r2) (countL g (PB ++ l.take k))), stp := false }) (fun k => l.length - k) 0
    (Wk.leL (.cons rfl (.refl _) (.cons rfl (.refl _) (.cons rfl (.refl _) (.cons rfl (.refl _) (.cons rfl (.refl _) (.cons rfl (.refl _) (.cons rfl (.refl _) (.cons rfl (.refl _) (.cons rfl (.refl _) (.cons rfl (.refl _) .nil)))))))))) (.cons rfl (LLe.refl _) (.cons rfl (LLe.refl _) .nil)) .nil rfl rfl (show encA (arn (keysR r1) (countL g PA) ++ arn (keysR r2) (countL g PB)) = encA (arn (keysR r1) (countL g (PA ++ oneL l 0)) ++ arn (keysR r2) (countL g (PB ++ l.take 0))) by rw [oneL_zero, List.take_zero, List.append_nil, List.append_nil])) ⟨by omega, rfl⟩ ?_
  rintro k st ⟨hk, rfl⟩
  refine Tr.seq (Tr.seqR rfl (by simp) (Tr.cond rfl rfl (fun h2 => Tr.skip ?_) (fun h2 => Tr.exit ?_)))
  rotate_left
  · have h2 : k = l.length := by simp at h2; omega
    subst h2
    refine Tr.regR rfl (by simp) ?_
    exact ⟨i + 1, _, Wk.leL (.cons rfl (.refl _) (.cons rfl (.refl _) (.cons rfl (.refl _) (.cons rfl (.refl _) (.cons rfl (.refl _) (.cons rfl (.refl _) (.cons rfl (.refl _) (.cons rfl (VLe.i (w64 (by omega) (by omega))) .nil)))))))) (.cons rfl (LLe.refl _) (.cons rfl (LLe.refl _) .nil)) .nil rfl rfl (show encA (arn (keysR r1) (countL g (PA ++ oneL l l.length)) ++ arn (keysR r2) (countL g (PB ++ l.take l.length))) = encA (arn (keysR r1) (countL g (allH (sureT (layD g s)) (i + 1))) ++ arn (keysR r2) (countL g (allH (hitsT (layD g s)) (i + 1)))) by rw [hsucA, hsucB, ← count_sure, List.take_length]), ⟨h1, rfl⟩, by omega⟩
  have h2 : k < l.length := by simpa using h2
  obtain ⟨c, hc⟩ : ∃ c, l[k] = c := ⟨_, rfl⟩
  have hcin := hins _ (List.getElem_mem h2)
  rw [hc] at hcin
  refine Tr.seq (Tr.block ?_)
  refine Tr.seqN 3 rfl (by simp; omega) ?_
  rw [getD_map h2, hc]
  refine Steps.fin rfl (by simp) ?_
  refine Tr.meet { env := [(2, .ptr 2 0), (3, .ptr 3 0), (5, foldV FA), (6, foldV FB), (8, I (nBins g : Nat)), (9, .slice 0 1 (srefC g.cls.length r1)), (10, .slice 0 1 (srefC g.cls.length r2)), (12, I (i : Nat)), (13, sB l), (15, I (k : Nat)), (16, .ptr 16 0)], bx := [(16, ⟨[I c.1, I c.2], false⟩), (2, ⟨gridC g, false⟩), (3, ⟨layC s, false⟩)], rw := [], log := encA (arn (keysR r1) (countL g (PA ++ oneL l k)) ++ arn (keysR r2) (countL g (PB ++ l.take k))), stp := false } ?_ ?_
  · have hw : 0 < k → IntKind.wrap .i64 ((k : Int) - 1) = (k : Int) - 1 := fun h => w64 (by omega) (by omega)
    have hj : (IntKind.wrap .i64 ((k : Int) - 1)).toNat = ((k - 1 : Nat) : Int).toNat := by
      rw [w64 (by omega) (by omega)]; omega
    have hjl : k - 1 < l.length := by omega
    obtain ⟨d, hd⟩ : ∃ d, l[k - 1] = d := ⟨_, rfl⟩
    refine Tr.seq (Tr.drawK (TraceK.runN 7 rfl (by simp; intro h; rw [hw h]; omega) ?_))
    rw [hj, getD_map hjl, hd]
    refine TraceK.runN 10 rfl (by simp; intros; rw [hw (by assumption)]; omega) ?_
    rw [hj, getD_map hjl, hd]
    refine TraceK.runN 10 rfl (by simp; intros; rw [hw (by assumption)]; omega) ?_
    rw [hj, getD_map hjl, hd]
    refine TraceK.runN 5 rfl (by simp) (TraceK.gpick rfl rfl rfl (fun _ => rfl) rfl rfl (by simp; try (intros; simp_all)) (TraceK.gpick rfl rfl rfl (fun _ => rfl) rfl rfl (by simp; try (intros; simp_all)) (TraceK.run rfl (by simp) (.done ⟨by kernel_rfl, by kernel_rfl, ?_⟩))))
    refine Tr.condF ?_ (Tr.skip ?_)
    · have hb : 0 < k → befC d c := fun h => by
        have := sorted_next hsort (k := k - 1) (by omega)
        rw [hd] at this
        rw [← hc]
        have e : k - 1 + 1 = k := by omega
        simpa only [e] using this
      show some (V.bool (bif decide ((k : Int) > 0) then (bif decide (d.1 > c.1) then true else (bif d.1 == c.1 then decide (d.2 ≥ c.2) else false)) else false)) = _
      by_cases h0 : 0 < k
      · have hb := hb h0
        unfold befC at hb
        rw [decide_eq_true (show (k : Int) > 0 by omega), decide_eq_false (show ¬ d.1 > c.1 by omega)]
        by_cases h5 : d.1 = c.1
        · rw [decide_eq_false (show ¬ d.2 ≥ c.2 by omega)]; simp
        · have : (d.1 == c.1) = false := by simpa using h5
          rw [this]; rfl
      · rw [decide_eq_false (show ¬ (k : Int) > 0 by omega)]; rfl
    · exact Wk.le (.cons rfl (.refl _) (.cons rfl (.refl _) (.cons rfl (.refl _) (.cons rfl (.refl _) (.cons rfl (.refl _) (.cons rfl (.refl _) (.cons rfl (.refl _) (.cons rfl (.refl _) (.cons rfl (.refl _) (.cons rfl (.refl _) (.cons rfl (.refl _) .nil))))))))))) (.cons rfl (LLe.refl _) (.cons rfl (LLe.refl _) (.cons rfl (LLe.refl _) .nil))) .nil rfl rfl
  have hl4 : ∀ c : Int × Int, (PA ++ oneL l k).count c ≤ 65 := fun c => by
    have h5 : (PA ++ oneL l k).count c ≤ (PA ++ oneL l k).length := List.count_le_length
    rw [List.length_append] at h5
    have h6 : (oneL l k).length ≤ 1 := by unfold oneL; split <;> simp; omega
    omega
  have hl5 : ∀ c : Int × Int, (PB ++ l.take k).count c ≤ 1000000 := fun c => by
    have h5 : (PB ++ l.take k).count c ≤ (PB ++ l.take k).length := List.count_le_length
    rw [List.length_append, List.length_take] at h5
    omega
  have hsB : PB ++ l.take (k + 1) = PB ++ l.take k ++ [c] := by rw [List.take_add_one, List.getElem?_eq_getElem h2, hc, List.append_assoc]; rfl
  have hsA : PA ++ oneL l (k + 1) = if l.length = 1 then PA ++ oneL l k ++ [c] else PA ++ oneL l k := by
    unfold oneL
    by_cases h5 : l.length = 1
    · rw [if_pos h5, if_pos h5, if_pos h5, List.take_add_one, List.getElem?_eq_getElem h2, hc, List.append_assoc]; rfl
    · rw [if_neg h5, if_neg h5, if_neg h5]
  obtain ⟨QA, hQA⟩ : ∃ P, PA ++ oneL l k = P := ⟨_, rfl⟩
  obtain ⟨QB, hQB⟩ : ∃ P, PB ++ l.take k = P := ⟨_, rfl⟩
  rw [hQA] at hl4 hsA
  rw [hQB] at hl5 hsB
  rw [hQA, hQB]
  refine Tr.seq (Tr.seqR rfl (by simp) (Tr.cond rfl rfl (fun h5 => Tr.exit ?_) (fun h5 => Tr.skip ?_)))
  · have h5 : (c.1 == -1 && (c.2 == -1 && true)) = true := h5
    have hcn : c = noneC := by
      simp only [Bool.and_true, Bool.and_eq_true, beq_iff_eq] at h5
      exact Prod.ext h5.1 h5.2
    refine Tr.regR rfl (by simp) ?_
    exact ⟨k + 1, _, Wk.leL (.cons rfl (.refl _) (.cons rfl (.refl _) (.cons rfl (.refl _) (.cons rfl (.refl _) (.cons rfl (.refl _) (.cons rfl (.refl _) (.cons rfl (.refl _) (.cons rfl (.refl _) (.cons rfl (.refl _) (.cons rfl (VLe.i (w64 (by omega) (by omega))) .nil)))))))))) (.cons rfl (LLe.refl _) (.cons rfl (LLe.refl _) .nil)) .nil rfl rfl (show encA (arn (keysR r1) (countL g QA) ++ arn (keysR r2) (countL g QB)) = encA (arn (keysR r1) (countL g (PA ++ oneL l (k + 1))) ++ arn (keysR r2) (countL g (PB ++ l.take (k + 1)))) by rw [hsA, hsB, hcn, countL_none]; split <;> simp only [countL_none]), ⟨h2, rfl⟩, by omega⟩
  have h5 : (c.1 == -1 && (c.2 == -1 && true)) = false := h5
  have hcn : c ≠ noneC := fun e => by rw [e] at h5; simp [noneC] at h5
  have hin : inG g c := by
    rcases hcin with h | h
    · exact absurd h hcn
    · exact h
  obtain ⟨b, q, rfl, hbb, hq⟩ := inG_nat hg hin
  have hb1 : b < r1.length := by omega
  have hb2 : b < r2.length := by omega
  have w3 : IntKind.wrap .i64 ((nBins g : Int) - 1) = (nBins g : Int) - 1 := w64 (by omega) (by omega)
  have w4 : IntKind.wrap .i64 (((g.cls.map eB).length : Int) - 1) = (g.cls.length : Int) - 1 := by rw [List.length_map, w64 (by omega) (by omega)]
  have b3 : C Tryd.prog F.ref00_Between [I (b : Nat), I 0, I (IntKind.wrap .i64 ((nBins g : Int) - 1))] (.bool true) := by
    have : btw (b : Int) 0 (IntKind.wrap .i64 ((nBins g : Int) - 1)) = true := by rw [w3, btw_iff]; omega
    exact this ▸ c_between _ _ _
  have b4 : C Tryd.prog F.ref00_Between [I (q : Nat), I 0, I (IntKind.wrap .i64 (((g.cls.map eB).length : Int) - 1))] (.bool true) := by
    have : btw (q : Int) 0 (IntKind.wrap .i64 (((g.cls.map eB).length : Int) - 1)) = true := by rw [w4, btw_iff]; omega
    exact this ▸ c_between _ _ _
  refine Tr.seq (Tr.seqC rfl (by simp) (Steps.call rfl rfl b3 (Steps.run rfl (by simp) ?_)))
  refine Steps.gcall rfl rfl rfl rfl (by simp) (fun _ => b4) (Steps.fin rfl (by simp) (Tr.condF rfl (Tr.skip ?_)))
  have z1 := srefC_len g.cls.length r1
  have z2 := srefC_len g.cls.length r2
  have kk1 : (keysR r1).length = (countL g QA).length := by rw [keysR_len, countL_len, l1]
  have kk2 : ∀ P, (keysR r2).length = (countL g P).length := fun P => by rw [keysR_len, countL_len, l2]
  have nA : ∀ P, (arn (keysR r2) (countL g P)).map (·.1) = keysR r2 := fun P => arn_keys (kk2 P)
  have nA1 : (arn (keysR r1) (countL g QA)).map (·.1) = keysR r1 := arn_keys kk1
  have e1 : (keysR r1)[b]? = some r1[b].1 := by simp [keysR, hb1]
  have e2 : (keysR r2)[b]? = some r2[b].1 := by simp [keysR, hb2]
  have not1 : r2[b].1 ∉ (arn (keysR r1) (countL g QA)).map (·.1) := by
    rw [nA1]; exact fun h => hd12.2.2 _ h _ (List.mem_of_getElem? e2) rfl
  have not2 : ∀ P, r1[b].1 ∉ (arn (keysR r2) (countL g P)).map (·.1) := fun P => by
    rw [nA]; exact fun h => hd12.2.2 _ (List.mem_of_getElem? e1) _ h rfl
  have cnt : ∀ P : List (Int × Int), ((cntRow g.cls.length P b).map I)[q]? = some (I ((P.count ((b : Int), (q : Int)) : Nat) : Int)) := fun P => by rw [List.getElem?_map, cntRow_get hq]; rfl
  have hmB := arn_mem (rbs := keysR r2) e2 (countL_get (P := QB) hbb)
  have hmA := arn_mem (rbs := keysR r1) e1 (countL_get (P := QA) hbb)
  have nB := hl5 ((b : Int), (q : Int))
  have nAc := hl4 ((b : Int), (q : Int))
  have cB := cnt QB
  have cA := cnt QA
  have onB := countL_on (g := g) (P := QB) hbb hq
  have onA := countL_on (g := g) (P := QA) hbb hq
  obtain ⟨n2, hn2⟩ : ∃ n, QB.count ((b : Int), (q : Int)) = n := ⟨_, rfl⟩
  obtain ⟨n1, hn1'⟩ : ∃ n, QA.count ((b : Int), (q : Int)) = n := ⟨_, rfl⟩
  rw [hn2] at nB cB onB
  rw [hn1'] at nAc cA onA
  refine Tr.seqN 4 rfl (by simp; omega) ?_
  rw [getD_srefC hb2]
  refine Steps.fin rfl (by simp) ?_
  refine Tr.seq (Tr.reg (Steps.runN 3 rfl (by simp) ?_))
  refine Steps.sidx (blk := r2[b].1) (off := 0) (j := q) rfl rfl hq ?_
  refine Steps.aload hA (v := I n2) rfl rfl (List.mem_append.2 (.inr hmB)) (by simpa using cB) (Steps.runN 1 rfl (by simp) ?_)
  refine Steps.sidx (blk := r2[b].1) (off := 0) (j := q) rfl rfl hq ?_
  refine Steps.astore hA rfl rfl (List.mem_append.2 (.inr hmB)) (by simp [cntRow_len]; omega) rfl rfl (Steps.fin rfl (by simp) ?_)
  have eL2 : setA (arn (keysR r1) (countL g QA) ++ arn (keysR r2) (countL g QB)) r2[b].1 (.cells (((cntRow g.cls.length QB b).map I).set (0 + q * 1) (I (IntKind.wrap .i64 ((n2 : Int) + 1))))) = arn (keysR r1) (countL g QA) ++ arn (keysR r2) (countL g (QB ++ [((b : Int), (q : Int))])) := by
    rw [setA_right not1, onB, w64 (by omega) (by omega), ← arn_set _ hd12.2.1 (kk2 _) e2, List.map_set, Nat.zero_add, Nat.mul_one]
  refine Tr.weak (s' := { env := [(2, .ptr 2 0), (3, .ptr 3 0), (5, foldV FA), (6, foldV FB), (8, I (nBins g : Nat)), (9, .slice 0 1 (srefC g.cls.length r1)), (10, .slice 0 1 (srefC g.cls.length r2)), (12, I (i : Nat)), (13, sB l), (15, I (k : Nat)), (16, .ptr 16 0)], bx := [(16, ⟨[I (b : Nat), I (q : Nat)], false⟩), (2, ⟨gridC g, false⟩), (3, ⟨layC s, false⟩)], rw := [], log := encA (arn (keysR r1) (countL g QA) ++ arn (keysR r2) (countL g (QB ++ [((b : Int), (q : Int))]))), stp := false })
    (Wk.leL (.cons rfl (.refl _) (.cons rfl (.refl _) (.cons rfl (.refl _) (.cons rfl (.refl _) (.cons rfl (.refl _) (.cons rfl (.refl _) (.cons rfl (.refl _) (.cons rfl (.refl _) (.cons rfl (.refl _) (.cons rfl (.refl _) (.cons rfl (.refl _) .nil))))))))))) (.cons rfl (LLe.refl _) (.cons rfl (LLe.refl _) (.cons rfl (LLe.refl _) .nil))) .nil rfl rfl (congrArg encA eL2)) ?_
  refine Tr.seqR rfl (by simp) (Tr.cond rfl rfl (fun h6 => ?_) (fun h6 => Tr.skip ?_))
  · have h6 : l.length = 1 := by
      have h6 : (((l.map eB).length : Int) == 1) = true := h6
      rw [hl1] at h6
      have := eq_of_beq h6; omega
    rw [if_pos h6] at hsA
    refine Tr.seqN 4 rfl (by simp; omega) ?_
    rw [getD_srefC hb1]
    refine Steps.fin rfl (by simp) ?_
    refine Tr.reg (Steps.runN 3 rfl (by simp) ?_)
    refine Steps.sidx (blk := r1[b].1) (off := 0) (j := q) rfl rfl hq ?_
    refine Steps.aload hA (v := I n1) rfl rfl (List.mem_append.2 (.inl hmA)) (by simpa using cA) (Steps.runN 1 rfl (by simp) ?_)
    refine Steps.sidx (blk := r1[b].1) (off := 0) (j := q) rfl rfl hq ?_
    refine Steps.astore hA rfl rfl (List.mem_append.2 (.inl hmA)) (by simp [cntRow_len]; omega) rfl rfl (Steps.fin rfl (by simp) ?_)
    have eL1 : setA (arn (keysR r1) (countL g QA) ++ arn (keysR r2) (countL g (QB ++ [((b : Int), (q : Int))]))) r1[b].1 (.cells (((cntRow g.cls.length QA b).map I).set (0 + q * 1) (I (IntKind.wrap .i64 ((n1 : Int) + 1))))) = arn (keysR r1) (countL g (QA ++ [((b : Int), (q : Int))])) ++ arn (keysR r2) (countL g (QB ++ [((b : Int), (q : Int))])) := by
      rw [setA_left (not2 _), onA, w64 (by omega) (by omega), ← arn_set _ hd12.1 kk1 e1, List.map_set, Nat.zero_add, Nat.mul_one]
    refine Tr.regR rfl (by simp) ?_
    exact ⟨k + 1, _, Wk.leL (.cons rfl (.refl _) (.cons rfl (.refl _) (.cons rfl (.refl _) (.cons rfl (.refl _) (.cons rfl (.refl _) (.cons rfl (.refl _) (.cons rfl (.refl _) (.cons rfl (.refl _) (.cons rfl (.refl _) (.cons rfl (VLe.i (w64 (by omega) (by omega))) .nil)))))))))) (.cons rfl (LLe.refl _) (.cons rfl (LLe.refl _) .nil)) .nil rfl rfl (show encA (setA (arn (keysR r1) (countL g QA) ++ arn (keysR r2) (countL g (QB ++ [((b : Int), (q : Int))]))) r1[b].1 (.cells (((cntRow g.cls.length QA b).map I).set (0 + q * 1) (I (IntKind.wrap .i64 ((n1 : Int) + 1)))))) = encA (arn (keysR r1) (countL g (PA ++ oneL l (k + 1))) ++ arn (keysR r2) (countL g (PB ++ l.take (k + 1)))) by rw [eL1, hsA, hsB]), ⟨h2, rfl⟩, by omega⟩
  · have h6 : ¬ l.length = 1 := fun e => by
      have h6 : (((l.map eB).length : Int) == 1) = false := h6
      rw [hl1, e] at h6; cases h6
    rw [if_neg h6] at hsA
    refine Tr.regR rfl (by simp) ?_
    exact ⟨k + 1, _, Wk.leL (.cons rfl (.refl _) (.cons rfl (.refl _) (.cons rfl (.refl _) (.cons rfl (.refl _) (.cons rfl (.refl _) (.cons rfl (.refl _) (.cons rfl (.refl _) (.cons rfl (.refl _) (.cons rfl (.refl _) (.cons rfl (VLe.i (w64 (by omega) (by omega))) .nil)))))))))) (.cons rfl (LLe.refl _) (.cons rfl (LLe.refl _) .nil)) .nil rfl rfl (show encA (arn (keysR r1) (countL g QA) ++ arn (keysR r2) (countL g (QB ++ [((b : Int), (q : Int))]))) = encA (arn (keysR r1) (countL g (PA ++ oneL l (k + 1))) ++ arn (keysR r2) (countL g (PB ++ l.take (k + 1)))) by rw [hsA, hsB]), ⟨h2, rfl⟩, by omega⟩

end Go.Proofs.YtdejdblopmfjfaaDoor


/-! From the reading of a row's arguments to values. -/
set_option linter.unusedVariables false
set_option linter.unusedSimpArgs false
set_option maxRecDepth 20000
namespace Go.Proofs.YtdejdblopmfjfaaDoor
open Go.Am Go.ChangeShapes Go.WideShapes Go.ChangeAt Go.RowKit

/-- Everything that was there is stable. -/
def phi (W : World) : Nat → Nat := fun b => match W.heap[b]? with
  | some (.cells cs _ _) => cs.size
  | _ => 0

theorem phi_top {W : World} : ∀ b, W.heap.size ≤ b → phi W b = 0 := fun b hb => by
  unfold phi
  rw [Array.getElem?_eq_none hb]

theorem phi_lt {W : World} {b o : Nat} {z : Value} (h : W.cell? ⟨b, o, none⟩ = some z) : o < phi W b := by
  unfold World.cell? at h
  unfold phi
  cases hb : W.heap[b]? with
  | none => rw [hb] at h; simp at h
  | some ob =>
    rw [hb] at h
    cases ob with
    | cells c e m => simp only at h ⊢; exact (Array.getElem?_eq_some_iff.1 h).1
    | _ => simp at h

section
variable {H : Type} (enc : TypeId × Value → H) (W : World)

def Got (Pr : List V → Prop) (cs : List Value) : Prop := ∃ vs, Pr vs ∧ vs.length = cs.length ∧ ∀ (i : Nat) v c, vs[i]? = some v → cs[i]? = some c → RepD W (phi W) v c ∧ scalar v = true

/-- Whatever reads as this type has such values. -/
def Reads (t : TypeId) (Pr : List V → Prop) : Prop := ∀ fuel cs x, DataW.trod enc Tryd.prog W 0 (fun _ => true) true fuel t cs = some x → Got W Pr cs

def trods (fuel : Nat) : List TypeId → List Value → Prop
  | [], cs => cs = []
  | t :: ts, cs => (∃ x, DataW.trod enc Tryd.prog W 0 (fun _ => true) true fuel t (cs.take (Tryd.prog.cellsOf t)) = some x) ∧ Tryd.prog.cellsOf t ≤ cs.length ∧ trods fuel ts (cs.drop (Tryd.prog.cellsOf t))

def ReadsL (ts : List TypeId) (Pr : List V → Prop) : Prop := ∀ fuel cs, trods enc W fuel ts cs → Got W Pr cs

variable {enc W}

theorem Got.mono {P Q : List V → Prop} {cs : List Value} (h : Got W P cs) (k : ∀ vs, P vs → Q vs) : Got W Q cs := let ⟨vs, a, b⟩ := h; ⟨vs, k vs a, b⟩
theorem Reads.mono {t : TypeId} {P Q : List V → Prop} (h : Reads enc W t P) (k : ∀ vs, P vs → Q vs) : Reads enc W t Q := fun fuel cs x hx => (h fuel cs x hx).mono k

theorem readsL_nil : ReadsL enc W [] (fun vs => vs = []) := fun fuel cs h => by
  have h : cs = [] := h
  subst h
  exact ⟨[], rfl, rfl, fun i v c h => by simp at h⟩

theorem readsL_cons {t : TypeId} {ts : List TypeId} {P Q : List V → Prop} (h : Reads enc W t P) (k : ReadsL enc W ts Q) : ReadsL enc W (t :: ts) (fun vs => ∃ a b, P a ∧ Q b ∧ vs = a ++ b) := fun fuel cs ht => by
  obtain ⟨⟨x, hx⟩, hle, hr⟩ := ht
  obtain ⟨a, ha, la, ra⟩ := h _ _ _ hx
  obtain ⟨b, hb, lb, rb⟩ := k _ _ hr
  rw [List.length_take] at la
  rw [List.length_drop] at lb
  refine ⟨a ++ b, ⟨a, b, ha, hb, rfl⟩, by simp; omega, fun i v c hv hc => ?_⟩
  by_cases hi : i < a.length
  · rw [List.getElem?_append_left hi] at hv
    exact ra i v c hv (by rw [List.getElem?_take, if_pos (by omega)]; exact hc)
  · rw [List.getElem?_append_right (by omega)] at hv
    refine rb (i - a.length) v c hv ?_
    rw [List.getElem?_drop, show Tryd.prog.cellsOf t + (i - a.length) = i by omega]
    exact hc

theorem reads_int {t : TypeId} (ht : Tryd.prog.underlying t = some (.int .i64)) : Reads enc W t (fun vs => ∃ n : Int, vs = [I n] ∧ -9223372036854775808 ≤ n ∧ n ≤ 9223372036854775807) := fun fuel cs x hx => by
  obtain ⟨n, rfl, _, hw⟩ := DataW.trod_int ht hx
  have hb := Go.bounds_i64 hw
  refine ⟨[I n], ⟨n, rfl, by omega, by omega⟩, rfl, fun i v c hv hc => ?_⟩
  cases i with
  | zero => cases hv; cases hc; exact ⟨.int _ _, rfl⟩
  | succ i => cases hv

/-- Fields one behind the other. -/
noncomputable def offsB : List Field → Nat → Nat → Bool
  | [], o, n => o == n
  | f :: r, o, n => f.offset == o && offsB r (o + Tryd.prog.cellsOf f.type) n

theorem trods_of {fuel : Nat} : ∀ (fs : List Field) (o n : Nat) (cs : List Value), offsB fs o n = true → cs.length = n → o ≤ n → (∀ f ∈ fs, ∃ x, DataW.trod enc Tryd.prog W 0 (fun _ => true) true fuel f.type ((cs.drop f.offset).take (Tryd.prog.cellsOf f.type)) = some x) → trods enc W fuel (fs.map (·.type)) (cs.drop o)
  | [], o, n, cs, h, hl, _, _ => by
    simp only [offsB, beq_iff_eq] at h
    show cs.drop o = []
    rw [List.drop_eq_nil_of_le (by omega)]
  | f :: r, o, n, cs, h, hl, ho, hf => by
    simp only [offsB, Bool.and_eq_true, beq_iff_eq] at h
    have hle : o + Tryd.prog.cellsOf f.type ≤ n := by
      have : ∀ (fs : List Field) (o n : Nat), offsB fs o n = true → o ≤ n := by
        intro fs
        induction fs with
        | nil => intro o n h; simp only [offsB, beq_iff_eq] at h; omega
        | cons g r ih => intro o n h; simp only [offsB, Bool.and_eq_true, beq_iff_eq] at h; have := ih _ _ h.2; omega
      exact this _ _ _ h.2
    refine ⟨?_, by rw [List.length_drop]; show Tryd.prog.cellsOf f.type ≤ _; omega, ?_⟩
    · have := hf f (by simp)
      rw [h.1] at this
      exact this
    · rw [List.drop_drop]
      exact trods_of r _ n cs h.2 hl hle fun g hg => hf g (by simp [hg])

theorem reads_struct {t : TypeId} {fs : Array Field} {Pr : List V → Prop} (ht : Tryd.prog.underlying t = some (.struct fs)) (ho : offsB fs.toList 0 (Tryd.prog.cellsOf t) = true) (h : ReadsL enc W (fs.toList.map (·.type)) Pr) : Reads enc W t Pr := fun fuel cs x hx => by
  obtain ⟨xs, n, _, _, hl, hxs, hf⟩ := DataW.trod_struct ht hx
  refine h n cs ?_
  have := trods_of (enc := enc) (W := W) (fuel := n) fs.toList 0 _ cs ho hl (Nat.zero_le _) fun f hm => by
    obtain ⟨i, hi, rfl⟩ := List.mem_iff_getElem.1 hm
    have h1 := hf i fs.toList[i] (by simp at hi ⊢)
    rw [h1]
    have : i < xs.length := by simp at hi; omega
    exact ⟨_, List.getElem?_eq_getElem this⟩
  simpa using this

theorem trods_rep {fuel : Nat} {e : TypeId} : ∀ (n k : Nat) (cs : List Value), cs.length = (k + n) * Tryd.prog.cellsOf e → (∀ i, i < n → ∃ x, DataW.trod enc Tryd.prog W 0 (fun _ => true) true fuel e ((cs.drop ((k + i) * Tryd.prog.cellsOf e)).take (Tryd.prog.cellsOf e)) = some x) → trods enc W fuel (List.replicate n e) (cs.drop (k * Tryd.prog.cellsOf e))
  | 0, k, cs, hl, _ => by
    show cs.drop _ = []
    rw [List.drop_eq_nil_of_le (by rw [hl]; simp)]
  | n + 1, k, cs, hl, hf => by
    have e1 : (k + (n + 1)) * Tryd.prog.cellsOf e = k * Tryd.prog.cellsOf e + (n * Tryd.prog.cellsOf e + Tryd.prog.cellsOf e) := by rw [Nat.add_mul, Nat.succ_mul]
    refine ⟨by simpa using hf 0 (by omega), by rw [List.length_drop]; omega, ?_⟩
    rw [List.drop_drop, show k * Tryd.prog.cellsOf e + Tryd.prog.cellsOf e = (k + 1) * Tryd.prog.cellsOf e by rw [Nat.succ_mul]]
    exact trods_rep n (k + 1) cs (by rw [hl]; congr 1; omega) fun i hi => by
      have := hf (i + 1) (by omega)
      rwa [show k + 1 + i = k + (i + 1) by omega]

theorem reads_array {t e : TypeId} {n : Nat} {Pr : List V → Prop} (ht : Tryd.prog.underlying t = some (.array n e)) (hc : Tryd.prog.cellsOf t = n * Tryd.prog.cellsOf e) (h : ReadsL enc W (List.replicate n e) Pr) : Reads enc W t Pr := fun fuel cs x hx => by
  obtain ⟨xs, m, _, _, hl, hxs, hf⟩ := DataW.trod_array ht hx
  refine h m cs ?_
  have := trods_rep (enc := enc) (W := W) (fuel := m) (e := e) n 0 cs (by rw [hl, hc]; simp) fun i hi => by
    rw [Nat.zero_add, hf i hi]
    exact ⟨_, List.getElem?_eq_getElem (by omega)⟩
  simpa using this

def wrapV (agg : Bool) (x : List V) : V := bif agg then .agg x else x.headD nothing

theorem cells_wrap {agg : Bool} {x : List V} {sz : Nat} (hx : x.length = sz) (hs : ∀ v ∈ x, scalar v = true) (ha : agg = false → sz = 1) : cells (wrapV agg x) = x := by
  cases agg with
  | true => rfl
  | false =>
    have := ha rfl
    subst this
    match x, hx with
    | [v], _ =>
      have hv := hs v (by simp)
      show cells v = [v]
      cases v <;> simp [scalar] at hv <;> rfl

theorem cell_spot {a : Addr} {z : Value} (h : W.cell? a = some z) : a = ⟨a.block, a.off, none⟩ := by
  have := World.cell?_spot h
  obtain ⟨b, o, s⟩ := a
  simp only at this
  subst this; rfl

theorem reads_slice {t e : TypeId} {sz : Nat} {Pe : List V → Prop} (agg : Bool) (ht : Tryd.prog.underlying t = some (.slice e)) (hc : Tryd.prog.cellsOf e = sz) (h0 : 0 < sz) (ha : agg = false → sz = 1) (h : Reads enc W e Pe) :
    Reads enc W t (fun vs => ∃ xs : List (List V), (∀ x ∈ xs, Pe x) ∧ xs.length ≤ 9223372036854775807 ∧ vs = [.slice 0 sz (xs.map (wrapV agg))]) := fun fuel cs x hx => by
  subst hc
  rcases DataW.trod_slice ht hx with ⟨rfl, _⟩ | ⟨a, len, cap, elems, rest, n, _, rfl, _, _, hlc, hcm, hel, hE, _⟩
  · refine ⟨[.slice 0 _ []], ⟨[], fun x hx => by simp at hx, by simp, rfl⟩, rfl, fun i v c hv hc => ?_⟩
    cases i with
    | zero => cases hv; cases hc; exact ⟨.slice0 _ _ _, rfl⟩
    | succ i => cases hv
  · have hcm' : cap ≤ 9223372036854775807 := by unfold maxLen at hcm; omega
    -- the elements, one by one
    have step : ∀ m, m ≤ len → ∃ xs : List (List V), xs.length = m ∧ (∀ x ∈ xs, Pe x ∧ x.length = Tryd.prog.cellsOf e) ∧
        ∀ (i : Nat) x (j : Nat) v, xs[i]? = some x → x[j]? = some v → ∃ c, W.cell? (a.add (i * Tryd.prog.cellsOf e + j)) = some c ∧ RepD W (phi W) v c ∧ scalar v = true := by
      intro m
      induction m with
      | zero => exact fun _ => ⟨[], rfl, fun x hx => by simp at hx, fun i x j v hx => by simp at hx⟩
      | succ m ih =>
        intro hm
        obtain ⟨xs, l1, l2, l3⟩ := ih (by omega)
        have h1 := hE m (by omega)
        rw [List.getElem?_eq_getElem (by omega)] at h1
        rw [Option.bind_eq_some_iff] at h1
        obtain ⟨ccs, h2, h3⟩ := h1
        obtain ⟨vs, v1, v2, v3⟩ := h _ _ _ h3
        have hcc : ccs.length = Tryd.prog.cellsOf e ∧ ∀ (j : Nat) c, ccs[j]? = some c → W.cell? (a.add (m * Tryd.prog.cellsOf e + j)) = some c := by
          unfold World.cells? at h2
          rw [if_pos (Nat.zero_le _)] at h2
          refine ⟨by simpa using mapM_some_length h2, fun j c hj => ?_⟩
          have hjl : j < Tryd.prog.cellsOf e := by
            have := (List.getElem?_eq_some_iff.1 hj).1
            have hh := mapM_some_length h2
            simp at hh; omega
          have := mapM_some_get h2 j j (by simp [hjl])
          rw [hj] at this
          rw [← this, Addr.add_add]
        refine ⟨xs ++ [vs], by simp [l1], fun x hx => ?_, fun i x j v hx hj => ?_⟩
        · rcases List.mem_append.1 hx with hx | hx
          · exact l2 x hx
          · simp at hx; subst hx; exact ⟨v1, by omega⟩
        · by_cases hi : i < xs.length
          · rw [List.getElem?_append_left hi] at hx
            exact l3 i x j v hx hj
          · have hi' : i = xs.length := by
              have := (List.getElem?_eq_some_iff.1 hx).1
              simp at this; omega
            subst hi'
            rw [List.getElem?_append_right (by omega)] at hx
            simp at hx; subst hx
            have hjl : j < ccs.length := by have := (List.getElem?_eq_some_iff.1 hj).1; omega
            rw [l1]
            exact ⟨ccs[j], hcc.2 j _ (List.getElem?_eq_getElem hjl), v3 j v _ hj (List.getElem?_eq_getElem hjl)⟩
    obtain ⟨xs, l1, l2, l3⟩ := step len (Nat.le_refl _)
    have hsc : ∀ x ∈ xs, ∀ v ∈ x, scalar v = true := fun x hx v hv => by
      obtain ⟨i, hi, rfl⟩ := List.mem_iff_getElem.1 hx
      obtain ⟨j, hj, rfl⟩ := List.mem_iff_getElem.1 hv
      obtain ⟨c, _, _, hs⟩ := l3 i _ j _ (List.getElem?_eq_getElem hi) (List.getElem?_eq_getElem hj)
      exact hs
    have hcw : ∀ x ∈ xs, cells (wrapV agg x) = x := fun x hx => cells_wrap (l2 x hx).2 (hsc x hx) ha
    refine ⟨[.slice 0 _ (xs.map (wrapV agg))], ⟨xs, fun x hx => (l2 x hx).1, by omega, rfl⟩, rfl, fun i v c hv hc => ?_⟩
    cases i with
    | succ i => cases hv
    | zero =>
      cases hv; cases hc
      refine ⟨?_, rfl⟩
      by_cases hl0 : len = 0
      · subst hl0
        have : xs = [] := List.eq_nil_of_length_eq_zero l1
        subst this
        exact .slice0 _ _ _
      · -- the place of the first cell
        have hx0 : 0 < xs.length := by omega
        have hlen0 := (l2 _ (List.getElem_mem hx0)).2
        obtain ⟨c0, hc0, _⟩ := l3 0 xs[0] 0 (xs[0][0]'(by omega)) (List.getElem?_eq_getElem hx0) (List.getElem?_eq_getElem (by omega))
        have hsp := cell_spot hc0
        obtain ⟨b, off, sp⟩ := a
        have : sp = none := by simpa [Addr.add] using hsp
        subst this
        have hwl : ∀ y ∈ xs.map (wrapV agg), (cells y).length = Tryd.prog.cellsOf e := fun y hy => by
          obtain ⟨x, hx, rfl⟩ := List.mem_map.1 hy
          rw [hcw x hx, (l2 x hx).2]
        have at_ : ∀ (j : Nat) v, ((xs.map (wrapV agg)).flatMap cells)[j]? = some v → ∃ c, W.cell? ⟨b, off + j, none⟩ = some c ∧ RepD W (phi W) v c ∧ scalar v = true := fun j v hj => by
          obtain ⟨i, u, k, hu, hk, rfl⟩ := flat_split h0 hwl j v hj
          rw [List.getElem?_map, Option.map_eq_some_iff] at hu
          obtain ⟨x, hx, rfl⟩ := hu
          rw [hcw x (List.mem_of_getElem? hx)] at hk
          obtain ⟨c, q1, q2⟩ := l3 i x k v hx hk
          refine ⟨c, ?_, q2⟩
          rw [← q1]
          unfold Addr.add
          split
          · rename_i h; rw [h]; rfl
          · rfl
        refine .slice _ _ b off len cap (fun j => (W.cell? ⟨b, off + j, none⟩).getD undef) h0 (by simp [l1]) hlc hwl (fun j v hj => ?_) (fun j v hj => ?_)
        · obtain ⟨c, q1, q2, q3⟩ := at_ j v hj
          exact ⟨phi_lt q1, by rw [q1]; rfl, q3⟩
        · obtain ⟨c, q1, q2, q3⟩ := at_ j v hj
          rw [q1]; exact q2

/-! ### Arguments -/
theorem arg_agg {t : TypeId} {Pr : List V → Prop} {v : Value} {d : DataW H} {p : List MemPlace} (ha : aggB Tryd.prog t = true) (h : Reads enc W t Pr) (hv : Value.okWide Tryd.prog W .any 0 t v) (ht : DataW.Trod enc Tryd.prog W 0 (fun _ => true) true t v d p) : ∃ vs, Pr vs ∧ RepD W (phi W) (.agg vs) v := by
  obtain ⟨fuel, hf⟩ := ht
  obtain ⟨vs, h1, h2, h3⟩ := h _ _ _ hf
  obtain ⟨cs, rfl, _⟩ : ∃ cs, v = .agg cs ∧ True := by
    unfold aggB at ha
    unfold Value.okWide at hv
    split at ha
    · rename_i hu; rw [hu] at hv; obtain ⟨cs, rfl, _⟩ := hv; exact ⟨cs, rfl, trivial⟩
    · rename_i hu; rw [hu] at hv; obtain ⟨cs, rfl, _⟩ := hv; exact ⟨cs, rfl, trivial⟩
    · cases ha
  refine ⟨vs, h1, .agg _ _ (by simpa [Value.cells] using h2) fun i v x hv hx => (h3 i v x hv ?_).1⟩
  simpa [Value.cells] using hx

theorem exists_list {α : Type} {xs : List (List V)} {R : α → Prop} {g : α → List V} (h : ∀ x ∈ xs, ∃ a, R a ∧ x = g a) : ∃ l : List α, xs = l.map g ∧ ∀ a ∈ l, R a := by
  induction xs with
  | nil => exact ⟨[], rfl, fun a ha => by simp at ha⟩
  | cons x r ih =>
    obtain ⟨a, ha, rfl⟩ := h x (by simp)
    obtain ⟨l, rfl, hl⟩ := ih fun y hy => h y (by simp [hy])
    exact ⟨a :: l, rfl, fun b hb => by
      rcases List.mem_cons.1 hb with rfl | hb
      · exact ha
      · exact hl b hb⟩

end
end Go.Proofs.YtdejdblopmfjfaaDoor


/-! What the arguments of the statements of the bin chapter read as. -/
set_option linter.unusedVariables false
set_option linter.unusedSimpArgs false
set_option maxRecDepth 20000
namespace Go.Proofs.YtdejdblopmfjfaaDoor
open Go.Am Go.ChangeShapes Go.WideShapes Go.ChangeAt Go.RowKit

section
variable {H : Type} {enc : TypeId × Value → H} {W : World}

theorem rd_int : Reads enc W 3 (fun vs => ∃ n : Int, vs = [I n] ∧ -9223372036854775808 ≤ n ∧ n ≤ 9223372036854775807) := reads_int Tryd.underlying3

theorem rd_point : Reads enc W 23 (fun vs => ∃ b : Int × Int, vs = [I b.1, I b.2]) := by
  refine (reads_struct Tryd.underlying23 (by kernel_rfl) (readsL_cons rd_int (readsL_cons rd_int readsL_nil))).mono ?_
  rintro vs ⟨a, b, ⟨x, rfl, _⟩, ⟨c, d, ⟨y, rfl, _⟩, rfl, rfl⟩, rfl⟩
  exact ⟨(x, y), rfl⟩

theorem rd_bound : Reads enc W 91 (fun vs => ∃ b : Int × Int, vs = [I b.1, I b.2]) := by
  refine (reads_struct Tryd.underlying91 (by kernel_rfl) (readsL_cons rd_int (readsL_cons rd_int readsL_nil))).mono ?_
  rintro vs ⟨a, b, ⟨x, rfl, _⟩, ⟨c, d, ⟨y, rfl, _⟩, rfl, rfl⟩, rfl⟩
  exact ⟨(x, y), rfl⟩

theorem rd_bounds : Reads enc W 24 (fun vs => ∃ l : List (Int × Int), l.length ≤ 9223372036854775807 ∧ vs = [sB l]) := by
  refine (reads_slice (sz := 2) true Tryd.underlying24 (by kernel_rfl) (by decide) (by decide) rd_bound).mono ?_
  rintro vs ⟨xs, h1, h2, rfl⟩
  obtain ⟨l, rfl, _⟩ := exists_list (R := fun _ => True) (g := fun b : Int × Int => [I b.1, I b.2]) fun x hx => by obtain ⟨b, rfl⟩ := h1 x hx; exact ⟨b, trivial, rfl⟩
  refine ⟨l, by simpa using h2, ?_⟩
  simp [sB, wrapV, Function.comp_def, eB]

theorem rd_grid : Reads enc W 26 (fun vs => ∃ g : Gd, g.cls.length ≤ 9223372036854775807 ∧ vs = gridC g) := by
  refine (reads_struct Tryd.underlying26 (by kernel_rfl) (readsL_cons rd_point (readsL_cons rd_int (readsL_cons rd_int (readsL_cons rd_int (readsL_cons rd_bounds readsL_nil)))))).mono ?_
  rintro vs ⟨a, b, ⟨o, rfl⟩, ⟨c, d, ⟨x, rfl, _⟩, ⟨e, f, ⟨y, rfl, _⟩, ⟨k, m, ⟨z, rfl, _⟩, ⟨p, q, ⟨l, hl, rfl⟩, rfl, rfl⟩, rfl⟩, rfl⟩, rfl⟩, rfl⟩
  exact ⟨⟨o, x, y, z, l⟩, hl, rfl⟩

theorem rd_region : Reads enc W 94 (fun vs => ∃ f : Fr, vs = fourC f) := by
  refine (reads_struct Tryd.underlying94 (by kernel_rfl) (readsL_cons rd_bound (readsL_cons rd_bound (readsL_cons rd_bound (readsL_cons rd_bound readsL_nil))))).mono ?_
  rintro vs ⟨a, b, ⟨x, rfl⟩, ⟨c, d, ⟨y, rfl⟩, ⟨e, f, ⟨z, rfl⟩, ⟨p, q, ⟨l, rfl⟩, rfl, rfl⟩, rfl⟩, rfl⟩, rfl⟩
  exact ⟨⟨x, y, z, l⟩, rfl⟩

theorem rd_regions : Reads enc W 27 (fun vs => ∃ l : List Fr, l.length ≤ 9223372036854775807 ∧ vs = [.slice 0 8 (l.map eF)]) := by
  refine (reads_slice (sz := 8) true Tryd.underlying27 (by kernel_rfl) (by decide) (by decide) rd_region).mono ?_
  rintro vs ⟨xs, h1, h2, rfl⟩
  obtain ⟨l, rfl, _⟩ := exists_list (R := fun _ => True) (g := fun f : Fr => fourC f) fun x hx => by obtain ⟨b, rfl⟩ := h1 x hx; exact ⟨b, trivial, rfl⟩
  refine ⟨l, by simpa using h2, ?_⟩
  simp [wrapV, Function.comp_def, eF]

theorem rd_int2 : Reads enc W 82 (fun vs => ∃ a b : Int, vs = [I a, I b]) := by
  refine (reads_array Tryd.underlying82 (by kernel_rfl) (readsL_cons rd_int (readsL_cons rd_int readsL_nil))).mono ?_
  rintro vs ⟨a, b, ⟨x, rfl, _⟩, ⟨c, d, ⟨y, rfl, _⟩, rfl, rfl⟩, rfl⟩
  exact ⟨x, y, rfl⟩

theorem rd_traces : Reads enc W 28 (fun vs => ∃ l : List (Int × Int), l.length ≤ 9223372036854775807 ∧ vs = [sB l]) := by
  refine (reads_slice (sz := 2) true Tryd.underlying28 (by kernel_rfl) (by decide) (by decide) rd_int2).mono ?_
  rintro vs ⟨xs, h1, h2, rfl⟩
  obtain ⟨l, rfl, _⟩ := exists_list (R := fun _ => True) (g := fun b : Int × Int => [I b.1, I b.2]) fun x hx => by obtain ⟨a, b, rfl⟩ := h1 x hx; exact ⟨(a, b), trivial, rfl⟩
  refine ⟨l, by simpa using h2, ?_⟩
  simp [sB, wrapV, Function.comp_def, eB]

theorem rd_layout : Reads enc W 30 (fun vs => ∃ s : Ly, s.nodes.length ≤ 9223372036854775807 ∧ s.traces.length ≤ 9223372036854775807 ∧ vs = layC s) := by
  refine (reads_struct Tryd.underlying30 (by kernel_rfl) (readsL_cons rd_regions (readsL_cons rd_traces readsL_nil))).mono ?_
  rintro vs ⟨a, b, ⟨l, hl, rfl⟩, ⟨c, d, ⟨m, hm, rfl⟩, rfl, rfl⟩, rfl⟩
  exact ⟨⟨l, m⟩, hl, hm, rfl⟩

end

theorem repR_bool {w : World} {φ : Nat → Nat} {b : Bool} {x : Value} (h : RepR w φ (.bool b) x) : x = .bool b := by
  cases h with
  | data r => cases r; rfl

theorem repL2 {w : World} {φ : Nat → Nat} {a b : V} {x y : Value} (h : RepD w φ a x) (k : RepD w φ b y) : RepL w φ [a, b] #[x, y] := ⟨rfl, fun i v y h1 h2 => by
  match i with
  | 0 => cases h1; cases h2; exact h
  | 1 => cases h1; cases h2; exact k
  | i + 2 => simp at h1⟩
/-- From a contract to the walk that a row asks for. -/
theorem walk_of {f : FuncId} {args : List V} {xs : Array Value} {W : World} (hc : C Tryd.prog f args (.bool true)) (hg : Gl W (phi W)) (hr : RepL W (phi W) args xs) : Calls Tryd.prog f xs W fun e W' => e = .returned (.bool true) ∧ Below W.heap.size W W' :=
  (hc.2 W (phi W) xs phi_top hg hr).mono fun e w' ⟨φ', x, he, hx, hb, _⟩ => ⟨by rw [he, repR_bool hx], hb⟩

theorem own : ownKnob Tryd.prog.godebug = none := by kernel_rfl
theorem laidOut : laidOutB Tryd.prog = true := by kernel_rfl

end Go.Proofs.YtdejdblopmfjfaaDoor


/-! Facts on the rows: what the load's head says. -/
set_option linter.unusedVariables false
set_option linter.unusedSimpArgs false
set_option maxRecDepth 100000
namespace Go.Proofs.YtdejdblopmfjfaaDoor
open Go.Am Go.ChangeShapes Go.WideShapes Go.ChangeAt Go.RowKit

noncomputable def headL : List Char := ([104, 97, 114, 110, 101, 115, 115, 32, 54, 97, 101, 101, 52, 98, 101, 51, 99, 54, 55, 50, 53, 102, 50, 54, 49, 48, 102, 102, 102, 48, 53, 48, 102, 51, 53, 101, 102, 50, 54, 99, 98, 98, 50, 56, 102, 98, 98, 99, 55, 54, 56, 51, 49, 100, 101, 54, 100, 57, 48, 102, 101, 54, 48, 53, 99, 98, 50, 57, 51, 101, 52, 57, 32, 99, 117, 116, 32, 97, 116, 32, 112, 97, 114, 97, 118, 97, 110, 101, 47, 112, 97, 114, 97, 118, 97, 110, 101, 108, 97, 119, 48, 55, 46, 66, 105, 110, 72, 105, 116, 115] : List Nat).map Char.ofNat
theorem head_chars : Tryd.prog.initOrder = String.ofList (([104, 97, 114, 110, 101, 115, 115, 32, 54, 97, 101, 101, 52, 98, 101, 51, 99, 54, 55, 50, 53, 102, 50, 54, 49, 48, 102, 102, 102, 48, 53, 48, 102, 51, 53, 101, 102, 50, 54, 99, 98, 98, 50, 56, 102, 98, 98, 99, 55, 54, 56, 51, 49, 100, 101, 54, 100, 57, 48, 102, 101, 54, 48, 53, 99, 98, 50, 57, 51, 101, 52, 57, 32, 99, 117, 116, 32, 97, 116, 32, 112, 97, 114, 97, 118, 97, 110, 101, 47, 112, 97, 114, 97, 118, 97, 110, 101, 108, 97, 119, 48, 55, 46, 66, 105, 110, 72, 105, 116, 115] : List Nat).map Char.ofNat) := by
  unfold Tryd.prog
  dsimp only
  show (_ : String) = _
  kernel_rfl
theorem head_list : Tryd.prog.initOrder.toList = headL := (congrArg String.toList head_chars).trans String.toList_ofList

section
variable (P : Program) (h : P.initOrder.toList = headL)
include h
theorem make_of : P.make = some .cut := by
  unfold Program.make
  rw [h]
  kernel_rfl
theorem headLifts_of : P.headLifts = [] := by
  unfold Program.headLifts
  rw [h]
  kernel_rfl
theorem lifts_of : P.liftsFinal = false := by
  unfold Program.liftsFinal
  rw [h, headLifts_of P h]
  kernel_rfl
theorem may_of (h1 : P.laysLater = false) (h2 : P.bearsReflect = false) (h3 : P.doorFits [] = true) : P.mayEnter = true := by
  unfold Program.mayEnter
  rw [h, h1, h2]
  have e : behindMainWord (wordsSigns headL) = "cut".toList :: (behindMainWord (wordsSigns headL)).tail := by kernel_rfl
  have e2 : stripLifts liftWords ("cut".toList :: (behindMainWord (wordsSigns headL)).tail) = ([], "cut".toList :: (behindMainWord (wordsSigns headL)).tail) := by kernel_rfl
  rw [e]
  dsimp only
  rw [e2, h3]
  first | rfl | (show (_ : Bool) = true; kernel_rfl)
end

theorem may : Tryd.prog.mayEnter = true := may_of _ head_list (by kernel_rfl) (by kernel_rfl) (by kernel_rfl)
theorem lifts : Tryd.prog.liftsFinal = false := lifts_of _ head_list
theorem made : Tryd.prog.make = some .cut := make_of _ head_list
theorem heard : Tryd.prog.stopsHeard = true := by kernel_rfl
theorem plain : Tryd.prog.plainKeys = false := by kernel_rfl
theorem rowed : mapsRowed Tryd.prog = true := by kernel_rfl

end Go.Proofs.YtdejdblopmfjfaaDoor


/-! What the package's variable holds where a statement begins. -/
set_option linter.unusedVariables false
set_option linter.unusedSimpArgs false
set_option maxRecDepth 100000
namespace Go.Proofs.YtdejdblopmfjfaaDoor
open Go.Am Go.ChangeShapes Go.WideShapes Go.ChangeAt Go.RowKit

def laidV : List (String × DataW Unit) := [("paravane/bin.none", Rows.laid_paravane_bin_none)]

theorem none_cells {W : World} (h : laidMetH Tryd.prog laidV W) : W.var? Tryd.prog "paravane/bin.none" = some #[.int .i64 (-1), .int .i64 (-1)] := by
  rw [MakeChecks.laidMetH_plain _ _ _ (by kernel_rfl)] at h
  obtain ⟨ps, ⟨g, t, cs, fuel, p, q, hg, ht, hv, hd, _, _⟩, _, _⟩ := h
  obtain rfl := Option.some.inj ((show Tryd.prog.globalNamed "paravane/bin.none" = some 0 by kernel_rfl).symm.trans hg)
  obtain rfl := Option.some.inj ((show (Tryd.prog.globals[0]?).map (·.type) = some 42 by kernel_rfl).symm.trans ht)
  have ci : Tryd.prog.cellsOf 3 = 1 := by kernel_rfl
  have cc : Tryd.prog.cellsOf 42 = 2 := by kernel_rfl
  obtain ⟨y0, y1, n, ex, hlen, k0, k1⟩ := trod_struct2 Tryd.underlying42 hd
  rw [cc] at hlen
  obtain ⟨l⟩ := cs
  match l, hlen with
  | [a, b], _ =>
    have e3 := DataW.agg.inj (Prod.mk.inj ex).1
    simp only [List.cons.injEq, and_true] at e3
    simp only at k0 k1
    rw [ci] at k0 k1
    obtain ⟨z0, a0, b0, _⟩ := DataW.trod_int Tryd.underlying3 k0
    obtain ⟨z1, a1, b1, _⟩ := DataW.trod_int Tryd.underlying3 k1
    rw [b0, b1] at e3
    have e4 : (-1 : Int) = z0 ∧ (-1 : Int) = z1 := by simpa [Rows.laid_paravane_bin_none] using e3
    have a2 : a = .int .i64 z0 := by simpa using a0
    have a3 : b = .int .i64 z1 := by simpa using a1
    rw [hv, a2, a3, ← e4.1, ← e4.2]

theorem gl_of {W : World} (h : laidMetH Tryd.prog laidV W) : Gl W (phi W) := by
  have hc := fun j => World.var?_cell (show Tryd.prog.globalNamed "paravane/bin.none" = some 0 by kernel_rfl) (none_cells h) j
  intro p hp
  obtain rfl : p = (0, [.int .i64 (-1), .int .i64 (-1)]) := by simpa [globalsV] using hp
  refine .vptr _ 0 0 0 (fun _ => .int .i64 (-1)) (fun j v hj => ?_) (fun j v hj => ?_)
  · match j, hj with
    | 0, hj => cases hj; exact ⟨phi_lt (hc 0), hc 0, rfl⟩
    | 1, hj => cases hj; exact ⟨phi_lt (hc 1), hc 1, rfl⟩
  · match j, hj with
    | 0, hj => cases hj; exact .int _ _
    | 1, hj => cases hj; exact .int _ _

end Go.Proofs.YtdejdblopmfjfaaDoor

