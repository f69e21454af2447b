/-
  Parts of the proof, 5: the abstract machine, the compiled code, contracts of the functions, plain laws.
-/
import Derived.Test.YtdejdblopmfjfaaGreatDoorP4
import Derived.Laws.Concat


/-! Contracts: counting. -/
set_option linter.unusedVariables false
set_option linter.unusedSimpArgs false
set_option maxRecDepth 40000
set_option maxHeartbeats 4000000
namespace Go.Proofs.YtdejdblopmfjfaaGreatDoor
open Go.Am
attribute [local simp] cells scalar mkv splice under2 under dem dem1 eB gridC sB laidC
def rowsB (m : Nat) (rbs : List Nat) (k : Nat) : List V := (rbs.map fun b => V.sref b 0 m m) ++ List.replicate k .nils

theorem rowsB_refs (m : Nat) (rbs : List Nat) (k : Nat) (B : Nat → Bool) (R : Nat → Option (Nat × Nat × Nat)) : (rowsB m rbs k).all (refsOk B R 6) = true := by
  rw [List.all_eq_true]
  intro x hx
  rcases List.mem_append.1 hx with hx | hx
  · obtain ⟨_, _, rfl⟩ := List.mem_map.1 hx; rfl
  · rw [List.eq_of_mem_replicate hx]; rfl

theorem okRows {j m k : Nat} {rbs : List Nat} {env : List (Nat × V)} {bx : List (Nat × Box)} {rw : List (Nat × Nat × Nat × Nat)} (h : okRefs env ((j, ⟨[], false⟩) :: bx) rw = true) : okRefs env ((j, ⟨rowsB m rbs k, false⟩) :: bx) rw = true := by
  have e : hasKey ((j, (⟨rowsB m rbs k, false⟩ : Box)) :: bx) = hasKey ((j, (⟨[], false⟩ : Box)) :: bx) := rfl
  unfold okRefs at h ⊢
  rw [e]
  rw [Bool.and_eq_true] at h ⊢
  refine ⟨h.1, ?_⟩
  have h2 := h.2
  rw [List.all_cons, Bool.and_eq_true] at h2 ⊢
  exact ⟨rowsB_refs _ _ _ _ _, h2.2⟩

theorem rowsB_len (m : Nat) (rbs : List Nat) (k : Nat) : (rowsB m rbs k).length = rbs.length + k := by simp [rowsB]

theorem rowsB_set (m : Nat) (rbs : List Nat) (k b : Nat) : (rowsB m rbs (k + 1)).set rbs.length (.sref b 0 m m) = rowsB m (rbs ++ [b]) k := by
  unfold rowsB
  rw [List.set_append_right _ _ (by simp), List.length_map, Nat.sub_self, List.replicate_succ]
  simp

theorem rowsB_flat (m : Nat) (rbs : List Nat) : ∀ l : List V, l = (rbs.map fun b => V.sref b 0 m m) → l.flatMap cells = l := by
  induction rbs with
  | nil => rintro l rfl; rfl
  | cons b r ih => rintro l rfl; rw [List.map_cons, List.flatMap_cons, ih _ rfl]; rfl

theorem rowsB_holds (m : Nat) (rbs : List Nat) : Holds (rowsB m rbs 0) 0 1 rbs.length (rbs.map fun b => V.sref b 0 m m) := by
  refine ⟨by omega, by simp, fun x hx => ?_, ?_, fun x hx => ?_⟩
  · obtain ⟨_, _, rfl⟩ := List.mem_map.1 hx; rfl
  · rw [rowsB_flat m rbs _ rfl]; simp [rowsB, List.take_of_length_le]
  · obtain ⟨_, _, rfl⟩ := List.mem_map.1 hx; rfl

theorem allH_succ (h : Nat → List (Int × Int)) (k : Nat) : allH h (k + 1) = allH h k ++ h k := by
  unfold allH; rw [List.range_succ, List.flatMap_append]; simp

theorem count_bd {L : Ld} {h : Nat → List (Int × Int)} (hn : L.traces.length ≤ 64) (hr : ∀ t < L.traces.length, (h t).length ≤ 4096) : ∀ k ≤ L.traces.length, (allH h k).length ≤ k * 4096
  | 0, _ => by simp [allH]
  | k + 1, hk => by
    have := count_bd hn hr k (by omega)
    have h2 := hr k (by omega)
    rw [allH_succ, List.length_append]; omega

theorem splice_set {cs : List V} {i : Nat} (h : i < cs.length) (v : V) : splice cs i [v] = cs.set i v := by
  rw [List.set_eq_take_append_cons_drop, if_pos h]; simp [splice]

theorem c_count {L : Ld} (hL : LdOk L) {f : FuncId} {h : Nat → List (Int × Int)} (hf : ∀ t < L.traces.length, C Tryz.prog f [.agg (laidC L), I (t : Nat)] (sB (h t))) (hr : ∀ t < L.traces.length, (h t).length ≤ 4096 ∧ ∀ c ∈ h t, c = noneC ∨ inG L.g c) :
    C Tryz.prog F.bin_laid_count [.agg (laidC L), .func (.func f) [.agg (laidC L)] []] (foldV (cntN L h)) := by
  obtain ⟨_, hsz, hga, hgd, hcl, _⟩ := gridOk_spec hL.g
  have nb := nBins_eq hL.g
  have hab : IntKind.wrap .i64 (L.g.a * L.g.d) = (nBins L.g : Int) := by rw [nb.1]; exact w64 (by omega) (by omega)
  refine C_of mixed chk.bin_laid_count (by simp) fun S ok => ?_
  refine Tr.arena rfl rfl ?_
  have hA := InA.main (E := env0 Tryz.prog mixed 63 S ok) [] false
  refine Tr.seqR rfl (by simp) ?_
  refine Tr.seqR rfl (by simp; omega) ?_
  refine Tr.seq (Tr.seqR rfl (by simp) (Tr.block ?_))
  refine Tr.loop (α := Nat × List Nat) (fun p st => (p.1 ≤ nBins L.g ∧ p.2.length = p.1 ∧ p.2.Nodup) ∧
      st = { env := [(1, .func (.func f) [.agg (laidC L)] []), (2, .ptr 2 0), (5, .bsl 17 0 1 (nBins L.g)), (18, .bsl 17 0 1 (nBins L.g)), (19, I (nBins L.g : Nat)), (20, I (p.1 : Nat))], bx := [(17, ⟨rowsB L.g.cls.length p.2 (nBins L.g - p.1), false⟩), (2, ⟨laidC L, false⟩)], rw := [], log := encA (arn p.2 ((List.range p.1).map (cntRow L.g.cls.length []))), stp := false }) (fun p => nBins L.g - p.1) (0, [])
    (Wk.leL (.cons rfl (.refl _) (.cons rfl (.refl _) (.cons rfl (.of_eq ?_) (.cons rfl (.of_eq ?_) (.cons rfl (VLe.i ?_) (.cons rfl (.refl _) .nil)))))) (.cons rfl ?_ (.cons rfl (LLe.refl _) .nil)) .nil (okRows rfl) rfl rfl) ⟨⟨by omega, rfl, List.Pairwise.nil⟩, rfl⟩ ?_
  · show V.bsl 17 0 1 (IntKind.wrap .i64 (L.g.a * L.g.d)).toNat = _
    rw [hab]; rfl
  · show V.bsl 17 0 1 (IntKind.wrap .i64 (L.g.a * L.g.d)).toNat = _
    rw [hab]; rfl
  · rw [hab]; rfl
  · show LLe (List.replicate (IntKind.wrap .i64 (L.g.a * L.g.d)).toNat [V.nils]).flatten _
    rw [hab]
    have e : (List.replicate (nBins L.g) [V.nils]).flatten = rowsB L.g.cls.length [] (nBins L.g - 0) := by simp [rowsB]
    rw [Int.toNat_natCast, e]; exact LLe.refl _
  rintro ⟨k, rbs⟩ st ⟨⟨hk, hlen, hnd⟩, rfl⟩
  simp only at hk hlen hnd
  have hlr : rbs.length = ((List.range k).map (cntRow L.g.cls.length [])).length := by simp [hlen]
  refine Tr.seqR rfl (by simp) (Tr.seqI rfl (fun h1 => ?_) (fun h1 => ?_))
  · have h1 : k < nBins L.g := by simpa using h1
    refine Tr.skipT (Tr.seq (Tr.block (Tr.seqR rfl (by simp) (Tr.reg ?_))))
    refine Steps.runN 6 rfl (by simp) (Steps.amkbox hA (N := L.g.cls.length) rfl (by simp) (by simp) (by omega) (by omega) (by omega) rfl fun b hb => ?_)
    rw [arn_keys hlr] at hb
    refine Steps.fin rfl (by simp [rowsB_len, hlen]; omega) (Tr.regR rfl (by simp) ?_)
    have ez : (List.replicate L.g.cls.length [I 0]).flatten = (cntRow L.g.cls.length [] k).map I := by
      have : cntRow L.g.cls.length [] k = List.replicate L.g.cls.length 0 := by
        refine List.ext_getElem (by simp [cntRow]) fun i h1 h2 => by simp [cntRow]
      rw [this]; simp
    have eA : arn (rbs ++ [b]) ((List.range (k + 1)).map (cntRow L.g.cls.length [])) = arn rbs ((List.range k).map (cntRow L.g.cls.length [])) ++ [(b, .cells ((cntRow L.g.cls.length [] k).map I))] := by
      rw [List.range_succ, List.map_append]; exact arn_snoc _ _ hlr
    have hnd2 : (rbs ++ [b]).Nodup := by
      rw [List.nodup_append]
      exact ⟨hnd, by simp, fun x hx y hy e => by rw [List.mem_singleton.1 hy] at e; exact hb (e ▸ hx)⟩
    refine ⟨(k + 1, rbs ++ [b]), _, Wk.trans (Wk.leL (env := [(1, .func (.func f) [.agg (laidC L)] []), (2, .ptr 2 0), (5, .bsl 17 0 1 (nBins L.g)), (18, .bsl 17 0 1 (nBins L.g)), (19, I (nBins L.g : Nat)), (20, I ((k + 1 : Nat) : Int))]) (bx := [(17, ⟨rowsB L.g.cls.length (rbs ++ [b]) (nBins L.g - (k + 1)), false⟩), (2, ⟨laidC L, false⟩)]) (rw := [])
        (.cons rfl (.refl _) (.cons rfl (.refl _) (.cons rfl (.refl _) (.cons rfl (.refl _) (.cons rfl (.refl _) (.cons rfl (VLe.i (w64 (by omega) (by omega))) .nil)))))) (.cons rfl ?_ (.cons rfl (LLe.refl _) .nil)) .nil (okRows rfl) rfl rfl) (Wk.keep hA (B := arn (rbs ++ [b]) ((List.range (k + 1)).map (cntRow L.g.cls.length []))) rfl ?_ ?_), ⟨⟨by simp only; omega, by simp [hlen], hnd2⟩, rfl⟩, by simp only; omega⟩
    · have e1 : nBins L.g - k = (nBins L.g - (k + 1)) + 1 := by omega
      have e2 : (0 : Nat) + ((k : Nat) : Int).toNat * 1 = rbs.length := by simp [hlen]
      show LLe (splice (rowsB L.g.cls.length rbs (nBins L.g - k)) (0 + ((k : Nat) : Int).toNat * 1) [.sref b 0 L.g.cls.length L.g.cls.length]) _
      rw [e1, e2, splice_set (by rw [rowsB_len]; omega), rowsB_set]; exact LLe.refl _
    · intro p hp
      rw [eA] at hp
      rcases List.mem_append.1 hp with hp | hp
      · exact List.mem_cons_of_mem _ hp
      · rw [List.mem_singleton.1 hp, ez]; exact List.mem_cons_self
    · rw [arn_keys (by simp [hlen])]; exact hnd2
  have h1 : k = nBins L.g := by simp at h1; omega
  subst h1
  clear hlr
  refine Tr.exit ?_
  refine Tr.weak (s' := { env := [(1, .func (.func f) [.agg (laidC L)] []), (2, .ptr 2 0), (5, .bsl 17 0 1 rbs.length)], bx := [(17, ⟨rowsB L.g.cls.length rbs 0, false⟩), (2, ⟨laidC L, false⟩)], rw := [], log := encA (arn rbs (countL L.g (allH h 0))), stp := false })
    (Wk.leL (.cons rfl (.refl _) (.cons rfl (.refl _) (.cons rfl (.of_eq (by rw [hlen])) .nil))) (.cons rfl (by rw [Nat.sub_self]; exact LLe.refl _) (.cons rfl (LLe.refl _) .nil)) .nil (okRows rfl) rfl rfl) ?_
  refine Tr.weak (Wk.bsl (t := 5) rfl rfl (rowsB_holds _ _)) ?_
  refine Tr.seq (Tr.seqR rfl (by simp) (Tr.block ?_))
  refine Tr.loop (fun (k : Nat) st => k ≤ L.traces.length ∧ st = { env := [(1, .func (.func f) [.agg (laidC L)] []), (2, .ptr 2 0), (5, .slice 0 1 (rbs.map fun b => V.sref b 0 L.g.cls.length L.g.cls.length)), (33, sB L.traces), (34, I (L.traces.length : Nat)), (35, I (k : Nat))], bx := [(2, ⟨laidC L, false⟩)], rw := [], log := encA (arn rbs (countL L.g (allH h k))), stp := false }) (fun k => L.traces.length - k) 0
    (Wk.leL (.cons rfl (.refl _) (.cons rfl (.refl _) (.cons rfl (.refl _) (.cons rfl (.refl _) (.cons rfl (VLe.i (by simp)) (.cons rfl (.refl _) .nil)))))) (.cons rfl (LLe.refl _) .nil) .nil rfl rfl rfl) ⟨by omega, rfl⟩ ?_
  rintro k st ⟨hk, rfl⟩
  refine Tr.seqR rfl (by simp) (Tr.seqI rfl (fun h1 => ?_) (fun h1 => ?_))
  · have h1 : k < L.traces.length := by simpa using h1
    have hb := count_bd hL.t (fun t ht => (hr t ht).1) k hk
    have hr1 := hr k h1
    have hLt := hL.t
    refine Tr.skipT (Tr.seq (Tr.block (Tr.seqR rfl (by simp) (Tr.seqC rfl (by simp) (Steps.callv rfl rfl (hf k h1) (Steps.fin rfl (by simp) (Tr.block ?_)))))))
    refine Tr.loop (fun (j : Nat) st => j ≤ (h k).length ∧ st = { env := [(1, .func (.func f) [.agg (laidC L)] []), (2, .ptr 2 0), (5, .slice 0 1 (rbs.map fun b => V.sref b 0 L.g.cls.length L.g.cls.length)), (33, sB L.traces), (34, I (L.traces.length : Nat)), (35, I (k : Nat)), (40, sB (h k)), (41, I ((h k).length : Nat)), (42, I (j : Nat))], bx := [(2, ⟨laidC L, false⟩)], rw := [], log := encA (arn rbs (countL L.g (allH h k ++ (h k).take j))), stp := false }) (fun j => (h k).length - j) 0
      (Wk.leL (.cons rfl (.refl _) (.cons rfl (.refl _) (.cons rfl (.refl _) (.cons rfl (.refl _) (.cons rfl (.refl _) (.cons rfl (.refl _) (.cons rfl (.refl _) (.cons rfl (VLe.i (by simp)) (.cons rfl (.refl _) .nil))))))))) (.cons rfl (LLe.refl _) .nil) .nil rfl rfl (by show encA (arn rbs (countL L.g (allH h k))) = _; rw [List.take_zero, List.append_nil])) ⟨by omega, rfl⟩ ?_
    rintro j st ⟨hj, rfl⟩
    refine Tr.seqR rfl (by simp) (Tr.seqI rfl (fun h2 => ?_) (fun h2 => ?_))
    · have h2 : j < (h k).length := by simpa using h2
      refine Tr.skipT (Tr.seq (Tr.block (Tr.seq (Tr.reg (Steps.runN 1 rfl (by simp; omega) ?_)))))
      rw [getD_map h2]
      refine Steps.fin rfl (by simp) ?_
      refine Tr.seq (Tr.reg (Steps.runN 1 rfl (by simp) (Steps.gload (g := 0) (cs := [I (-1), I (-1)]) (by simp [globalsV]) rfl (by simp) (Steps.fin rfl (by simp) ?_))))
      have hmem := List.getElem_mem h2
      have eT : (h k).take (j + 1) = (h k).take j ++ [(h k)[j]] := by rw [List.take_add_one, List.getElem?_eq_getElem h2]; rfl
      obtain ⟨c, hc⟩ : ∃ c, (h k)[j] = c := ⟨_, rfl⟩
      rw [hc] at hmem eT ⊢
      rcases hr1.2 c hmem with rfl | hin
      · refine Tr.condF rfl (Tr.skip (Tr.regR rfl (by simp) ?_))
        exact ⟨j + 1, _, Wk.leL (.cons rfl (.refl _) (.cons rfl (.refl _) (.cons rfl (.refl _) (.cons rfl (.refl _) (.cons rfl (.refl _) (.cons rfl (.refl _) (.cons rfl (.refl _) (.cons rfl (.refl _) (.cons rfl (VLe.i (w64 (by omega) (by omega))) .nil))))))))) (.cons rfl (LLe.refl _) .nil) .nil rfl rfl (by rw [eT, ← List.append_assoc, countL_none]; rfl), ⟨by omega, rfl⟩, by omega⟩
      · obtain ⟨b, q, rfl, hbb, hq⟩ := inG_nat hL.g hin
        have hbl : b < rbs.length := by omega
        obtain ⟨P, hP⟩ : ∃ P, allH h k ++ (h k).take j = P := ⟨_, rfl⟩
        have hPl : P.length ≤ 300000 := by
          have h3 : ((h k).take j).length ≤ 4096 := by simp; omega
          rw [← hP, List.length_append]; omega
        obtain ⟨n0, hn0⟩ : ∃ n0, P.count ((b : Int), (q : Int)) = n0 := ⟨_, rfl⟩
        have hn1 : n0 ≤ 300000 := by rw [← hn0]; exact Nat.le_trans List.count_le_length hPl
        have hcl2 := countL_len L.g P
        have hrow := countL_get (P := P) hbb
        have hcell : ((cntRow L.g.cls.length P b).map I)[q]? = some (I n0) := by rw [List.getElem?_map, cntRow_get hq, hn0]; rfl
        have hrb : rbs[b]? = some rbs[b] := List.getElem?_eq_getElem hbl
        have hmA := arn_mem (rbs := rbs) hrb hrow
        rw [hP]
        refine Tr.condT rfl ?_
        refine Tr.drawK (TraceK.runN 4 rfl (by simp; omega) ?_)
        rw [getD_map hbl]
        refine TraceK.runN 3 rfl (by simp) (.done ⟨by kernel_rfl, by kernel_rfl, ?_⟩)
        refine Steps.sidx (blk := rbs[b]) (off := 0) (j := q) rfl rfl hq ?_
        refine Steps.aload hA (v := I n0) rfl rfl hmA (by simpa using hcell) (Steps.runN 1 rfl (by simp) ?_)
        refine Steps.sidx (blk := rbs[b]) (off := 0) (j := q) rfl rfl hq ?_
        refine Steps.astore hA rfl rfl hmA (by simp [cntRow_len]; omega) rfl rfl (Steps.fin rfl (by simp) ?_)
        have eL : setA (arn rbs (countL L.g P)) rbs[b] (.cells (((cntRow L.g.cls.length P b).map I).set (0 + q * 1) (I (IntKind.wrap .i64 ((n0 : Int) + 1))))) = arn rbs (countL L.g (P ++ [((b : Int), (q : Int))])) := by
          rw [countL_on hbb hq, hn0, w64 (by omega) (by omega), ← arn_set _ hnd (by rw [hcl2, hlen]) hrb, List.map_set, Nat.zero_add, Nat.mul_one]
        refine Tr.regR rfl (by simp) ?_
        exact ⟨j + 1, _, Wk.leL (.cons rfl (.refl _) (.cons rfl (.refl _) (.cons rfl (.refl _) (.cons rfl (.refl _) (.cons rfl (.refl _) (.cons rfl (.refl _) (.cons rfl (.refl _) (.cons rfl (.refl _) (.cons rfl (VLe.i (w64 (by omega) (by omega))) .nil))))))))) (.cons rfl (LLe.refl _) .nil) .nil rfl rfl (by rw [eT, ← List.append_assoc, hP, ← eL]; rfl), ⟨by omega, rfl⟩, by omega⟩
    · have h2 : j = (h k).length := by simp at h2; omega
      subst h2
      refine Tr.exit (Tr.regR rfl (by simp) ?_)
      exact ⟨k + 1, _, Wk.leL (.cons rfl (.refl _) (.cons rfl (.refl _) (.cons rfl (.refl _) (.cons rfl (.refl _) (.cons rfl (.refl _) (.cons rfl (VLe.i (w64 (by omega) (by omega))) .nil)))))) (.cons rfl (LLe.refl _) .nil) .nil rfl rfl (by rw [allH_succ, List.take_length]; rfl), ⟨by omega, rfl⟩, by omega⟩
  · have h1 : k = L.traces.length := by simp at h1; omega
    subst h1
    refine Tr.exit (Tr.seqR rfl (by simp) ?_)
    obtain ⟨s', w1, g1, g2, g3, g4⟩ := closeRows hA (t := 4) (m := L.g.cls.length) rbs (countL L.g (allH h L.traces.length)) [] { env := [(4, .slice 0 1 (srefs L.g.cls.length rbs))], bx := [], rw := [], log := encA (arn rbs (countL L.g (allH h L.traces.length))), stp := false } hnd (by rw [countL_len, hlen])
      (fun r hr => by obtain ⟨b, _, rfl⟩ := List.mem_map.1 hr; exact cntRow_len _ _ _) (by simp) rfl rfl
    have w2 := Wk.leL (E := (env0 Tryz.prog mixed 63 S ok).withA [] false) (s := s') (env := [(4, foldV (cntN L h))]) (bx := []) (rw := []) (.cons g1 (.of_eq rfl) .nil) .nil .nil rfl rfl g2
    refine Tr.weak (s' := { env := [(4, .slice 0 1 (srefs L.g.cls.length rbs))], bx := [], rw := [], log := encA (arn rbs (countL L.g (allH h L.traces.length))), stp := false }) (Wk.le (.cons rfl (.refl _) .nil) .nil .nil rfl rfl) ?_
    refine Tr.weak (w1.trans w2) ?_
    exact Tr.ret ⟨trivial, _, _, _, resVs_ok rfl, rfl, rfl⟩

end Go.Proofs.YtdejdblopmfjfaaGreatDoor


/-! Contracts: Hits, Fold. -/
set_option linter.unusedVariables false
set_option linter.unusedSimpArgs false
set_option maxRecDepth 40000
set_option maxHeartbeats 4000000
namespace Go.Proofs.YtdejdblopmfjfaaGreatDoor
open Go.Am
attribute [local simp] cells scalar mkv splice under2 under dem dem1 eB gridC sB laidC fourC eF layC
theorem mem_ptsN {x : Int} {q : Int × Int} : ∀ (n : Nat) (y : Int), q ∈ ptsN x n y ↔ q.1 = x ∧ y ≤ q.2 ∧ q.2 < y + n
  | 0, y => by simp [ptsN]
  | n + 1, y => by
    rw [ptsN, List.mem_cons, mem_ptsN n (y + 1)]
    constructor
    · rintro (rfl | ⟨h1, h2, h3⟩)
      · simp; omega
      · refine ⟨h1, ?_, ?_⟩ <;> push_cast <;> omega
    · rintro ⟨h1, h2, h3⟩
      push_cast at h3
      by_cases h : q.2 = y
      · exact .inl (Prod.ext h1 h)
      · exact .inr ⟨h1, by omega, by omega⟩

theorem mem_rowsN {f : Fr} {q : Int × Int} : ∀ (n : Nat) (x : Int), q ∈ (rowsN f n x).flatMap colP ↔ (x ≤ q.1 ∧ q.1 < x + n) ∧ lowY f q.1 ≤ q.2 ∧ q.2 ≤ highY f q.1
  | 0, x => by simp [rowsN]; omega
  | n + 1, x => by
    rw [rowsN_flat, List.mem_append, mem_rowsN n (x + 1)]
    unfold colAt
    rw [mem_ptsN]
    constructor
    · rintro (⟨h1, h2, h3⟩ | ⟨⟨h1, h2⟩, h3⟩)
      · subst h1
        refine ⟨⟨by omega, by push_cast; omega⟩, by omega, by omega⟩
      · exact ⟨⟨by omega, by push_cast; omega⟩, h3⟩
    · rintro ⟨⟨h1, h2⟩, h3, h4⟩
      push_cast at h2
      by_cases h : q.1 = x
      · subst h; exact .inl ⟨rfl, by omega, by omega⟩
      · exact .inr ⟨⟨by omega, by omega⟩, h3, h4⟩

theorem mem_placesL {f : Fr} {q : Int × Int} : q ∈ placesL f ↔ (f.x.1 ≤ q.1 ∧ q.1 ≤ f.x.2) ∧ lowY f q.1 ≤ q.2 ∧ q.2 ≤ highY f q.1 := by
  unfold placesL rowsL
  rw [mem_rowsN]
  constructor
  · rintro ⟨⟨h1, h2⟩, h3⟩; exact ⟨⟨h1, by omega⟩, h3⟩
  · rintro ⟨⟨h1, h2⟩, h3⟩; exact ⟨⟨h1, by omega⟩, h3⟩

theorem node_plane {f : Fr} (h : nodeOk f = true) {q : Int × Int} (hq : q ∈ placesL f) : planeB q = true := by
  simp only [nodeOk, Bool.and_eq_true, fitFB, fitBB, decide_eq_true_eq] at h
  have := mem_placesL.1 hq
  simp only [planeB, Bool.and_eq_true, btw_iff]
  unfold lowY highY at this
  omega

theorem lay_ok {g : Gd} {s : Ly} (hg : gridOk g = true) (hs : layOk s = true) : LdOk (layD g s) := by
  obtain ⟨⟨h1, h2⟩, h3, h4⟩ := layOk_spec hs
  refine ⟨hg, by simpa [layD] using h1, h2, fun l hl => ?_, fun t ht => ?_⟩
  · obtain ⟨f, hf, rfl⟩ := List.mem_map.1 hl
    have hn := h3 f hf
    have hn2 := hn
    simp only [nodeOk, Bool.and_eq_true, btw_iff] at hn2
    have := count_len (mid_of hn2.1)
    exact ⟨⟨by omega, by omega⟩, fun q hq => node_plane hn hq⟩
  · have := h4 t ht
    simp only [traceOk, Bool.and_eq_true, btw_iff] at this
    refine ⟨t.1.toNat, t.2.toNat, Prod.ext (by simp; omega) (by simp; omega), ?_, ?_⟩ <;> simp [layD] <;> omega

theorem hits_in {L : Ld} (hL : LdOk L) {t : Nat} (ht : t < L.traces.length) : (hitsT L t).length ≤ 4096 ∧ ∀ c ∈ hitsT L t, c = noneC ∨ inG L.g c := by
  obtain ⟨i, j, hij, hi, hj⟩ := hL.tr _ (List.getElem_mem ht)
  have hT : hitsT L t = hitsL L.g L.places[i] L.places[j] := by
    unfold hitsT pl
    have e : L.traces.getD t (0, 0) = ((i : Int), (j : Int)) := by simp [ht, hij]
    rw [e]
    simp [hi, hj]
  have hpi := (hL.p _ (List.getElem_mem hi)).1
  have hpj := (hL.p _ (List.getElem_mem hj)).1
  rw [hT]
  refine ⟨?_, fun c hc => ?_⟩
  · have n1 : (hitsL L.g L.places[i] L.places[j]).Nodup := by
      unfold List.Nodup hitsL
      exact (hitsOf_sorted _).imp fun {a b} h (e : a = b) => befC_irrefl (by rw [e] at h; exact h)
    have := n1.length_le_of_subset (l₂ := (pairsL L.places[i] L.places[j]).map (cellP L.g)) fun x hx => mem_hitsOf.1 hx
    rw [List.length_map, pairs_len] at this
    have h2 : L.places[i].length * L.places[j].length ≤ 64 * 64 := Nat.mul_le_mul (by omega) (by omega)
    omega
  · obtain ⟨p, _, rfl⟩ := List.mem_map.1 (mem_hitsOf.1 hc)
    exact cell_in hL.g p.1 p.2

theorem sureL_sub {l : List (Int × Int)} : (∀ c ∈ sureL l, c ∈ l ∧ c ≠ noneC) ∧ (sureL l).length ≤ l.length ∧ (sureL l).length ≤ 1 := by
  rcases l with _ | ⟨c, _ | ⟨d, r⟩⟩
  · simp [sureL]
  · simp only [sureL]
    split <;> simp_all
  · simp [sureL]

theorem sure_in {L : Ld} (hL : LdOk L) {t : Nat} (ht : t < L.traces.length) : (sureT L t).length ≤ 4096 ∧ ∀ c ∈ sureT L t, c = noneC ∨ inG L.g c := by
  obtain ⟨h1, h2⟩ := hits_in hL ht
  have h3 := sureL_sub (l := hitsT L t)
  exact ⟨by unfold sureT; omega, fun c hc => h2 c (h3.1 c hc).1⟩

theorem c_countS {L : Ld} (hL : LdOk L) : C Tryz.prog F.bin_laid_count [.agg (laidC L), .func (.func F.bin_laid_surely) [.agg (laidC L)] []] (foldV (cntN L (sureT L))) :=
  c_count hL (fun t ht => c_surely hL ht) fun t ht => sure_in hL ht
theorem c_countM {L : Ld} (hL : LdOk L) : C Tryz.prog F.bin_laid_count [.agg (laidC L), .func (.func F.bin_laid_hits) [.agg (laidC L)] []] (foldV (cntN L (hitsT L))) :=
  c_count hL (fun t ht => c_hits hL ht) fun t ht => hits_in hL ht

/-! ### Hits -/
def HitsR (g : Gd) (s : Ly) (t : Int) : V := if gridOk g then (if layOk s then (if btw t 0 ((s.traces.length : Int) - 1) then .tuple [sB (hitsT (layD g s) t.toNat), I 0] else .tuple [sB [], I 72]) else .tuple [sB [], I 71]) else .tuple [sB [], I 70]

theorem c_Hits {g : Gd} {s : Ly} (hl : g.cls.length ≤ 9223372036854775807) (hn : s.nodes.length ≤ 9223372036854775807) (ht : s.traces.length ≤ 9223372036854775807) (t : Int) : C Tryz.prog F.bin_Hits [.agg (gridC g), .agg (layC s), I t] (HitsR g s t) := by
  have kb := c_begun hl hn ht
  unfold HitsR
  refine C_of mixed chk.bin_Hits (by simp) fun S ok => ?_
  refine Tr.seqR rfl (by simp) ?_
  by_cases hg : gridOk g = true
  rotate_left
  · rw [if_neg hg] at kb ⊢
    refine Tr.seqC rfl (by simp) (Steps.call rfl rfl kb (Steps.fin rfl (by simp) (Tr.seq (Tr.seqR rfl (by simp) (Tr.condT rfl (Tr.seqR rfl (by simp) ?_))))))
    refine Tr.weak (s' := { env := [(6, .slice 0 2 []), (7, I 70)], bx := [], rw := [], log := [], stp := false }) (Wk.le (.cons rfl (.nil 0 2) (.cons rfl (.refl _) .nil)) .nil .nil rfl rfl) ?_
    exact Tr.retX rfl rfl rfl rfl trivial
  rw [if_pos hg] at kb ⊢
  by_cases hs : layOk s = true
  rotate_left
  · rw [if_neg hs] at kb ⊢
    refine Tr.seqC rfl (by simp) (Steps.call rfl rfl kb (Steps.fin rfl (by simp) (Tr.seq (Tr.seqR rfl (by simp) (Tr.condT rfl (Tr.seqR rfl (by simp) ?_))))))
    refine Tr.weak (s' := { env := [(6, .slice 0 2 []), (7, I 71)], bx := [], rw := [], log := [], stp := false }) (Wk.le (.cons rfl (.nil 0 2) (.cons rfl (.refl _) .nil)) .nil .nil rfl rfl) ?_
    exact Tr.retX rfl rfl rfl rfl trivial
  rw [if_pos hs] at kb ⊢
  have hL := lay_ok hg hs
  have hts := (layOk_spec hs).1.2
  have hw : IntKind.wrap .i64 (((s.traces.map eB).length : Int) - 1) = (s.traces.length : Int) - 1 := by rw [List.length_map, w64 (by omega) (by omega)]
  refine Tr.seqC rfl (by simp) (Steps.call rfl rfl kb (Steps.fin rfl (by simp [laidC]) (Tr.seq (Tr.seqR rfl (by simp) (Tr.condF rfl (Tr.skip ?_))))))
  refine Tr.seq (Tr.seqC rfl (by simp) (Steps.call rfl rfl (c_within t 0 (IntKind.wrap .i64 (((s.traces.map eB).length : Int) - 1))) (Steps.fin rfl (by simp) ?_)))
  rw [hw]
  refine Tr.cond rfl rfl (fun h1 => Tr.seqR rfl (by simp) ?_) (fun h1 => Tr.skip ?_)
  · have h1 : btw t 0 ((s.traces.length : Int) - 1) = false := by simpa using h1
    refine Tr.weak (s' := { env := [(6, .slice 0 2 []), (7, I 72)], bx := [], rw := [], log := [], stp := false }) (Wk.le (.cons rfl (.nil 0 2) (.cons rfl (.refl _) .nil)) .nil .nil rfl rfl) ?_
    refine Tr.retX rfl rfl rfl ?_ trivial
    rw [h1]; rfl
  · have h1 : btw t 0 ((s.traces.length : Int) - 1) = true := by simpa using h1
    have h1' := h1
    rw [btw_iff] at h1'
    obtain ⟨n, rfl⟩ : ∃ n : Nat, t = n := ⟨t.toNat, by omega⟩
    refine Tr.seqC rfl (by simp [laidC, layD]) (Steps.call rfl rfl (c_hits hL (t := n) (by show n < s.traces.length; omega)) (Steps.fin rfl (by simp) (Tr.retX rfl rfl rfl ?_ trivial)))
    rw [h1]; rfl

/-! ### Fold -/
def FoldR (g : Gd) (s : Ly) : V := if gridOk g then (if layOk s then .tuple [foldV (cntN (layD g s) (sureT (layD g s))), foldV (cntN (layD g s) (hitsT (layD g s))), I 0] else .tuple [foldV [], foldV [], I 71]) else .tuple [foldV [], foldV [], I 70]

theorem c_Fold {g : Gd} {s : Ly} (hl : g.cls.length ≤ 9223372036854775807) (hn : s.nodes.length ≤ 9223372036854775807) (ht : s.traces.length ≤ 9223372036854775807) : C Tryz.prog F.bin_Fold [.agg (gridC g), .agg (layC s)] (FoldR g s) := by
  have kb := c_begun hl hn ht
  unfold FoldR
  refine C_of mixed chk.bin_Fold (by simp) fun S ok => ?_
  refine Tr.seqR rfl (by simp) ?_
  by_cases hg : gridOk g = true
  rotate_left
  · rw [if_neg hg] at kb ⊢
    refine Tr.seqC rfl (by simp) (Steps.call rfl rfl kb (Steps.fin rfl (by simp) (Tr.seq (Tr.seqR rfl (by simp) (Tr.condT rfl (Tr.seqR rfl (by simp) ?_))))))
    refine Tr.weak (s' := { env := [(4, .slice 0 1 []), (5, .slice 0 1 []), (6, I 70)], bx := [], rw := [], log := [], stp := false }) (Wk.le (.cons rfl (.nil 0 1) (.cons rfl (.nil 0 1) (.cons rfl (.refl _) .nil))) .nil .nil rfl rfl) ?_
    exact Tr.retX rfl rfl rfl rfl trivial
  rw [if_pos hg] at kb ⊢
  by_cases hs : layOk s = true
  rotate_left
  · rw [if_neg hs] at kb ⊢
    refine Tr.seqC rfl (by simp) (Steps.call rfl rfl kb (Steps.fin rfl (by simp) (Tr.seq (Tr.seqR rfl (by simp) (Tr.condT rfl (Tr.seqR rfl (by simp) ?_))))))
    refine Tr.weak (s' := { env := [(4, .slice 0 1 []), (5, .slice 0 1 []), (6, I 71)], bx := [], rw := [], log := [], stp := false }) (Wk.le (.cons rfl (.nil 0 1) (.cons rfl (.nil 0 1) (.cons rfl (.refl _) .nil))) .nil .nil rfl rfl) ?_
    exact Tr.retX rfl rfl rfl rfl trivial
  rw [if_pos hs] at kb ⊢
  have hL := lay_ok hg hs
  refine Tr.seqC rfl (by simp) (Steps.call rfl rfl kb (Steps.fin rfl (by simp [laidC]) (Tr.seq (Tr.seqR rfl (by simp) (Tr.condF rfl (Tr.skip ?_))))))
  refine Tr.seqD rfl (by simp [laidC, layD]) (by kernel_rfl) ?_
  refine Tr.seq (Tr.drawK (TraceK.run rfl (by simp [laidC, layD]) (TraceK.call rfl rfl (c_countS hL) (TraceK.run rfl (by simp [laidC, layD]) (TraceK.call rfl rfl (c_countM hL) (TraceK.run rfl (by simp) (.done ⟨by kernel_rfl, by kernel_rfl, ?_⟩)))))))
  exact Tr.retX rfl rfl rfl rfl trivial

end Go.Proofs.YtdejdblopmfjfaaGreatDoor


/-! Contracts: lacks, Lacks. -/
set_option linter.unusedVariables false
set_option linter.unusedSimpArgs false
set_option maxRecDepth 40000
set_option maxHeartbeats 4000000
namespace Go.Proofs.YtdejdblopmfjfaaGreatDoor
open Go.Am
attribute [local simp] cells scalar mkv splice under2 under dem dem1 eB gridC sB laidC fourC eF layC
def eL (x : Int × Int × Int) : V := .agg [I x.1, I x.2.1, I x.2.2]
attribute [local simp] eL
def lackAt (ns : List Int) (f : List (List Int)) (i k : Nat) : List (Int × Int × Int) := if at2 f i k < ns.getD k 0 then [((i : Int), (k : Int), ns.getD k 0 - at2 f i k)] else []
def lackRow (ns : List Int) (f : List (List Int)) (i j : Nat) : List (Int × Int × Int) := (List.range j).flatMap (lackAt ns f i)
def lackN (ns : List Int) (f : List (List Int)) (k : Nat) : List (Int × Int × Int) := (List.range k).flatMap fun i => lackRow ns f i ns.length
def lacksL (L : Ld) (ns : List Int) : List (Int × Int × Int) := lackN ns (cntN L (sureT L)) (cntN L (sureT L)).length
def sL (l : List (Int × Int × Int)) : V := .slice 0 3 (l.map eL)
attribute [local simp] sL
theorem lackRow_succ (ns : List Int) (f : List (List Int)) (i j : Nat) : lackRow ns f i (j + 1) = lackRow ns f i j ++ lackAt ns f i j := by
  unfold lackRow; rw [List.range_succ, List.flatMap_append]; simp
theorem lackN_succ (ns : List Int) (f : List (List Int)) (k : Nat) : lackN ns f (k + 1) = lackN ns f k ++ lackRow ns f k ns.length := by
  unfold lackN; rw [List.range_succ, List.flatMap_append]; simp
theorem lackRow_len (ns : List Int) (f : List (List Int)) (i : Nat) : ∀ j, (lackRow ns f i j).length ≤ j
  | 0 => by simp [lackRow]
  | j + 1 => by
    have := lackRow_len ns f i j
    have h2 : (lackAt ns f i j).length ≤ 1 := by unfold lackAt; split <;> simp
    rw [lackRow_succ, List.length_append]; omega
theorem lackN_len (ns : List Int) (f : List (List Int)) : ∀ k, (lackN ns f k).length ≤ k * ns.length
  | 0 => by simp [lackN]
  | k + 1 => by
    have := lackN_len ns f k
    have h2 := lackRow_len ns f k ns.length
    rw [lackN_succ, List.length_append, Nat.add_mul]; omega

theorem at2_get {f : List (List Int)} {i k : Nat} (h : i < f.length) (h2 : k < f[i].length) : at2 f i k = f[i][k] := by
  unfold at2; simp [h, h2]
theorem cntN_nat (L : Ld) (h : Nat → List (Int × Int)) (i k : Nat) : ∃ n : Nat, at2 (cntN L h) i k = n := by
  unfold at2 cntN
  simp only [List.getD_eq_getElem?_getD]
  by_cases hi : i < nBins L.g
  · rw [countL_get hi, Option.getD_some]
    by_cases hk : k < L.g.cls.length
    · rw [cntRow_get hk]; exact ⟨_, rfl⟩
    · rw [List.getElem?_eq_none (by rw [cntRow_len]; omega)]; exact ⟨0, rfl⟩
  · rw [List.getElem?_eq_none (l := countL L.g (allH h L.traces.length)) (by rw [countL_len]; omega)]; exact ⟨0, rfl⟩
theorem cntN_len (L : Ld) (h : Nat → List (Int × Int)) : (cntN L h).length = nBins L.g := countL_len _ _
theorem cntN_row {L : Ld} {h : Nat → List (Int × Int)} {i : Nat} (hi : i < (cntN L h).length) : ((cntN L h)[i]).length = L.g.cls.length := by
  have h1 : i < nBins L.g := by rw [cntN_len] at hi; exact hi
  have h2 : (cntN L h)[i]? = some (cntRow L.g.cls.length (allH h L.traces.length) i) := countL_get h1
  rw [List.getElem?_eq_getElem hi] at h2
  rw [Option.some.inj h2, cntRow_len]

theorem needOk_spec {g : Gd} {ns : List Int} (h : needOk g ns = true) : ns.length = g.cls.length ∧ ∀ n ∈ ns, 0 ≤ n ∧ n ≤ 100 := by
  simp only [needOk, Bool.and_eq_true, decide_eq_true_eq, Bool.not_eq_true', List.any_eq_false, Bool.not_eq_true, Bool.not_eq_false', btw_iff] at h
  exact ⟨h.1, fun n hn => by have := h.2 n hn; simpa [btw_iff] using this⟩

theorem c_lacks {L : Ld} (hL : LdOk L) {ns : List Int} (hn : needOk L.g ns = true) : C Tryz.prog F.bin_laid_lacks [.agg (laidC L), intsV ns] (sL (lacksL L ns)) := by
  obtain ⟨hnl, hnb⟩ := needOk_spec hn
  obtain ⟨_, hsz, hga, hgd, hcl, _⟩ := gridOk_spec hL.g
  have nb := nBins_eq hL.g
  have kc := c_countS hL
  have hat := cntN_nat L (sureT L)
  have hfl := cntN_len L (sureT L)
  have hfr := fun i hi => cntN_row (L := L) (h := sureT L) (i := i) hi
  unfold lacksL
  generalize cntN L (sureT L) = f at kc hat hfl hfr ⊢
  refine C_of mixed chk.bin_laid_lacks (by simp) fun S ok => ?_
  refine Tr.seqR rfl (by simp [laidC]) (Tr.seqR rfl (by simp) ?_)
  refine Tr.seq (Tr.seqC rfl (by simp [laidC]) (Steps.call rfl rfl kc (Steps.fin rfl (by simp [foldV]) (Tr.block ?_))))
  refine Tr.loop (α := Nat × List (Int × Int × Int)) (fun p st => (p.1 ≤ f.length ∧ p.2 = lackN ns f p.1) ∧ st = { env := [(1, intsV ns), (5, .slice 45 3 (p.2.map eL)), (13, foldV f), (14, I (f.length : Nat)), (15, I (p.1 : Nat))], bx := [], rw := [(44, p.2.length, 3, 117)], log := [], stp := false }) (fun p => f.length - p.1) (0, [])
    (Wk.le (.cons rfl (.refl _) (.cons rfl (.nil 45 3) (.cons rfl (.refl _) (.cons rfl (VLe.i (by simp)) (.cons rfl (.refl _) .nil))))) .nil (.new rfl .nil) rfl rfl) ⟨⟨by omega, rfl⟩, rfl⟩ ?_
  rintro ⟨i, out⟩ st ⟨⟨hi, ho⟩, rfl⟩
  simp only at hi ho
  refine Tr.seqR rfl (by simp) (Tr.seqI rfl (fun h1 => ?_) (fun h1 => ?_))
  · have h1 : i < f.length := by simpa using h1
    have hri := hfr i h1
    refine Tr.skipT (Tr.seq (Tr.block (Tr.seq (Tr.reg (Steps.runN 2 rfl (by simp [foldV]; omega) ?_)))))
    rw [getD_map h1]
    refine Steps.fin rfl (by simp [intsV]) ?_
    refine Tr.seqR rfl (by simp [intsV]) (Tr.block ?_)
    refine Tr.loop (α := Nat × List (Int × Int × Int)) (fun p st => (p.1 ≤ f[i].length ∧ p.2 = lackN ns f i ++ lackRow ns f i p.1) ∧ st = { env := [(1, intsV ns), (5, .slice 45 3 (p.2.map eL)), (6, I (i : Nat)), (13, foldV f), (14, I (f.length : Nat)), (15, I (i : Nat)), (20, intsV f[i]), (21, I (f[i].length : Nat)), (22, I (p.1 : Nat))], bx := [], rw := [(44, p.2.length, 3, 117)], log := [], stp := false }) (fun p => f[i].length - p.1) (0, out)
      (Wk.le (.cons rfl (.refl _) (.cons rfl (.refl _) (.cons rfl (.refl _) (.cons rfl (.refl _) (.cons rfl (.refl _) (.cons rfl (.refl _) (.cons rfl (.refl _) (.cons rfl (VLe.i (by show ((f[i].map I).length : Int) = (f[i].length : Int); rw [List.length_map])) (.cons rfl (.refl _) .nil))))))))) .nil (.cons rfl .nil) rfl rfl) ⟨⟨by omega, by simp [lackRow, ho]⟩, rfl⟩ ?_
    rintro ⟨j, o2⟩ st ⟨⟨hj, ho2⟩, rfl⟩
    simp only at hj ho2
    refine Tr.seqR rfl (by simp) (Tr.seqI rfl (fun h2 => ?_) (fun h2 => ?_))
    · have h2 : j < f[i].length := by simpa using h2
      have h3 : j < ns.length := by omega
      have hlen : o2.length ≤ 2000 := by
        have e1 := lackN_len ns f i
        have e2 := lackRow_len ns f i j
        have e3 : i * ns.length ≤ 256 * 4 := Nat.mul_le_mul (by omega) (by omega)
        rw [ho2, List.length_append]; omega
      obtain ⟨m, hm⟩ := hat i j
      have hm2 := hm
      rw [at2_get h1 h2] at hm
      have hnj := hnb _ (List.getElem_mem h3)
      have hgd : ns.getD j 0 = ns[j] := by simp [h3]
      refine Tr.skipT (Tr.seq (Tr.block (Tr.seq (Tr.reg (Steps.runN 2 rfl (by simp [intsV]; omega) ?_)))))
      rw [getD_map h2, hm]
      refine Steps.fin rfl (by simp) ?_
      refine Tr.seq (Tr.reg (Steps.runN 4 rfl (by simp [intsV]; omega) ?_))
      rw [getD_map h3]
      refine Steps.fin rfl (by simp) (Tr.cond rfl rfl (fun h4 => ?_) (fun h4 => Tr.skip ?_))
      · have h4 : (m : Int) < ns[j] := by simpa using h4
        refine Tr.reg (Steps.runN 6 rfl (by simp [intsV]; omega) ?_)
        rw [getD_map h3]
        refine Steps.fin rfl (by simp; omega) (Tr.regR rfl (by simp) ?_)
        have eA : lackRow ns f i (j + 1) = lackRow ns f i j ++ [((i : Int), (j : Int), ns[j] - m)] := by
          rw [lackRow_succ]; unfold lackAt; rw [hm2, hgd, if_pos h4]
        have ew : IntKind.wrap .i64 (ns[j] - m) = ns[j] - m := w64 (by omega) (by omega)
        refine ⟨(j + 1, o2 ++ [((i : Int), (j : Int), ns[j] - m)]), _, Wk.le (.cons rfl (.refl _) (.cons rfl (.of_eq ?_) (.cons rfl (.refl _) (.cons rfl (.refl _) (.cons rfl (.refl _) (.cons rfl (.refl _) (.cons rfl (.refl _) (.cons rfl (.refl _) (.cons rfl (VLe.i (w64 (by omega) (by omega))) .nil))))))))) .nil (.cons ?_ .nil) rfl rfl, ⟨⟨by simp only; omega, by simp only; rw [eA, ho2, List.append_assoc]⟩, rfl⟩, by simp only; omega⟩
        · simp [ew]
        · show some _ = some _
          simp
      · have h4 : ¬ (m : Int) < ns[j] := by simpa using h4
        refine Tr.regR rfl (by simp) ?_
        have eA : lackRow ns f i (j + 1) = lackRow ns f i j := by
          rw [lackRow_succ]; unfold lackAt; rw [hm2, hgd, if_neg h4, List.append_nil]
        exact ⟨(j + 1, o2), _, Wk.le (.cons rfl (.refl _) (.cons rfl (.refl _) (.cons rfl (.refl _) (.cons rfl (.refl _) (.cons rfl (.refl _) (.cons rfl (.refl _) (.cons rfl (.refl _) (.cons rfl (.refl _) (.cons rfl (VLe.i (w64 (by omega) (by omega))) .nil))))))))) .nil (.cons rfl .nil) rfl rfl, ⟨⟨by simp only; omega, by simp only; rw [eA, ho2]⟩, rfl⟩, by simp only; omega⟩
    · have h2 : j = f[i].length := by simp at h2; omega
      refine Tr.exit (Tr.regR rfl (by simp) ?_)
      exact ⟨(i + 1, o2), _, Wk.le (.cons rfl (.refl _) (.cons rfl (.refl _) (.cons rfl (.refl _) (.cons rfl (.refl _) (.cons rfl (VLe.i (w64 (by omega) (by omega))) .nil))))) .nil (.cons rfl .nil) rfl rfl, ⟨⟨by simp only; omega, by simp only; rw [ho2, lackN_succ, h2, hri, hnl]⟩, rfl⟩, by simp only; omega⟩
  · have h1 : i = f.length := by simp at h1; omega
    refine Tr.exit (Tr.seqR rfl (by simp) (Tr.retX rfl rfl rfl ?_ trivial))
    rw [← h1, ← ho]; rfl

def LacksR (g : Gd) (s : Ly) (ns : List Int) : V := if gridOk g then (if layOk s then (if needOk g ns then .tuple [sL (lacksL (layD g s) ns), I 0] else .tuple [sL [], I 73]) else .tuple [sL [], I 71]) else .tuple [sL [], I 70]

theorem c_Lacks {g : Gd} {s : Ly} (hl : g.cls.length ≤ 9223372036854775807) (hn : s.nodes.length ≤ 9223372036854775807) (ht : s.traces.length ≤ 9223372036854775807) {ns : List Int} (hns : ns.length ≤ 9223372036854775807) : C Tryz.prog F.bin_Lacks [.agg (gridC g), .agg (layC s), intsV ns] (LacksR g s ns) := by
  have kb := c_begun hl hn ht
  unfold LacksR
  refine C_of mixed chk.bin_Lacks (by simp) fun S ok => ?_
  refine Tr.seqR rfl (by simp) ?_
  by_cases hg : gridOk g = true
  rotate_left
  · rw [if_neg hg] at kb ⊢
    refine Tr.seqC rfl (by simp) (Steps.call rfl rfl kb (Steps.fin rfl (by simp) (Tr.seq (Tr.seqR rfl (by simp) (Tr.condT rfl (Tr.seqR rfl (by simp) ?_))))))
    refine Tr.weak (s' := { env := [(6, .slice 0 3 []), (7, I 70)], bx := [], rw := [], log := [], stp := false }) (Wk.le (.cons rfl (.nil 0 3) (.cons rfl (.refl _) .nil)) .nil .nil rfl rfl) ?_
    exact Tr.retX rfl rfl rfl rfl trivial
  rw [if_pos hg] at kb ⊢
  by_cases hs : layOk s = true
  rotate_left
  · rw [if_neg hs] at kb ⊢
    refine Tr.seqC rfl (by simp) (Steps.call rfl rfl kb (Steps.fin rfl (by simp) (Tr.seq (Tr.seqR rfl (by simp) (Tr.condT rfl (Tr.seqR rfl (by simp) ?_))))))
    refine Tr.weak (s' := { env := [(6, .slice 0 3 []), (7, I 71)], bx := [], rw := [], log := [], stp := false }) (Wk.le (.cons rfl (.nil 0 3) (.cons rfl (.refl _) .nil)) .nil .nil rfl rfl) ?_
    exact Tr.retX rfl rfl rfl rfl trivial
  rw [if_pos hs] at kb ⊢
  have hL := lay_ok hg hs
  refine Tr.seqC rfl (by simp) (Steps.call rfl rfl kb (Steps.fin rfl (by simp [laidC]) (Tr.seq (Tr.seqR rfl (by simp) (Tr.condF rfl (Tr.skip ?_))))))
  refine Tr.seq (Tr.seqC rfl (by simp) (Steps.call rfl rfl (c_needed (g := g) hns) (Steps.fin rfl (by simp) ?_)))
  refine Tr.cond rfl rfl (fun h1 => Tr.seqR rfl (by simp) ?_) (fun h1 => Tr.skip ?_)
  · have h1 : needOk g ns = false := by simpa using h1
    refine Tr.weak (s' := { env := [(6, .slice 0 3 []), (7, I 73)], bx := [], rw := [], log := [], stp := false }) (Wk.le (.cons rfl (.nil 0 3) (.cons rfl (.refl _) .nil)) .nil .nil rfl rfl) ?_
    refine Tr.retX rfl rfl rfl ?_ trivial
    rw [h1]; rfl
  · have h1 : needOk g ns = true := by simpa using h1
    refine Tr.seqC rfl (by simp [laidC, layD]) (Steps.call rfl rfl (c_lacks hL h1) (Steps.fin rfl (by simp) (Tr.retX rfl rfl rfl ?_ trivial)))
    rw [h1]; rfl

end Go.Proofs.YtdejdblopmfjfaaGreatDoor


/-! Contracts: sure, Gain. -/
set_option linter.unusedVariables false
set_option linter.unusedSimpArgs false
set_option maxRecDepth 40000
set_option maxHeartbeats 4000000
namespace Go.Proofs.YtdejdblopmfjfaaGreatDoor
open Go.Am
attribute [local simp] cells scalar mkv splice under2 under dem dem1 eB gridC sB laidC fourC eF layC
def sureC (L : Ld) : Nat := (allH (sureT L) L.traces.length).length
def knownL (L : Ld) (i : Nat) (p : Int × Int) : Ld := { L with places := L.places.set i [p] }
def leastStep (acc n : Int) : Int := if acc < 0 ∨ n < acc then n else acc
def leastL (l : List Int) : Int := l.foldl leastStep (-1)
def gainL (L : Ld) (i : Nat) : Int := leastL ((pl L i).map fun p => (sureC (knownL L i p) : Int)) - sureC L

theorem sure_bd {L : Ld} (hn : L.traces.length ≤ 64) : ∀ k ≤ L.traces.length, (allH (sureT L) k).length ≤ k
  | 0, _ => by simp [allH]
  | k + 1, hk => by
    have := sure_bd hn k (by omega)
    have h2 := (sureL_sub (l := hitsT L k)).2.2
    rw [allH_succ, List.length_append]
    unfold sureT at *; omega

theorem c_sure {L : Ld} (hL : LdOk L) : C Tryz.prog F.bin_laid_sure [.agg (laidC L)] (I (sureC L : Nat)) := by
  have hLt := hL.t
  refine C_of mixed chk.bin_laid_sure (by simp) fun S ok => ?_
  refine Tr.seqR rfl (by simp) (Tr.seqR rfl (by simp) (Tr.seq (Tr.seqR rfl (by simp) (Tr.block ?_))))
  refine Tr.loop (fun (k : Nat) st => k ≤ L.traces.length ∧ st = { env := [(1, .ptr 1 0), (3, I ((allH (sureT L) k).length : Nat)), (6, sB L.traces), (7, I (L.traces.length : Nat)), (8, I (k : Nat))], bx := [(1, ⟨laidC L, false⟩)], rw := [], log := [], stp := false }) (fun k => L.traces.length - k) 0
    (Wk.le (.cons rfl (.refl _) (.cons rfl (.refl _) (.cons rfl (.refl _) (.cons rfl (VLe.i (by simp)) (.cons rfl (.refl _) .nil))))) (.cons rfl (LLe.refl _) .nil) .nil rfl rfl) ⟨by omega, rfl⟩ ?_
  rintro k st ⟨hk, rfl⟩
  refine Tr.seqR rfl (by simp) (Tr.seqI rfl (fun h1 => ?_) (fun h1 => ?_))
  · have h1 : k < L.traces.length := by simpa using h1
    have hb := sure_bd hLt k hk
    have hb2 : (sureT L k).length ≤ 1 := (sureL_sub (l := hitsT L k)).2.2
    refine Tr.skipT (Tr.seq (Tr.block (Tr.seqR rfl (by simp) (Tr.reg (Steps.run rfl (by simp [laidC]) (Steps.call rfl rfl (c_surely hL h1) (Steps.fin rfl (by simp) ?_)))))))
    refine Tr.regR rfl (by simp) ?_
    refine ⟨k + 1, _, Wk.le (.cons rfl (.refl _) (.cons rfl (VLe.i ?_) (.cons rfl (.refl _) (.cons rfl (.refl _) (.cons rfl (VLe.i (w64 (by omega) (by omega))) .nil))))) (.cons rfl (LLe.refl _) .nil) .nil rfl rfl, ⟨by omega, rfl⟩, by omega⟩
    show IntKind.wrap .i64 (((allH (sureT L) k).length : Int) + (((sureT L k).map eB).length : Int)) = _
    rw [List.length_map, allH_succ, List.length_append, w64 (by omega) (by omega)]
    push_cast; rfl
  · have h1 : k = L.traces.length := by simp at h1; omega
    subst h1
    exact Tr.exit (Tr.seqR rfl (by simp) (Tr.retX rfl rfl rfl rfl trivial))

theorem flat_sB : ∀ (ls : List (List (Int × Int))), (ls.map sB).flatMap cells = ls.map sB
  | [] => rfl
  | l :: ls => by rw [List.map_cons, List.flatMap_cons, flat_sB ls]; rfl

theorem c_CloneP {ls : List (List (Int × Int))} (hne : ls ≠ []) (hl : ls.length ≤ 2 ^ 24) : CO Tryz.prog F.slices_Clone_api_Point_api_Point [.slice 0 1 (ls.map sB)] 1 (ls.map sB) := by
  refine CO_of mixed chk.slices_Clone_api_Point_api_Point (by simp) fun S ok => ?_
  refine Tr.seqR rfl (by simp) (Tr.seq (Tr.seq (Tr.reg (Steps.runN 1 rfl (by simp) ?_))))
  refine Steps.nilS rfl fun b hb => ?_
  obtain rfl := hb (by simpa using hne)
  refine Steps.fin rfl (by simp) (Tr.condF rfl (Tr.skip (Tr.seq (Tr.reg ?_))))
  refine Steps.mkE rfl fun blk => Steps.runN 1 rfl (by simp) ?_
  refine Steps.appendE (r := 0) (sz := 1) (ys := ls.map sB) rfl rfl (by omega) (by simp; omega) (by simp; omega) (by simpa using hne) ?_
  refine Steps.fin rfl (by simp) (Tr.ret ?_)
  exact ⟨7, rfl, rfl, by rw [flat_sB, List.all_eq_true]; intro x hx; obtain ⟨_, _, rfl⟩ := List.mem_map.1 hx; rfl⟩

theorem known_ok {L : Ld} (hL : LdOk L) {i : Nat} {p : Int × Int} (hp : planeB p = true) : LdOk (knownL L i p) := by
  refine ⟨hL.g, by simpa [knownL] using hL.n, hL.t, fun l hl => ?_, fun t ht => ?_⟩
  · rcases List.mem_or_eq_of_mem_set hl with hl | rfl
    · exact hL.p l hl
    · exact ⟨⟨by simp, by simp⟩, fun q hq => by rw [List.mem_singleton.1 hq]; exact hp⟩
  · obtain ⟨a, b, h1, h2, h3⟩ := hL.tr t ht
    exact ⟨a, b, h1, by simpa [knownL] using h2, by simpa [knownL] using h3⟩

theorem LLe.set {v u : V} (h : VLe v u) : ∀ (l : List V) (i : Nat), LLe (l.set i v) (l.set i u)
  | [], _ => .nil
  | a :: l, 0 => .cons h (LLe.refl l)
  | a :: l, i + 1 => .cons (.refl a) (LLe.set h l i)

theorem sBs_refs (ls : List (List (Int × Int))) (B : Nat → Bool) (R : Nat → Option (Nat × Nat × Nat)) : (ls.map sB).all (refsOk B R 6) = true := by
  rw [List.all_eq_true]
  intro x hx
  obtain ⟨_, _, rfl⟩ := List.mem_map.1 hx; rfl

theorem okSBs {j : Nat} {ls : List (List (Int × Int))} {env : List (Nat × V)} {bx : List (Nat × Box)} {rw : List (Nat × Nat × Nat × Nat)} (h : okRefs env ((j, ⟨[], false⟩) :: bx) rw = true) : okRefs env ((j, ⟨ls.map sB, false⟩) :: bx) rw = true := by
  have e : hasKey ((j, (⟨ls.map sB, false⟩ : Box)) :: bx) = hasKey ((j, (⟨[], false⟩ : Box)) :: bx) := rfl
  unfold okRefs at h ⊢
  rw [e]
  rw [Bool.and_eq_true] at h ⊢
  refine ⟨h.1, ?_⟩
  have h2 := h.2
  rw [List.all_cons, Bool.and_eq_true] at h2 ⊢
  exact ⟨sBs_refs _ _ _, h2.2⟩

theorem sBs_holds (ls : List (List (Int × Int))) : Holds (ls.map sB) 0 1 ls.length (ls.map sB) := by
  refine ⟨by omega, by simp, fun x hx => ?_, ?_, fun x hx => ?_⟩
  · obtain ⟨_, _, rfl⟩ := List.mem_map.1 hx; rfl
  · rw [flat_sB, List.drop_zero, Nat.mul_one, List.take_of_length_le (by simp)]
  · obtain ⟨_, _, rfl⟩ := List.mem_map.1 hx; rfl

def GainR (g : Gd) (s : Ly) (i : Int) : V := if gridOk g then (if layOk s then (if btw i 0 ((s.nodes.length : Int) - 1) then .tuple [I (gainL (layD g s) i.toNat), I 0] else .tuple [I 0, I 72]) else .tuple [I 0, I 71]) else .tuple [I 0, I 70]

theorem c_Gain {g : Gd} {s : Ly} (hl : g.cls.length ≤ 9223372036854775807) (hn : s.nodes.length ≤ 9223372036854775807) (ht : s.traces.length ≤ 9223372036854775807) (i : Int) : C Tryz.prog F.bin_Gain [.agg (gridC g), .agg (layC s), I i] (GainR g s i) := by
  have kb := c_begun hl hn ht
  unfold GainR
  refine C_of mixed chk.bin_Gain (by simp) fun S ok => ?_
  refine Tr.seqR rfl (by simp) ?_
  by_cases hg : gridOk g = true
  rotate_left
  · rw [if_neg hg] at kb ⊢
    refine Tr.seqC rfl (by simp) (Steps.call rfl rfl kb (Steps.fin rfl (by simp) (Tr.seq (Tr.seqR rfl (by simp) (Tr.condT rfl (Tr.seqR rfl (by simp) ?_))))))
    exact Tr.retX rfl rfl rfl rfl trivial
  rw [if_pos hg] at kb ⊢
  by_cases hs : layOk s = true
  rotate_left
  · rw [if_neg hs] at kb ⊢
    refine Tr.seqC rfl (by simp) (Steps.call rfl rfl kb (Steps.fin rfl (by simp) (Tr.seq (Tr.seqR rfl (by simp) (Tr.condT rfl (Tr.seqR rfl (by simp) ?_))))))
    exact Tr.retX rfl rfl rfl rfl trivial
  rw [if_pos hs] at kb ⊢
  have hL := lay_ok hg hs
  have hns := (layOk_spec hs).1.1
  have hw : IntKind.wrap .i64 (((s.nodes.map eF).length : Int) - 1) = (s.nodes.length : Int) - 1 := by rw [List.length_map, w64 (by omega) (by omega)]
  refine Tr.seqC rfl (by simp) (Steps.call rfl rfl kb (Steps.fin rfl (by simp [laidC]) (Tr.seq (Tr.seqR rfl (by simp) (Tr.condF rfl (Tr.skip ?_))))))
  refine Tr.seq (Tr.seqC rfl (by simp) (Steps.call rfl rfl (c_within i 0 (IntKind.wrap .i64 (((s.nodes.map eF).length : Int) - 1))) (Steps.fin rfl (by simp) ?_)))
  rw [hw]
  refine Tr.cond rfl rfl (fun h1 => Tr.seqR rfl (by simp) ?_) (fun h1 => Tr.skip ?_)
  · have h1 : btw i 0 ((s.nodes.length : Int) - 1) = false := by simpa using h1
    refine Tr.retX rfl rfl rfl ?_ trivial
    rw [h1]; rfl
  have h1 : btw i 0 ((s.nodes.length : Int) - 1) = true := by simpa using h1
  have h1' := h1
  rw [btw_iff] at h1'
  obtain ⟨n, rfl⟩ : ∃ n : Nat, i = n := ⟨i.toNat, by omega⟩
  rw [if_pos h1, Int.toNat_natCast]
  have hLn : n < (layD g s).places.length := by simp [layD]; omega
  obtain ⟨L, eL0⟩ : ∃ L, layD g s = L := ⟨_, rfl⟩
  rw [eL0] at hL hLn ⊢
  have hne : L.places ≠ [] := fun e => by rw [e] at hLn; simp at hLn
  have hLm := hL.n
  have hpl : pl L n = L.places[n] := by unfold pl; simp [hLn]
  have hpn := hL.p _ (List.getElem_mem hLn)
  have hLt := hL.t
  refine Tr.seqC rfl (by simp [laidC]) (Steps.call rfl rfl (c_sure hL) (Steps.fin rfl (by simp) ?_))
  refine Tr.seqR rfl (by simp) ?_
  refine Tr.seq (Tr.seq (Tr.reg (Steps.runN 4 rfl (by simp [laidC]; omega) ?_)))
  rw [getD_map hLn]
  refine Steps.fin rfl (by simp) (Tr.block ?_)
  unfold gainL leastL
  rw [hpl]
  obtain ⟨ps, hps⟩ : ∃ ps, L.places[n] = ps := ⟨_, rfl⟩
  rw [hps] at hpn ⊢
  obtain ⟨fs, hfs⟩ : ∃ fs : List Int, ps.map (fun p => (sureC (knownL L n p) : Int)) = fs := ⟨_, rfl⟩
  have hfl : fs.length = ps.length := by rw [← hfs, List.length_map]
  rw [hfs]
  refine Tr.loop (fun (k : Nat) st => (k ≤ ps.length ∧ -1 ≤ (fs.take k).foldl leastStep (-1) ∧ (fs.take k).foldl leastStep (-1) ≤ 64) ∧ st = { env := [(2, I (n : Nat)), (8, .ptr 8 0), (10, I (sureC L : Nat)), (11, I ((fs.take k).foldl leastStep (-1))), (38, sB ps), (39, I (ps.length : Nat)), (40, I (k : Nat))], bx := [(8, ⟨laidC L, false⟩)], rw := [], log := [], stp := false }) (fun k => ps.length - k) 0
    (Wk.le (.cons rfl (.refl _) (.cons rfl (.refl _) (.cons rfl (.refl _) (.cons rfl (.refl _) (.cons rfl (.refl _) (.cons rfl (VLe.i (by simp)) (.cons rfl (.refl _) .nil))))))) (.cons rfl (LLe.refl _) .nil) .nil rfl rfl) ⟨⟨by omega, by simp, by simp⟩, rfl⟩ ?_
  rintro k st ⟨⟨hk, ha1, ha2⟩, rfl⟩
  refine Tr.seqR rfl (by simp) (Tr.seqI rfl (fun h2 => ?_) (fun h2 => ?_))
  · have h2 : k < ps.length := by simpa using h2
    have hp := hpn.2 _ (List.getElem_mem h2)
    have hK := known_ok hL (i := n) hp
    refine Tr.skipT (Tr.seq (Tr.block (Tr.seq (Tr.reg (Steps.runN 1 rfl (by simp; omega) ?_)))))
    rw [getD_map h2]
    refine Steps.fin rfl (by simp) ?_
    refine Tr.seqR rfl (by simp [laidC]) ?_
    refine Tr.seq (Tr.reg (Steps.run rfl (by simp [laidC]) ?_))
    refine Steps.callO (ys := L.places.map sB) (sz := 1) rfl (fun _ => rfl) (c_CloneP hne (by omega)) rfl ?_
    rw [flat_sB]
    refine Steps.fin rfl (by simp) ?_
    refine Tr.seqR rfl (by simp; omega) ?_
    have eS : (knownL L n ps[k]).places.map sB = (L.places.map sB).set n (sB [ps[k]]) := by
      unfold knownL; rw [List.map_set]
    have eSl : ((knownL L n ps[k]).places.map sB).length = L.places.length := by simp [knownL]
    refine Tr.weak (s' := { env := [(2, I (n : Nat)), (8, .ptr 8 0), (10, I (sureC L : Nat)), (11, I ((fs.take k).foldl leastStep (-1))), (14, .ptr 14 0), (38, sB ps), (39, I (ps.length : Nat)), (40, I (k : Nat))], bx := [(47, ⟨(knownL L n ps[k]).places.map sB, false⟩), (14, ⟨gridC L.g ++ [sB L.traces, .bsl 47 0 1 L.places.length], false⟩), (8, ⟨laidC L, false⟩)], rw := [], log := [], stp := false })
      (Wk.le (.cons rfl (.refl _) (.cons rfl (.refl _) (.cons rfl (.refl _) (.cons rfl (.refl _) (.cons rfl (.refl _) (.cons rfl (.refl _) (.cons rfl (.refl _) (.cons rfl (.refl _) .nil)))))))) (.cons rfl ?_ (.cons rfl ?_ (.cons rfl (LLe.refl _) .nil))) .nil (okSBs rfl) rfl) ?_
    · rw [eS]
      show LLe (splice (L.places.map sB) (0 + ((n : Nat) : Int).toNat * 1) [.slice _ 2 [eB ps[k]]]) _
      rw [splice_set (by simp; omega), Nat.mul_one, Nat.zero_add, Int.toNat_natCast]
      exact LLe.set (VLe.dem _ _ _) _ _
    · exact .cons (.refl _) (.cons (.refl _) (.cons (.refl _) (.cons (.refl _) (.cons (.refl _) (.cons (.refl _) (.cons (.refl _) (.cons (.of_eq (by simp)) .nil)))))))
    have hH := sBs_holds (knownL L n ps[k]).places
    rw [show (knownL L n ps[k]).places.length = L.places.length by simp [knownL]] at hH
    refine Tr.weak (Wk.bslB (k := 14) (j := 7) (i := 47) (by decide) rfl rfl rfl hH) ?_
    refine Tr.seqC rfl (by simp) (Steps.call (us := [.agg (laidC (knownL L n ps[k]))]) rfl rfl (c_sure hK) (Steps.fin rfl (by simp) ?_))
    obtain ⟨N, hN⟩ : ∃ N, sureC (knownL L n ps[k]) = N := ⟨_, rfl⟩
    have hN64 : N ≤ 64 := by
      rw [← hN]
      have : sureC (knownL L n ps[k]) ≤ L.traces.length := sure_bd (L := knownL L n ps[k]) hLt _ (Nat.le_refl _)
      omega
    rw [hN]
    have hfk : k < fs.length := by omega
    have efk : fs[k] = (N : Int) := by
      have : (ps.map (fun p => (sureC (knownL L n p) : Int)))[k]'(by simp; omega) = (N : Int) := by rw [List.getElem_map, hN]
      simp only [hfs] at this; exact this
    obtain ⟨acc, hacc⟩ : ∃ acc, (fs.take k).foldl leastStep (-1) = acc := ⟨_, rfl⟩
    have eT : (fs.take (k + 1)).foldl leastStep (-1) = leastStep acc N := by
      rw [List.take_add_one, List.getElem?_eq_getElem hfk, List.foldl_append, hacc, efk]; rfl
    rw [hacc] at ha1 ha2 ⊢
    refine Tr.seqR rfl (by simp) (Tr.cond rfl rfl (fun h3 => Tr.regR rfl (by simp) (Tr.regR rfl (by simp) ?_)) (fun h3 => Tr.skip (Tr.regR rfl (by simp) ?_)))
    · have h3 : acc < 0 ∨ (N : Int) < acc := by
        have h3 : (bif decide (acc < 0) then true else decide ((N : Int) < acc)) = true := h3
        by_cases h : acc < 0
        · exact .inl h
        · simp [h] at h3; exact .inr h3
      have eS2 : leastStep acc N = N := by unfold leastStep; rw [if_pos h3]
      rw [eS2] at eT
      refine ⟨k + 1, _, Wk.le (.cons rfl (.refl _) (.cons rfl (.refl _) (.cons rfl (.refl _) (.cons rfl (VLe.i eT.symm) (.cons rfl (.refl _) (.cons rfl (.refl _) (.cons rfl (VLe.i (w64 (by omega) (by omega))) .nil))))))) (.cons rfl (LLe.refl _) .nil) .nil rfl rfl, ⟨⟨by omega, by omega, by omega⟩, rfl⟩, by omega⟩
    · have h3 : ¬ (acc < 0 ∨ (N : Int) < acc) := by
        have h3 : (bif decide (acc < 0) then true else decide ((N : Int) < acc)) = false := h3
        by_cases h : acc < 0
        · simp [h] at h3
        · simp [h] at h3; omega
      have eS2 : leastStep acc N = acc := by unfold leastStep; rw [if_neg h3]
      rw [eS2] at eT
      refine ⟨k + 1, _, Wk.le (.cons rfl (.refl _) (.cons rfl (.refl _) (.cons rfl (.refl _) (.cons rfl (VLe.i eT.symm) (.cons rfl (.refl _) (.cons rfl (.refl _) (.cons rfl (VLe.i (w64 (by omega) (by omega))) .nil))))))) (.cons rfl (LLe.refl _) .nil) .nil rfl rfl, ⟨⟨by omega, by omega, by omega⟩, rfl⟩, by omega⟩
  · have h2 : k = ps.length := by simp at h2; omega
    subst h2
    have hb : sureC L ≤ L.traces.length := sure_bd (L := L) hLt _ (Nat.le_refl _)
    rw [← hfl, List.take_length] at ha1 ha2 ⊢
    refine Tr.exit (Tr.seqR rfl (by simp) (Tr.retX rfl rfl rfl ?_ trivial))
    show _ = packR [I (IntKind.wrap .i64 (fs.foldl leastStep (-1) - (sureC L : Nat))), I 0]
    rw [w64 (by omega) (by omega)]; rfl

end Go.Proofs.YtdejdblopmfjfaaGreatDoor


/-! The chapter's examples: the bin chapter. -/
set_option linter.unusedVariables false
set_option linter.unusedSimpArgs false
set_option maxRecDepth 20000
namespace Go.Am
open Go.RowKit

/-! ### Guards that are known to hold -/
theorem compOp_noguard {P : Program} {nt : Nat} {slots : List (Option Nat)} {o : Oper} {d : Option Nat} {k : Am.K} {xs : List X} {g : Option (Nat × Bool)} (hc : compOp P nt slots o = some ⟨d, k, xs, g⟩) (sl : List (Option Nat)) : compOp P nt sl { o with guard := none } = some ⟨d, k, xs, none⟩ := by
  unfold compOp at hc ⊢
  cases h1 : opK P o.op with
  | none => rw [h1] at hc; cases hc
  | some q =>
    obtain ⟨k', os⟩ := q
    rw [h1] at hc
    simp only at hc
    cases h2 : os.mapM compX with
    | none => rw [h2] at hc; cases hc
    | some xs' =>
      rw [h2] at hc
      simp only at hc
      cases h3 : guardG slots o.guard with
      | none => rw [h3] at hc; cases hc
      | some g' =>
        rw [h3] at hc
        simp only at hc
        cases h4 : dstOk nt k' o.dst with
        | false => rw [h4] at hc; cases hc
        | true =>
          rw [h4] at hc
          cases hc
          simp only [h1, h2, h4, cond_true]
          rfl

theorem Step1.on {E : Env} {K : St → Prop} {s : St} {d : Option Nat} {k : Am.K} {xs : List X} {t : Nat} {want : Bool} {gv : V} (hgv : Am.get s.env t = some gv) (hgb : guardOf want gv = some true) (h : Step1 E ⟨d, k, xs, none⟩ K s) : Step1 E ⟨d, k, xs, some (t, want)⟩ K s := by
  refine Step1.raw fun slots ops o i ro n a w g hc hs hi R Q next hn => ?_
  have hc' := compOp_noguard hc (#[{ o with guard := none }].toList.map (·.dst))
  have h1 := step_ok (ro := ro) (n := n) (ops := #[{ o with guard := none }]) (i := 0) h hc' rfl rfl R (Q := Q) (next := next) hn
  unfold wpOpIn at h1 ⊢
  obtain ⟨os, cc⟩ := comp_of hc
  obtain ⟨j, want', t', g1, g2, g3⟩ : ∃ j want t, o.guard = some (j, want) ∧ slots[j]? = some (some t) ∧ (some (t, want)) = (some (t, want)) ∧ True := by
    rcases cc.guard with ⟨e, _⟩ | ⟨j, w', t', e1, e2, e3⟩
    · cases e
    · exact ⟨j, w', t', e1, e2, rfl, trivial⟩
  have hw : Region.wanted o (yielded ops a.tmps) = true := by
    rcases cc.guard with ⟨e, _⟩ | ⟨j, w', t', e1, e2, e3⟩
    · cases e
    · cases e3
      exact (guard_wanted R hs e1 e2 (by rw [fs_g]; exact hgv) hgb).1 rfl
  simp only [hi, hw, if_true]
  have hw' : Region.wanted { o with guard := none } (yielded #[{ o with guard := none }] a.tmps) = true := by unfold Region.wanted; rfl
  simp only [List.getElem?_toArray, List.getElem?_cons_zero, hw', if_true] at h1
  exact h1

theorem Steps.on {E : Env} {K : St → Prop} {s : St} {d : Option Nat} {k : Am.K} {xs : List X} {t : Nat} {want : Bool} {gv : V} {rest : List Ins} (hgv : Am.get s.env t = some gv) (hgb : guardOf want gv = some true) (h : Am.Steps E (⟨d, k, xs, none⟩ :: rest) K s) : Am.Steps E (⟨d, k, xs, some (t, want)⟩ :: rest) K s := Step1.on hgv hgb h

/-- One step where guards are known to hold. -/
def stepG (ins : Ins) (s : St) : Option (Prop × Eff × List Loc) :=
  match ins.g with
  | none => stepP ins s
  | some (t, want) => match Am.get s.env t with
    | some (.bool b) => match b == want with
      | true => stepP { ins with g := none } s
      | false => none
    | _ => none

theorem step_G {E : Env} {ins : Ins} {s : St} {p : Prop} {eff : Eff} {rd : List Loc} {K : St → Prop} (h : stepG ins s = some (p, eff, rd)) (hp : p) (hk : K ((s.eff eff).put ins.d eff.v)) : Step1 E ins K s := by
  obtain ⟨d, k, xs, g⟩ := ins
  unfold stepG at h
  cases g with
  | none => exact .does (stepP_ok h hp) hk
  | some tw =>
    obtain ⟨t, want⟩ := tw
    simp only at h
    split at h
    · rename_i b hb
      split at h
      · rename_i hbw
        exact Step1.on hb (by simp only [guardOf, hbw]) (.does (stepP_ok h hp) hk)
      · cases h
    · cases h

def runG : List Ins → St → Prop → Prop × St × List Ins
  | [], s, p => (p, s, [])
  | i :: r, s, p => match stepG i s with
    | some (q, eff, _) => runG r ((s.eff eff).put i.d eff.v) (p ∧ q)
    | none => (p, s, i :: r)

theorem runG_pre : ∀ (il : List Ins) (s : St) (p : Prop), (runG il s p).1 → p
  | [], s, p, h => h
  | i :: r, s, p, h => by
    unfold runG at h
    split at h
    · exact (runG_pre r _ _ h).1
    · exact h

theorem runG_ok {E : Env} {K : St → Prop} : ∀ (il : List Ins) (s : St) (p : Prop), (runG il s p).1 → Am.Steps E (runG il s p).2.2 K (runG il s p).2.1 → Am.Steps E il K s
  | [], s, p, _, h => h
  | i :: r, s, p, h1, h2 => by
    unfold runG at h1 h2
    split at h1
    · rename_i q eff rd hq
      rw [hq] at h2
      exact step_G hq (runG_pre r _ _ h1).2 (runG_ok r _ _ h1 h2)
    · rename_i hq
      rw [hq] at h2
      exact h2

theorem Steps.runG {E : Env} {K : St → Prop} {s s' : St} {il rest : List Ins} {p : Prop} (h : Am.runG il s True = (p, s', rest)) (hp : p) (hs : Am.Steps E rest K s') : Am.Steps E il K s := by
  refine runG_ok il s True ?_ ?_
  · rw [h]; exact hp
  · rw [h]; exact hs

/-- At most so many instructions, where guards are known to hold. -/
def runGN : Nat → List Ins → St → Prop → Prop × St × List Ins
  | 0, il, s, p => (p, s, il)
  | _ + 1, [], s, p => (p, s, [])
  | n + 1, i :: r, s, p => match stepG i s with
    | some (q, eff, _) => runGN n r ((s.eff eff).put i.d eff.v) (p ∧ q)
    | none => (p, s, i :: r)

theorem runGN_pre : ∀ (n : Nat) (il : List Ins) (s : St) (p : Prop), (runGN n il s p).1 → p
  | 0, il, s, p, h => h
  | _ + 1, [], s, p, h => h
  | n + 1, i :: r, s, p, h => by
    unfold runGN at h
    split at h
    · exact (runGN_pre n r _ _ h).1
    · exact h

theorem runGN_ok {E : Env} {K : St → Prop} : ∀ (n : Nat) (il : List Ins) (s : St) (p : Prop), (runGN n il s p).1 → Am.Steps E (runGN n il s p).2.2 K (runGN n il s p).2.1 → Am.Steps E il K s
  | 0, il, s, p, _, h => h
  | _ + 1, [], s, p, _, h => h
  | n + 1, i :: r, s, p, h1, h2 => by
    unfold runGN at h1 h2
    split at h1
    · rename_i q eff rd hq
      rw [hq] at h2
      exact step_G hq (runGN_pre n r _ _ h1).2 (runGN_ok n r _ _ h1 h2)
    · rename_i hq
      rw [hq] at h2
      exact h2

theorem Steps.runGN {E : Env} {K : St → Prop} (n : Nat) {s s' : St} {il rest : List Ins} {p : Prop} (h : Am.runGN n il s True = (p, s', rest)) (hp : p) (hs : Am.Steps E rest K s') : Am.Steps E il K s := by
  refine runGN_ok n il s True ?_ ?_
  · rw [h]; exact hp
  · rw [h]; exact hs

theorem Steps.strEq {E : Env} {K : St → Prop} {s : St} {d : Nat} {x y : X} {a : ByteArray} {rest : List Ins} (hx : evXs s.env [x, y] = some [.str a, .str a]) (hk : Am.Steps E rest K (s.put (some d) (.bool true))) : Am.Steps E (⟨some d, .bin .eql, [x, y], none⟩ :: rest) K s := by
  refine Step1.does (ins := ⟨some d, .bin .eql, [x, y], none⟩) (eff := { v := .bool true }) (rd := xslots [x, y]) (stepP_ok (p := True) ?_ trivial) hk
  unfold stepP
  rw [hx]
  simp [evalK, nilOk]

end Go.Am

namespace Go.Proofs.YtdejdblopmfjfaaGreatDoor
open Go.Am
attribute [local simp] cells scalar mkv splice under2 under dem dem1 eB gridC sB fourC eF layC eQ nfC intsV foldV
theorem c_bound (a b : Int) : C Tryz.prog F.law07_bound [I a, I b] (.agg [I a, I b]) := by
  refine C_of mixed chk.law07_bound (by simp) fun S ok => ?_
  exact Tr.seqR rfl (by simp) (Tr.seqR rfl (by simp) (Tr.retX rfl rfl rfl rfl trivial))

def spotF (x y : Int) : Fr := ⟨(x, x), (y, y), (w (x + y), w (x + y)), (w (x - y), w (x - y))⟩
theorem c_spot (x y : Int) : C Tryz.prog F.law07_spot [I x, I y] (eF (spotF x y)) := by
  refine C_of mixed chk.law07_spot (by simp) fun S ok => ?_
  refine Tr.seqR rfl (by simp) (Tr.seqC rfl (by simp) ?_)
  refine Steps.call rfl rfl (c_bound x x) (Steps.run rfl (by simp) ?_)
  refine Steps.call rfl rfl (c_bound y y) (Steps.run rfl (by simp) ?_)
  refine Steps.call rfl rfl (c_bound (w (x + y)) (w (x + y))) (Steps.run rfl (by simp) ?_)
  refine Steps.call rfl rfl (c_bound (w (x - y)) (w (x - y))) (Steps.fin rfl (by simp) (Tr.retX rfl rfl rfl rfl trivial))

def exG : Gd := ⟨(0, 0), 2, 3, 2, [(0, 25), (26, 400)]⟩
def exY : Ly := ⟨[⟨(1, 1), (1, 1), (2, 2), (0, 0)⟩, ⟨(3, 3), (3, 3), (6, 6), (0, 0)⟩, ⟨(7, 9), (3, 3), (10, 12), (4, 6)⟩], [(0, 1), (0, 2), (1, 2)]⟩
def exN : Nf := ⟨[2, 1], [⟨4, [2, 0]⟩, ⟨3, [0, 1]⟩, ⟨5, [1, 1]⟩, ⟨6, [2, 1]⟩]⟩

theorem c_grid : C Tryz.prog F.law07_grid [] (.agg (gridC exG)) := by
  refine C_of mixed chk.law07_grid (by simp) fun S ok => ?_
  refine Tr.seqR rfl (by simp) (Tr.seqC rfl (by simp) ?_)
  refine Steps.call rfl rfl (c_bound 0 25) (Steps.run rfl (by simp) ?_)
  refine Steps.call rfl rfl (c_bound 26 400) (Steps.fin rfl (by simp) (Tr.retX rfl rfl rfl rfl trivial))

theorem c_lines : C Tryz.prog F.law07_lines [] (.agg (layC exY)) := by
  refine C_of mixed chk.law07_lines (by simp) fun S ok => ?_
  refine Tr.seqR rfl (by simp) (Tr.seqC rfl (by simp) ?_)
  refine Steps.call rfl rfl (c_spot 1 1) (Steps.run rfl (by simp) ?_)
  refine Steps.call rfl rfl (c_spot 3 3) (Steps.run rfl (by simp) ?_)
  refine Steps.call rfl rfl (c_bound 7 9) (Steps.run rfl (by simp) ?_)
  refine Steps.call rfl rfl (c_bound 3 3) (Steps.run rfl (by simp) ?_)
  refine Steps.call rfl rfl (c_bound 10 12) (Steps.run rfl (by simp) ?_)
  refine Steps.call rfl rfl (c_bound 4 6) (Steps.fin rfl (by simp) (Tr.retX rfl rfl rfl rfl trivial))

theorem c_gaps : C Tryz.prog F.law07_gaps [] (.agg (nfC exN)) := by
  refine C_of mixed chk.law07_gaps (by simp) fun S ok => ?_
  exact Tr.seqR rfl (by simp) (Tr.seqR rfl (by simp) (Tr.retX rfl rfl rfl rfl trivial))

theorem c_cells (l l' : List (Int × Int)) (hl : l.length ≤ 9223372036854775807) : C Tryz.prog F.law07_cells [sB l, sB l'] (.bool (decide (l = l'))) := by
  refine C_of mixed chk.law07_cells (by simp) fun S ok => ?_
  refine Tr.seqR rfl (by simp) (Tr.seq (Tr.seqR rfl (by simp) ?_))
  refine Tr.cond rfl rfl (fun h1 => Tr.seqR rfl (by simp) (Tr.retX rfl rfl rfl ?_ trivial)) (fun h1 => Tr.skip ?_)
  · have h1 : (((l.map eB).length : Int) != ((l'.map eB).length : Int)) = true := h1
    simp only [packR, V.bool.injEq]
    rw [decide_eq_false]
    rintro rfl
    simp at h1
  · have h1 : (((l.map eB).length : Int) != ((l'.map eB).length : Int)) = false := h1
    have hll : l.length = l'.length := by simp at h1; omega
    refine Tr.seq (Tr.seqR rfl (by simp) (Tr.block ?_))
    refine Tr.loop (fun k st => (k ≤ l.length ∧ l.take k = l'.take k) ∧ st = { env := [(0, sB l), (1, sB l'), (5, I k)], bx := [], rw := [], log := [], stp := false }) (fun k => l.length - k) 0
      (Wk.le (.cons rfl (.refl _) (.cons rfl (.refl _) (.cons rfl (.refl _) .nil))) .nil .nil rfl rfl) ⟨⟨by omega, by simp⟩, rfl⟩ ?_
    rintro k st ⟨⟨hk, he⟩, rfl⟩
    refine Tr.seq (Tr.seqR rfl (by simp) (Tr.cond rfl rfl (fun h3 => ?_) (fun h3 => ?_)))
    · have h3 : k < l.length := by simpa using h3
      have h4 : k < l'.length := by omega
      refine Tr.skip (Tr.seq (Tr.block (Tr.seq (Tr.drawK (TraceK.runN 3 rfl (by simp; omega) ?_)))))
      rw [getD_map h3]
      refine TraceK.runN 4 rfl (by simp; omega) ?_
      rw [getD_map h4]
      refine TraceK.run rfl (by simp) (.done ⟨by kernel_rfl, by kernel_rfl, ?_⟩)
      refine Tr.cond rfl rfl (fun h5 => Tr.seqR rfl (by simp) (Tr.retX rfl rfl rfl ?_ trivial)) (fun h5 => Tr.skip (Tr.regR rfl (by simp) ?_))
      · have h5 : l[k] ≠ l'[k] := by
          intro e; rw [e] at h5; simp at h5
        simp only [packR, V.bool.injEq]
        rw [decide_eq_false]
        rintro rfl
        exact h5 rfl
      · have h5 : l[k] = l'[k] := by
          have := h5
          simp at this
          exact Prod.ext this.1 this.2
        exact ⟨k + 1, _, Wk.le (.cons rfl (.refl _) (.cons rfl (.refl _) (.cons rfl (VLe.i (w64 (by omega) (by omega))) .nil))) .nil .nil rfl rfl, ⟨⟨h3, take_ext h3 h4 he h5⟩, rfl⟩, by omega⟩
    · have h3 : k = l.length := by simp at h3; omega
      subst h3
      refine Tr.exit (Tr.seqR rfl (by simp) (Tr.retX rfl rfl rfl ?_ trivial))
      rw [List.take_length, hll, List.take_length] at he
      simp [packR, he]

theorem c_AlikeLists (l l' : List (List Int)) (hl : l.length ≤ 9223372036854775807) (hr : ∀ r ∈ l, r.length ≤ 9223372036854775807) : C Tryz.prog F.ref00_AlikeLists [foldV l, foldV l'] (.bool (decide (l = l'))) := by
  refine C_of mixed chk.ref00_AlikeLists (by simp) fun S ok => ?_
  refine Tr.seqR rfl (by simp) (Tr.seq (Tr.seqR rfl (by simp) ?_))
  refine Tr.cond rfl rfl (fun h1 => Tr.seqR rfl (by simp) (Tr.retX rfl rfl rfl ?_ trivial)) (fun h1 => Tr.skip ?_)
  · have h1 : (((l.map intsV).length : Int) != ((l'.map intsV).length : Int)) = true := h1
    simp only [packR, V.bool.injEq]
    rw [decide_eq_false]
    rintro rfl
    simp at h1
  · have h1 : (((l.map intsV).length : Int) != ((l'.map intsV).length : Int)) = false := h1
    have hll : l.length = l'.length := by simp at h1; omega
    refine Tr.seq (Tr.seqR rfl (by simp) (Tr.block ?_))
    refine Tr.loop (fun k st => (k ≤ l.length ∧ l.take k = l'.take k) ∧ st = { env := [(0, foldV l), (1, foldV l'), (5, I k)], bx := [], rw := [], log := [], stp := false }) (fun k => l.length - k) 0
      (Wk.le (.cons rfl (.refl _) (.cons rfl (.refl _) (.cons rfl (.refl _) .nil))) .nil .nil rfl rfl) ⟨⟨by omega, by simp⟩, rfl⟩ ?_
    rintro k st ⟨⟨hk, he⟩, rfl⟩
    refine Tr.seq (Tr.seqR rfl (by simp) (Tr.cond rfl rfl (fun h3 => ?_) (fun h3 => ?_)))
    · have h3 : k < l.length := by simpa using h3
      have h4 : k < l'.length := by omega
      refine Tr.skip (Tr.seq (Tr.block (Tr.seq (Tr.drawK (TraceK.runN 3 rfl (by simp; omega) ?_)))))
      rw [getD_map h3]
      refine TraceK.runN 4 rfl (by simp; omega) ?_
      rw [getD_map h4]
      refine TraceK.run rfl (by simp) (TraceK.call rfl rfl (c_Alike l[k] l'[k] (hr _ (List.getElem_mem h3))) (TraceK.run rfl (by simp) (.done ⟨by kernel_rfl, by kernel_rfl, ?_⟩)))
      refine Tr.cond rfl rfl (fun h5 => Tr.seqR rfl (by simp) (Tr.retX rfl rfl rfl ?_ trivial)) (fun h5 => Tr.skip (Tr.regR rfl (by simp) ?_))
      · have h5 : (!decide (l[k] = l'[k])) = true := h5
        simp only [packR, V.bool.injEq]
        rw [decide_eq_false]
        rintro rfl
        simp at h5
      · have h5 : (!decide (l[k] = l'[k])) = false := h5
        have h5 : l[k] = l'[k] := by simpa using h5
        exact ⟨k + 1, _, Wk.le (.cons rfl (.refl _) (.cons rfl (.refl _) (.cons rfl (VLe.i (w64 (by omega) (by omega))) .nil))) .nil .nil rfl rfl, ⟨⟨h3, take_ext h3 h4 he h5⟩, rfl⟩, by omega⟩
    · have h3 : k = l.length := by simp at h3; omega
      subst h3
      refine Tr.exit (Tr.seqR rfl (by simp) (Tr.retX rfl rfl rfl ?_ trivial))
      rw [List.take_length, hll, List.take_length] at he
      simp [packR, he]

end Go.Proofs.YtdejdblopmfjfaaGreatDoor


/-! The chapter's examples come out as it says. -/
set_option linter.unusedVariables false
set_option linter.unusedSimpArgs false
set_option maxRecDepth 40000
set_option maxHeartbeats 4000000
namespace Go.Proofs.YtdejdblopmfjfaaGreatDoor
open Go.Am
attribute [local simp] cells scalar mkv splice under2 under dem dem1 eB gridC sB fourC eF layC eQ nfC intsV foldV eL sL eC cutsV
theorem ex1 : (if gridOk exG then (if planeB (1, 1) && planeB (9, 3) then .tuple [eB (cellN exG (1, 1) (9, 3)), I 0] else .tuple [.agg [I 0, I 0], I 10]) else .tuple [.agg [I 0, I 0], I 70] : V) = .tuple [eB (5, 1), I 0] := by kernel_rfl
theorem ex2 : HitsR exG exY 2 = .tuple [sB [(-1, -1), (5, 0)], I 0] := by kernel_rfl
theorem ex3 : FoldR exG exY = .tuple [foldV [[0, 0], [0, 0], [0, 0], [0, 0], [1, 0], [0, 1]], foldV [[0, 0], [0, 0], [0, 0], [0, 0], [1, 0], [1, 1]], I 0] := by kernel_rfl
theorem ex4 : MapR exG [[0, 0], [0, 0], [0, 0], [0, 0], [1, 0], [0, 1]] 0 = .tuple [.str ⟨#[46, 49, 46, 10, 46, 46, 46, 10]⟩, I 0] := by kernel_rfl
theorem ex5 : LacksR exG exY [0, 2] = .tuple [sL [(0, 1, 2), (1, 1, 2), (2, 1, 2), (3, 1, 2), (4, 1, 2), (5, 1, 1)], I 0] := by kernel_rfl
theorem ex6 : GainR exG exY 2 = .tuple [I 0, I 0] := by kernel_rfl
theorem ex7 : BestR exN = .tuple [intsV [3], I 6, I 0] := by kernel_rfl
theorem ex8 : WithoutR exN 3 = .tuple [I 1, I 0] := by kernel_rfl
theorem ex9 : BoundR exN [⟨-1, [2, 2]⟩] = .tuple [I 6, I 0] := by kernel_rfl

theorem exG_l : exG.cls.length ≤ 9223372036854775807 := by decide
theorem exY_n : exY.nodes.length ≤ 9223372036854775807 := by decide
theorem exY_t : exY.traces.length ≤ 9223372036854775807 := by decide
theorem exN_a : ∀ p ∈ exN.passes, p.adds.length ≤ 9223372036854775807 := by decide
theorem exF_r : ∀ r ∈ ([[0, 0], [0, 0], [0, 0], [0, 0], [1, 0], [0, 1]] : List (List Int)), r.length ≤ 9223372036854775807 := by decide
theorem exF2_r : ∀ r ∈ ([[0, 0], [0, 0], [0, 0], [0, 0], [1, 0], [1, 1]] : List (List Int)), r.length ≤ 9223372036854775807 := by decide

/-- **THE CHAPTER's EXAMPLES** come out as it says. -/
theorem c_works : C Tryz.prog F.law07_works [] (.bool true) := by
  refine C_of mixed chk.law07_works (by simp) fun S ok => ?_
  refine Tr.seqR rfl (by simp) ?_
  refine Tr.seqC rfl (by simp) (Steps.call rfl rfl c_grid (Steps.run rfl (by simp) ?_))
  refine Steps.call rfl rfl (ex1 ▸ c_Cell exG_l (1, 1) (9, 3)) (Steps.fin rfl (by simp) ?_)
  refine Tr.seqC rfl (by simp) (Steps.call rfl rfl c_grid (Steps.run rfl (by simp) ?_))
  refine Steps.call rfl rfl c_lines (Steps.run rfl (by simp) ?_)
  refine Steps.call rfl rfl (ex2 ▸ c_Hits exG_l exY_n exY_t 2) (Steps.fin rfl (by simp) ?_)
  refine Tr.seqC rfl (by simp) (Steps.call rfl rfl c_grid (Steps.run rfl (by simp) ?_))
  refine Steps.call rfl rfl c_lines (Steps.run rfl (by simp) ?_)
  refine Steps.call rfl rfl (ex3 ▸ c_Fold exG_l exY_n exY_t) (Steps.fin rfl (by simp) ?_)
  refine Tr.seq (Tr.seq (Tr.reg (Steps.runG rfl (by simp) ?_)))
  refine Steps.on rfl rfl (Steps.call rfl rfl (c_cells [(-1, -1), (5, 0)] [(-1, -1), (5, 0)] (by decide)) (Steps.runG rfl (by simp) ?_))
  refine Steps.on rfl rfl (Steps.call rfl rfl (c_AlikeLists [[0, 0], [0, 0], [0, 0], [0, 0], [1, 0], [0, 1]] [[0, 0], [0, 0], [0, 0], [0, 0], [1, 0], [0, 1]] (by decide) exF_r) (Steps.runG rfl (by simp) ?_))
  refine Steps.on rfl rfl (Steps.call rfl rfl (c_AlikeLists [[0, 0], [0, 0], [0, 0], [0, 0], [1, 0], [1, 1]] [[0, 0], [0, 0], [0, 0], [0, 0], [1, 0], [1, 1]] (by decide) exF2_r) (Steps.runG rfl (by simp) ?_))
  refine Tr.condF (by kernel_rfl) (Tr.skip ?_)
  refine Tr.seqC rfl (by simp) (Steps.call rfl rfl c_grid (Steps.run rfl (by simp) ?_))
  refine Steps.call rfl rfl (ex4 ▸ c_Map exG_l exF_r (by decide) 0) (Steps.fin rfl (by simp) ?_)
  refine Tr.seqC rfl (by simp) (Steps.call rfl rfl c_grid (Steps.run rfl (by simp) ?_))
  refine Steps.call rfl rfl c_lines (Steps.run rfl (by simp) ?_)
  refine Steps.call rfl rfl (ex5 ▸ c_Lacks exG_l exY_n exY_t (ns := [0, 2]) (by decide)) (Steps.fin rfl (by simp) ?_)
  refine Tr.seqC rfl (by simp) (Steps.call rfl rfl c_grid (Steps.run rfl (by simp) ?_))
  refine Steps.call rfl rfl c_lines (Steps.run rfl (by simp) ?_)
  refine Steps.call rfl rfl (ex6 ▸ c_Gain exG_l exY_n exY_t 2) (Steps.fin rfl (by simp) ?_)
  refine Tr.seqC rfl (by simp) (Steps.call rfl rfl c_gaps (Steps.run rfl (by simp) ?_))
  refine Steps.call rfl rfl (ex7 ▸ c_Best exN_a) (Steps.fin rfl (by simp) ?_)
  refine Tr.seqC rfl (by simp) (Steps.call rfl rfl c_gaps (Steps.run rfl (by simp) ?_))
  refine Steps.call rfl rfl (ex8 ▸ c_Without exN_a 3) (Steps.fin rfl (by simp) ?_)
  refine Tr.seqC rfl (by simp) (Steps.call rfl rfl c_gaps (Steps.run rfl (by simp) ?_))
  refine Steps.call rfl rfl (ex9 ▸ c_Bound exN_a (pf := [⟨-1, [2, 2]⟩]) (by decide)) (Steps.fin rfl (by simp) ?_)
  refine Tr.seq (Tr.reg (Steps.runGN 24 rfl (by simp) ?_))
  refine Steps.on rfl rfl (Steps.strEq rfl (Steps.runG rfl (by simp) ?_))
  refine Steps.on rfl rfl (Steps.call rfl rfl (c_Alike [3] [3] (by decide)) (Steps.runG rfl (by simp) ?_))
  exact Tr.retX rfl rfl rfl (by kernel_rfl) trivial

end Go.Proofs.YtdejdblopmfjfaaGreatDoor


/-! Weakening inside a region. -/
set_option linter.unusedVariables false
set_option linter.unusedSimpArgs false
namespace Go.Proofs.YtdejdblopmfjfaaGreatDoor
open Go.Am

theorem stepsWeak {E : Env} {s s' : St} {i : Ins} {r : List Ins} {K : St → Prop} (h : Wk E s s') (k : Am.Steps E (i :: r) K s') : Am.Steps E (i :: r) K s := by
  refine Step1.raw fun slots ops o j ro n a w hh hc hs hi R Q next hn => ?_
  obtain ⟨h', R', hy⟩ := h a w hh R
  exact step_ok (k : Step1 E i (Am.Steps E r K) s') hc hs hi R' fun s'' a' w' h'' k R ey => hn s'' a' w' h'' k R (ey.trans hy)

theorem VLe.agg2 {a b c d : V} (h : VLe a c) (k : VLe b d) : VLe (.agg [a, b]) (.agg [c, d]) := .agg rfl fun i v u h1 h2 => by
  match i with
  | 0 => cases h1; cases h2; exact h
  | 1 => cases h1; cases h2; exact k
  | i + 2 => simp at h1

end Go.Proofs.YtdejdblopmfjfaaGreatDoor


/-! Plain laws of choices: the best one; a lack less, a pass more; choices as numbers. -/
set_option linter.unusedVariables false
set_option linter.unusedSimpArgs false
set_option maxRecDepth 40000
set_option maxHeartbeats 4000000
namespace Go.Proofs.YtdejdblopmfjfaaGreatDoor
open Go.Am

/-! ### The best choice -/
def bestTo (x : Nf) (wo k : Nat) : Nat × Bool := (List.range k).foldl (bestStep x wo) (0, false)

theorem bestTo_spec (x : Nf) (wo : Nat) : ∀ k, ((bestTo x wo k).2 = true → (bestTo x wo k).1 < k ∧ skips x wo (bestTo x wo k).1 = false) ∧ ∀ b < k, skips x wo b = false → (bestTo x wo k).2 = true ∧ costB x (bestTo x wo k).1 ≤ costB x b
  | 0 => ⟨fun h => by simp [bestTo] at h, fun b h => by omega⟩
  | k + 1 => by
    obtain ⟨h1, h2⟩ := bestTo_spec x wo k
    have e : bestTo x wo (k + 1) = bestStep x wo (bestTo x wo k) k := by unfold bestTo; rw [List.range_succ, List.foldl_append]; rfl
    rw [e]
    obtain ⟨⟨o, so⟩, hos⟩ : ∃ p, bestTo x wo k = p := ⟨_, rfl⟩
    rw [hos] at h1 h2 ⊢
    unfold bestStep
    by_cases hk : skips x wo k = true
    · rw [if_pos hk]
      refine ⟨fun h => ⟨by have := (h1 h).1; omega, (h1 h).2⟩, fun b hb hs => ?_⟩
      rcases Nat.lt_succ_iff_lt_or_eq.1 hb with hb | rfl
      · exact h2 b hb hs
      · rw [hk] at hs; cases hs
    have hk : skips x wo k = false := by simpa using hk
    rw [hk, if_neg (by simp)]
    cases so with
    | false =>
      rw [if_pos (show (!(o, false).2) = true from rfl)]
      refine ⟨fun _ => ⟨by simp, hk⟩, fun b hb hs => ?_⟩
      rcases Nat.lt_succ_iff_lt_or_eq.1 hb with hb | rfl
      · have := (h2 b hb hs).1; cases this
      · exact ⟨rfl, Int.le_refl _⟩
    | true =>
      rw [if_neg (by simp)]
      obtain ⟨a1, a2⟩ := h1 rfl
      by_cases hb : better x k o = true
      · rw [if_pos hb]
        have hle : costB x k ≤ costB x o := by
          unfold better at hb
          split at hb
          · have := of_decide_eq_true hb; omega
          · rename_i h; have := Classical.not_not.1 h; omega
        refine ⟨fun _ => ⟨by simp, hk⟩, fun b hb hs => ?_⟩
        rcases Nat.lt_succ_iff_lt_or_eq.1 hb with hb | rfl
        · exact ⟨rfl, Int.le_trans hle (h2 b hb hs).2⟩
        · exact ⟨rfl, Int.le_refl _⟩
      · rw [if_neg hb]
        have hle : costB x o ≤ costB x k := by
          have hb : better x k o = false := by simpa using hb
          unfold better at hb
          split at hb
          · have := of_decide_eq_false hb; omega
          · rename_i h; have := Classical.not_not.1 h; omega
        refine ⟨fun _ => ⟨by simp only at a1 ⊢; omega, a2⟩, fun b hb hs => ?_⟩
        rcases Nat.lt_succ_iff_lt_or_eq.1 hb with hb | rfl
        · exact h2 b hb hs
        · exact ⟨rfl, hle⟩

theorem skips0 (x : Nf) (b : Nat) : skips x 0 b = !coversB x b := by simp [skips]

theorem best_some {x : Nf} (h : (bestN x 0).2 = true) : (bestN x 0).1 < 2 ^ x.passes.length ∧ coversB x (bestN x 0).1 = true := by
  have := (bestTo_spec x 0 (2 ^ x.passes.length)).1 h
  rw [skips0] at this
  exact ⟨this.1, (Bool.not_eq_eq_eq_not.1 this.2)⟩
theorem best_least {x : Nf} {b : Nat} (hb : b < 2 ^ x.passes.length) (hc : coversB x b = true) : (bestN x 0).2 = true ∧ costB x (bestN x 0).1 ≤ costB x b :=
  (bestTo_spec x 0 (2 ^ x.passes.length)).2 b hb (by rw [skips0, hc]; rfl)

/-! ### A lack less -/
def LeI : List Int → List Int → Prop
  | [], [] => True
  | a :: l, b :: m => a ≤ b ∧ LeI l m
  | _, _ => False

theorem LeI.refl : ∀ l, LeI l l
  | [] => trivial
  | a :: l => ⟨Int.le_refl a, LeI.refl l⟩
theorem LeI.rest : ∀ {c d : List Int} (a : List Int), LeI c d → LeI (restN c a) (restN d a)
  | [], [], a, _ => by simp [restN, LeI]
  | x :: c, y :: d, [], _ => trivial
  | x :: c, y :: d, z :: a, h => by
    have := LeI.rest a h.2
    have h1 := h.1
    have e : max 0 (x - z) ≤ max 0 (y - z) := by omega
    exact ⟨e, this⟩
  | [], _ :: _, _, h => h.elim
  | _ :: _, [], _, h => h.elim
theorem sum_nonneg : ∀ (l : List Int) (z : Int), 0 ≤ z → (∀ n ∈ l, 0 ≤ n) → 0 ≤ l.foldl (· + ·) z
  | [], z, h, _ => h
  | a :: l, z, h, k => sum_nonneg l (z + a) (by have := k a (by simp); omega) fun n hn => k n (by simp [hn])
/-! ### A pass more -/
/-! ### A choice as a number -/
def bitsG (n : Nat) : List Int → Nat → Int → Option Nat
  | [], out, _ => some out
  | i :: l, out, last => if btw i (last + 1) ((n : Int) - 1) then bitsG n l (out ||| 2 ^ i.toNat) i else none

theorem choice_or : ∀ i < 10, ∀ b < 2 ^ i, choiceN (b ||| 2 ^ i) = choiceN b ++ [i] := by decide +kernel

theorem bitsG_spec {n : Nat} (hn : n ≤ 10) : ∀ (l : List Int) (out : Nat) (last : Nat) (r : Nat), last ≤ n → out < 2 ^ last → bitsG n l out ((last : Int) - 1) = some r → r < 2 ^ n ∧ choiceL r = choiceL out ++ l
  | [], out, last, r, hl, ho, h => by
    obtain rfl := Option.some.inj h
    exact ⟨Nat.lt_of_lt_of_le ho (Nat.pow_le_pow_right (by omega) hl), by simp⟩
  | i :: l, out, last, r, hl, ho, h => by
    simp only [bitsG] at h
    split at h
    · rename_i hb
      rw [btw_iff] at hb
      obtain ⟨k, rfl⟩ : ∃ k : Nat, i = k := ⟨i.toNat, by omega⟩
      rw [Int.toNat_natCast] at h
      have hk : k < n := by omega
      have hok : out < 2 ^ k := Nat.lt_of_lt_of_le ho (Nat.pow_le_pow_right (by omega) (by omega))
      have ho2 : out ||| 2 ^ k < 2 ^ (k + 1) := Nat.or_lt_two_pow (Nat.lt_of_lt_of_le hok (Nat.pow_le_pow_right (by omega) (by omega))) (Nat.pow_lt_pow_right (by omega) (by omega))
      obtain ⟨h1, h2⟩ := bitsG_spec hn l (out ||| 2 ^ k) (k + 1) r (by omega) ho2 (by rw [show ((k + 1 : Nat) : Int) - 1 = k by omega]; exact h)
      refine ⟨h1, ?_⟩
      rw [h2]
      unfold choiceL castL
      rw [choice_or k (by omega) out hok]
      simp
    · cases h

theorem bitsG_choice : ∀ n < 11, ∀ b < 2 ^ n, bitsG n (choiceL b) 0 (-1) = some b := by decide +kernel

end Go.Proofs.YtdejdblopmfjfaaGreatDoor


/-! Contracts of the specification: CheckInfill, choice, cost, rest, covers, Covers. -/
set_option linter.unusedVariables false
set_option linter.unusedSimpArgs false
set_option maxRecDepth 40000
set_option maxHeartbeats 4000000
namespace Go.Proofs.YtdejdblopmfjfaaGreatDoor
open Go.Am
attribute [local simp] cells scalar mkv splice under2 under dem dem1 eQ nfC intsV
theorem bool_any (l : List Int) : (l.all fun n => btw n 0 100) = !(l.any fun n => !btw n 0 100) := by
  induction l with
  | nil => rfl
  | cons a l ih => rw [List.all_cons, List.any_cons, ih]; cases btw a 0 100 <;> simp

theorem c_CheckInfill07 {x : Nf} (hl : x.lacks.length ≤ 9223372036854775807) (hp : x.passes.length ≤ 9223372036854775807) (hx : ∀ p ∈ x.passes, p.adds.length ≤ 9223372036854775807) : C Tryz.prog F.ref07_CheckInfill [.agg (nfC x)] (I (if nfOk x then 0 else 74)) := by
  refine C_of mixed chk.ref07_CheckInfill (by simp) fun S ok => ?_
  refine Tr.seqR rfl (by simp) (Tr.seqR rfl (by simp) ?_)
  have h0 : (bif decide (((x.lacks.map I).length : Int) ≤ 16) then decide (((x.passes.map eQ).length : Int) ≤ 10) else false) = (decide (x.lacks.length ≤ 16) && decide (x.passes.length ≤ 10)) := by
    rw [List.length_map, List.length_map]
    have e1 : decide ((x.lacks.length : Int) ≤ 16) = decide (x.lacks.length ≤ 16) := by simp only [decide_eq_decide]; omega
    have e2 : decide ((x.passes.length : Int) ≤ 10) = decide (x.passes.length ≤ 10) := by simp only [decide_eq_decide]; omega
    rw [e1, e2]; cases decide (x.lacks.length ≤ 16) <;> rfl
  obtain ⟨B0, hB0⟩ : ∃ B, (decide (x.lacks.length ≤ 16) && decide (x.passes.length ≤ 10)) = B := ⟨_, rfl⟩
  rw [hB0] at h0
  have hok : nfOk x = (B0 && x.lacks.all (btw · 1 100) && x.passes.all (passOk x.lacks.length)) := by unfold nfOk; rw [hB0]
  rw [hok]
  refine Tr.seq (Tr.seqR rfl (by simp) (Tr.block ?_))
  refine Tr.loop (fun (k : Nat) st => k ≤ x.lacks.length ∧ st = { env := [(1, .ptr 1 0), (3, .bool (B0 && (x.lacks.take k).all (btw · 1 100))), (4, I (k : Nat))], bx := [(1, ⟨nfC x, false⟩)], rw := [], log := [], stp := false }) (fun k => x.lacks.length - k) 0
    (Wk.le (.cons rfl (.refl _) (.cons rfl (.of_eq ?_) (.cons rfl (.refl _) .nil))) (.cons rfl (LLe.refl _) .nil) .nil rfl rfl) ⟨by omega, rfl⟩ ?_
  · rw [List.take_zero, List.all_nil, Bool.and_true, ← h0]
  rintro k st ⟨hk, rfl⟩
  refine Tr.seq (Tr.seqR rfl (by simp) (Tr.cond rfl rfl (fun h1 => Tr.skip ?_) (fun h1 => Tr.exit ?_)))
  · have h1 : k < x.lacks.length := by simpa using h1
    obtain ⟨X, hX⟩ : ∃ X, (B0 && (x.lacks.take k).all (btw · 1 100)) = X := ⟨_, rfl⟩
    rw [hX]
    refine Tr.seq (Tr.block (Tr.reg (Steps.runN 6 rfl (by simp; intro a; exact ⟨by omega, a⟩) ?_)))
    rw [getD_map h1]
    refine Steps.run rfl (by simp) (Steps.gcall rfl rfl rfl rfl (by simp) (fun _ => c_between x.lacks[k] 1 100) (Steps.fin rfl (by simp) ?_))
    refine Tr.regR rfl (by simp) ?_
    refine ⟨k + 1, _, Wk.le (.cons rfl (.refl _) (.cons rfl (.of_eq ?_) (.cons rfl (VLe.i (w64 (by omega) (by omega))) .nil))) (.cons rfl (LLe.refl _) .nil) .nil rfl rfl, ⟨h1, rfl⟩, by omega⟩
    rw [all_take_succ h1, ← Bool.and_assoc, hX]
    show V.bool (bif X then btw x.lacks[k] 1 100 else false) = _
    cases X <;> rfl
  have h1 : k = x.lacks.length := by simp at h1; omega
  subst h1
  rw [List.take_length]
  obtain ⟨B1, hB1⟩ : ∃ B, (B0 && x.lacks.all (btw · 1 100)) = B := ⟨_, rfl⟩
  rw [hB1]
  refine Tr.seq (Tr.seqR rfl (by simp) (Tr.block ?_))
  refine Tr.loop (fun (k : Nat) st => k ≤ x.passes.length ∧ st = { env := [(1, .ptr 1 0), (3, .bool (B1 && (x.passes.take k).all (passOk x.lacks.length))), (5, I (k : Nat))], bx := [(1, ⟨nfC x, false⟩)], rw := [], log := [], stp := false }) (fun k => x.passes.length - k) 0
    (Wk.le (.cons rfl (.refl _) (.cons rfl (.of_eq (by simp)) (.cons rfl (.refl _) .nil))) (.cons rfl (LLe.refl _) .nil) .nil rfl rfl) ⟨by omega, rfl⟩ ?_
  rintro k st ⟨hk, rfl⟩
  refine Tr.seq (Tr.seqR rfl (by simp) (Tr.cond rfl rfl (fun h1 => Tr.skip ?_) (fun h1 => Tr.exit ?_)))
  · have h1 : k < x.passes.length := by simpa using h1
    have hnx : (B1 && (x.passes.take (k + 1)).all (passOk x.lacks.length)) = ((B1 && (x.passes.take k).all (passOk x.lacks.length)) && passOk x.lacks.length x.passes[k]) := by rw [all_take_succ h1, Bool.and_assoc]
    have hal := hx _ (List.getElem_mem h1)
    obtain ⟨X, hX⟩ : ∃ X, (B1 && (x.passes.take k).all (passOk x.lacks.length)) = X := ⟨_, rfl⟩
    rw [hX] at hnx ⊢
    obtain ⟨p, hpk⟩ : ∃ p, x.passes[k] = p := ⟨_, rfl⟩
    rw [hpk] at hal hnx
    refine Tr.seq (Tr.block ?_)
    refine Tr.seqN 4 rfl (by simp; omega) ?_
    rw [getD_map h1, hpk]
    refine Steps.fin rfl (by simp) ?_
    refine Tr.seqC rfl (by simp) (Steps.gcall rfl rfl rfl rfl (by simp) (fun _ => c_between p.cost 1 1000) (Steps.fin rfl (by simp) ?_))
    have e1 : (((p.adds.map I).length : Int) == ((x.lacks.map I).length : Int)) = decide (p.adds.length = x.lacks.length) := by
      rw [List.length_map, List.length_map]
      by_cases h : p.adds.length = x.lacks.length
      · rw [h]; simp
      · have : ¬ ((p.adds.length : Int) = (x.lacks.length : Int)) := by omega
        simp [h, this]
    obtain ⟨B2, hB2⟩ : ∃ B, (X && (btw p.cost 1 1000 && decide (p.adds.length = x.lacks.length))) = B := ⟨_, rfl⟩
    refine Tr.seqR rfl (by simp) (Tr.block ?_)
    refine Tr.loop (fun (c : Nat) st => c ≤ p.adds.length ∧ st = { env := [(1, .ptr 1 0), (3, .bool (B2 && (p.adds.take c).all fun n => btw n 0 100)), (5, I (k : Nat)), (6, .ptr 6 0), (7, I (c : Nat))], bx := [(6, ⟨[I p.cost, intsV p.adds], false⟩), (1, ⟨nfC x, false⟩)], rw := [], log := [], stp := false }) (fun c => p.adds.length - c) 0
      (Wk.le (.cons rfl (.refl _) (.cons rfl (.of_eq ?_) (.cons rfl (.refl _) (.cons rfl (.refl _) (.cons rfl (.refl _) .nil))))) (.cons rfl (LLe.refl _) (.cons rfl (LLe.refl _) .nil)) .nil rfl rfl) ⟨by omega, rfl⟩ ?_
    · rw [List.take_zero, List.all_nil, Bool.and_true, ← hB2, ← e1]
      show V.bool (bif (bif X then btw p.cost 1 1000 else false) then (((p.adds.map I).length : Int) == ((x.lacks.map I).length : Int)) else false) = _
      cases X <;> cases btw p.cost 1 1000 <;> rfl
    rintro c st ⟨hc, rfl⟩
    refine Tr.seq (Tr.seqR rfl (by simp) (Tr.cond rfl rfl (fun h2 => Tr.skip ?_) (fun h2 => Tr.exit ?_)))
    · have h2 : c < p.adds.length := by simpa using h2
      obtain ⟨Y, hY⟩ : ∃ Y, (B2 && (p.adds.take c).all fun n => btw n 0 100) = Y := ⟨_, rfl⟩
      rw [hY]
      refine Tr.seq (Tr.block (Tr.reg (Steps.runN 6 rfl (by simp; intro a; exact ⟨by omega, a⟩) ?_)))
      rw [getD_map h2]
      refine Steps.run rfl (by simp) (Steps.gcall rfl rfl rfl rfl (by simp) (fun _ => c_between p.adds[c] 0 100) (Steps.fin rfl (by simp) ?_))
      refine Tr.regR rfl (by simp) ?_
      refine ⟨c + 1, _, Wk.le (.cons rfl (.refl _) (.cons rfl (.of_eq ?_) (.cons rfl (.refl _) (.cons rfl (.refl _) (.cons rfl (VLe.i (w64 (by omega) (by omega))) .nil))))) (.cons rfl (LLe.refl _) (.cons rfl (LLe.refl _) .nil)) .nil rfl rfl, ⟨h2, rfl⟩, by omega⟩
      rw [all_take_succ h2, ← Bool.and_assoc, hY]
      show V.bool (bif Y then btw p.adds[c] 0 100 else false) = _
      cases Y <;> rfl
    · have h2 : c = p.adds.length := by simp at h2; omega
      subst h2
      rw [List.take_length]
      refine Tr.regR rfl (by simp) ?_
      refine ⟨k + 1, _, Wk.le (.cons rfl (.refl _) (.cons rfl (.of_eq ?_) (.cons rfl (VLe.i (w64 (by omega) (by omega))) .nil))) (.cons rfl (LLe.refl _) .nil) .nil rfl rfl, ⟨h1, rfl⟩, by omega⟩
      rw [hnx, bool_any, ← hB2]
      unfold passOk
      cases X <;> simp [Bool.and_assoc]
  have h1 : k = x.passes.length := by simp at h1; omega
  subst h1
  rw [List.take_length]
  obtain ⟨B3, hB3⟩ : ∃ B, (B1 && x.passes.all (passOk x.lacks.length)) = B := ⟨_, rfl⟩
  rw [hB3]
  refine Tr.seq (Tr.seqR rfl (by simp) (Tr.cond rfl rfl (fun h3 => ?_) (fun h3 => Tr.skip ?_)))
  · have h3 : (!B3) = true := h3
    obtain rfl : B3 = false := by simpa using h3
    exact Tr.seqR rfl (by simp) (Tr.retX rfl rfl rfl rfl trivial)
  · have h3 : (!B3) = false := h3
    obtain rfl : B3 = true := by simpa using h3
    exact Tr.seqR rfl (by simp) (Tr.retX rfl rfl rfl rfl trivial)

/-! ### Choices -/
def inPs (x : Nf) (l : List Int) : Prop := ∀ n ∈ l, ∃ i : Nat, n = (i : Int) ∧ i < x.passes.length
def subTo (x : Nf) (l : List Int) (q k : Nat) : Int := ((l.take k).map fun i => (addsOf x i.toNat).getD q 0).foldl (· - ·) (x.lacks.getD q 0)
def restQ (x : Nf) (l : List Int) (q : Nat) : Int := max 0 (subTo x l q l.length)
def sumTo (x : Nf) (l : List Int) (k : Nat) : Int := ((l.take k).map fun i => costOf x i.toNat).foldl (· + ·) 0
def covQ (x : Nf) (l : List Int) : Bool := (List.range x.lacks.length).all fun q => !decide (restQ x l q > 0)

theorem sumTo_succ {x : Nf} {l : List Int} {k : Nat} (h : k < l.length) : sumTo x l (k + 1) = sumTo x l k + costOf x l[k].toNat := by
  unfold sumTo
  rw [List.take_add_one, List.getElem?_eq_getElem h, List.map_append, List.foldl_append]; rfl
theorem subTo_succ {x : Nf} {l : List Int} {q k : Nat} (h : k < l.length) : subTo x l q (k + 1) = subTo x l q k - (addsOf x l[k].toNat).getD q 0 := by
  unfold subTo
  rw [List.take_add_one, List.getElem?_eq_getElem h, List.map_append, List.foldl_append]; rfl

theorem c_cost07 {x : Nf} (hx : nfOk x = true) {l : List Int} (hl : l.length ≤ 10) (hi : inPs x l) : C Tryz.prog F.ref07_cost [.agg (nfC x), intsV l] (I (sumTo x l l.length)) := by
  have hp1 := (nfOk_spec hx).2.2
  have h10 := (nfOk_spec hx).1.2
  refine C_of mixed chk.ref07_cost (by simp) fun S ok => ?_
  refine Tr.seqR rfl (by simp) (Tr.seqR rfl (by simp) (Tr.seq (Tr.seqR rfl (by simp) (Tr.block ?_))))
  refine Tr.loop (fun (k : Nat) st => (k ≤ l.length ∧ 0 ≤ sumTo x l k ∧ sumTo x l k ≤ k * 1000) ∧ st = { env := [(1, intsV l), (2, .ptr 2 0), (5, I (sumTo x l k)), (6, I (k : Nat))], bx := [(2, ⟨nfC x, false⟩)], rw := [], log := [], stp := false }) (fun k => l.length - k) 0
    (Wk.le (.cons rfl (.refl _) (.cons rfl (.refl _) (.cons rfl (.refl _) (.cons rfl (.refl _) .nil)))) (.cons rfl (LLe.refl _) .nil) .nil rfl rfl) ⟨⟨by omega, by simp [sumTo], by simp [sumTo]⟩, rfl⟩ ?_
  rintro k st ⟨⟨hk1, hs1, hs2⟩, rfl⟩
  refine Tr.seq (Tr.seqR rfl (by simp) (Tr.cond rfl rfl (fun h1 => Tr.skip ?_) (fun h1 => Tr.exit ?_)))
  · have h1 : k < l.length := by simpa using h1
    obtain ⟨i, hi, hil⟩ := hi _ (List.getElem_mem h1)
    have hci : costOf x i = x.passes[i].cost := by simp [costOf, hil]
    have hcb := (hp1 _ (List.getElem_mem hil)).1
    have hss := sumTo_succ (x := x) h1
    rw [hi, Int.toNat_natCast, hci] at hss
    refine Tr.seq (Tr.block (Tr.drawK (TraceK.runN 6 rfl (by simp; omega) ?_)))
    rw [getD_map h1, hi]
    refine TraceK.runN 2 rfl (by simp; omega) ?_
    rw [getD_map hil]
    refine TraceK.run rfl (by simp) (.done ⟨by kernel_rfl, by kernel_rfl, ?_⟩)
    refine Tr.regR rfl (by simp) ?_
    refine ⟨k + 1, _, Wk.le (.cons rfl (.refl _) (.cons rfl (.refl _) (.cons rfl (VLe.i ?_) (.cons rfl (VLe.i (w64 (by omega) (by omega))) .nil)))) (.cons rfl (LLe.refl _) .nil) .nil rfl rfl, ⟨⟨h1, by omega, by omega⟩, rfl⟩, by omega⟩
    show IntKind.wrap .i64 (sumTo x l k + x.passes[i].cost) = _
    rw [hss, w64 (by omega) (by omega)]
  · have h1 : k = l.length := by simp at h1; omega
    subst h1
    exact Tr.seqR rfl (by simp) (Tr.retX rfl rfl rfl rfl trivial)

theorem c_rest07 {x : Nf} (hx : nfOk x = true) {l : List Int} (hl : l.length ≤ 10) (hi : inPs x l) {q : Nat} (hq : q < x.lacks.length) : C Tryz.prog F.ref07_rest [.agg (nfC x), intsV l, I (q : Nat)] (I (restQ x l q)) := by
  obtain ⟨⟨h16, h10⟩, hl1, hp1⟩ := nfOk_spec hx
  have hlq := hl1 _ (List.getElem_mem hq)
  have s0 : subTo x l q 0 = x.lacks[q] := by simp [subTo, hq]
  refine C_of mixed chk.ref07_rest (by simp) fun S ok => ?_
  refine Tr.seqR rfl (by simp) ?_
  refine Tr.seqN 4 rfl (by simp; omega) ?_
  rw [getD_map hq]
  refine Steps.fin rfl (by simp) (Tr.seq (Tr.seqR rfl (by simp) (Tr.block ?_)))
  refine Tr.loop (fun (k : Nat) st => (k ≤ l.length ∧ subTo x l q k ≤ 100 ∧ -(k * 100) ≤ subTo x l q k) ∧ st = { env := [(1, intsV l), (2, I (q : Nat)), (3, .ptr 3 0), (7, I (subTo x l q k)), (8, I (k : Nat))], bx := [(3, ⟨nfC x, false⟩)], rw := [], log := [], stp := false }) (fun k => l.length - k) 0
    (Wk.le (.cons rfl (.refl _) (.cons rfl (.refl _) (.cons rfl (.refl _) (.cons rfl (VLe.i s0.symm) (.cons rfl (.refl _) .nil))))) (.cons rfl (LLe.refl _) .nil) .nil rfl rfl) ⟨⟨by omega, by omega, by omega⟩, rfl⟩ ?_
  rintro k st ⟨⟨hk1, hs1, hs2⟩, rfl⟩
  refine Tr.seq (Tr.seqR rfl (by simp) (Tr.cond rfl rfl (fun h1 => Tr.skip ?_) (fun h1 => Tr.exit ?_)))
  · have h1 : k < l.length := by simpa using h1
    obtain ⟨i, hi, hil⟩ := hi _ (List.getElem_mem h1)
    have hpi := hp1 _ (List.getElem_mem hil)
    have hqa : q < x.passes[i].adds.length := by omega
    have hab := hpi.2.2 _ (List.getElem_mem hqa)
    have hss := subTo_succ (x := x) (q := q) h1
    rw [hi, Int.toNat_natCast] at hss
    have eA : (addsOf x i).getD q 0 = x.passes[i].adds[q] := by simp [addsOf, hil, hqa]
    rw [eA] at hss
    refine Tr.seq (Tr.block (Tr.drawK (TraceK.runN 6 rfl (by simp; omega) ?_)))
    rw [getD_map h1, hi]
    refine TraceK.runN 2 rfl (by simp; omega) ?_
    rw [getD_map hil]
    refine TraceK.runN 4 rfl (by simp; omega) ?_
    rw [getD_map hqa]
    refine TraceK.run rfl (by simp) (.done ⟨by kernel_rfl, by kernel_rfl, ?_⟩)
    refine Tr.regR rfl (by simp) ?_
    refine ⟨k + 1, _, Wk.le (.cons rfl (.refl _) (.cons rfl (.refl _) (.cons rfl (.refl _) (.cons rfl (VLe.i ?_) (.cons rfl (VLe.i (w64 (by omega) (by omega))) .nil))))) (.cons rfl (LLe.refl _) .nil) .nil rfl rfl, ⟨⟨h1, by omega, by omega⟩, rfl⟩, by omega⟩
    show IntKind.wrap .i64 (subTo x l q k - x.passes[i].adds[q]) = _
    rw [hss, w64 (by omega) (by omega)]
  · have h1 : k = l.length := by simp at h1; omega
    subst h1
    refine Tr.seqR rfl (by simp) (Tr.retX rfl rfl rfl ?_ trivial)
    show I (restQ x l q) = I (bif true then (if subTo x l q l.length > 0 then subTo x l q l.length else 0) else _)
    rw [cond_true, ite_max]; rfl

theorem c_covers07 {x : Nf} (hx : nfOk x = true) {l : List Int} (hl : l.length ≤ 10) (hi : inPs x l) : C Tryz.prog F.ref07_covers [.agg (nfC x), intsV l] (.bool (covQ x l)) := by
  have h16 := (nfOk_spec hx).1.1
  refine C_of mixed chk.ref07_covers (by simp) fun S ok => ?_
  refine Tr.seqR rfl (by simp) (Tr.seq (Tr.seqR rfl (by simp) (Tr.block ?_)))
  refine Tr.loop (fun (k : Nat) st => (k ≤ x.lacks.length ∧ ∀ q < k, ¬ restQ x l q > 0) ∧ st = { env := [(1, intsV l), (2, .ptr 2 0), (5, I (k : Nat))], bx := [(2, ⟨nfC x, false⟩)], rw := [], log := [], stp := false }) (fun k => x.lacks.length - k) 0
    (Wk.le (.cons rfl (.refl _) (.cons rfl (.refl _) (.cons rfl (.refl _) .nil))) (.cons rfl (LLe.refl _) .nil) .nil rfl rfl) ⟨⟨by omega, by omega⟩, rfl⟩ ?_
  rintro k st ⟨⟨hk, ha⟩, rfl⟩
  refine Tr.seq (Tr.seqR rfl (by simp) (Tr.cond rfl rfl (fun h1 => Tr.skip ?_) (fun h1 => Tr.exit ?_)))
  · have h1 : k < x.lacks.length := by simpa using h1
    refine Tr.seq (Tr.block (Tr.seqC rfl (by simp) (Steps.call rfl rfl (c_rest07 hx hl hi h1) (Steps.fin rfl (by simp) (Tr.cond rfl rfl (fun h2 => ?_) (fun h2 => Tr.skip (Tr.regR rfl (by simp) ?_)))))))
    · have h2 : decide (restQ x l k > 0) = true := h2
      refine Tr.seqR rfl (by simp) (Tr.retX rfl rfl rfl ?_ trivial)
      have : covQ x l = false := by
        unfold covQ
        rw [List.all_eq_false]
        exact ⟨k, List.mem_range.2 h1, by rw [h2]; simp⟩
      rw [this]; rfl
    · have h2 : decide (restQ x l k > 0) = false := h2
      have h2 := of_decide_eq_false h2
      exact ⟨k + 1, _, Wk.le (.cons rfl (.refl _) (.cons rfl (.refl _) (.cons rfl (VLe.i (w64 (by omega) (by omega))) .nil))) (.cons rfl (LLe.refl _) .nil) .nil rfl rfl, ⟨⟨h1, fun q hq => by
        rcases Nat.lt_succ_iff_lt_or_eq.1 hq with h | rfl
        · exact ha q h
        · exact h2⟩, rfl⟩, by omega⟩
  · have h1 : k = x.lacks.length := by simp at h1; omega
    subst h1
    refine Tr.seqR rfl (by simp) (Tr.retX rfl rfl rfl ?_ trivial)
    have : covQ x l = true := by
      unfold covQ
      rw [List.all_eq_true]
      intro q hq
      have := ha q (List.mem_range.1 hq)
      rw [decide_eq_false this]; rfl
    rw [this]; rfl

end Go.Proofs.YtdejdblopmfjfaaGreatDoor


/-! Structs that lie in an arena: addresses, fields, a new one; what lies there becomes data. -/
set_option linter.unusedVariables false
set_option linter.unusedSimpArgs false
set_option maxRecDepth 20000
namespace Go.Am
open Go.RowKit

theorem opK_nilck0 {P : Program} {o : Oper} {os : List Operand} (hk : opK P o.op = some (.nilck, os)) : ∃ p, o.op = .nilCheck p ∧ os = [p] := by
  cases ho : o.op <;> rw [ho] at hk <;> simp only [opK] at hk <;> (try (cases hk; done)) <;> (try (repeat' (split at hk <;> (try (cases hk; done)))))
  all_goals first
    | (simp only [Option.map_eq_some_iff, Prod.mk.injEq] at hk; obtain ⟨_, _, h1, _⟩ := hk; cases h1; done)
    | (simp only [eqKind] at hk; repeat' (split at hk <;> (try (cases hk; done))))
    | (cases hk; exact ⟨_, rfl, rfl⟩)

theorem opK_faddr0 {P : Program} {o : Oper} {os : List Operand} {off : Nat} (hk : opK P o.op = some (.faddr off, os)) : ∃ t p f fs fd n, o.op = .fieldAddr t p f ∧ P.underlying t = some (.struct fs) ∧ fs[f]? = some fd ∧ szOf P fd.type = some n ∧ n ≠ 0 ∧ fd.offset = off ∧ os = [p] := by
  cases ho : o.op <;> rw [ho] at hk <;> simp only [opK] at hk <;> (try (cases hk; done)) <;> (try (repeat' (split at hk <;> (try (cases hk; done)))))
  all_goals first
    | (simp only [Option.map_eq_some_iff, Prod.mk.injEq] at hk; obtain ⟨_, _, h1, _⟩ := hk; cases h1; done)
    | (simp only [eqKind] at hk; repeat' (split at hk <;> (try (cases hk; done))))
    | (cases hk; exact ⟨_, _, _, _, _, _, rfl, by assumption, by assumption, by assumption, by assumption, rfl, rfl⟩)

theorem opK_box0 {P : Program} {o : Oper} {os : List Operand} (hk : opK P o.op = some (.box, os)) : ∃ e p, o.op = .box e p ∧ os = [p] := by
  cases ho : o.op <;> rw [ho] at hk <;> simp only [opK] at hk <;> (try (cases hk; done)) <;> (try (repeat' (split at hk <;> (try (cases hk; done)))))
  all_goals first
    | (simp only [Option.map_eq_some_iff, Prod.mk.injEq] at hk; obtain ⟨_, _, h1, _⟩ := hk; cases h1; done)
    | (simp only [eqKind] at hk; repeat' (split at hk <;> (try (cases hk; done))))
    | (cases hk; exact ⟨_, _, rfl, rfl⟩)

theorem opK_loadT {P : Program} {o : Oper} {os : List Operand} {n : Nat} (hk : opK P o.op = some (.load n true, os)) : ∃ t p d, o.op = .load t p ∧ szOf P t = some n ∧ P.underlying t = some d ∧ aggB P t = true ∧ os = [p] := by
  cases ho : o.op <;> rw [ho] at hk <;> simp only [opK] at hk <;> (try (cases hk; done)) <;> (try (repeat' (split at hk <;> (try (cases hk; done)))))
  all_goals first
    | (simp only [Option.map_eq_some_iff, Prod.mk.injEq] at hk; obtain ⟨_, _, h1, _⟩ := hk; cases h1; done)
    | (simp only [eqKind] at hk; repeat' (split at hk <;> (try (cases hk; done))))
    | (cases hk; exact ⟨_, _, _, rfl, by assumption, by assumption, by assumption, rfl⟩)

section
variable {E : Env} {S0 : Sur} {l0 : List (List V)} {s0 : Bool} {A : Arena}

/-- A pointer of an arena is not nil. -/
theorem Steps.rnil {K : St → Prop} {s : St} {d : Nat} {x : X} {rest : List Ins} {blk off : Nat} (hx : evXs s.env [x] = some [.rptr blk off]) (hk : Steps E rest K (s.put (some d) (.rptr blk off))) : Steps E (⟨some d, .nilck, [x], none⟩ :: rest) K s := by
  refine Step1.raw fun slots ops o i ro n a w h hc hs hi R Q next hn => ?_
  obtain ⟨os, cc⟩ := comp_of hc
  obtain ⟨p, ho, rfl⟩ := opK_nilck0 cc.op
  obtain ⟨u, hu, o1⟩ := (opds_of R.1 cc.xs (evXs_ok hx)).one
  simp only [List.cons.injEq, and_true] at hu
  subst hu
  have ep := ok_rptr o1
  have hex : (execOp a.eval o).run E.P w = .ok (.value (.pointer (some ⟨blk, off, none⟩))) w := by simp [execOp, ho, ep]
  refine wpOp_done hi (wanted_none (guard_none cc rfl)) (opK_defer cc.op) (.inl hex) (hn _ _ _ h hk ?_ rfl)
  show E.relF _ _ _ _ _ _
  rw [(put_log _ _ _).1, (put_log _ _ _).2, fs_put]
  exact rel_after (eff := { v := _ }) cc R R.1 (.data (.rptr _ _)) rfl

/-- The address of a field. -/
theorem Steps.rfaddr {K : St → Prop} {s : St} {d f : Nat} {x : X} {rest : List Ins} {blk off : Nat} (hx : evXs s.env [x] = some [.rptr blk off]) (hk : Steps E rest K (s.put (some d) (.rptr blk (off + f)))) : Steps E (⟨some d, .faddr f, [x], none⟩ :: rest) K s := by
  refine Step1.raw fun slots ops o i ro n a w h hc hs hi R Q next hn => ?_
  obtain ⟨os, cc⟩ := comp_of hc
  obtain ⟨t, p, g, fs, fd, m, ho, h1, h2, h3, h4, rfl, rfl⟩ := opK_faddr0 cc.op
  obtain ⟨u, hu, o1⟩ := (opds_of R.1 cc.xs (evXs_ok hx)).one
  simp only [List.cons.injEq, and_true] at hu
  subst hu
  have ep := ok_rptr o1
  have hex : (execOp a.eval o).run E.P w = .ok (.value (.pointer (some ⟨blk, off + fd.offset, none⟩))) w := by
    simp only [execOp, ho, ep, Sem.run_bind, run_fieldAt h1 h2 h3 h4]; rfl
  refine wpOp_done hi (wanted_none (guard_none cc rfl)) (opK_defer cc.op) (.inl hex) (hn _ _ _ h hk ?_ rfl)
  show E.relF _ _ _ _ _ _
  rw [(put_log _ _ _).1, (put_log _ _ _).2, fs_put]
  exact rel_after (eff := { v := _ }) cc R R.1 (.data (.rptr _ _)) rfl

/-- Several cells of an arena's block are read. -/
theorem Steps.aloadT (hE : InA E S0 l0 s0) {K : St → Prop} {s : St} {d n : Nat} {x : X} {rest : List Ins} {blk off : Nat} {cs : List V} (hx : evXs s.env [x] = some [.rptr blk off]) (hl : s.log = encA A) (hA : (blk, .cells cs) ∈ A) (hv : off + n ≤ cs.length)
    (hk : Steps E rest K (s.put (some d) (.agg ((cs.drop off).take n)))) : Steps E (⟨some d, .load n true, [x], none⟩ :: rest) K s := by
  refine Step1.raw fun slots ops o i ro n' a w h hc hs hi R Q next hn => ?_
  obtain ⟨os, cc⟩ := comp_of hc
  obtain ⟨t, p, dd, e1, e2, e3, e4, rfl⟩ := opK_loadT cc.op
  obtain ⟨u, hu, o1⟩ := (opds_of R.1 cc.xs (evXs_ok hx)).one
  simp only [List.cons.injEq, and_true] at hu
  subst hu
  have ep := ok_rptr o1
  have R' : E.relF (encA A) s.stp s.fs a w h := by rw [← hl]; exact R
  obtain ⟨vs, et, h1, h2, h3⟩ := (hE.ar R').ok _ hA
  obtain ⟨y, hy1, hy2⟩ := ok_mkv (σ := s.fs) (h := h) (w := w) (agg := true) (n := n) (l := cs.drop off) (f := fun j => vs.getD (off + j) undef) (by simp; omega) (by simp) (fun j v hv => by
    rw [List.getElem?_drop] at hv
    have hlt : off + j < vs.size := by
      have := (List.getElem?_eq_some_iff.1 hv).1; omega
    have := h3 (off + j) v vs[off + j] hv (by simp [hlt])
    have e : vs.getD (off + j) undef = vs[off + j] := by simp [hlt]
    rw [e]
    exact ⟨.data this.1, Grow.of_data this.1, this.2⟩)
  have hex : (execOp a.eval o).run E.P w = .ok (.value y) w := by
    simp only [execOp, e1, ep, Sem.run_bind]
    rw [run_loadAt (cs := (List.range n).map fun j => vs.getD (off + j) undef) e2 e3 (by simp) (fun j v hv => by
      obtain ⟨hj, rfl⟩ := range_map_get hv
      rw [cell_of_row w blk (off + j) vs et (0, 0) h1]
      have : off + j < vs.size := by omega
      simp [this]) (by rw [e4]; exact hy1)]
    rfl
  refine wpOp_done hi (wanted_none (guard_none cc rfl)) (opK_defer cc.op) (.inl hex) (hn _ _ _ h hk ?_ rfl)
  show E.relF _ _ _ _ _ _
  rw [(put_log _ _ _).1, (put_log _ _ _).2, fs_put]
  exact rel_after (eff := { v := _ }) cc R R.1 hy2 rfl

/-- A new struct of an arena. -/
theorem Steps.abox (hE : InA E S0 l0 s0) {K : St → Prop} {s : St} {d : Nat} {x : X} {rest : List Ins} {v : V} (hx : evXs s.env [x] = some [v]) (hl : s.log = encA A) (hs : (cells v).all scalar = true) (hd : (cells v).all isD = true)
    (hk : ∀ b, b ∉ A.map (·.1) → Steps E rest K { s.put (some d) (.rptr b 0) with log := encA ((b, .cells (cells v)) :: A) }) : Steps E (⟨some d, .box, [x], none⟩ :: rest) K s := by
  refine Step1.raw fun slots ops o i ro n a w h hc hsl hi R Q next hn => ?_
  obtain ⟨os, cc⟩ := comp_of hc
  obtain ⟨e, p, ho, rfl⟩ := opK_box0 cc.op
  obtain ⟨u, hu, o1⟩ := (opds_of R.1 cc.xs (evXs_ok hx)).one
  simp only [List.cons.injEq, and_true] at hu
  subst hu
  have R' : E.relF (encA A) s.stp s.fs a w h := by rw [← hl]; exact R
  obtain ⟨q1, q2⟩ := o1.cells hs
  obtain ⟨R2, hnm⟩ := hE.fresh R' (.cells (a.eval p).cells e) (.cells (cells v)) (fun ext => ⟨(a.eval p).cells, e, heap_alloc_new w _, by omega, fun j u z hu hz => by
    obtain ⟨r1, _, r3⟩ := q2 j u z hu hz
    have hD : isD u = true := by
      rw [List.all_eq_true] at hd
      exact hd u (List.mem_of_getElem? hu)
    exact ⟨(rep_isD hD r1).mono ext, r3⟩⟩)
  refine wpOp_done hi (wanted_none (guard_none cc rfl)) (opK_defer cc.op) (.inl ?_) (hn _ _ _ h (hk _ hnm) (rel_putA cc R2 (.data (.rptr _ _)) rfl) rfl)
  simp [execOp, ho, Instr.box, newVar, newRow]

/-- A struct of an arena becomes data. -/
theorem Wk.closeP (hE : InA E S0 l0 s0) {s : St} {t blk : Nat} {cs : List V} (ht : get s.env t = some (.rptr blk 0)) (hl : s.log = encA A) (hA : (blk, Ob.cells cs) ∈ A) :
    Wk E s { s.put (some t) (.vptr cs 0) with log := encA (dropA A blk) } := by
  intro a w h R
  obtain ⟨q1, q2, _⟩ := R.1.env t _ (by rw [fs_g]; exact ht)
  have R' : E.relF (encA A) s.stp s.fs a w h := by rw [← hl]; exact R
  have hAr := hE.ar R'
  obtain ⟨ext, R2⟩ := hE.close R' hA cs.length (B := dropA A blk) (fun p hp => ⟨List.mem_map.2 ⟨p, (dropA_mem.1 hp).1, rfl⟩, (dropA_mem.1 hp).2⟩) (dropA_nd hAr.nd) (fun ext p hp => (hAr.ok p (dropA_mem.1 hp).1).mono rfl ext)
  obtain ⟨vs, et, h1, h2, h3⟩ := hAr.ok _ hA
  have e : a.tmps.getD t undef = .pointer (some ⟨blk, 0, none⟩) := by
    revert q2
    generalize a.tmps.getD t undef = x1
    intro q2
    cases q2 with
    | data r => cases r; rfl
  have rd : RepD w (cut h.φ blk cs.length) (.vptr cs 0) (.pointer (some ⟨blk, 0, none⟩)) := by
    refine .vptr cs 0 blk 0 (fun j => vs.getD j undef) (fun j v hv => ?_) (fun j v hv => ?_)
    · have hj := (List.getElem?_eq_some_iff.1 hv).1
      have e : vs[j]? = some (vs.getD j undef) := by
        have : j < vs.size := by omega
        simp [this]
      refine ⟨by unfold cut; rw [if_pos rfl]; omega, ?_, (h3 j v _ hv e).2⟩
      rw [Nat.zero_add, cell_of_row w blk j vs et (0, 0) h1, e]
    · have hj := (List.getElem?_eq_some_iff.1 hv).1
      have e : vs[j]? = some (vs.getD j undef) := by
        have : j < vs.size := by omega
        simp [this]
      exact (h3 j v _ hv e).1.mono ext
  have R3 := R2.1.put (d := t) (v := .vptr cs 0) (x := a.tmps.getD t undef) q1 (by rw [e]; exact .data rd) (by rw [e]; exact GrowV.of_data rd)
  rw [put_self (by rw [R.1.size]; exact q1)] at R3
  refine ⟨_, ⟨?_, R2.2⟩, rfl⟩
  show Rel E.nt E.S _ s.stp (s.put (some t) (.vptr cs 0)).fs _ _ _
  rw [fs_put]
  exact R3

theorem Steps.mov {K : St → Prop} {s : St} {d : Nat} {x : X} {rest : List Ins} {v : V} (hx : evXs s.env [x] = some [v]) (hk : Steps E rest K (s.put (some d) v)) : Steps E (⟨some d, .mov, [x], none⟩ :: rest) K s :=
  Step1.does (ins := ⟨some d, .mov, [x], none⟩) (eff := { v := v }) (.op rfl (evXs_ok hx) rfl trivial (fun e => by cases e)) hk

/-- A guard that is known to hold. -/
def onG (s : St) : Option (Nat × Bool) → Prop
  | none => True
  | some (t, want) => ∃ gv, get s.env t = some gv ∧ guardOf want gv = some true

theorem Steps.onG {K : St → Prop} {s : St} {d : Option Nat} {k : Am.K} {xs : List X} {g : Option (Nat × Bool)} {rest : List Ins} (hg : onG s g) (h : Steps E (⟨d, k, xs, none⟩ :: rest) K s) : Steps E (⟨d, k, xs, g⟩ :: rest) K s := by
  cases g with
  | none => exact h
  | some p => obtain ⟨gv, h1, h2⟩ := hg; exact Steps.on h1 h2 h

def offT (t : Nat) : Option (Nat × Bool) → Bool
  | none => true
  | some (t', _) => !(t'.beq t)

theorem onG.put {s : St} {g : Option (Nat × Bool)} {t : Nat} {v : V} (h : onG s g) (hne : offT t g = true) : onG (s.put (some t) v) g := by
  cases g with
  | none => trivial
  | some p =>
    obtain ⟨gv, h1, h2⟩ := h
    refine ⟨gv, ?_, h2⟩
    show get (s.put (some t) v).env p.1 = some gv
    unfold St.put
    simp only
    rw [get_cons, if_neg (fun e => by simp [offT, e] at hne)]
    exact h1

theorem get_put (s : St) (t : Nat) (v : V) : get (s.put (some t) v).env t = some v := by
  unfold St.put
  simp only
  rw [get_cons, if_pos rfl]

theorem evX1 {env : List (Nat × V)} {t : Nat} {v : V} (h : get env t = some v) : evXs env [.t t] = some [v] := by simp [evXs, h]

/-- A field is read, in four steps. -/
theorem Steps.ldF (hE : InA E S0 l0 s0) {K : St → Prop} {s : St} {t0 t1 t2 t3 t4 off : Nat} {blk : Nat} {cs : List V} {v : V} {rest : List Ins} {g : Option (Nat × Bool)} (hl : s.log = encA A) (hx : get s.env t0 = some (.rptr blk 0)) (hA : (blk, .cells cs) ∈ A) (hv : cs[off]? = some v) (hg : Am.onG s g) (hne : (offT t1 g && offT t2 g && offT t3 g) = true)
    (hk : Steps E rest K ((((s.put (some t1) (.rptr blk 0)).put (some t2) (.rptr blk 0)).put (some t3) (.rptr blk off)).put (some t4) v)) :
    Steps E (⟨some t1, .mov, [.t t0], g⟩ :: ⟨some t2, .nilck, [.t t1], g⟩ :: ⟨some t3, .faddr off, [.t t2], g⟩ :: ⟨some t4, .load 1 false, [.t t3], g⟩ :: rest) K s := by
  simp only [Bool.and_eq_true] at hne
  obtain ⟨⟨n1, n2⟩, n3⟩ := hne
  refine Steps.onG hg (Steps.mov (evX1 hx) ?_)
  refine Steps.onG (hg.put n1) (Steps.rnil (evX1 (get_put _ _ _)) ?_)
  refine Steps.onG ((hg.put n1).put n2) (Steps.rfaddr (evX1 (get_put _ _ _)) ?_)
  rw [Nat.zero_add]
  refine Steps.onG (((hg.put n1).put n2).put n3) (Steps.aload hE (evX1 (get_put _ _ _)) (by simpa [put_log] using hl) hA hv hk)

end
end Go.Am


/-! AM, part Zs: calls that return a slice of numbers that may grow. -/
set_option linter.unusedVariables false
set_option linter.unusedSimpArgs false
namespace Go.Am
open Go.RowKit

abbrev intV (n : Int) : V := .int .i64 n

/-- **A CONTRACT WITH A SLICE THAT MAY GROW**: called with these data it returns a slice of these numbers that fills its block, which nothing else refers to. -/
def CG (P : Program) (f : FuncId) (args : List V) (e : Nat) (l : List Int) : Prop :=
  callable P f = true ∧ ∀ (w : World) (φ : Nat → Nat) (vs : Array Value), (∀ b, w.heap.size ≤ b → φ b = 0) → Gl w φ → RepL w φ args vs →
    Calls P f vs w fun er w' => ((l = [] ∧ er = .returned (.slice none 0 0)) ∨ ∃ blk cap cs, er = .returned (.slice (some ⟨blk, 0, none⟩) l.length cap) ∧ l.length ≤ cap ∧ cap ≤ maxLen ∧ cs.size = cap ∧ w.heap.size ≤ blk ∧ blk < w'.heap.size ∧ w'.heap[blk]? = some (.cells cs e (0, 0)) ∧
      ∀ (j : Nat) n, l[j]? = some n → cs[j]? = some (.int .i64 n)) ∧ Below w.heap.size w w'

theorem flat_intV (l : List Int) : (l.map intV).flatMap cells = l.map intV := by
  induction l with
  | nil => rfl
  | cons a l ih => rw [List.map_cons, List.flatMap_cons, ih]; rfl

def qRow (t e : Nat) (l : List Int) : Exit → St → Prop
  | .ret, s | .normal, s => ∃ r, get s.env t = some (.slice (r + 1) 1 (l.map intV)) ∧ get s.rw r = some (l.length, 1, e)
  | _, _ => False

theorem CG_of {P : Program} {f nt t e : Nat} {ic : IC} (hmix : P.follows .mixedOrders = true) (hch : chkF P f = some (nt, ic, [.tmp t])) {args : List V} {l : List Int} (hlen : args.length ≤ nt)
    (hT : ∀ (S : Sur) (ok : S.ok), Tr (env0 P hmix nt S ok) none ic (qRow t e l) (entry args)) : CG P f args e l := by
  obtain ⟨fn, c, hf, hb, hnt, hc, hres, hcall⟩ := chkF_ok hch
  refine ⟨hcall, fun w φ vs htop hgl hrep => ?_⟩
  have hT := hT (S0 w φ) (S0_ok w φ hgl)
  rw [← callsIn_wide (n := 0)]
  refine callsIn_of_wp_marks hf hb trivial ?_
  have R0 : (env0 P hmix nt (S0 w φ) (S0_ok w φ hgl)).rel (entry args) { tmps := vs ++ Array.replicate (fn.ntmps - vs.size) undef, defers := [] } w { φ := φ, β := fun _ => none, γ := fun _ => none, M := fun _ => False, y := ⟨none, fun _ => none⟩ } := by
    have hl := hrep.1
    refine ⟨{ size := by simp; omega, env := fun t v hv => ?_, bx := fun i bo hb => ?_, dom := fun _ _ h => ((by cases h)), inj := fun _ _ _ h => ((by cases h)), rows := fun r n sz e hr => ?_, rdom := fun _ _ h => ((by cases h)), rinj := fun _ _ _ h => ((by cases h)), apart := fun _ _ _ h => ((by cases h)), pins := fun _ _ h => ((by cases h)), mine := fun _ h => ((by cases h)), top := htop, marks := trivial, sur := Moved.refl _ htop }, fun _ h => ((by cases h)), fun _ h => ((by cases h))⟩
    · rw [fs_g] at hv
      obtain ⟨_, h1⟩ := get_entryL 0 args t v hv
      simp only [Nat.sub_zero] at h1
      have ht : t < args.length := (List.getElem?_eq_some_iff.1 h1).1
      have ht' : t < vs.size := by omega
      have e : (vs ++ Array.replicate (fn.ntmps - vs.size) undef).getD t undef = vs[t] := by
        simp [Array.getElem?_append_left ht', ht']
      rw [e]
      have h2 := hrep.2 t v _ h1 (Array.getElem?_eq_getElem ht')
      exact ⟨by show t < nt; omega, .data h2, GrowV.of_data h2⟩
    · rw [fs_b] at hb; simp [entry, get] at hb
    · rw [fs_r] at hr; simp [entry, get] at hr
  refine hT c hc 0 _ w _ R0 _ fun ex s' a' w' h' k R' ey => ?_
  have fin : (∃ r, get s'.env t = some (.slice (r + 1) 1 (l.map intV)) ∧ get s'.rw r = some (l.length, 1, e)) → LeavesInM Fence.wide 0 P fn a'.tmps
      (fun er w' => ((l = [] ∧ er = .returned (.slice none 0 0)) ∨ ∃ blk cap cs, er = .returned (.slice (some ⟨blk, 0, none⟩) l.length cap) ∧ l.length ≤ cap ∧ cap ≤ maxLen ∧ cs.size = cap ∧ w.heap.size ≤ blk ∧ blk < w'.heap.size ∧ w'.heap[blk]? = some (.cells cs e (0, 0)) ∧
        ∀ (j : Nat) n, l[j]? = some n → cs[j]? = some (.int .i64 n)) ∧ Below w.heap.size w w') a'.defers .returning w' := by
    rintro ⟨r, htr, hrr⟩
    refine leave (E := env0 P hmix nt (S0 w φ) (S0_ok w φ hgl)) a'.defers a' w' rfl R' fun a2 w2 ht R2 => ?_
    obtain ⟨g1, g2, g3⟩ := R2.1.env t _ (by rw [fs_g]; exact htr)
    obtain ⟨x, hx⟩ : ∃ x, a2.tmps.getD t undef = x := ⟨_, rfl⟩
    rw [hx] at g2 g3
    have hS : Moved (fun _ => False) w φ h'.M w2 h'.φ := R2.1.sur
    have hbel : Below w.heap.size w w2 := ⟨hS.os, hS.tape, hS.output, hS.size, fun k hk => (hS.old k hk (fun h => h)).1⟩
    have hrl : h'.γ = h'.γ := rfl
    cases g2 with
    | data rr => cases rr
    | named _ _ _ _ hrep =>
      have hxc : x.cells[0]? = some x := by rcases slice_at hrep with ⟨⟨_, _, rfl⟩, _⟩ | ⟨_, _, _, _, rfl, _⟩ <;> rfl
      obtain ⟨n, e', hr', hle, himp⟩ := g3 0 _ x rfl hxc r 1 (l.map intV) rfl
      rw [fs_r, hrr] at hr'
      cases hr'
      have hrun := run_results (P := P) (w := w2) (fn := fn) (tmps := a2.tmps) (xs := [x]) (by rw [hres]; rfl) (fun j r z h1 h2 => by
        rw [hres] at h1
        cases j with
        | zero => simp at h1 h2; subst h1 h2; simp only [hx]; rfl
        | succ j => simp at h1)
      rw [ht] at hrun
      rcases himp (by simp) with ⟨h1, rfl⟩ | ⟨blk, cap, cs, hγ, rfl, hheap, hsz, hcap, hmax⟩
      · exact ⟨_, hrun, .inl ⟨by simpa using h1, rfl⟩, hbel⟩
      · have hM : h'.M blk := R2.1.rowM hγ
        refine ⟨_, hrun, .inr ⟨blk, cap, cs, by rw [List.length_map], by simpa using hcap, hmax, by omega, (hS.mine _ hM).elim (fun h => h.elim) id, R2.1.mine _ hM, hheap, fun j m hj => ?_⟩, hbel⟩
        have hjl : ((l.map intV).flatMap cells)[j]? = some (intV m) := by
          rw [flat_intV, List.getElem?_map, hj]; rfl
        have hne : l.map intV ≠ [] := fun e => by
          rw [e] at hjl; simp at hjl
        rcases slice_at hrep with ⟨_, e0⟩ | ⟨blk2, off2, cap2, cv, e2, _, _, _, ay⟩
        · exact absurd e0 hne
        · cases e2
          obtain ⟨_, k2, k3, _⟩ := ay j _ hjl
          have k4 : cv j = .int .i64 m := by
            generalize cv j = z at k3
            cases k3; rfl
          rw [k4] at k2
          unfold World.cell? at k2
          rw [hheap] at k2
          simpa using k2
  cases ex with
  | normal => exact fin k
  | ret => exact fin k
  | _ => exact k.elim

section
variable {E : Env} {σ : FSt}

/-- Such a call: the slice is a row that grows. -/
theorem does_callG {d : Nat} {f : FuncId} {xs : List X} {vs us : List V} {e : Nat} {l : List Int} (hx : xs.mapM (evX σ) = some vs) (hd : ∀ b, toDs b vs = some (us, [])) (hC : CG E.P f us e l) (hrd : σ.r d = none) :
    Does E σ ⟨some d, .call f, xs, none⟩ { v := .slice (d + 1) 1 (l.map intV), wr := [(d, l.length, 1, e)], rr := [d] } (xslots xs ++ [.row d]) := by
  refine .sem fun τ hτ slots ops i o ro n log stp a w h hc hs hi R Q next hn => ?_
  have hrd' : τ.r d = none := by rw [r_eq (hτ (.row d) (by simp))]; exact hrd
  have hx' : xs.mapM (evX τ) = some vs := evX_reads hx fun l hl => hτ l (by simp [hl])
  obtain ⟨os, cc⟩ := comp_of hc
  have hdf := opK_defer cc.op
  have hgo : o.guard = none := by
    rcases cc.guard with ⟨_, e⟩ | ⟨_, _, _, _, _, e⟩
    · exact e
    · cases e
  obtain ⟨c, e1, e2, e3⟩ := opK_call cc.op
  have hO := opds_of R.1 cc.xs hx'
  obtain ⟨q1, q2⟩ := hO.get
  subst e3
  have hw := wanted_none (ops := ops) (a := a) hgo
  have hrun := run_call (E := E) (a := a) (w := w) hC.1 e2 e1
  unfold wpOpIn
  simp only [hi, hw, if_true, Oper.wpIn]
  refine ⟨fun _ _ => trivial, ?_⟩
  rw [Oper.semAt_eq _ _ _ hdf, hrun]
  simp only [Oper.uponIn]
  refine ⟨fun e => by simp [wideR, Fence.wide] at e, ?_⟩
  obtain ⟨h1, R1, ext1, p1, p2, p3, hrep⟩ := args_data R.1 (hd τ.b)
  have hRL : RepL w h1.φ us (c.args.map a.eval) := hrep _ (by simpa using q1) (fun i v x hv hx => by
    simp only [Array.getElem?_map, Option.map_eq_some_iff] at hx
    obtain ⟨p, hp, rfl⟩ := hx
    exact (q2 i v p hv (by simpa using hp)).1)
  refine (callsIn_wideR (hC.2 w h1.φ _ R1.top (E.ok.gl _ _ _ _ _ R1.sur) hRL)).mono ?_
  rintro er w' ⟨hcase, hbel⟩
  have R1 : Rel E.nt E.S log stp τ a w h1 := R1
  rcases hcase with ⟨hl0, rfl⟩ | ⟨blk, cap, cs, rfl, hcap, hmax, hsz, hge, hlt, hheap, hcells⟩
  · subst hl0
    have ex : Ext w h1.φ w' h1.φ := fun b o ho => by
      have hlt : b < w.heap.size := by
        rcases Nat.lt_or_ge b w.heap.size with h1 | h1
        · exact h1
        · rw [R1.top b h1] at ho; omega
      exact ⟨ho, hbel.cell (p := ⟨b, o, none⟩) hlt, mapAt_of_block (hbel.block b hlt)⟩
    have R2 := R1.move E.ok (w' := w') (h' := h1) rfl rfl rfl (fun _ h => h)
      ⟨ex, fun b hlt _ => ⟨hbel.block b hlt, rfl⟩, hbel.size, hbel.os, hbel.tape, hbel.output, fun b hb => .inl hb, fun b hb => R1.top b (Nat.le_trans hbel.size hb)⟩
      (fun b hM => ⟨hbel.block b (R1.mine b hM), rfl⟩) (fun b hM => Nat.lt_of_lt_of_le (R1.mine b hM) hbel.size) (fun b hb => R1.top b (Nat.le_trans hbel.size hb))
    have R3 := R2.row0 (r := d) (sz := 1) (e := e) hrd'
    have hg := growOk0 (r := d) (n := 0) (sz := 1) (e := e) (σ' := τ.set (.row d) (.r 0 1 e)) (h' := h1) (w' := w') (by simp)
    exact hn _ _ _ (rel_after (eff := { v := .slice (d + 1) 1 [], wr := [(d, 0, 1, e)], rr := [d] }) cc R R3 ⟨.named d 1 [] _ (.slice0 _ _ _), hg⟩ (by simpa using p3)) (by simpa using p3)
  · obtain ⟨R3, ext⟩ := R1.setRow (r := d) (n := l.length) (sz := 1) (e := e) (blk := blk) (cs := cs) (w' := w') E.ok (.inl hrd') (.inl hge) hheap (fun b hb _ => hbel.block b hb) hbel.size hbel.os hbel.tape hbel.output
      (fun o' ho' => by rw [R1.top _ hge] at ho'; omega) (by omega) hlt
    have hrow := rep_row (w' := w') (φ' := fun b => if b = blk then l.length * 1 else h1.φ b) (sz := 1) (blk := blk) (cap := cap) (e := e) (us := l.map intV) (cs := cs) (by omega) (by rw [List.length_map]; exact hcap) (fun u hu => by obtain ⟨_, _, rfl⟩ := List.mem_map.1 hu; rfl) hheap (by rw [List.length_map, if_pos rfl]; exact Nat.le_refl _) (fun j v hv => by
      rw [flat_intV, List.getElem?_map, Option.map_eq_some_iff] at hv
      obtain ⟨m, hm, rfl⟩ := hv
      exact ⟨_, hcells j m hm, .int _ _, rfl⟩)
    rw [List.length_map] at hrow
    have hg := growOk (σ' := τ.set (.row d) (.r l.length 1 e)) (h' := { h1 with φ := fun b => if b = blk then l.length * 1 else h1.φ b, M := fun b => h1.M b ∨ b = blk, γ := fun k => if k = d then some blk else h1.γ k })
      (w' := w') (r := d) (n := l.length) (sz := 1) (e := e) (blk := blk) (cap := cap) (xs := l.map intV) (cs := cs) (by simp) (by rw [List.length_map]) (if_pos rfl) hheap (by omega) hcap hmax
    exact hn _ _ _ (rel_after (eff := { v := .slice (d + 1) 1 (l.map intV), wr := [(d, l.length, 1, e)], rr := [d] }) cc R R3 ⟨.named d 1 (l.map intV) _ hrow, hg⟩ (by simpa using p3)) (by simpa using p3)

theorem Steps.callG {s : St} {K : St → Prop} {d : Nat} {f : FuncId} {xs : List X} {vs us : List V} {e : Nat} {l : List Int} {rest : List Ins} (hx : evXs s.env xs = some vs) (hd : ∀ b, toDs b vs = some (us, [])) (hC : CG E.P f us e l) (hrd : get s.rw d = none)
    (hk : Steps E rest K ((s.eff { v := .slice (d + 1) 1 (l.map intV), wr := [(d, l.length, 1, e)], rr := [d] }).put (some d) (.slice (d + 1) 1 (l.map intV)))) : Steps E (⟨some d, .call f, xs, none⟩ :: rest) K s :=
  Step1.does (ins := ⟨some d, .call f, xs, none⟩) (does_callG (evXs_ok hx) hd hC (by rw [fs_r]; exact hrd)) hk

end
end Go.Am


/-! Contracts: Own as a slice that may grow; the specification's choice, Covers, Earlier. -/
set_option linter.unusedVariables false
set_option linter.unusedSimpArgs false
set_option maxRecDepth 40000
set_option maxHeartbeats 4000000
namespace Go.Proofs.YtdejdblopmfjfaaGreatDoor
open Go.Am
attribute [local simp] cells scalar mkv splice under2 under dem dem1 eQ nfC intsV
theorem c_OwnG {l : List Int} (hl : l.length ≤ 1000000) : CG Tryz.prog F.ref00_Own [intsV l] 3 l := by
  refine CG_of mixed chk.ref00_Own (by simp) fun S ok => ?_
  refine Tr.seqR rfl (by simp) (Tr.seqR rfl (by simp) (Tr.seqR rfl (by simp; omega) (Tr.ret ?_)))
  refine ⟨6, rfl, ?_⟩
  show some ((l.map I).length, 1, 3) = _
  rw [List.length_map]

theorem c_OwnC {l : List Int} (hl : l.length ≤ 1000000) : C Tryz.prog F.ref00_Own [intsV l] (intsV l) := by
  refine C_of mixed chk.ref00_Own (by simp) fun S ok => ?_
  refine Tr.seqR rfl (by simp) (Tr.seqR rfl (by simp) (Tr.seqR rfl (by simp; omega) ?_))
  exact Tr.weak (s' := { env := [(2, intsV l)], bx := [], rw := [], log := [], stp := false }) (Wk.le (.cons rfl (.dem _ _ _) .nil) .nil .nil rfl rfl) (Tr.retX rfl rfl rfl rfl trivial)

/-! ### Earlier -/
def earlB : List Int → List Int → Bool
  | [], m => decide (0 < m.length)
  | _ :: _, [] => false
  | a :: l, b :: m => if a = b then earlB l m else decide (a < b)

theorem earlB_drop {l m : List Int} {k : Nat} (h : k < l.length) (h' : k < m.length) : earlB (l.drop k) (m.drop k) = if l[k] = m[k] then earlB (l.drop (k + 1)) (m.drop (k + 1)) else decide (l[k] < m[k]) := by
  rw [List.drop_eq_getElem_cons h, List.drop_eq_getElem_cons h']; rfl

theorem c_Earlier {l m : List Int} (hl : l.length ≤ 1000000) : C Tryz.prog F.ref00_Earlier [intsV l, intsV m] (.bool (earlB l m)) := by
  refine C_of mixed chk.ref00_Earlier (by simp) fun S ok => ?_
  refine Tr.seqR rfl (by simp) (Tr.seq (Tr.seqR rfl (by simp) (Tr.block ?_)))
  refine Tr.loop (fun (k : Nat) st => ((k ≤ l.length ∧ k ≤ m.length) ∧ earlB l m = earlB (l.drop k) (m.drop k)) ∧ st = { env := [(0, intsV l), (1, intsV m), (5, I (k : Nat))], bx := [], rw := [], log := [], stp := false }) (fun k => l.length - k) 0
    (Wk.le (.cons rfl (.refl _) (.cons rfl (.refl _) (.cons rfl (.refl _) .nil))) .nil .nil rfl rfl) ⟨⟨by simp, by simp⟩, rfl⟩ ?_
  rintro k st ⟨⟨⟨hk, hk'⟩, he⟩, rfl⟩
  refine Tr.seq (Tr.seqR rfl (by simp) (Tr.cond rfl rfl (fun h1 => Tr.skip ?_) (fun h1 => Tr.exit ?_)))
  rotate_left
  · have h1 : (bif decide ((k : Int) < ((l.map I).length : Int)) then decide ((k : Int) < ((m.map I).length : Int)) else false) = false := h1
    refine Tr.seqR rfl (by simp) (Tr.retX rfl rfl rfl ?_ trivial)
    rw [he]
    show _ = V.bool (decide (((l.map I).length : Int) < ((m.map I).length : Int)))
    rw [List.length_map, List.length_map] at h1 ⊢
    congr 1
    by_cases hkl : k < l.length
    · have : ¬ k < m.length := fun h => by
        have e1 : decide ((k : Int) < (l.length : Int)) = true := by simp; omega
        have e2 : decide ((k : Int) < (m.length : Int)) = true := by simp; omega
        rw [e1, e2] at h1; cases h1
      rw [List.drop_eq_getElem_cons hkl, List.drop_eq_nil_of_le (show m.length ≤ k by omega)]
      show false = _
      simp; omega
    · rw [List.drop_eq_nil_of_le (show l.length ≤ k by omega)]
      show decide (0 < (m.drop k).length) = _
      rw [List.length_drop, decide_eq_decide]; omega
  have h1 : (bif decide ((k : Int) < ((l.map I).length : Int)) then decide ((k : Int) < ((m.map I).length : Int)) else false) = true := h1
  rw [List.length_map, List.length_map] at h1
  have hkl : k < l.length := by
    by_cases h : k < l.length
    · exact h
    · rw [decide_eq_false (by omega)] at h1; cases h1
  have hkm : k < m.length := by
    by_cases h : k < m.length
    · exact h
    · rw [decide_eq_false (p := (k : Int) < (m.length : Int)) (by omega)] at h1
      cases h2 : decide ((k : Int) < (l.length : Int)) <;> rw [h2] at h1 <;> cases h1
  rw [earlB_drop hkl hkm] at he
  refine Tr.seq (Tr.block (Tr.seq (Tr.drawK (TraceK.runN 3 rfl (by simp; omega) ?_))))
  rw [getD_map hkl]
  refine TraceK.runN 4 rfl (by simp; omega) ?_
  rw [getD_map hkm]
  refine TraceK.run rfl (by simp) (.done ⟨by kernel_rfl, by kernel_rfl, ?_⟩)
  refine Tr.cond rfl rfl (fun h2 => ?_) (fun h2 => Tr.skip ?_)
  · have h2 : (l[k] != m[k]) = true := h2
    have h2 : l[k] ≠ m[k] := by simpa using h2
    rw [if_neg h2] at he
    refine Tr.seq (Tr.drawK (TraceK.runN 3 rfl (by simp; omega) ?_))
    rw [getD_map hkl]
    refine TraceK.runN 4 rfl (by simp; omega) ?_
    rw [getD_map hkm]
    refine TraceK.run rfl (by simp) (.done ⟨by kernel_rfl, by kernel_rfl, Tr.retX rfl rfl rfl ?_ trivial⟩)
    rw [he]; rfl
  · have h2 : (l[k] != m[k]) = false := h2
    have h2 : l[k] = m[k] := by simpa using h2
    rw [if_pos h2] at he
    exact Tr.regR rfl (by simp) ⟨k + 1, _, Wk.le (.cons rfl (.refl _) (.cons rfl (.refl _) (.cons rfl (VLe.i (w64 (by omega) (by omega))) .nil))) .nil .nil rfl rfl, ⟨⟨⟨hkl, hkm⟩, he⟩, rfl⟩, by omega⟩

end Go.Proofs.YtdejdblopmfjfaaGreatDoor


/-! Contract: the specification's search. -/
set_option linter.unusedVariables false
set_option linter.unusedSimpArgs false
set_option maxRecDepth 40000
set_option maxHeartbeats 4000000
namespace Go.Am
/-- Instructions whose guards are known not to hold. -/
def offG (ins : Ins) (s : St) : Bool :=
  match ins.g with
  | some (t, want) => match get s.env t with
    | some gv => match guardOf want gv with
      | some false => true
      | _ => false
    | none => false
  | none => false

def runOff : Nat → List Ins → St → Option (St × List Ins)
  | 0, il, s => some (s, il)
  | _ + 1, [], _ => none
  | n + 1, i :: r, s => match offG i s with
    | true => runOff n r (s.put i.d (.cond false (.bool true)))
    | false => none

theorem Steps.offN {E : Env} {K : St → Prop} : ∀ (n : Nat) {s s' : St} {il rest : List Ins} (_ : runOff n il s = some (s', rest)) (_ : Steps E rest K s'), Steps E il K s
  | 0, s, s', il, rest, h, hs => by cases h; exact hs
  | n + 1, s, s', [], rest, h, hs => by cases h
  | n + 1, s, s', i :: r, rest, h, hs => by
    unfold runOff at h
    split at h
    · rename_i ho
      unfold offG at ho
      split at ho
      · rename_i t want hg
        split at ho
        · rename_i gv hgv
          split at ho
          · rename_i hgb
            exact Steps.off _ hg hgv hgb (Steps.offN n h hs)
          · cases ho
        · cases ho
      · cases ho
    · cases h
end Go.Am

namespace Go.Proofs.YtdejdblopmfjfaaGreatDoor
open Go.Am
attribute [local simp] cells scalar mkv splice under2 under dem dem1 eQ nfC intsV
structure Sr where
  ch : List Int
  co : Int
  is : Bool

def srV (x : Nf) (pass : Int) (s : Sr) : List V := [intsV x.lacks, .slice 0 2 (x.passes.map eQ), I pass, intsV s.ch, I s.co, .bool s.is]
def betterQ (x : Nf) (l : List Int) (s : Sr) : Bool := decide (sumTo x l l.length < s.co) || ((sumTo x l l.length == s.co) && (decide (l.length < s.ch.length) || (((l.length : Int) == (s.ch.length : Int)) && earlB l s.ch)))
def updQ (x : Nf) (s : Sr) (l : List Int) : Sr := if covQ x l then (if (!s.is || betterQ x l s) = true then ⟨l, sumTo x l l.length, true⟩ else s) else s
def subs (n : Nat) (pass : Int) : Nat → List Int → List (List Int)
  | 0, _ => []
  | m + 1, l => (if ((n - (m + 1) : Nat) : Int) ≠ pass then (l ++ [((n - (m + 1) : Nat) : Int)]) :: subs n pass m (l ++ [((n - (m + 1) : Nat) : Int)]) else []) ++ subs n pass m l

theorem setA1 (b : Nat) (o o' : Ob) : setA [(b, o)] b o' = [(b, o')] := by simp [setA]

abbrev srA (x : Nf) (pass : Int) (blk : Nat) (s : Sr) : Arena := [(blk, .cells (srV x pass s))]

theorem c_try {x : Nf} (hx : nfOk x = true) {pass : Int} {blk : Nat} : ∀ (m : Nat), m ≤ x.passes.length → ∀ (l : List Int) (s : Sr), inPs x l → l.length + m ≤ x.passes.length →
    CA Tryz.prog F.ref07_Search_try (srA x pass blk s) [] [.rptr blk 0, intsV l, I ((x.passes.length - m : Nat) : Int)] (.tuple []) (srA x pass blk ((l :: subs x.passes.length pass m l).foldl (updQ x) s)) := by
  have h10 := (nfOk_spec hx).1.2
  intro m
  induction m using Nat.strongRecOn with
  | ind m ih =>
  intro hm l s hi hlm
  have hl : l.length ≤ 10 := by omega
  refine CA_of mixed chk.ref07_Search_try (by simp) fun S ok S1 hA hK => ?_
  have hmem : ∀ s, (blk, Ob.cells (srV x pass s)) ∈ srA x pass blk s := fun s => List.mem_singleton.2 rfl
  obtain ⟨s1, hs1⟩ : ∃ s1, updQ x s l = s1 := ⟨_, rfl⟩
  rw [List.foldl_cons, hs1]
  refine Tr.meet { env := [(0, .rptr blk 0), (1, intsV l), (2, I ((x.passes.length - m : Nat) : Int))], bx := [], rw := [], log := encA (srA x pass blk s1), stp := false } ?_ ?_
  · refine Tr.seq (Tr.reg (Steps.runN 1 rfl (by simp) (Steps.rnil rfl (Steps.rfaddr rfl (Steps.aloadT hA rfl rfl (hmem s) (by simp [srV]) (Steps.run rfl (by simp) ?_))))))
    refine Steps.call rfl rfl (c_covers07 hx hl hi) (Steps.fin rfl (by simp) ?_)
    refine Tr.cond rfl rfl (fun h1 => ?_) (fun h1 => Tr.skip ?_)
    rotate_left
    · have h1 : covQ x l = false := h1
      have e : s1 = s := by rw [← hs1]; unfold updQ; rw [if_neg (by rw [h1]; simp)]
      rw [e]
      exact Wk.le (.cons rfl (.refl _) (.cons rfl (.refl _) (.cons rfl (.refl _) .nil))) .nil .nil rfl rfl
    have h1 : covQ x l = true := h1
    have e1 : s1 = if (!s.is || betterQ x l s) = true then ⟨l, sumTo x l l.length, true⟩ else s := by rw [← hs1]; unfold updQ; rw [if_pos h1]
    obtain ⟨n, hn⟩ : ∃ n, sumTo x l l.length = n := ⟨_, rfl⟩
    have hbq : betterQ x l s = (decide (n < s.co) || ((n == s.co) && (decide (l.length < s.ch.length) || (((l.length : Int) == (s.ch.length : Int)) && earlB l s.ch)))) := by unfold betterQ; rw [hn]
    refine Tr.seq (Tr.reg (Steps.runN 1 rfl (by simp) (Steps.rnil rfl (Steps.rfaddr rfl (Steps.aloadT hA rfl rfl (hmem s) (by simp [srV]) (Steps.run rfl (by simp) ?_))))))
    refine Steps.call rfl rfl (c_cost07 hx hl hi) (Steps.fin rfl (by simp) ?_)
    rw [hn] at e1 ⊢
    obtain ⟨B, hB⟩ : ∃ B, (!s.is || betterQ x l s) = B := ⟨_, rfl⟩
    rw [hB] at e1
    refine Tr.weak (s' := { env := [(0, .rptr blk 0), (1, intsV l), (2, I ((x.passes.length - m : Nat) : Int)), (6, I n)], bx := [], rw := [], log := encA (srA x pass blk s), stp := false }) (Wk.le (.cons rfl (.refl _) (.cons rfl (.refl _) (.cons rfl (.refl _) (.cons rfl (.refl _) .nil)))) .nil .nil rfl rfl) ?_
    refine Tr.meet { env := [(0, .rptr blk 0), (1, intsV l), (2, I ((x.passes.length - m : Nat) : Int)), (6, I n), (68, .bool B)], bx := [], rw := [], log := encA (srA x pass blk s), stp := false } ?_ ?_
    · have fin : ∀ {v : V}, v = .bool B → VLe v (.bool B) := fun h => .of_eq h
      refine Tr.reg (Steps.ldF hA (off := 5) rfl rfl (hmem s) rfl trivial rfl ?_)
      cases hsi : s.is with
      | false =>
        rw [hsi] at hB
        refine Steps.runN 2 rfl (by simp) (Steps.offN 6 rfl (Steps.runN 2 rfl (by simp) (Steps.offN 34 rfl (Steps.fin rfl (by simp) ?_))))
        exact Wk.le (.cons rfl (.refl _) (.cons rfl (.refl _) (.cons rfl (.refl _) (.cons rfl (.refl _) (.cons rfl (fin (by rw [← hB]; rfl)) .nil))))) .nil .nil rfl rfl
      | true =>
        rw [hsi, Bool.not_true, Bool.false_or, hbq] at hB
        refine Steps.runN 2 rfl (by simp) (Steps.runGN 1 rfl (by simp) (Steps.ldF hA (off := 4) rfl rfl (hmem s) rfl ⟨_, rfl, rfl⟩ rfl (Steps.runGN 3 rfl (by simp) ?_)))
        obtain ⟨c1, hc1⟩ : ∃ c, decide (n < s.co) = c := ⟨_, rfl⟩
        rw [hc1] at hB ⊢
        cases c1 with
        | true =>
          refine Steps.offN 34 rfl (Steps.fin rfl (by simp) ?_)
          exact Wk.le (.cons rfl (.refl _) (.cons rfl (.refl _) (.cons rfl (.refl _) (.cons rfl (.refl _) (.cons rfl (fin (by rw [← hB]; rfl)) .nil))))) .nil .nil rfl rfl
        | false =>
          rw [Bool.false_or] at hB
          refine Steps.runGN 1 rfl (by simp) (Steps.ldF hA (off := 4) rfl rfl (hmem s) rfl ⟨_, rfl, rfl⟩ rfl (Steps.runGN 2 rfl (by simp) ?_))
          obtain ⟨c2, hc2⟩ : ∃ c, (n == s.co) = c := ⟨_, rfl⟩
          rw [hc2] at hB ⊢
          cases c2 with
          | false =>
            refine Steps.offN 26 rfl (Steps.runGN 1 rfl (by simp) (Steps.fin rfl (by simp) ?_))
            exact Wk.le (.cons rfl (.refl _) (.cons rfl (.refl _) (.cons rfl (.refl _) (.cons rfl (.refl _) (.cons rfl (fin (by rw [← hB]; rfl)) .nil))))) .nil .nil rfl rfl
          | true =>
            rw [Bool.true_and] at hB
            refine Steps.runGN 2 rfl (by simp) (Steps.ldF hA (off := 3) rfl rfl (hmem s) rfl ⟨_, rfl, rfl⟩ rfl (Steps.runGN 3 rfl (by simp) ?_))
            obtain ⟨c3, hc3⟩ : ∃ c, decide (((l.map I).length : Int) < ((s.ch.map I).length : Int)) = c := ⟨_, rfl⟩
            have hc3' : decide (l.length < s.ch.length) = c3 := by rw [← hc3, List.length_map, List.length_map, decide_eq_decide]; omega
            rw [hc3'] at hB
            rw [hc3]
            cases c3 with
            | true =>
              refine Steps.offN 16 rfl (Steps.runGN 3 rfl (by simp) (Steps.fin rfl trivial ?_))
              exact Wk.le (.cons rfl (.refl _) (.cons rfl (.refl _) (.cons rfl (.refl _) (.cons rfl (.refl _) (.cons rfl (fin (by rw [← hB]; rfl)) .nil))))) .nil .nil rfl rfl
            | false =>
              rw [Bool.false_or] at hB
              refine Steps.runGN 2 rfl (by simp) (Steps.ldF hA (off := 3) rfl rfl (hmem s) rfl ⟨_, rfl, rfl⟩ rfl (Steps.runGN 3 rfl (by simp) ?_))
              obtain ⟨c4, hc4⟩ : ∃ c, (((l.map I).length : Int) == ((s.ch.map I).length : Int)) = c := ⟨_, rfl⟩
              have hc4' : ((l.length : Int) == (s.ch.length : Int)) = c4 := by rw [← hc4, List.length_map, List.length_map]
              rw [hc4'] at hB
              rw [hc4]
              cases c4 with
              | false =>
                refine Steps.offN 6 rfl (Steps.runGN 4 rfl (by simp) (Steps.fin rfl trivial ?_))
                exact Wk.le (.cons rfl (.refl _) (.cons rfl (.refl _) (.cons rfl (.refl _) (.cons rfl (.refl _) (.cons rfl (fin (by rw [← hB]; rfl)) .nil))))) .nil .nil rfl rfl
              | true =>
                refine Steps.runGN 1 rfl (by simp) (Steps.ldF hA (off := 3) rfl rfl (hmem s) rfl ⟨_, rfl, rfl⟩ rfl ?_)
                refine Steps.onG ⟨_, rfl, rfl⟩ (Steps.call rfl rfl (c_Earlier (by omega)) (Steps.runGN 4 rfl (by simp) (Steps.fin rfl trivial ?_)))
                exact Wk.le (.cons rfl (.refl _) (.cons rfl (.refl _) (.cons rfl (.refl _) (.cons rfl (.refl _) (.cons rfl (fin (by rw [← hB]; rfl)) .nil))))) .nil .nil rfl rfl
    · cases B with
      | false =>
        refine Tr.condF rfl (Tr.skip ?_)
        rw [e1]
        exact Wk.le (.cons rfl (.refl _) (.cons rfl (.refl _) (.cons rfl (.refl _) .nil))) .nil .nil rfl rfl
      | true =>
        refine Tr.condT rfl (Tr.reg (Steps.runN 4 rfl (by simp) (Steps.call rfl rfl (c_OwnC (by omega)) (Steps.runN 1 rfl (by simp) ?_))))
        refine Steps.rnil rfl (Steps.rfaddr rfl (Steps.astore hA rfl rfl (hmem s) (by simp [srV]) rfl rfl ?_))
        rw [setA1]
        refine Steps.rnil rfl (Steps.rfaddr rfl (Steps.astore hA rfl rfl (List.mem_singleton.2 rfl) (by simp [srV]) rfl rfl ?_))
        rw [setA1]
        refine Steps.rnil rfl (Steps.rfaddr rfl (Steps.astore hA rfl rfl (List.mem_singleton.2 rfl) (by simp [srV]) rfl rfl ?_))
        rw [setA1, e1]
        refine Steps.fin rfl (by simp) ?_
        exact Wk.le (.cons rfl (.refl _) (.cons rfl (.refl _) (.cons rfl (.refl _) .nil))) .nil .nil rfl rfl
  refine Tr.seqR rfl (by simp) (Tr.block ?_)
  refine Tr.loop (α := Nat × Sr) (fun p st => (p.1 ≤ m ∧ (subs x.passes.length pass p.1 l).foldl (updQ x) p.2 = (subs x.passes.length pass m l).foldl (updQ x) s1) ∧ st = { env := [(0, .rptr blk 0), (1, intsV l), (7, I ((x.passes.length - p.1 : Nat) : Int))], bx := [], rw := [], log := encA (srA x pass blk p.2), stp := false }) (fun p => p.1) (m, s1)
    (Wk.le (.cons rfl (.refl _) (.cons rfl (.refl _) (.cons rfl (.refl _) .nil))) .nil .nil rfl rfl) ⟨⟨Nat.le_refl _, rfl⟩, rfl⟩ ?_
  rintro ⟨q, s2⟩ st ⟨⟨hq, hf⟩, rfl⟩
  simp only at hq hf
  refine Tr.seq (Tr.seq (Tr.reg (Steps.runN 2 rfl (by simp) (Steps.rnil rfl (Steps.rfaddr rfl (Steps.rfaddr rfl (Steps.aload hA rfl rfl (hmem s2) rfl (Steps.fin rfl (by simp) ?_))))))))
  refine Tr.cond rfl rfl (fun h1 => Tr.skip ?_) (fun h1 => Tr.exit ?_)
  rotate_left
  · have h1 : decide (((x.passes.length - q : Nat) : Int) < ((x.passes.map eQ).length : Int)) = false := h1
    rw [List.length_map] at h1
    have h1 := of_decide_eq_false h1
    obtain rfl : q = 0 := by omega
    refine ⟨?_, [], [], [], rfl, rfl, rfl⟩
    rw [← hf]; rfl
  have h1 : decide (((x.passes.length - q : Nat) : Int) < ((x.passes.map eQ).length : Int)) = true := h1
  rw [List.length_map] at h1
  have h1 := of_decide_eq_true h1
  obtain ⟨q, rfl⟩ : ∃ q', q = q' + 1 := ⟨q - 1, by omega⟩
  obtain ⟨i, hi0⟩ : ∃ i, x.passes.length - (q + 1) = i := ⟨_, rfl⟩
  have hi1 : x.passes.length - q = i + 1 := by omega
  have hlast : inPs x (l ++ [(i : Int)]) := fun k hk => by
    rcases List.mem_append.1 hk with h | h
    · exact hi k h
    · obtain rfl := List.mem_singleton.1 h
      exact ⟨i, rfl, by omega⟩
  have hsb : subs x.passes.length pass (q + 1) l = (if (i : Int) ≠ pass then (l ++ [(i : Int)]) :: subs x.passes.length pass q (l ++ [(i : Int)]) else []) ++ subs x.passes.length pass q l := by
    rw [subs, hi0]
  obtain ⟨s3, hs3⟩ : ∃ s3, (if (i : Int) ≠ pass then (l ++ [(i : Int)]) :: subs x.passes.length pass q (l ++ [(i : Int)]) else []).foldl (updQ x) s2 = s3 := ⟨_, rfl⟩
  rw [hsb, List.foldl_append, hs3] at hf
  rw [hi0]
  refine Tr.meet { env := [(0, .rptr blk 0), (1, intsV l), (7, I (i : Nat))], bx := [], rw := [], log := encA (srA x pass blk s3), stp := false } (Tr.block ?_) (Tr.regR rfl (by simp) ?_)
  rotate_left
  · refine ⟨(q, s3), _, Wk.le (.cons rfl (.refl _) (.cons rfl (.refl _) (.cons rfl (VLe.i ?_) .nil))) .nil .nil rfl rfl, ⟨⟨by simp only; omega, hf⟩, rfl⟩, by simp only; omega⟩
    rw [hi1]; exact w64 (by omega) (by omega)
  refine Tr.seq (Tr.reg (Steps.runN 1 rfl (by simp) (Steps.ldF hA (off := 2) rfl rfl (hmem s2) rfl trivial rfl (Steps.fin rfl (by simp) ?_))))
  refine Tr.cond rfl rfl (fun h2 => ?_) (fun h2 => Tr.skip ?_)
  rotate_left
  · have h2 : ((i : Int) != pass) = false := h2
    have h2 : ¬ (i : Int) ≠ pass := by simpa using h2
    rw [if_neg h2] at hs3
    obtain rfl : s2 = s3 := hs3
    exact Wk.le (.cons rfl (.refl _) (.cons rfl (.refl _) (.cons rfl (.refl _) .nil))) .nil .nil rfl rfl
  have h2 : ((i : Int) != pass) = true := h2
  have h2 : (i : Int) ≠ pass := by simpa using h2
  rw [if_pos h2] at hs3
  have hmap : l.map I ++ [I (i : Nat)] = (l ++ [(i : Int)]).map I := by simp
  have kt := ih q (by omega) (by omega) (l ++ [(i : Int)]) s2 hlast (by simp; omega)
  rw [hs3, hi1] at kt
  refine Tr.reg (Steps.runN 2 rfl (by simp) (Steps.callG rfl (fun _ => rfl) (c_OwnG (by omega)) rfl (Steps.runN 2 rfl (by simp) ?_)))
  refine Steps.runN 1 rfl (by simp; omega) (Steps.run rfl (by simp) ?_)
  rw [w64 (n := (i : Int) + 1) (by omega) (by omega), hmap]
  refine Steps.callA (F := []) hA rfl rfl rfl kt (.inl (by simp)) (Steps.fin rfl (by simp) ?_)
  exact Wk.le (.cons rfl (.refl _) (.cons rfl (.refl _) (.cons rfl (.refl _) .nil))) .nil .nil rfl rfl

end Go.Proofs.YtdejdblopmfjfaaGreatDoor


/-! Contracts: the specification's best, Best, Without. -/
set_option linter.unusedVariables false
set_option linter.unusedSimpArgs false
set_option maxRecDepth 40000
set_option maxHeartbeats 4000000
namespace Go.Am
open Go.RowKit
/-- Nil slices, or empty ones in their place. -/
def nilsLe : List V → List V → Prop
  | [], [] => True
  | u :: us, v :: vs => (v = u ∨ u = .nils ∧ ∃ sz, v = .slice 0 sz []) ∧ nilsLe us vs
  | _, _ => False

theorem nilsLe_len : ∀ {us vs : List V}, nilsLe us vs → us.length = vs.length
  | [], [], _ => rfl
  | _ :: us, _ :: vs, h => by rw [List.length_cons, List.length_cons, nilsLe_len h.2]
  | [], _ :: _, h => h.elim
  | _ :: _, [], h => h.elim

theorem nilsLe_get : ∀ {us vs : List V} (_ : nilsLe us vs) (i : Nat) (u v : V), us[i]? = some u → vs[i]? = some v → (v = u ∨ u = .nils ∧ ∃ sz, v = .slice 0 sz [])
  | u :: us, v :: vs, h, 0, a, b, h1, h2 => by cases h1; cases h2; exact h.1
  | u :: us, v :: vs, h, i + 1, a, b, h1, h2 => nilsLe_get h.2 i a b h1 h2
  | [], [], _, i, a, b, h1, _ => by simp at h1
  | [], _ :: _, h, _, _, _, _, _ => h.elim
  | _ :: _, [], h, _, _, _, _, _ => h.elim

theorem nils_rep {w : World} {φ : Nat → Nat} {u v : V} {x : Value} (h : v = u ∨ u = .nils ∧ ∃ sz, v = .slice 0 sz []) (r : RepD w φ u x) : RepD w φ v x := by
  rcases h with rfl | ⟨rfl, sz, rfl⟩
  · exact r
  · cases r; exact .slice0 _ _ _

/-- A contract over an arena takes nil slices where it takes empty ones. -/
theorem CA.nils {P : Program} {f : FuncId} {A B : Arena} {K : List (Nat × List V)} {us vs : List V} {r : V} (h : CA P f A K vs r B) (hle : nilsLe us vs) : CA P f A K us r B :=
  ⟨h.1, fun w φ xs h1 h2 h3 h4 h5 hr => h.2 w φ xs h1 h2 h3 h4 h5 ⟨by rw [← nilsLe_len hle]; exact hr.1, fun i v x hv hx => by
    have hi : i < us.length := by rw [nilsLe_len hle]; exact (List.getElem?_eq_some_iff.1 hv).1
    exact nils_rep (nilsLe_get hle i _ v (List.getElem?_eq_getElem hi) hv) (hr.2 i _ x (List.getElem?_eq_getElem hi) hx)⟩⟩

/-- A new struct of an arena, its nil slices taken as empty ones. -/
theorem Steps.aboxN {E : Env} {S0 : Sur} {l0 : List (List V)} {s0 : Bool} {A : Arena} (hE : InA E S0 l0 s0) {K : St → Prop} {s : St} {d : Nat} {x : X} {rest : List Ins} {v : V} {cs : List V} (hx : evXs s.env [x] = some [v]) (hl : s.log = encA A) (hs : (cells v).all scalar = true) (hd : (cells v).all isD = true) (hle : nilsLe (cells v) cs)
    (hk : ∀ b, b ∉ A.map (·.1) → Steps E rest K { s.put (some d) (.rptr b 0) with log := encA ((b, .cells cs) :: A) }) : Steps E (⟨some d, .box, [x], none⟩ :: rest) K s := by
  refine Step1.raw fun slots ops o i ro n a w h hc hsl hi R Q next hn => ?_
  obtain ⟨os, cc⟩ := comp_of hc
  obtain ⟨e, p, ho, rfl⟩ := opK_box0 cc.op
  obtain ⟨u, hu, o1⟩ := (opds_of R.1 cc.xs (evXs_ok hx)).one
  simp only [List.cons.injEq, and_true] at hu
  subst hu
  have R' : E.relF (encA A) s.stp s.fs a w h := by rw [← hl]; exact R
  obtain ⟨q1, q2⟩ := o1.cells hs
  have q0 := nilsLe_len hle
  obtain ⟨R2, hnm⟩ := hE.fresh R' (.cells (a.eval p).cells e) (.cells cs) (fun ext => ⟨(a.eval p).cells, e, heap_alloc_new w _, by omega, fun j u z hu hz => by
    have hj : j < (cells v).length := by rw [q0]; exact (List.getElem?_eq_some_iff.1 hu).1
    have hu' := List.getElem?_eq_getElem hj
    obtain ⟨r1, _, r3⟩ := q2 j _ z hu' hz
    have hD : isD (cells v)[j] = true := by
      rw [List.all_eq_true] at hd
      exact hd _ (List.getElem_mem hj)
    have hn := nilsLe_get hle j _ u hu' hu
    refine ⟨(nils_rep hn (rep_isD hD r1)).mono ext, ?_⟩
    rcases hn with rfl | ⟨_, sz, rfl⟩
    · exact r3
    · rfl⟩)
  refine wpOp_done hi (wanted_none (guard_none cc rfl)) (opK_defer cc.op) (.inl ?_) (hn _ _ _ h (hk _ hnm) (rel_putA cc R2 (.data (.rptr _ _)) rfl) rfl)
  simp [execOp, ho, Instr.box, newVar, newRow]
end Go.Am

namespace Go.Proofs.YtdejdblopmfjfaaGreatDoor
open Go.Am
attribute [local simp] cells scalar mkv splice under2 under dem dem1 eQ nfC intsV
/-- What the search ends with. -/
def srF (x : Nf) (pass : Int) : Sr := ([] :: subs x.passes.length pass x.passes.length []).foldl (updQ x) ⟨[], 0, false⟩

theorem c_best07 {x : Nf} (hx : nfOk x = true) (pass : Int) : C Tryz.prog F.ref07_best [.agg (nfC x), I pass] (.vptr (srV x pass (srF x pass)) 0) := by
  refine C_of mixed chk.ref07_best (by simp) fun S ok => ?_
  refine Tr.seqR rfl (by simp) ?_
  refine Tr.arena rfl rfl ?_
  have hA := InA.main (E := env0 Tryz.prog mixed 13 S ok) [] false
  refine Tr.seq (Tr.reg (Steps.runN 3 rfl (by simp) (Steps.aboxN hA (cs := srV x pass ⟨[], 0, false⟩) rfl rfl rfl rfl ⟨.inl rfl, .inl rfl, .inl rfl, .inr ⟨rfl, 1, rfl⟩, .inl rfl, .inl rfl, trivial⟩ fun b nb => Steps.fin rfl (by simp) ?_)))
  have kt := c_try (blk := b) (pass := pass) hx x.passes.length (Nat.le_refl _) [] ⟨[], 0, false⟩ (fun n hn => by simp at hn) (by simp)
  rw [Nat.sub_self] at kt
  have kt := kt.nils (us := [.rptr b 0, .nils, I 0]) ⟨.inl rfl, .inr ⟨rfl, 1, rfl⟩, .inl rfl, trivial⟩
  refine Tr.seq (Tr.reg (Steps.runN 1 rfl (by simp) (Steps.callA (F := []) hA rfl rfl rfl kt (.inl (by simp)) (Steps.fin rfl (by simp) ?_))))
  refine Tr.seqR rfl (by simp) ?_
  refine Tr.weak (Wk.closeP hA (t := 4) (blk := b) (cs := srV x pass (srF x pass)) (A := srA x pass b (srF x pass)) rfl rfl (List.mem_singleton.2 rfl)) ?_
  exact Tr.retX rfl rfl rfl rfl trivial

def Best07R (x : Nf) : V := if nfOk x then (if (srF x (-1)).is then .tuple [intsV (srF x (-1)).ch, I (srF x (-1)).co, I 0] else .tuple [intsV [], I 0, I 4]) else .tuple [intsV [], I 0, I 74]

theorem c_Best07 {x : Nf} (hs1 : x.lacks.length ≤ 9223372036854775807) (hs2 : x.passes.length ≤ 9223372036854775807) (hx : ∀ p ∈ x.passes, p.adds.length ≤ 9223372036854775807) : C Tryz.prog F.ref07_Best [.agg (nfC x)] (Best07R x) := by
  have kc := c_CheckInfill07 hs1 hs2 hx
  unfold Best07R
  refine C_of mixed chk.ref07_Best (by simp) fun S ok => ?_
  refine Tr.seqR rfl (by simp) ?_
  by_cases hk : nfOk x = true
  rotate_left
  · rw [if_neg hk] at kc ⊢
    refine Tr.seq (Tr.seqC rfl (by simp) (Steps.call rfl rfl kc (Steps.fin rfl (by simp) (Tr.seqR rfl (by simp) (Tr.condT rfl (Tr.seqR rfl (by simp) ?_))))))
    exact Tr.weak (s' := { env := [(2, intsV []), (3, I 0), (4, I 74)], bx := [], rw := [], log := [], stp := false }) (Wk.le (.cons rfl (.nil 0 1) (.cons rfl (.refl _) (.cons rfl (.refl _) .nil))) .nil .nil rfl rfl) (Tr.retX rfl rfl rfl rfl trivial)
  rw [if_pos hk] at kc ⊢
  refine Tr.seq (Tr.seqC rfl (by simp) (Steps.call rfl rfl kc (Steps.fin rfl (by simp) (Tr.seqR rfl (by simp) (Tr.condF rfl (Tr.skip ?_))))))
  have kb := c_best07 hk (-1)
  generalize srF x (-1) = s at kb ⊢
  refine Tr.seqC rfl (by simp) (Steps.call rfl rfl kb (Steps.fin rfl (by simp) ?_))
  refine Tr.seq (Tr.seqR rfl (by simp [srV]) (Tr.cond rfl rfl (fun h => ?_) (fun h => Tr.skip ?_)))
  · have h : (!s.is) = true := h
    rw [if_neg (by simpa using h)]
    refine Tr.seqR rfl (by simp) ?_
    exact Tr.weak (s' := { env := [(2, intsV []), (3, I 0), (4, I 4)], bx := [], rw := [], log := [], stp := false }) (Wk.le (.cons rfl (.nil 0 1) (.cons rfl (.refl _) (.cons rfl (.refl _) .nil))) .nil .nil rfl rfl) (Tr.retX rfl rfl rfl rfl trivial)
  · have h : (!s.is) = false := h
    rw [if_pos (by simpa using h)]
    refine Tr.seq (Tr.drawK (TraceK.run rfl (by simp [srV]) (.done ⟨by kernel_rfl, by kernel_rfl, ?_⟩)))
    exact Tr.retX rfl rfl rfl rfl trivial

end Go.Proofs.YtdejdblopmfjfaaGreatDoor


/-! Plain laws: the search of the specification and the search over bits find the same choice. -/
set_option linter.unusedVariables false
set_option linter.unusedSimpArgs false
set_option maxRecDepth 40000
set_option maxHeartbeats 4000000
namespace Go.Proofs.YtdejdblopmfjfaaGreatDoor
open Go.Am

/-! ### The best of a list -/
theorem snocInd {α : Type} {P : List α → Prop} (h0 : P []) (h1 : ∀ L b, P L → P (L ++ [b])) (L : List α) : P L := by
  rw [← List.reverse_reverse L]
  generalize L.reverse = l
  induction l with
  | nil => exact h0
  | cons b l ih => rw [List.reverse_cons]; exact h1 _ _ ih

section
variable {α : Type} (cov : α → Bool) (lt : α → α → Bool)
def gstep (p : α × Bool) (b : α) : α × Bool := if !cov b then p else if !p.2 then (b, true) else if lt b p.1 then (b, true) else p

theorem gfold_spec (tr : ∀ a b c, lt a b = true → lt b c = true → lt a c = true) (tot : ∀ a b, a = b ∨ lt a b = true ∨ lt b a = true) (a0 : α) : ∀ (L : List α),
    ((L.foldl (gstep cov lt) (a0, false)).2 = true → (L.foldl (gstep cov lt) (a0, false)).1 ∈ L ∧ cov (L.foldl (gstep cov lt) (a0, false)).1 = true) ∧
    ∀ v ∈ L, cov v = true → (L.foldl (gstep cov lt) (a0, false)).2 = true ∧ (v = (L.foldl (gstep cov lt) (a0, false)).1 ∨ lt (L.foldl (gstep cov lt) (a0, false)).1 v = true) := by
  refine snocInd ?_ ?_
  · exact ⟨fun h => by simp at h, fun v h => by simp at h⟩
  · intro L b ih
    rw [List.foldl_append, List.foldl_cons, List.foldl_nil]
    generalize L.foldl (gstep cov lt) (a0, false) = p at ih ⊢
    obtain ⟨o, so⟩ := p
    obtain ⟨h1, h2⟩ := ih
    simp only at h1 h2
    unfold gstep
    by_cases hc : cov b = true
    rotate_left
    · have hc : cov b = false := by simpa using hc
      rw [hc, if_pos (show (!false) = true from rfl)]
      refine ⟨fun h => ⟨by simp [(h1 h).1], (h1 h).2⟩, fun v hv hcv => ?_⟩
      rcases List.mem_append.1 hv with hv | hv
      · exact h2 v hv hcv
      · obtain rfl := List.mem_singleton.1 hv
        rw [hc] at hcv; cases hcv
    rw [hc, if_neg (by simp)]
    cases so with
    | false =>
      rw [if_pos (show (!(o, false).2) = true from rfl)]
      refine ⟨fun _ => ⟨by simp, hc⟩, fun v hv hcv => ?_⟩
      rcases List.mem_append.1 hv with hv | hv
      · have := (h2 v hv hcv).1; cases this
      · obtain rfl := List.mem_singleton.1 hv
        exact ⟨rfl, .inl rfl⟩
    | true =>
      rw [if_neg (by simp)]
      obtain ⟨a1, a2⟩ := h1 rfl
      by_cases hb : lt b o = true
      · rw [if_pos hb]
        refine ⟨fun _ => ⟨by simp, hc⟩, fun v hv hcv => ⟨rfl, ?_⟩⟩
        rcases List.mem_append.1 hv with hv | hv
        · rcases (h2 v hv hcv).2 with rfl | h
          · exact .inr hb
          · exact .inr (tr _ _ _ hb h)
        · exact .inl (List.mem_singleton.1 hv)
      · rw [if_neg hb]
        refine ⟨fun _ => ⟨by simp [a1], a2⟩, fun v hv hcv => ⟨rfl, ?_⟩⟩
        rcases List.mem_append.1 hv with hv | hv
        · exact (h2 v hv hcv).2
        · obtain rfl := List.mem_singleton.1 hv
          rcases tot v o with h | h | h
          · exact .inl h
          · exact absurd h hb
          · exact .inr h

/-- The same candidates, the same best. -/
theorem gfold_eq (tr : ∀ a b c, lt a b = true → lt b c = true → lt a c = true) (tot : ∀ a b, a = b ∨ lt a b = true ∨ lt b a = true) (asy : ∀ a b, lt a b = true → lt b a = true → False) (a0 b0 : α) {L M : List α} (h1 : ∀ v ∈ L, cov v = true → v ∈ M) (h2 : ∀ v ∈ M, cov v = true → v ∈ L) :
    (L.foldl (gstep cov lt) (a0, false)).2 = (M.foldl (gstep cov lt) (b0, false)).2 ∧ ((L.foldl (gstep cov lt) (a0, false)).2 = true → (L.foldl (gstep cov lt) (a0, false)).1 = (M.foldl (gstep cov lt) (b0, false)).1) := by
  obtain ⟨p1, p2⟩ := gfold_spec cov lt tr tot a0 L
  obtain ⟨q1, q2⟩ := gfold_spec cov lt tr tot b0 M
  generalize L.foldl (gstep cov lt) (a0, false) = p at p1 p2 ⊢
  generalize M.foldl (gstep cov lt) (b0, false) = q at q1 q2 ⊢
  have hpq : p.2 = true → q.2 = true ∧ p.1 = q.1 := fun h => by
    obtain ⟨a1, a2⟩ := p1 h
    obtain ⟨c1, c2⟩ := q2 _ (h1 _ a1 a2) a2
    obtain ⟨d1, d2⟩ := q1 c1
    obtain ⟨_, e2⟩ := p2 _ (h2 _ d1 d2) d2
    refine ⟨c1, ?_⟩
    rcases c2 with h | h
    · exact h
    · rcases e2 with h' | h'
      · exact h'.symm
      · exact (asy _ _ h h').elim
  refine ⟨?_, fun h => (hpq h).2⟩
  cases hp : p.2 with
  | true => exact (hpq hp).1.symm
  | false =>
    cases hq : q.2 with
    | false => rfl
    | true =>
      obtain ⟨d1, d2⟩ := q1 hq
      rw [(p2 _ (h2 _ d1 d2) d2).1] at hp; cases hp

end

/-! ### The order of choices -/
theorem earl_irr : ∀ l, earlB l l = false
  | [] => rfl
  | a :: l => by simp only [earlB, if_pos]; exact earl_irr l
theorem earl_tr : ∀ {l m k : List Int}, l.length = m.length → m.length = k.length → earlB l m = true → earlB m k = true → earlB l k = true
  | [], [], [], _, _, h, _ => by simp [earlB] at h
  | a :: l, b :: m, c :: k, h1, h2, e1, e2 => by
    simp only [List.length_cons, Nat.add_right_cancel_iff] at h1 h2
    unfold earlB at e1 e2 ⊢
    by_cases hab : a = b
    · subst hab
      rw [if_pos rfl] at e1
      by_cases hac : a = c
      · rw [if_pos hac] at e2 ⊢; exact earl_tr h1 h2 e1 e2
      · rw [if_neg hac] at e2 ⊢; exact e2
    · rw [if_neg hab] at e1
      have e1 := of_decide_eq_true e1
      by_cases hbc : b = c
      · subst hbc
        rw [if_neg hab]; exact decide_eq_true e1
      · rw [if_neg hbc] at e2
        have e2 := of_decide_eq_true e2
        rw [if_neg (by omega)]; exact decide_eq_true (by omega)
theorem earl_tot : ∀ {l m : List Int}, l.length = m.length → l = m ∨ earlB l m = true ∨ earlB m l = true
  | [], [], _ => .inl rfl
  | a :: l, b :: m, h => by
    simp only [List.length_cons, Nat.add_right_cancel_iff] at h
    unfold earlB
    by_cases hab : a = b
    · subst hab
      rw [if_pos rfl, if_pos rfl]
      rcases earl_tot h with rfl | h | h
      · exact .inl rfl
      · exact .inr (.inl h)
      · exact .inr (.inr h)
    · rw [if_neg hab, if_neg (fun e => hab e.symm)]
      rcases Int.lt_or_gt_of_ne hab with h | h
      · exact .inr (.inl (decide_eq_true h))
      · exact .inr (.inr (decide_eq_true h))
theorem earl_cmp : ∀ {l m : List Int}, l.length = m.length → earlB l m = decide (cmpL l m < 0)
  | [], [], _ => by simp [earlB, cmpL]
  | a :: l, b :: m, h => by
    simp only [List.length_cons, Nat.add_right_cancel_iff] at h
    have ih := earl_cmp h
    unfold earlB cmpL cmpI
    by_cases hab : a = b
    · subst hab
      simp [ih]
    · rw [if_neg hab]
      by_cases h1 : a < b
      · simp [h1]
      · have : b < a := by omega
        simp [h1, this]

def ltL (x : Nf) (l m : List Int) : Bool := betterQ x l ⟨m, sumTo x m m.length, true⟩

theorem ltL_iff {x : Nf} {l m : List Int} : ltL x l m = true ↔ sumTo x l l.length < sumTo x m m.length ∨ sumTo x l l.length = sumTo x m m.length ∧ (l.length < m.length ∨ l.length = m.length ∧ earlB l m = true) := by
  unfold ltL betterQ
  simp only [Bool.or_eq_true, decide_eq_true_eq, Bool.and_eq_true, beq_iff_eq]
  constructor
  · rintro (h | ⟨h, h2 | ⟨h3, h4⟩⟩)
    · exact .inl h
    · exact .inr ⟨h, .inl h2⟩
    · exact .inr ⟨h, .inr ⟨by omega, h4⟩⟩
  · rintro (h | ⟨h, h2 | ⟨h3, h4⟩⟩)
    · exact .inl h
    · exact .inr ⟨h, .inl h2⟩
    · exact .inr ⟨h, .inr ⟨by omega, h4⟩⟩

theorem ltL_tr (x : Nf) (a b c : List Int) (h1 : ltL x a b = true) (h2 : ltL x b c = true) : ltL x a c = true := by
  rw [ltL_iff] at h1 h2 ⊢
  rcases h1 with h1 | ⟨h1, h1'⟩
  · rcases h2 with h2 | ⟨h2, _⟩
    · exact .inl (by omega)
    · exact .inl (by omega)
  · rcases h2 with h2 | ⟨h2, h2'⟩
    · exact .inl (by omega)
    · refine .inr ⟨by omega, ?_⟩
      rcases h1' with h3 | ⟨h3, h3'⟩
      · rcases h2' with h4 | ⟨h4, _⟩
        · exact .inl (by omega)
        · exact .inl (by omega)
      · rcases h2' with h4 | ⟨h4, h4'⟩
        · exact .inl (by omega)
        · exact .inr ⟨by omega, earl_tr h3 h4 h3' h4'⟩
theorem ltL_irr (x : Nf) (a : List Int) (h : ltL x a a = true) : False := by
  rw [ltL_iff, earl_irr] at h
  rcases h with h | ⟨_, h | ⟨_, h⟩⟩
  · omega
  · omega
  · cases h
theorem ltL_asy (x : Nf) (a b : List Int) (h1 : ltL x a b = true) (h2 : ltL x b a = true) : False := ltL_irr x a (ltL_tr x a b a h1 h2)
theorem ltL_tot (x : Nf) (a b : List Int) : a = b ∨ ltL x a b = true ∨ ltL x b a = true := by
  rw [ltL_iff, ltL_iff]
  rcases Int.lt_trichotomy (sumTo x a a.length) (sumTo x b b.length) with h | h | h
  · exact .inr (.inl (.inl h))
  · rcases Nat.lt_trichotomy a.length b.length with h2 | h2 | h2
    · exact .inr (.inl (.inr ⟨h, .inl h2⟩))
    · rcases earl_tot h2 with h3 | h3 | h3
      · exact .inl h3
      · exact .inr (.inl (.inr ⟨h, .inr ⟨h2, h3⟩⟩))
      · exact .inr (.inr (.inr ⟨h.symm, .inr ⟨h2.symm, h3⟩⟩))
    · exact .inr (.inr (.inr ⟨h.symm, .inl h2⟩))
  · exact .inr (.inr (.inl h))

theorem sumTo_cost (x : Nf) (b : Nat) : sumTo x (choiceL b) (choiceL b).length = costB x b := by
  unfold sumTo costB sumF
  rw [List.take_length]

theorem better_lt (x : Nf) (b o : Nat) : better x b o = ltL x (choiceL b) (choiceL o) := by
  rw [Bool.eq_iff_iff, ltL_iff, sumTo_cost, sumTo_cost]
  unfold better
  by_cases h1 : costB x b ≠ costB x o
  · rw [if_pos h1, decide_eq_true_eq]
    constructor
    · exact fun h => .inl h
    · rintro (h | ⟨h, _⟩)
      · exact h
      · exact absurd h h1
  · rw [if_neg h1]
    have h1 := Classical.not_not.1 h1
    by_cases h2 : (choiceL b).length ≠ (choiceL o).length
    · rw [if_pos h2, decide_eq_true_eq]
      constructor
      · exact fun h => .inr ⟨h1, .inl h⟩
      · rintro (h | ⟨_, h | ⟨h, _⟩⟩)
        · omega
        · exact h
        · exact absurd h h2
    · rw [if_neg h2]
      have h2 := Classical.not_not.1 h2
      rw [earl_cmp h2, decide_eq_true_eq]
      constructor
      · exact fun h => .inr ⟨h1, .inr ⟨h2, h⟩⟩
      · rintro (h | ⟨_, h | ⟨_, h⟩⟩)
        · omega
        · omega
        · exact h

/-! ### Visits -/
def Inc (n : Nat) : Int → List Int → Prop
  | _, [] => True
  | a, i :: t => (a ≤ i ∧ i < (n : Int)) ∧ Inc n (i + 1) t

theorem Inc.mono {n : Nat} {a b : Int} (h : a ≤ b) : ∀ {t : List Int}, Inc n b t → Inc n a t
  | [], _ => trivial
  | i :: t, h2 => ⟨⟨by have := h2.1.1; omega, h2.1.2⟩, h2.2⟩

theorem inc_bits {n : Nat} : ∀ (t : List Int) (out : Nat) (last : Int), (bitsG n t out last).isSome = true ↔ Inc n (last + 1) t
  | [], out, last => by simp [bitsG, Inc]
  | i :: t, out, last => by
    unfold bitsG Inc
    by_cases h : btw i (last + 1) ((n : Int) - 1) = true
    · rw [if_pos h, inc_bits t]
      rw [btw_iff] at h
      constructor
      · exact fun h2 => ⟨⟨h.1, by omega⟩, h2⟩
      · exact fun h2 => h2.2
    · rw [if_neg h]
      rw [btw_iff] at h
      constructor
      · intro h2; cases h2
      · rintro ⟨⟨a, b⟩, _⟩
        exact absurd ⟨a, by omega⟩ h

theorem mem_visits {n : Nat} {pass : Int} : ∀ (m : Nat), m ≤ n → ∀ (l v : List Int), v ∈ l :: subs n pass m l ↔ ∃ t, v = l ++ t ∧ Inc n ((n - m : Nat) : Int) t ∧ pass ∉ t
  | 0, _, l, v => by
    simp only [subs, List.mem_singleton]
    constructor
    · rintro rfl; exact ⟨[], by simp, trivial, by simp⟩
    · rintro ⟨t, rfl, h, _⟩
      cases t with
      | nil => simp
      | cons i t => have := h.1; omega
  | m + 1, hm, l, v => by
    obtain ⟨i, hi⟩ : ∃ i, n - (m + 1) = i := ⟨_, rfl⟩
    have hi1 : n - m = i + 1 := by omega
    have ih1 := mem_visits m (n := n) (pass := pass) (by omega) l v
    have ih2 := mem_visits m (n := n) (pass := pass) (by omega) (l ++ [(i : Int)]) v
    rw [hi1] at ih1 ih2
    unfold subs
    rw [hi]
    constructor
    · intro hv
      rcases List.mem_cons.1 hv with rfl | hv
      · exact ⟨[], by simp, trivial, by simp⟩
      rcases List.mem_append.1 hv with hv | hv
      · by_cases hp : (i : Int) ≠ pass
        · rw [if_pos hp] at hv
          obtain ⟨t, rfl, h1, h2⟩ := ih2.1 hv
          exact ⟨(i : Int) :: t, by simp, ⟨⟨Int.le_refl _, by omega⟩, by push_cast at h1; exact h1⟩, by simp [h2]; exact fun e => hp e.symm⟩
        · rw [if_neg hp] at hv; simp at hv
      · obtain ⟨t, rfl, h1, h2⟩ := ih1.1 (List.mem_cons.2 (.inr hv))
        exact ⟨t, rfl, h1.mono (by omega), h2⟩
    · rintro ⟨t, rfl, h1, h2⟩
      cases t with
      | nil => simp
      | cons j t =>
        obtain ⟨⟨a1, a2⟩, a3⟩ := h1
        simp only [List.mem_cons, not_or] at h2
        by_cases hj : j = (i : Int)
        · subst hj
          refine List.mem_cons.2 (.inr (List.mem_append.2 (.inl ?_)))
          rw [if_pos (fun e => h2.1 e.symm)]
          exact ih2.2 ⟨t, by simp, by push_cast; exact a3, h2.2⟩
        · have := ih1.2 ⟨j :: t, rfl, ⟨⟨by push_cast; omega, a2⟩, a3⟩, by simp [h2.1, h2.2]⟩
          rcases List.mem_cons.1 this with h | h
          · rw [h]; exact List.mem_cons.2 (.inl rfl)
          · exact List.mem_cons.2 (.inr (List.mem_append.2 (.inr h)))

theorem visits_bits {n : Nat} (hn : n ≤ 10) {pass : Int} {v : List Int} : v ∈ [] :: subs n pass n [] ↔ pass ∉ v ∧ ∃ b < 2 ^ n, choiceL b = v := by
  rw [mem_visits n (Nat.le_refl _)]
  rw [Nat.sub_self]
  constructor
  · rintro ⟨t, ht, h1, h2⟩
    have ht : v = t := ht
    rw [ht]
    have h3 := (inc_bits t 0 (-1)).2 h1
    obtain ⟨b, hb⟩ := Option.isSome_iff_exists.1 h3
    obtain ⟨q1, q2⟩ := bitsG_spec hn t 0 0 b (by omega) (by simp) hb
    exact ⟨h2, b, q1, by rw [q2]; rfl⟩
  · rintro ⟨h1, b, hb, rfl⟩
    have h3 := bitsG_choice n (by omega) b hb
    exact ⟨choiceL b, rfl, (inc_bits _ 0 (-1)).1 (by rw [h3]; rfl), h1⟩

/-! ### Covering -/
theorem fold_max : ∀ (l : List Int) (c : Int), (∀ a ∈ l, 0 ≤ a) → l.foldl (fun c a => max 0 (c - a)) (max 0 c) = max 0 (l.foldl (· - ·) c)
  | [], c, _ => rfl
  | a :: l, c, h => by
    have ha := h a (by simp)
    rw [List.foldl_cons, List.foldl_cons, ← fold_max l (c - a) fun b hb => h b (by simp [hb])]
    congr 1
    omega

theorem restN_get {c a : List Int} {q : Nat} (h : q < c.length) (h' : q < a.length) : (restN c a).getD q 0 = max 0 (c.getD q 0 - a.getD q 0) := by
  unfold restN
  have hlt : q < (List.zipWith (fun m n => max 0 (m - n)) c a).length := by simp; omega
  rw [List.getD_eq_getElem?_getD, List.getElem?_eq_getElem hlt, List.getElem_zipWith]
  simp [h, h']

theorem rests_get {x : Nf} (hx : nfOk x = true) {q : Nat} : ∀ (l : List Nat) (c : List Int), c.length = x.lacks.length → q < c.length → (∀ i ∈ l, i < x.passes.length) → (l.foldl (fun c i => restN c (addsOf x i)) c).getD q 0 = (l.map fun i => (addsOf x i).getD q 0).foldl (fun c a => max 0 (c - a)) (c.getD q 0)
  | [], c, _, _, _ => rfl
  | i :: l, c, hc, hq, hl => by
    have ha := adds_small hx (hl i (by simp))
    have hlen : (restN c (addsOf x i)).length = c.length := by simp [restN, ha.1, hc]
    rw [List.foldl_cons, List.map_cons, List.foldl_cons, rests_get hx l _ (by rw [hlen, hc]) (by rw [hlen]; exact hq) fun j hj => hl j (by simp [hj]), restN_get hq (by rw [ha.1, ← hc]; exact hq)]

theorem sum_zero : ∀ (l : List Int), (∀ n ∈ l, 0 ≤ n) → ∀ z, 0 ≤ z → (l.foldl (· + ·) z = 0 ↔ z = 0 ∧ ∀ n ∈ l, n = 0)
  | [], _, z, hz => by simp
  | a :: l, h, z, hz => by
    have ha := h a (by simp)
    rw [List.foldl_cons, sum_zero l (fun n hn => h n (by simp [hn])) (z + a) (by omega)]
    constructor
    · rintro ⟨h1, h2⟩
      refine ⟨by omega, fun n hn => ?_⟩
      rcases List.mem_cons.1 hn with rfl | hn
      · omega
      · exact h2 n hn
    · rintro ⟨h1, h2⟩
      exact ⟨by have := h2 a (by simp); omega, fun n hn => h2 n (by simp [hn])⟩

theorem cov_eq {x : Nf} (hx : nfOk x = true) {b : Nat} (hb : b < 2 ^ x.passes.length) : covQ x (choiceL b) = coversB x b := by
  have hw := choiceN_lt hb
  have hsm := restsL_small hx hw
  have hl1 := (nfOk_spec hx).2.1
  have key : ∀ q, q < x.lacks.length → restQ x (choiceL b) q = (restsL x (choiceN b)).getD q 0 := fun q hq => by
    unfold restsL
    rw [rests_get hx _ _ rfl hq hw]
    have h0 : 0 ≤ x.lacks.getD q 0 := by
      have := hl1 _ (List.getElem_mem hq)
      simp [hq]; omega
    have e0 : x.lacks.getD q 0 = max 0 (x.lacks.getD q 0) := by omega
    rw [e0, fold_max]
    · unfold restQ subTo
      rw [List.take_length]
      unfold choiceL castL
      rw [List.map_map]
      rfl
    · intro a ha
      obtain ⟨i, hi, rfl⟩ := List.mem_map.1 ha
      have := adds_small hx (hw i hi)
      have hqa : q < (addsOf x i).length := by rw [this.1]; exact hq
      have h2 := this.2 _ (List.getElem_mem hqa)
      simp [hqa]; omega
  rw [Bool.eq_iff_iff]
  unfold covQ coversB sumF
  rw [List.all_eq_true, decide_eq_true_eq, List.map_id, sum_zero _ (fun n hn => (hsm.2 n hn).1) 0 (Int.le_refl 0)]
  constructor
  · intro h
    refine ⟨rfl, fun n hn => ?_⟩
    obtain ⟨q, hq, rfl⟩ := List.getElem_of_mem hn
    have hq' : q < x.lacks.length := by rw [← hsm.1]; exact hq
    have h1 := h q (List.mem_range.2 hq')
    rw [key q hq'] at h1
    have h2 := (hsm.2 _ (List.getElem_mem hq)).1
    simp [hq] at h1
    omega
  · rintro ⟨_, h⟩ q hq
    have hq' := List.mem_range.1 hq
    have hq2 : q < (restsL x (choiceN b)).length := by rw [hsm.1]; exact hq'
    rw [key q hq']
    have := h _ (List.getElem_mem hq2)
    simp [hq2, this]

/-! ### The same choice -/
def covW (x : Nf) (pass : Int) (l : List Int) : Bool := covQ x l && !l.contains pass

theorem upd_fold (x : Nf) (pass : Int) : ∀ (L : List (List Int)), (∀ v ∈ L, pass ∉ v) → ∀ (s : Sr) (p : List Int × Bool), s.is = p.2 → (p.2 = true → s.ch = p.1 ∧ s.co = sumTo x p.1 p.1.length) →
    (L.foldl (updQ x) s).is = (L.foldl (gstep (covW x pass) (ltL x)) p).2 ∧ ((L.foldl (gstep (covW x pass) (ltL x)) p).2 = true → (L.foldl (updQ x) s).ch = (L.foldl (gstep (covW x pass) (ltL x)) p).1 ∧ (L.foldl (updQ x) s).co = sumTo x (L.foldl (gstep (covW x pass) (ltL x)) p).1 (L.foldl (gstep (covW x pass) (ltL x)) p).1.length)
  | [], _, s, p, h1, h2 => ⟨h1, h2⟩
  | l :: L, hL, s, p, h1, h2 => by
    rw [List.foldl_cons, List.foldl_cons]
    have hc : covW x pass l = covQ x l := by
      have := hL l (by simp)
      simp [covW, this]
    have key : (updQ x s l).is = (gstep (covW x pass) (ltL x) p l).2 ∧ ((gstep (covW x pass) (ltL x) p l).2 = true → (updQ x s l).ch = (gstep (covW x pass) (ltL x) p l).1 ∧ (updQ x s l).co = sumTo x (gstep (covW x pass) (ltL x) p l).1 (gstep (covW x pass) (ltL x) p l).1.length) := by
      obtain ⟨o, so⟩ := p
      simp only at h1 h2
      unfold updQ gstep
      rw [hc]
      cases hq : covQ x l with
      | false => exact ⟨h1, h2⟩
      | true =>
        cases so with
        | false =>
          rw [h1]
          exact ⟨rfl, fun _ => ⟨rfl, rfl⟩⟩
        | true =>
          obtain ⟨e1, e2⟩ := h2 rfl
          have hb : betterQ x l s = ltL x l o := by unfold ltL betterQ; rw [e1, e2]
          rw [h1, hb]
          cases ltL x l o with
          | true => exact ⟨rfl, fun _ => ⟨rfl, rfl⟩⟩
          | false => exact ⟨h1, fun _ => ⟨e1, e2⟩⟩
    exact upd_fold x pass L (fun v hv => hL v (by simp [hv])) _ _ key.1 key.2

theorem best_fold {x : Nf} (hx : nfOk x = true) {pass : Int} {wo : Nat} (hw : ∀ b < 2 ^ x.passes.length, decide (b &&& wo ≠ 0) = (choiceL b).contains pass) : ∀ (L : List Nat), (∀ b ∈ L, b < 2 ^ x.passes.length) → ∀ p : Nat × Bool,
    (L.map choiceL).foldl (gstep (covW x pass) (ltL x)) (choiceL p.1, p.2) = (choiceL (L.foldl (bestStep x wo) p).1, (L.foldl (bestStep x wo) p).2)
  | [], _, p => rfl
  | b :: L, hL, p => by
    rw [List.map_cons, List.foldl_cons, List.foldl_cons]
    have hb := hL b (by simp)
    have key : gstep (covW x pass) (ltL x) (choiceL p.1, p.2) (choiceL b) = (choiceL (bestStep x wo p b).1, (bestStep x wo p b).2) := by
      unfold gstep bestStep
      have hs : skips x wo b = !covW x pass (choiceL b) := by
        unfold skips covW
        rw [hw b hb, cov_eq hx hb]
        cases (choiceL b).contains pass <;> cases coversB x b <;> rfl
      rw [hs, better_lt]
      obtain ⟨o, so⟩ := p
      simp only
      cases covW x pass (choiceL b) <;> cases so <;> cases ltL x (choiceL b) (choiceL o) <;> simp
    rw [key]
    exact best_fold hx hw L (fun c hc => hL c (by simp [hc])) _

theorem same_best {x : Nf} (hx : nfOk x = true) {pass : Int} {wo : Nat} (hw : ∀ b < 2 ^ x.passes.length, decide (b &&& wo ≠ 0) = (choiceL b).contains pass) :
    (srF x pass).is = (bestN x wo).2 ∧ ((bestN x wo).2 = true → (srF x pass).ch = choiceL (bestN x wo).1 ∧ (srF x pass).co = costB x (bestN x wo).1) := by
  have h10 := (nfOk_spec hx).1.2
  obtain ⟨a1, a2⟩ := upd_fold x pass ([] :: subs x.passes.length pass x.passes.length []) (fun v hv => ((visits_bits h10).1 hv).1) ⟨[], 0, false⟩ ([], false) rfl (fun h => by cases h)
  have hb := best_fold hx hw (List.range (2 ^ x.passes.length)) (fun b hb => List.mem_range.1 hb) (0, false)
  obtain ⟨c1, c2⟩ := gfold_eq (covW x pass) (ltL x) (ltL_tr x) (ltL_tot x) (ltL_asy x) [] (choiceL 0) (L := [] :: subs x.passes.length pass x.passes.length []) (M := (List.range (2 ^ x.passes.length)).map choiceL)
    (fun v hv _ => by
      obtain ⟨_, b, q1, q2⟩ := (visits_bits h10).1 hv
      exact List.mem_map.2 ⟨b, List.mem_range.2 q1, q2⟩)
    (fun v hv hc => by
      obtain ⟨b, q1, rfl⟩ := List.mem_map.1 hv
      refine (visits_bits h10).2 ⟨?_, b, List.mem_range.1 q1, rfl⟩
      simp only [covW, Bool.and_eq_true, Bool.not_eq_eq_eq_not, Bool.not_true] at hc
      intro h
      have := List.contains_iff_mem.2 h
      rw [this] at hc
      cases hc.2)
  have e : (List.range (2 ^ x.passes.length)).foldl (bestStep x wo) (0, false) = bestN x wo := rfl
  rw [e] at hb
  simp only at hb
  rw [hb] at c1 c2
  simp only at c1 c2
  have e2 : srF x pass = ([] :: subs x.passes.length pass x.passes.length []).foldl (updQ x) ⟨[], 0, false⟩ := rfl
  rw [e2]
  refine ⟨a1.trans c1, fun h => ?_⟩
  have h2 := c1.trans h
  obtain ⟨d1, d2⟩ := a2 h2
  have h3 := c2 h2
  rw [d1, d2, h3]
  exact ⟨rfl, sumTo_cost x _⟩

theorem wo_none {n : Nat} : ∀ b < 2 ^ n, decide (b &&& 0 ≠ 0) = (choiceL b).contains (-1) := fun b _ => by
  have : ¬ (-1 : Int) ∈ choiceL b := fun h => by
    unfold choiceL castL at h
    obtain ⟨i, _, e⟩ := List.mem_map.1 h
    omega
  simp [this]

theorem best_same {x : Nf} : Best07R x = BestR x := by
  unfold Best07R BestR
  by_cases hx : nfOk x = true
  · rw [if_pos hx, if_pos hx]
    obtain ⟨h1, h2⟩ := same_best hx (pass := -1) (wo := 0) wo_none
    rw [h1]
    by_cases hb : (bestN x 0).2 = true
    · rw [if_pos hb, if_pos hb, (h2 hb).1, (h2 hb).2]
    · rw [if_neg hb, if_neg hb]
  · rw [if_neg hx, if_neg hx]

end Go.Proofs.YtdejdblopmfjfaaGreatDoor


/-! AM, part Zt: calls that leave an arena of which something is known. -/
set_option linter.unusedVariables false
set_option linter.unusedSimpArgs false
namespace Go.Am
open Go.RowKit

/-- **A CONTRACT OVER AN ARENA, OF WHICH SOMETHING IS KNOWN THEN**. -/
def CE (P : Program) (f : FuncId) (A : Arena) (K : List (Nat × List V)) (args : List V) (r : V) (Φ : Arena → Prop) : Prop :=
  callable P f = true ∧ ∀ (w : World) (φ : Nat → Nat) (xs : Array Value), (∀ b, w.heap.size ≤ b → φ b = 0) → Gl w φ → Ar w φ (fun _ => False) A → Kons w φ K → (∀ p ∈ K, p.1 ∉ A.map (·.1)) → RepL w φ args xs →
    Calls P f xs w fun e w' => ∃ φ' x B, Φ B ∧ e = .returned x ∧ RepR w' φ' r x ∧ Ar w' φ' (fun _ => False) B ∧ Moved (fun b => b ∈ A.map (·.1)) w φ (fun b => b ∈ B.map (·.1)) w' φ'

/-- Constants lie outside of the arena. -/
def InKD (E : Env) (K : List (Nat × List V)) : Prop := ∀ B stp M w φ, E.S (encA B) stp M w φ → ∀ p ∈ K, p.1 ∉ B.map (·.1)

theorem CE_of {P : Program} {f nt : Nat} {ic : IC} {rs : List ResultVar} (hmix : P.follows .mixedOrders = true) (hch : chkF P f = some (nt, ic, rs)) {A : Arena} {K : List (Nat × List V)} {args : List V} {r : V} {Φ : Arena → Prop} (hlen : args.length ≤ nt)
    (hT : ∀ (S : Sur) (ok : S.ok) (S1 : Sur), InA (env0 P hmix nt S ok) S1 [] false → InK (env0 P hmix nt S ok) K → InKD (env0 P hmix nt S ok) K → Tr (env0 P hmix nt S ok) none ic (qRet P rs r fun s => ∃ B, s.log = encA B ∧ Φ B) { entry args with log := encA A }) : CE P f A K args r Φ := by
  obtain ⟨fn, c, hf, hb, hnt, hc, rfl, hcall⟩ := chkF_ok hch
  refine ⟨hcall, fun w φ xs htop hgl hA hK hKA hrep => ?_⟩
  have okI := SQ_ok w φ A hgl
  have hInK : InK (env0 P hmix nt (SA (SQ w φ A) [] false) (SA_ok okI [] false)) K := by
    rintro log stp M w' φ' ⟨B', _, _, _, hm⟩ p hp
    obtain ⟨h1, h2⟩ := hK p hp
    have := hm.old p.1 h2 (hKA p hp)
    exact ⟨h1.mono this.1 hm.ext, Nat.lt_of_lt_of_le h2 hm.size⟩
  have hKD : InKD (env0 P hmix nt (SA (SQ w φ A) [] false) (SA_ok okI [] false)) K := by
    rintro B stp M w' φ' ⟨B', e, _, _, hm⟩ p hp hb
    obtain rfl := encA_inj e
    rcases hm.mine p.1 (.inr hb) with h | h
    · exact hKA p hp h
    · have := (hK p hp).2; omega
  have hT1 := hT (SA (SQ w φ A) [] false) (SA_ok okI [] false) (SQ w φ A) (⟨Sub.refl _, okI⟩) hInK hKD
  have e0 : (fun b => False ∨ b ∈ A.map (·.1)) = fun b => b ∈ A.map (·.1) := by funext b; simp
  have hT2 : Tr (env0 P hmix nt (SQ1 w φ A) (SQ1_ok w φ A hgl)) none ic (qRet P fn.results.toList r fun s => ∃ B, s.log = encA B ∧ Φ B) (entry args) := by
    intro c hc n a w1 g R Q' hq
    obtain ⟨B0, h1, h2, h3, h4⟩ := R.1.sur
    have hB0 : B0 = A := by
      rcases h1 with ⟨_, h⟩ | h
      · exact h
      · exact absurd h.symm (encA_ne _)
    subst hB0
    have R1 : (env0 P hmix nt (SA (SQ w φ B0) [] false) (SA_ok okI [] false)).rel { entry args with log := encA B0 } a w1 g := by
      refine ⟨{ R.1 with sur := ⟨B0, rfl, rfl, h3, h4⟩ }, fun l hl => ⟨?_, trivial⟩, R.2.2⟩
      intro log x M w φ xs hp
      exact absurd hp.length_le (by simp)
    refine hT1 c hc n a w1 g R1 Q' fun e t a' w' h' hQ R' hy => ?_
    refine hq e t a' w' h' hQ ?_ hy
    obtain ⟨B', k1, k2, k3, k4⟩ := R'.1.sur
    refine ⟨{ R'.1 with sur := ⟨B', .inr k1, k2, k3, k4⟩ }, fun l hl => ⟨?_, trivial⟩, R'.2.2⟩
    intro log x M w φ xs hp
    exact absurd hp.length_le (by simp)
  refine (calls_body (E := env0 P hmix nt (SQ1 w φ A) (SQ1_ok w φ A hgl)) (φ := φ) (y := none) hf hb hc hnt hlen hrep.1 (fun i v x h1 h2 => ⟨.data (hrep.2 i v x h1 h2), fun σ h => GrowV.of_data (hrep.2 i v x h1 h2)⟩)
    ⟨A, .inl ⟨rfl, rfl⟩, rfl, hA, by rw [e0]; exact Moved.refl _ htop⟩ htop (fun _ h => ((by cases h))) hT2).mono ?_
  rintro e w' ⟨s', h', x, rfl, hr, ⟨B', k1, k2, k3, k4⟩, ht, hk⟩
  obtain ⟨B, hk, hΦ⟩ := hk
  have hB : B' = B := by
    rw [hk] at k1
    rcases k1 with ⟨h, _⟩ | h
    · exact absurd h (encA_ne _)
    · exact (encA_inj h).symm
  subst hB
  exact ⟨h'.φ, x, B', hΦ, rfl, hr, ⟨k3.nd, k3.ok, fun _ _ h => h, k3.lt, k3.z⟩, ⟨k4.ext, k4.old, k4.size, k4.os, k4.tape, k4.output, fun b hb => k4.mine b (.inr hb), k4.top⟩⟩

section
variable {E : Env} {S0 : Sur} {l0 : List (List V)} {s0 : Bool} {A : Arena} {stp : Bool} {σ : FSt} {a : Act} {w : World} {h : Gh}

/-- A call over an arena. -/
theorem wp_callE (hE : InA E S0 l0 s0) {F A1 : Arena} {K : List (Nat × List V)} {ro : Option Nat} {n i : Nat} {ops : Array Oper} {slots : List (Option Nat)} {o : Oper} {ins : Ins} (R : E.relF (encA (F ++ A1)) stp σ a w h) {f : FuncId} {vs us : List V} {ids : List Nat} {r : V} {Φ : Arena → Prop} {os : List Operand} (cc : Comp E.P E.nt slots o ins os) (hd : toDs σ.b vs = some (us, ids)) (hC : CE E.P f A1 K us r Φ)
    (hK : ∀ h', E.relF (encA (F ++ A1)) stp ((freeze σ.b ids).foldl (fun τ p => τ.set (.bx p.1) (.b p.2)) σ) a w h' → Kons w h'.φ K) (hKA : ∀ p ∈ K, p.1 ∉ A1.map (·.1)) (xs : Array Value) (hl : vs.length = xs.size)
    (hr : ∀ (i : Nat) v x, vs[i]? = some v → xs[i]? = some x → Rep w h.φ h.β h.y.l v x) (hi : ops[i]? = some o) (hw : Region.wanted o (yielded ops a.tmps) = true) (hrun : (execOp a.eval o).run E.P w = .ok (.enter f xs) w)
    {Q : Exit → Act → World → Prop} {next : Act → World → Prop} (hn : ∀ B, Φ B → ∀ a' w' h', E.relF (encA (F ++ B)) stp ((σ.eff { v := r, wb := freeze σ.b ids }).put ins.d r) a' w' h' → h'.y = h.y → next a' w') : wpOpIn (wideR ro) n E.P ops Q i next a w := by
  unfold wpOpIn
  simp only [hi, hw, if_true, Oper.wpIn]
  refine ⟨fun _ _ => trivial, ?_⟩
  rw [Oper.semAt_eq _ _ _ (opK_defer cc.op), hrun]
  simp only [Oper.uponIn]
  refine ⟨fun e => by simp [wideR, Fence.wide] at e, ?_⟩
  obtain ⟨h1, R1, ext1, q1, q2, q3, hrep⟩ := args_data R.1 hd
  have R1' : E.relF (encA (F ++ A1)) stp ((freeze σ.b ids).foldl (fun τ p => τ.set (.bx p.1) (.b p.2)) σ) a w h1 := ⟨R1, by rw [q3]; exact R.2⟩
  have hAr := hE.ar R1'
  have hnd := hAr.nd
  rw [List.map_append, List.nodup_append] at hnd
  have arA : Ar w h1.φ (fun _ => False) A1 := ⟨hnd.2.1, fun p hp => hAr.ok p (List.mem_append.2 (.inr hp)), fun _ _ h => h, fun p hp => hAr.lt p (List.mem_append.2 (.inr hp)), fun p hp => hAr.z p (List.mem_append.2 (.inr hp))⟩
  refine (callsIn_wideR (hC.2 w h1.φ xs R1.top (E.ok.gl _ _ _ _ _ R1.sur) arA (hK h1 R1') hKA (hrep xs hl hr))).mono ?_
  rintro e w' ⟨φ', x, B, hΦ, rfl, hres, hB, hm⟩
  have R2 := hE.moved R1' hm hB
  have hx : Rep w' φ' h1.β h1.y.l r x ∧ ∀ σ h w0, GrowV σ h w0 r x := by
    cases hres with
    | data hh => exact ⟨.data hh, fun σ h w0 => GrowV.of_data hh⟩
    | tuple vs xs hl hh =>
      refine ⟨.tuple vs xs hl hh, fun σ h w0 j u z hu hz => ?_⟩
      cases j with
      | zero => simp [cells] at hu; subst hu; intro r' sz xs' e; cases e
      | succ j => simp [cells] at hu
  have fin : Ok (σ.eff { v := r, wb := freeze σ.b ids }) { h1 with φ := φ' } w' r x := ⟨hx.1, hx.2 _ _ _⟩
  refine hn B hΦ _ _ { h1 with φ := φ' } ⟨?_, ?_⟩ (by simpa using q3)
  · rw [cc.d]
    cases hd : o.dst with
    | none => exact R2.1
    | some d => exact R2.1.put (cc.dst d hd) fin.1 fin.2
  · exact R2.2

theorem Steps.callvE (hE : InA E S0 l0 s0) {K : St → Prop} {Ks : List (Nat × List V)} {s : St} {d : Option Nat} {f : FuncId} {xs : List X} {rest : List Ins} {vs first cap us : List V} {ids : List Nat} {r : V} {Φ : Arena → Prop} {F A1 : Arena} (hx : evXs s.env xs = some (.func (.func f) first cap :: vs)) (hd : toDs s.fs.b (first ++ vs ++ cap) = some (us, ids)) (hl : s.log = encA (F ++ A1))
    (hC : CE E.P f A1 Ks us r Φ) (hKs : (∀ p ∈ Ks, (p.1, Ob.cells p.2) ∈ F) ∨ InK E Ks ∧ ∀ p ∈ Ks, p.1 ∉ A1.map (·.1))
    (hk : ∀ B, Φ B → Steps E rest K { (s.eff { v := r, wb := freeze s.fs.b ids }).put d r with log := encA (F ++ B) }) : Steps E (⟨d, .callv, xs, none⟩ :: rest) K s := by
  refine Step1.raw fun slots ops o i ro n a w h hc hs hi R Q next hn => ?_
  obtain ⟨os, cc⟩ := comp_of hc
  have hgo := guard_none cc rfl
  obtain ⟨c, t, e1, e2, rfl⟩ := opK_callv cc.op
  have hO := opds_of R.1 cc.xs (evXs_ok hx)
  have R' : E.relF (encA (F ++ A1)) s.stp s.fs a w h := by rw [← hl]; exact R
  have hAr := hE.ar R'
  have hnd := hAr.nd
  rw [List.map_append, List.nodup_append] at hnd
  cases hO with
  | cons o1 o2 =>
    obtain ⟨f', c', ef, hf, hc', h1, h2⟩ := ok_func o1
    obtain ⟨l1, l2⟩ := opds_args o2
    obtain ⟨m1, m2⟩ := arr3 hf hc' l1 h1 h2 l2
    refine wp_callE hE R' cc hd hC (fun h' R1 => ?_) (fun p hp => ?_) _ m1 m2 hi (wanted_none hgo) (run_callv hC.1 e2 e1 ef) fun B hΦ a' w' h' R2 hy => hn _ a' w' h' (hk B hΦ) ?_ hy
    · rcases hKs with hKs | hKs
      · intro p hp
        have := (hE.ar R1)
        exact ⟨this.ok _ (List.mem_append.2 (.inl (hKs p hp))), this.lt _ (List.mem_append.2 (.inl (hKs p hp)))⟩
      · exact hKs.1 _ _ _ _ _ R1.1.sur
    · rcases hKs with hKs | hKs
      · exact fun h => hnd.2.2 _ (List.mem_map.2 ⟨_, hKs p hp, rfl⟩) _ h rfl
      · exact hKs.2 p hp
    · show E.relF _ _ _ _ _ _
      have e : ({ (s.eff { v := r, wb := freeze s.fs.b ids }).put d r with log := encA (F ++ B) } : St).fs = ((s.fs.eff { v := r, wb := freeze s.fs.b ids }).put d r) := by
        cases d with
        | none => exact fs_eff s _
        | some d => show ((s.eff _).put (some d) r).fs = _; rw [fs_put, fs_eff]; rfl
      have e2 : ({ (s.eff { v := r, wb := freeze s.fs.b ids }).put d r with log := encA (F ++ B) } : St).stp = s.stp := by
        show ((s.eff _).put d r).stp = _
        rw [(put_log _ _ _).2, (eff_log _ _).2]
      rw [e, e2]
      exact R2

/-- That is known at each step. -/
theorem Steps.know {K : List (Nat × List V)} {Kt : St → Prop} {s : St} {i : Ins} {r : List Ins} (hD : InKD E K) (hl : s.log = encA A) (k : (∀ p ∈ K, p.1 ∉ A.map (·.1)) → Steps E (i :: r) Kt s) : Steps E (i :: r) Kt s := by
  refine Step1.raw fun slots ops o j ro n a w h hc hs hi R Q next hn => ?_
  have R1 := R.1.sur
  rw [hl] at R1
  exact step_ok (k (hD _ _ _ _ _ R1) : Step1 E i (Steps E r Kt) s) hc hs hi R hn

end
end Go.Am


/-! Contract: Prove. -/
set_option linter.unusedVariables false
set_option linter.unusedSimpArgs false
set_option maxRecDepth 40000
set_option maxHeartbeats 4000000
namespace Go.Proofs.YtdejdblopmfjfaaGreatDoor
open Go.Am
attribute [local simp] cells scalar mkv splice under2 under dem dem1 eB eQ nfC intsV eC cutsV
def leafZ (x : Nf) (c : Nat) : Int := if coversB x c then 0 else 1000000
def leafC (x : Nf) (c : Nat) : Ct := ⟨-1, List.replicate x.lacks.length (leafZ x c)⟩
def splitL (x : Nf) : Nat → Nat → Nat → List Ct
  | 0, _, c => [leafC x c]
  | m + 1, i, c => if coversB x c then [leafC x c] else ⟨(i : Int), []⟩ :: (splitL x m (i + 1) (c ||| 2 ^ i) ++ splitL x m (i + 1) c)

theorem splitL_len (x : Nf) : ∀ (m i c : Nat), 1 ≤ (splitL x m i c).length ∧ (splitL x m i c).length + 1 ≤ 2 ^ (m + 1)
  | 0, i, c => by simp [splitL]
  | m + 1, i, c => by
    have h1 := splitL_len x m (i + 1) (c ||| 2 ^ i)
    have h2 := splitL_len x m (i + 1) c
    have e : 2 ^ (m + 1 + 1) = 2 ^ (m + 1) + 2 ^ (m + 1) := by rw [Nat.pow_succ 2 (m + 1)]; omega
    have h3 : 1 ≤ 2 ^ (m + 1) := Nat.one_le_two_pow
    unfold splitL
    split
    · simp only [List.length_singleton]; omega
    · simp only [List.length_cons, List.length_append]; omega

def proveV (x : Nf) (b5 b6 : Nat) : V := .func (.func F.bin_Prove_1) [] [.vptr (nfC x) 0, .rptr b5 0, .rptr b6 0]
def prQ (b5 : Nat) (xs : List Ct) (B : Arena) : Prop := ∃ v, (b5, Ob.cells [v]) ∈ B ∧ OwnS B 2 (xs.map eC) v ∧ offS v b5

/-- The variable is stored. -/
theorem prQ_store {b5 : Nat} {xs : List Ct} {B : Arena} {v w : V} (h1 : (b5, Ob.cells [w]) ∈ B) (h2 : OwnS B 2 (xs.map eC) v) (h3 : offS v b5) : prQ b5 xs (setA B b5 (.cells [v])) := by
  refine ⟨v, mem_setA_self h1, ?_, h3⟩
  rcases h2 with h2 | ⟨blk, cap, cs, rfl, a1, a2, a3, a4⟩
  · exact .inl h2
  · exact .inr ⟨blk, cap, cs, rfl, mem_setA_ne a1 (fun e => h3 _ _ _ _ rfl e.symm), a2, a3, a4⟩

theorem ownS_isD {B : Arena} {xs : List V} {v : V} (h : OwnS B 2 xs v) : isD v = true ∧ scalar v = true := by
  rcases h with ⟨_, rfl⟩ | ⟨_, _, _, rfl, _⟩ <;> exact ⟨rfl, rfl⟩

theorem rep_flat (n : Nat) (a : V) : (List.replicate n [a]).flatten = List.replicate n a := by
  induction n with
  | zero => rfl
  | succ n ih => rw [List.replicate_succ, List.replicate_succ, List.flatten_cons, ih]; rfl

theorem fill_set (z : Int) {L k : Nat} (h : k < L) : (List.replicate k z ++ List.replicate (L - k) 0).set k z = List.replicate (k + 1) z ++ List.replicate (L - (k + 1)) 0 := by
  obtain ⟨d, hd⟩ : ∃ d, L - k = d + 1 := ⟨L - k - 1, by omega⟩
  have e : L - (k + 1) = d := by omega
  rw [hd, e, List.set_append_right _ _ (by simp), List.length_replicate, Nat.sub_self, List.replicate_succ, List.set_cons_zero, List.replicate_succ' , List.append_assoc]; rfl

theorem c_prove1 {x : Nf} (hx : nfOk x = true) {b5 b6 : Nat} : ∀ (m i c : Nat) (xs : List Ct) (v : V) (A : Arena), i + m = x.passes.length → c < 2 ^ x.passes.length → xs.length + 2 ^ (m + 1) ≤ 4096 → (b5, Ob.cells [v]) ∈ A → OwnS A 2 (xs.map eC) v → offS v b5 →
    CE Tryz.prog F.bin_Prove_1 A [(b6, [proveV x b5 b6])] [I (i : Nat), I (c : Nat), .vptr (nfC x) 0, .rptr b5 0, .rptr b6 0] (.tuple []) (prQ b5 (xs ++ splitL x m i c)) := by
  obtain ⟨⟨h16, h10⟩, hl1, hp1⟩ := nfOk_spec hx
  intro m
  induction m using Nat.strongRecOn with
  | ind m ih =>
  intro i c xs v A him hc hlen hv hO hoff
  have hm2 : 2 ^ x.passes.length ≤ 1024 := Nat.pow_le_pow_right (n := 2) (by omega) h10
  have hxl : xs.length ≤ 4096 := by have := Nat.two_pow_pos (m + 1); omega
  refine CE_of mixed chk.bin_Prove_1 (by simp) fun S ok S1 hA hK hD => ?_
  refine Tr.seq (Tr.reg (Steps.run rfl (by simp) (Steps.call rfl rfl (c_covers hx hc) (Steps.fin rfl (by simp) ?_))))
  obtain ⟨done, hdone⟩ : ∃ d, coversB x c = d := ⟨_, rfl⟩
  rw [hdone]
  refine Tr.seq (Tr.seqR rfl (by simp) (Tr.cond rfl rfl (fun h1 => ?_) (fun h1 => Tr.skip ?_)))
  · have h1 : (bif !done then decide ((i : Int) < ((x.passes.map eQ).length : Int)) else false) = true := h1
    rw [List.length_map] at h1
    obtain rfl : done = false := by cases done with | false => rfl | true => cases h1
    have h1 : decide ((i : Int) < (x.passes.length : Int)) = true := h1
    have h1 := of_decide_eq_true h1
    obtain ⟨m, rfl⟩ : ∃ m', m = m' + 1 := ⟨m - 1, by omega⟩
    have hsp : splitL x (m + 1) i c = ⟨(i : Int), []⟩ :: (splitL x m (i + 1) (c ||| 2 ^ i) ++ splitL x m (i + 1) c) := by
      rw [splitL, hdone]; rfl
    have hp : 2 ^ i < 2 ^ x.passes.length := Nat.pow_lt_pow_right (by omega) (by omega)
    have hc2 : c ||| 2 ^ i < 2 ^ x.passes.length := Nat.or_lt_two_pow hc hp
    have e2 : 2 ^ (m + 1 + 1) = 2 ^ (m + 1) + 2 ^ (m + 1) := by rw [Nat.pow_succ 2 (m + 1)]; omega
    have h1p : 1 ≤ 2 ^ (m + 1) := Nat.one_le_two_pow
    have l1 := splitL_len x m (i + 1) (c ||| 2 ^ i)
    refine Tr.seq (Tr.reg (Steps.aload hA rfl rfl hv rfl (Steps.runN 2 rfl (by simp) ?_)))
    refine stepsWeak (s' := { env := [(0, I (i : Nat)), (1, I (c : Nat)), (2, .vptr (nfC x) 0), (3, .rptr b5 0), (4, .rptr b6 0), (22, v), (24, .agg [I (i : Nat), intsV []])], bx := [], rw := [], log := encA A, stp := false })
      (Wk.le (.cons rfl (.refl _) (.cons rfl (.refl _) (.cons rfl (.refl _) (.cons rfl (.refl _) (.cons rfl (.refl _) (.cons rfl (.refl _) (.cons rfl (VLe.agg2 (.refl _) (.nil 0 1)) .nil))))))) .nil .nil (by simp only [okRefs, List.all_cons, ownS_refs hO]; rfl) rfl) ?_
    refine Steps.runN 1 rfl (by simp) ?_
    refine Steps.appendOwn (A := A) (v := v) (xs := xs.map eC) (ys := [eC ⟨(i : Int), []⟩]) (zs := [I 0, .nils]) hA rfl rfl hO (by kernel_rfl) (by omega) (by simp only [List.length_cons, List.length_nil, List.length_map]; omega) (by simp only [List.length_cons, List.length_nil, List.length_map]; omega) (by simp) fun v' A' hO' hkeep => ?_
    obtain ⟨d1, d2⟩ := ownS_isD hO'
    obtain ⟨k1, k2⟩ := hkeep _ hv hoff
    have hO2 : OwnS A' 2 ((xs ++ [(⟨(i : Int), []⟩ : Ct)]).map eC) v' := by rw [List.map_append]; exact hO'
    have hq := prQ_store (v := v') k1 hO2 k2
    refine Steps.astore hA rfl rfl k1 (by simp) d1 d2 (Steps.fin rfl (by simp) ?_)
    have eset : ([v] : List V).set 0 v' = [v'] := rfl
    rw [eset]
    obtain ⟨A2, hA2⟩ : ∃ A2, setA A' b5 (.cells [v']) = A2 := ⟨_, rfl⟩
    rw [hA2] at hq ⊢
    obtain ⟨v2, q1, q2, q3⟩ := hq
    have hsh := bit_shl i (by omega)
    have hw1 : IntKind.wrap .i64 ((i : Int) + 1) = ((i + 1 : Nat) : Int) := by rw [w64 (by omega) (by omega)]; rfl
    have k1 := ih m (by omega) (i + 1) (c ||| 2 ^ i) (xs ++ [⟨(i : Int), []⟩]) v2 A2 (by omega) hc2 (by simp only [List.length_append, List.length_singleton]; omega) q1 q2 q3
    rw [← bits_or c (2 ^ i) (by omega) (by omega), ← hsh, ← hw1] at k1
    refine Tr.seq (Tr.drawK (TraceK.kload hK (cs := [proveV x b5 b6]) rfl (by simp) rfl (TraceK.runN 6 rfl (by simp) (.done ⟨by kernel_rfl, by kernel_rfl, ?_⟩))))
    refine Steps.know hD rfl fun hdis => ?_
    refine Steps.callvE (F := []) hA rfl rfl rfl k1 (.inr ⟨hK, hdis⟩) fun B hB => Steps.fin rfl (by simp) ?_
    obtain ⟨v3, q1, q2, q3⟩ := hB
    have k2 := ih m (by omega) (i + 1) c ((xs ++ [⟨(i : Int), []⟩]) ++ splitL x m (i + 1) (c ||| 2 ^ i)) v3 B (by omega) hc (by simp only [List.length_append, List.length_singleton]; omega) q1 q2 q3
    rw [← hw1] at k2
    refine Tr.seq (Tr.reg (Steps.kload hK (cs := [proveV x b5 b6]) rfl (by simp) rfl (Steps.runN 3 rfl (by simp) ?_)))
    refine Steps.know hD rfl fun hdis => ?_
    refine Steps.callvE (F := []) hA rfl rfl rfl k2 (.inr ⟨hK, hdis⟩) fun B2 hB2 => Steps.fin rfl (by simp) ?_
    refine Tr.retX rfl rfl rfl rfl ⟨B2, rfl, ?_⟩
    rw [hsp]
    have e : xs ++ (⟨(i : Int), []⟩ :: (splitL x m (i + 1) (c ||| 2 ^ i) ++ splitL x m (i + 1) c)) = ((xs ++ [⟨(i : Int), []⟩]) ++ splitL x m (i + 1) (c ||| 2 ^ i)) ++ splitL x m (i + 1) c := by simp
    rw [e]; exact hB2
  have h1 : (bif !done then decide ((i : Int) < ((x.passes.map eQ).length : Int)) else false) = false := h1
  rw [List.length_map] at h1
  have hsp : splitL x m i c = [leafC x c] := by
    cases m with
    | zero => rfl
    | succ m =>
      have : done = true := by
        cases done with
        | true => rfl
        | false =>
          have h1 : decide ((i : Int) < (x.passes.length : Int)) = false := h1
          have h1 := of_decide_eq_false h1
          omega
      rw [splitL, hdone, this]; rfl
  rw [hsp]
  have hz : leafZ x c = if done then 0 else 1000000 := by unfold leafZ; rw [hdone]
  obtain ⟨z, ez⟩ : ∃ z, leafZ x c = z := ⟨_, rfl⟩
  have hleaf : leafC x c = ⟨-1, List.replicate x.lacks.length z⟩ := by unfold leafC; rw [ez]
  rw [ez] at hz
  rw [hleaf]
  obtain ⟨L, hL⟩ : ∃ L, x.lacks.length = L := ⟨_, rfl⟩
  rw [hL]
  refine Tr.seqR rfl (by simp; omega) ?_
  refine Tr.seq (Tr.seqR rfl (by simp) (Tr.block ?_))
  refine Tr.loop (fun (k : Nat) st => k ≤ L ∧ st = { env := [(3, .rptr b5 0), (7, .bool done), (8, .bsl 43 0 1 L), (45, I (L : Nat)), (46, I (k : Nat))], bx := [(43, ⟨(List.replicate k z ++ List.replicate (L - k) 0).map I, false⟩)], rw := [], log := encA A, stp := false }) (fun k => L - k) 0
    (Wk.le (.cons rfl (.refl _) (.cons rfl (.refl _) (.cons rfl (.of_eq ?_) (.cons rfl (VLe.i ?_) (.cons rfl (.refl _) .nil))))) (.cons rfl ?_ .nil) .nil (okI rfl) rfl) ⟨by omega, rfl⟩ ?_
  · show V.bsl 43 0 1 (((x.lacks.map I).length : Int)).toNat = _
    rw [List.length_map, hL]; rfl
  · show (((((x.lacks.map I).length : Int)).toNat : Nat) : Int) = _
    rw [List.length_map, hL]; rfl
  · show LLe (List.replicate (((x.lacks.map I).length : Int)).toNat [I 0]).flatten _
    rw [List.length_map, hL, rep_flat]
    simp
    exact LLe.refl _
  rintro k st ⟨hk, rfl⟩
  refine Tr.seqR rfl (by simp) (Tr.seqI rfl (fun h2 => ?_) (fun h2 => ?_))
  · have h2 : k < L := by simpa using h2
    refine Tr.skipT (Tr.meet { env := [(3, .rptr b5 0), (7, .bool done), (8, .bsl 43 0 1 L), (45, I (L : Nat)), (46, I (k : Nat))], bx := [(43, ⟨(List.replicate (k + 1) z ++ List.replicate (L - (k + 1)) 0).map I, false⟩)], rw := [], log := encA A, stp := false } (Tr.block ?_) (Tr.regR rfl (by simp) ?_))
    rotate_left
    · exact ⟨k + 1, _, Wk.le (.cons rfl (.refl _) (.cons rfl (.refl _) (.cons rfl (.refl _) (.cons rfl (.refl _) (.cons rfl (VLe.i (w64 (by omega) (by omega))) .nil))))) (.cons rfl (LLe.refl _) .nil) .nil (okI rfl) rfl, ⟨h2, rfl⟩, by omega⟩
    refine Tr.seqR rfl (by simp) (Tr.seqR rfl (by simp) ?_)
    cases done with
    | true =>
      have hz : z = 0 := hz
      subst hz
      refine Tr.condF rfl (Tr.skip ?_)
      refine Wk.le (.cons rfl (.refl _) (.cons rfl (.refl _) (.cons rfl (.refl _) (.cons rfl (.refl _) (.cons rfl (.refl _) .nil))))) (.cons rfl ?_ .nil) .nil (okI rfl) rfl
      have e : List.replicate k (0 : Int) ++ List.replicate (L - k) 0 = List.replicate (k + 1) 0 ++ List.replicate (L - (k + 1)) 0 := by
        rw [List.replicate_append_replicate, List.replicate_append_replicate]
        congr 1; omega
      rw [e]; exact LLe.refl _
    | false =>
      have hz : z = 1000000 := hz
      refine Tr.condT rfl (Tr.regR rfl (by simp; omega) ?_)
      refine Wk.le (.cons rfl (.refl _) (.cons rfl (.refl _) (.cons rfl (.refl _) (.cons rfl (.refl _) (.cons rfl (.refl _) .nil))))) (.cons rfl ?_ .nil) .nil (okI rfl) rfl
      have e0 : 0 + (k : Int).toNat * 1 = k := by omega
      show LLe (splice ((List.replicate k z ++ List.replicate (L - k) 0).map I) (0 + (k : Int).toNat * 1) [I 1000000]) _
      rw [e0, splice_ints (by simp; omega), ← hz, fill_set z h2]
      exact LLe.refl _
  · have h2 : k = L := by simp at h2; omega
    subst h2
    refine Tr.exit ?_
    have eP : List.replicate k z ++ List.replicate (k - k) 0 = List.replicate k z := by simp
    rw [eP]
    refine Tr.weak (Wk.bsl (t := 8) (xs := (List.replicate k z).map I) rfl rfl (by have := holds_ints (List.replicate k z); rwa [List.length_replicate] at this)) ?_
    refine Tr.reg (Steps.aload hA rfl rfl hv rfl (Steps.runN 3 rfl (by simp) ?_))
    refine Steps.appendOwn (A := A) (v := v) (xs := xs.map eC) (ys := [eC ⟨-1, List.replicate k z⟩]) (zs := [I 0, .nils]) hA rfl rfl hO (by kernel_rfl) (by omega) (by simp only [List.length_cons, List.length_nil, List.length_map]; omega) (by simp only [List.length_cons, List.length_nil, List.length_map]; omega) (by simp) fun v' A' hO' hkeep => ?_
    obtain ⟨d1, d2⟩ := ownS_isD hO'
    obtain ⟨k1, k2⟩ := hkeep _ hv hoff
    have hO2 : OwnS A' 2 ((xs ++ [(⟨-1, List.replicate k z⟩ : Ct)]).map eC) v' := by rw [List.map_append]; exact hO'
    have hq := prQ_store (v := v') k1 hO2 k2
    refine Steps.astore hA rfl rfl k1 (by simp) d1 d2 (Steps.fin rfl (by simp) ?_)
    exact And.intro ⟨_, rfl, hq⟩ ⟨[], [], [], rfl, rfl, rfl⟩

end Go.Proofs.YtdejdblopmfjfaaGreatDoor


/-! Plain laws of bounds: a leaf that is split bounds no less. -/
set_option linter.unusedVariables false
set_option linter.unusedSimpArgs false
set_option maxRecDepth 40000
set_option maxHeartbeats 4000000
namespace Go.Proofs.YtdejdblopmfjfaaGreatDoor
open Go.Am

theorem foldl_addI : ∀ (l : List Int) (z : Int), l.foldl (· + ·) z = l.foldl (· + ·) 0 + z
  | [], z => by simp
  | a :: l, z => by
    rw [List.foldl_cons, List.foldl_cons, foldl_addI l (z + a), foldl_addI l (0 + a)]; omega

theorem dotL_z (a b : List Int) (z : Int) : dotL a b z = dotL a b 0 + z := foldl_addI _ _
theorem dotL_cons (p b : Int) (pr bs : List Int) (z : Int) : dotL (p :: pr) (b :: bs) z = dotL pr bs 0 + p * b + z := by
  unfold dotL
  rw [List.zipWith_cons_cons, List.foldl_cons, foldl_addI]; omega
theorem dotL_nil (b : List Int) (z : Int) : dotL [] b z = z := rfl
theorem dotL_nil2 (b : List Int) (z : Int) : dotL b [] z = z := by unfold dotL; simp

theorem dot_rest : ∀ (pr R S : List Int), S.length = R.length → dotL pr (restN R S) 0 = dotL pr R 0 - dotL pr (minL S R) 0
  | [], R, S, _ => by simp [dotL_nil]
  | p :: pr, [], S, h => by
    obtain rfl : S = [] := List.eq_nil_of_length_eq_zero h
    simp [restN, minL, dotL_nil2]
  | p :: pr, r :: R, [], h => by simp at h
  | p :: pr, r :: R, s :: S, h => by
    have ih := dot_rest pr R S (by simpa using h)
    have e : restN (r :: R) (s :: S) = max 0 (r - s) :: restN R S := rfl
    have e2 : minL (s :: S) (r :: R) = min s r :: minL S R := rfl
    rw [e, e2, dotL_cons, dotL_cons, dotL_cons, ih, show max 0 (r - s) = r - min s r by omega, Int.mul_sub]
    omega

theorem dot_min : ∀ (pr A R S : List Int), (∀ p ∈ pr, 0 ≤ p) → S.length = R.length → (∀ r ∈ R, 0 ≤ r) → (∀ s ∈ S, 0 ≤ s) → dotL pr (minL A (restN R S)) 0 ≤ dotL pr (minL A R) 0
  | [], A, R, S, _, _, _, _ => by simp [dotL_nil]
  | p :: pr, A, [], S, _, h, _, _ => by
    obtain rfl : S = [] := List.eq_nil_of_length_eq_zero h
    simp [restN]
  | p :: pr, A, r :: R, [], _, h, _, _ => by simp at h
  | p :: pr, [], r :: R, s :: S, _, h, _, _ => by simp [minL, dotL_nil2]
  | p :: pr, a :: A, r :: R, s :: S, hp, h, hr, hs => by
    have ih := dot_min pr A R S (fun q hq => hp q (by simp [hq])) (by simpa using h) (fun q hq => hr q (by simp [hq])) (fun q hq => hs q (by simp [hq]))
    have e : restN (r :: R) (s :: S) = max 0 (r - s) :: restN R S := rfl
    have e2 : minL (a :: A) (max 0 (r - s) :: restN R S) = min a (max 0 (r - s)) :: minL A (restN R S) := rfl
    have e3 : minL (a :: A) (r :: R) = min a r :: minL A R := rfl
    have hp0 := hp p (by simp)
    have hr0 := hr r (by simp)
    have hs0 := hs s (by simp)
    have : p * min a (max 0 (r - s)) ≤ p * min a r := Int.mul_le_mul_of_nonneg_left (by omega) hp0
    rw [e, e2, e3, dotL_cons, dotL_cons]
    omega

end Go.Proofs.YtdejdblopmfjfaaGreatDoor


/-! Plain laws: no choice that covers costs less than a proof's bound; the bound of Prove's proof is the best cost. -/
set_option linter.unusedVariables false
set_option linter.unusedSimpArgs false
set_option maxRecDepth 40000
set_option maxHeartbeats 4000000
namespace Go.Proofs.YtdejdblopmfjfaaGreatDoor
open Go.Am

def sumS (f : Nat → Int) : List Nat → Int
  | [] => 0
  | i :: l => f i + sumS f l

theorem sumS_app (f : Nat → Int) : ∀ (l m : List Nat), sumS f (l ++ m) = sumS f l + sumS f m
  | [], m => by simp [sumS]
  | i :: l, m => by simp only [List.cons_append, sumS, sumS_app f l m]; omega
theorem sumS_perm {f : Nat → Int} {l m : List Nat} (h : l.Perm m) : sumS f l = sumS f m := by
  induction h with
  | nil => rfl
  | cons a _ ih => simp only [sumS, ih]
  | swap a b l => simp only [sumS]; omega
  | trans _ _ h1 h2 => exact h1.trans h2
theorem sumS_le {f g : Nat → Int} : ∀ {l : List Nat}, (∀ i ∈ l, f i ≤ g i) → sumS f l ≤ sumS g l
  | [], _ => Int.le_refl 0
  | i :: l, h => by
    have h1 := h i (by simp)
    have h2 := sumS_le (f := f) (g := g) (l := l) fun j hj => h j (by simp [hj])
    simp only [sumS]; omega

theorem foldl_sumS (f : Nat → Int) : ∀ (l : List Nat) (z : Int), (l.map f).foldl (· + ·) z = z + sumS f l
  | [], z => by simp [sumS]
  | i :: l, z => by
    rw [List.map_cons, List.foldl_cons, foldl_sumS f l]; simp only [sumS]; omega

theorem costB_sum (x : Nf) (b : Nat) : costB x b = sumS (costOf x) (choiceN b) := by
  unfold costB sumF choiceL castL
  rw [List.map_map]
  have e : ((fun i : Int => costOf x i.toNat) ∘ fun (i : Nat) => (i : Int)) = costOf x := by
    funext i; simp
  rw [e, foldl_sumS]; omega

/-! ### What is left, in whatever order -/
theorem restN_comm : ∀ (c a b : List Int), (∀ n ∈ a, 0 ≤ n) → (∀ n ∈ b, 0 ≤ n) → restN (restN c a) b = restN (restN c b) a
  | [], a, b, _, _ => by simp [restN]
  | z :: c, [], b, _, _ => by simp [restN]
  | z :: c, p :: a, [], _, _ => by simp [restN]
  | z :: c, p :: a, q :: b, ha, hb => by
    have ih := restN_comm c a b (fun n hn => ha n (by simp [hn])) (fun n hn => hb n (by simp [hn]))
    have h1 := ha p (by simp)
    have h2 := hb q (by simp)
    have e : ∀ (u v : Int) (s t : List Int), restN (u :: s) (v :: t) = max 0 (u - v) :: restN s t := fun _ _ _ _ => rfl
    rw [e, e, e, e, ih]
    congr 1; omega

theorem fold_perm {x : Nf} (hx : nfOk x = true) {l m : List Nat} (h : l.Perm m) : (∀ i ∈ l, i < x.passes.length) → ∀ c : List Int, l.foldl (fun c i => restN c (addsOf x i)) c = m.foldl (fun c i => restN c (addsOf x i)) c := by
  induction h with
  | nil => exact fun _ _ => rfl
  | cons a h ih =>
    intro hl c
    rw [List.foldl_cons, List.foldl_cons]
    exact ih (fun i hi => hl i (by simp [hi])) _
  | swap a b l =>
    intro hl c
    rw [List.foldl_cons, List.foldl_cons, List.foldl_cons, List.foldl_cons, restN_comm _ _ _ (fun n hn => ((adds_small hx (hl b (by simp))).2 n hn).1) (fun n hn => ((adds_small hx (hl a (by simp))).2 n hn).1)]
  | trans h1 h2 i1 i2 =>
    intro hl c
    exact (i1 hl c).trans (i2 (fun i hi => hl i (h1.mem_iff.2 hi)) c)

/-- The passes of a choice that are not decided. -/
def openN (b d : Nat) : List Nat := (choiceN b).filter fun i => !d.testBit i

theorem choice_perm (b d : Nat) : (choiceN (b &&& d) ++ openN b d).Perm (choiceN b) := by
  have e : choiceN (b &&& d) = (choiceN b).filter fun i => d.testBit i := by
    unfold choiceN
    rw [List.filter_filter]
    congr 1
    funext i
    rw [Nat.testBit_and, Bool.and_comm]
  rw [e]
  exact List.filter_append_perm _ _

theorem rests_split {x : Nf} (hx : nfOk x = true) {b d : Nat} (hb : b < 2 ^ x.passes.length) : restsL x (choiceN b) = (openN b d).foldl (fun c i => restN c (addsOf x i)) (restsL x (choiceN (b &&& d))) := by
  have h := fold_perm hx (choice_perm b d).symm (choiceN_lt hb) x.lacks
  unfold restsL
  rw [h, List.foldl_append]

theorem cost_split (x : Nf) (b d : Nat) : costB x b = costB x (b &&& d) + sumS (costOf x) (openN b d) := by
  rw [costB_sum, costB_sum, ← sumS_app, sumS_perm (choice_perm b d)]

/-! ### A leaf -/
theorem dot_fold {x : Nf} (hx : nfOk x = true) {pr : List Int} (hp : ∀ p ∈ pr, 0 ≤ p) : ∀ (l : List Nat) (R : List Int), (∀ i ∈ l, i < x.passes.length) → small x.lacks.length R → dotL pr R 0 ≤ dotL pr (l.foldl (fun c i => restN c (addsOf x i)) R) 0 + sumS (fun i => dotL pr (minL (addsOf x i) R) 0) l
  | [], R, _, _ => by simp [sumS]
  | i :: l, R, hl, hR => by
    have ha := adds_small hx (hl i (by simp))
    have hlen : (addsOf x i).length = R.length := by rw [ha.1, hR.1]
    have ih := dot_fold hx hp l (restN R (addsOf x i)) (fun j hj => hl j (by simp [hj])) (restN_small hR ha)
    rw [dot_rest pr R (addsOf x i) hlen] at ih
    have hle : sumS (fun j => dotL pr (minL (addsOf x j) (restN R (addsOf x i))) 0) l ≤ sumS (fun j => dotL pr (minL (addsOf x j) R) 0) l := sumS_le fun j _ => dot_min pr _ R (addsOf x i) hp hlen (fun r hr => (hR.2 r hr).1) (fun s hs => (ha.2 s hs).1)
    rw [List.foldl_cons]
    simp only [sumS]
    omega

theorem leaf_le {x : Nf} {pr R : List Int} {d : Nat} {z : Int} {q : Nat → Bool} (hq : ∀ i, q i = true → d.testBit i = false) : ∀ n, (List.range n).foldl (leafStep x pr R d) z ≤ z - sumS (gainN x pr R) ((List.range n).filter q)
  | 0 => by simp [sumS]
  | n + 1 => by
    have ih := leaf_le (x := x) (pr := pr) (R := R) (z := z) hq n
    rw [List.range_succ, List.foldl_append, List.filter_append, sumS_app]
    generalize (List.range n).foldl (leafStep x pr R d) z = A at ih ⊢
    simp only [List.foldl_cons, List.foldl_nil]
    unfold leafStep
    cases hqn : q n with
    | true =>
      rw [hq n hqn, if_neg (by simp)]
      have e : [n].filter q = [n] := by simp [hqn]
      rw [e]
      simp only [sumS]; omega
    | false =>
      have e : [n].filter q = [] := by simp [hqn]
      rw [e]
      simp only [sumS]
      split <;> omega

theorem open_range {b d n : Nat} (hn : n ≤ 10) (hb : b < 2 ^ n) : openN b d = (List.range n).filter fun i => b.testBit i && !d.testBit i := by
  unfold openN choiceN
  rw [List.filter_filter]
  obtain ⟨k, hk⟩ : ∃ k, 10 = n + k := ⟨10 - n, by omega⟩
  have e : (fun i => (!d.testBit i) && b.testBit i) = fun i => b.testBit i && !d.testBit i := by funext i; rw [Bool.and_comm]
  rw [e, hk, List.range_add, List.filter_append]
  have : ((List.range k).map (n + ·)).filter (fun i => b.testBit i && !d.testBit i) = [] := by
    rw [List.filter_eq_nil_iff]
    intro i hi
    obtain ⟨j, _, rfl⟩ := List.mem_map.1 hi
    have := Nat.testBit_lt_two_pow (x := b) (i := n + j) (Nat.lt_of_lt_of_le hb (Nat.pow_le_pow_right (by omega) (by omega)))
    rw [this]; simp
  rw [this, List.append_nil]

theorem dot_zero : ∀ (pr R : List Int) (z : Int), (∀ r ∈ R, r = 0) → dotL pr R z = z
  | [], R, z, _ => rfl
  | p :: pr, [], z, _ => dotL_nil2 _ _
  | p :: pr, r :: R, z, h => by
    rw [dotL_cons, dot_zero pr R 0 fun s hs => h s (by simp [hs]), h r (by simp)]; simp

theorem covers_zero {x : Nf} (hx : nfOk x = true) {b : Nat} (hb : b < 2 ^ x.passes.length) : coversB x b = true ↔ ∀ r ∈ restsL x (choiceN b), r = 0 := by
  have hR := restsL_small hx (choiceN_lt hb)
  unfold coversB sumF
  rw [decide_eq_true_eq, List.map_id]
  generalize restsL x (choiceN b) = R at hR ⊢
  have key : ∀ (l : List Int) (z : Int), (∀ n ∈ l, 0 ≤ n) → 0 ≤ z → (l.foldl (· + ·) z = 0 ↔ z = 0 ∧ ∀ n ∈ l, n = 0) := by
    intro l
    induction l with
    | nil => intro z _ _; simp
    | cons a l ih =>
      intro z h hz
      have ha := h a (by simp)
      rw [List.foldl_cons, ih (z + a) (fun n hn => h n (by simp [hn])) (by omega)]
      constructor
      · rintro ⟨h1, h2⟩
        refine ⟨by omega, fun n hn => ?_⟩
        rcases List.mem_cons.1 hn with rfl | hn
        · omega
        · exact h2 n hn
      · rintro ⟨h1, h2⟩
        exact ⟨by have := h2 a (by simp); omega, fun n hn => h2 n (by simp [hn])⟩
  rw [key R 0 (fun n hn => (hR.2 n hn).1) (Int.le_refl 0)]
  simp

/-- A leaf bounds what covers and agrees with what is decided. -/
theorem leaf_weak {x : Nf} (hx : nfOk x = true) {pr : List Int} (hp : pricesOk x pr = true) {b c d : Nat} (hb : b < 2 ^ x.passes.length) (hcov : coversB x b = true) (hbd : b &&& d = c) : leafN x pr c d ≤ costB x b := by
  have h10 := (nfOk_spec hx).1.2
  have hpr : ∀ p ∈ pr, 0 ≤ p := fun p h => ((pricesOk_spec hp).2 p h).1
  have hc : c < 2 ^ x.passes.length := by rw [← hbd]; exact Nat.lt_of_le_of_lt Nat.and_le_left hb
  have hR := restsL_small hx (choiceN_lt hc)
  have hol : ∀ i ∈ openN b d, i < x.passes.length := fun i hi => choiceN_lt hb i (List.mem_filter.1 hi).1
  have h0 := (covers_zero hx hb).1 hcov
  rw [rests_split hx (d := d) hb, hbd] at h0
  have h1 := dot_fold hx hpr (openN b d) _ hol hR
  rw [dot_zero pr _ 0 h0] at h1
  have h2 := leaf_le (x := x) (pr := pr) (R := restsL x (choiceN c)) (d := d) (z := dotL pr (restsL x (choiceN c)) (costB x c)) (q := fun i => b.testBit i && !d.testBit i) (fun i h => by
    rw [Bool.and_eq_true] at h
    simpa using h.2) x.passes.length
  rw [← open_range h10 hb] at h2
  have h3 := cost_split x b d
  rw [hbd] at h3
  have h4 : sumS (gainN x pr (restsL x (choiceN c))) (openN b d) = sumS (fun i => dotL pr (minL (addsOf x i) (restsL x (choiceN c))) 0) (openN b d) - sumS (costOf x) (openN b d) := by
    generalize openN b d = l
    induction l with
    | nil => simp [sumS]
    | cons i l ih =>
      simp only [sumS, ih]
      unfold gainN
      rw [dotL_z _ _ (-costOf x i)]
      omega
  unfold leafN
  rw [dotL_z _ _ (costB x c)] at h2 ⊢
  omega

/-! ### A proof -/
theorem readN_ok {x : Nf} {pf : List Ct} : ∀ (n c d : Nat) (s : Rd), (readN x pf n c d s).ok = true → s.ok = true
  | 0, c, d, s, h => by simp [readN] at h
  | n + 1, c, d, s, h => by
    simp only [readN] at h
    split at h
    · rename_i h1; exact h1.1
    · cases h

theorem readN_mono {x : Nf} {pf : List Ct} : ∀ (n c d : Nat) (s : Rd), s.some = true → (readN x pf n c d s).some = true ∧ (readN x pf n c d s).least ≤ s.least
  | 0, c, d, s, h => ⟨h, Int.le_refl _⟩
  | n + 1, c, d, s, h => by
    simp only [readN]
    split
    · split
      · split
        · obtain ⟨a1, a2⟩ := readN_mono (x := x) (pf := pf) n (c ||| 2 ^ (pf[s.at_]'(by rename_i h1 _ _; exact h1.2)).split.toNat) (d ||| 2 ^ (pf[s.at_]'(by rename_i h1 _ _; exact h1.2)).split.toNat) { s with at_ := s.at_ + 1, ok := true } h
          obtain ⟨b1, b2⟩ := readN_mono (x := x) (pf := pf) n c (d ||| 2 ^ (pf[s.at_]'(by rename_i h1 _ _; exact h1.2)).split.toNat) _ a1
          exact ⟨b1, Int.le_trans b2 a2⟩
        · exact ⟨h, Int.le_refl _⟩
      · split
        · split
          · rename_i h5
            refine ⟨rfl, ?_⟩
            rw [h] at h5
            simp only [Bool.not_true, Bool.false_or] at h5
            have := of_decide_eq_true h5
            simp only
            omega
          · exact ⟨h, Int.le_refl _⟩
        · exact ⟨h, Int.le_refl _⟩
    · exact ⟨h, Int.le_refl _⟩

theorem bit_in {b d c i : Nat} (hbd : b &&& d = c) (h : b.testBit i = true) : b &&& (d ||| 2 ^ i) = c ||| 2 ^ i := by
  rw [Nat.and_or_distrib_left, hbd]
  congr 1
  apply Nat.eq_of_testBit_eq
  intro j
  rw [Nat.testBit_and, Nat.testBit_two_pow]
  by_cases e : i = j
  · subst e; simp [h]
  · simp [e]
theorem bit_out {b d c i : Nat} (hbd : b &&& d = c) (h : b.testBit i = false) : b &&& (d ||| 2 ^ i) = c := by
  rw [Nat.and_or_distrib_left, hbd]
  have : b &&& 2 ^ i = 0 := by
    apply Nat.eq_of_testBit_eq
    intro j
    rw [Nat.testBit_and, Nat.testBit_two_pow, Nat.zero_testBit]
    by_cases e : i = j
    · subst e; simp [h]
    · simp [e]
  rw [this]; simp

/-- **WEAK DUALITY**. -/
theorem read_weak {x : Nf} (hx : nfOk x = true) {pf : List Ct} {b : Nat} (hb : b < 2 ^ x.passes.length) (hcov : coversB x b = true) : ∀ (n c d : Nat) (s : Rd), b &&& d = c → (readN x pf n c d s).ok = true → (readN x pf n c d s).some = true ∧ (readN x pf n c d s).least ≤ costB x b
  | 0, c, d, s, _, h => by simp [readN] at h
  | n + 1, c, d, s, hbd, h => by
    simp only [readN] at h ⊢
    split at h
    · rename_i h1
      rw [dif_pos h1]
      split at h
      · rename_i h2
        rw [if_pos h2]
        split at h
        · rename_i h3
          rw [if_pos h3]
          obtain ⟨i, hi⟩ : ∃ i, (pf[s.at_]'h1.2).split.toNat = i := ⟨_, rfl⟩
          rw [hi] at h ⊢
          have hok := readN_ok _ _ _ _ h
          cases ht : b.testBit i with
          | true =>
            obtain ⟨a1, a2⟩ := read_weak hx hb hcov n (c ||| 2 ^ i) (d ||| 2 ^ i) { s with at_ := s.at_ + 1, ok := true } (bit_in hbd ht) hok
            obtain ⟨b1, b2⟩ := readN_mono (x := x) (pf := pf) n c (d ||| 2 ^ i) _ a1
            exact ⟨b1, Int.le_trans b2 a2⟩
          | false => exact read_weak hx hb hcov n c (d ||| 2 ^ i) _ (bit_out hbd ht) h
        · cases h
      · rename_i h2
        rw [if_neg h2]
        split at h
        · rename_i h3
          rw [if_pos h3]
          have hlf := leaf_weak hx h3 hb hcov hbd
          split
          · exact ⟨rfl, hlf⟩
          · rename_i h5
            simp only [Bool.or_eq_true, Bool.not_eq_eq_eq_not, Bool.not_true, decide_eq_true_eq, not_or, Bool.not_eq_false] at h5
            exact ⟨h5.1, by simp only; omega⟩
        · cases h
    · cases h

/-! ### The proof that Prove returns -/
theorem low_bits : ∀ i < 10, (2 ^ i - 1) ||| 2 ^ i = 2 ^ (i + 1) - 1 := by decide

theorem gain_zero {x : Nf} (hx : nfOk x = true) {k : Nat} {R : List Int} {i : Nat} (hi : i < x.passes.length) : gainN x (List.replicate k 0) R i ≤ 0 := by
  have hc := ((nfOk_spec hx).2.2 _ (List.getElem_mem hi)).1
  have e : costOf x i = x.passes[i].cost := by simp [costOf, hi]
  unfold gainN
  have : ∀ (k : Nat) (S : List Int) (z : Int), dotL (List.replicate k 0) S z = z := by
    intro k
    induction k with
    | zero => intro S z; rfl
    | succ k ih =>
      intro S z
      cases S with
      | nil => exact dotL_nil2 _ _
      | cons s S => rw [List.replicate_succ, dotL_cons, ih]; simp
  rw [this, e]; omega

theorem dot_zeros : ∀ (k : Nat) (S : List Int) (z : Int), dotL (List.replicate k 0) S z = z
  | 0, S, z => rfl
  | k + 1, [], z => dotL_nil2 _ _
  | k + 1, s :: S, z => by rw [List.replicate_succ, dotL_cons, dot_zeros k]; simp

theorem dot_most : ∀ (S : List Int) (z : Int), dotL (List.replicate S.length 1000000) S z = z + 1000000 * S.foldl (· + ·) 0
  | [], z => by simp [dotL_nil]
  | s :: S, z => by
    rw [List.length_cons, List.replicate_succ, dotL_cons, dot_most S 0, List.foldl_cons, foldl_addI S (0 + s)]
    omega

theorem leaf_skip {x : Nf} {pr R : List Int} {d : Nat} : ∀ (n : Nat) (z : Int), (∀ i < n, d.testBit i = true ∨ gainN x pr R i ≤ 0) → (List.range n).foldl (leafStep x pr R d) z = z
  | 0, z, _ => rfl
  | n + 1, z, h => by
    rw [List.range_succ, List.foldl_append, leaf_skip n z fun i hi => h i (by omega)]
    simp only [List.foldl_cons, List.foldl_nil]
    unfold leafStep
    rcases h n (by omega) with h | h
    · rw [if_pos h]
    · split
      · rfl
      · omega

theorem leafC_ge {x : Nf} (hx : nfOk x = true) {c d : Nat} (hc : c < 2 ^ x.passes.length) {B : Int} (hB : ∀ b < 2 ^ x.passes.length, coversB x b = true → B ≤ costB x b) (hB2 : B ≤ 10000) (hd : coversB x c = true ∨ ∀ i < x.passes.length, d.testBit i = true) : B ≤ leafN x (leafC x c).prices c d := by
  have hR := restsL_small hx (choiceN_lt hc)
  have hcb := costB_bd hx hc
  unfold leafN leafC leafZ
  simp only
  by_cases hcov : coversB x c = true
  · rw [if_pos hcov, leaf_skip _ _ fun i hi => .inr (gain_zero hx hi), dot_zeros]
    exact hB c hc hcov
  · rw [if_neg hcov, leaf_skip _ _ fun i hi => .inl ((hd.resolve_left hcov) i hi), ← hR.1, dot_most]
    unfold coversB sumF at hcov
    rw [List.map_id] at hcov
    have h0 := sum_nonneg (restsL x (choiceN c)) 0 (Int.le_refl 0) (fun n hn => (hR.2 n hn).1)
    have h1 : (restsL x (choiceN c)).foldl (· + ·) 0 ≠ 0 := fun h => hcov (decide_eq_true h)
    omega

theorem leafC_prices (x : Nf) (c : Nat) : pricesOk x (leafC x c).prices = true := by
  unfold pricesOk leafC
  simp only [List.length_replicate, decide_true, Bool.true_and, List.all_eq_true]
  intro n hn
  have := (List.mem_replicate.1 hn).2
  rw [btw_iff, this]
  unfold leafZ
  split <;> omega

theorem read_split {x : Nf} (hx : nfOk x = true) {B : Int} (hB : ∀ b < 2 ^ x.passes.length, coversB x b = true → B ≤ costB x b) (hB2 : B ≤ 10000) : ∀ (m i c fuel : Nat) (pre post : List Ct) (s : Rd), i + m = x.passes.length → c < 2 ^ x.passes.length → s.at_ = pre.length → s.ok = true → (pre ++ splitL x m i c ++ post).length - s.at_ ≤ fuel → (s.some = true → B ≤ s.least) →
    (readN x (pre ++ splitL x m i c ++ post) fuel c (2 ^ i - 1) s).ok = true ∧ (readN x (pre ++ splitL x m i c ++ post) fuel c (2 ^ i - 1) s).at_ = (pre ++ splitL x m i c).length ∧ (readN x (pre ++ splitL x m i c ++ post) fuel c (2 ^ i - 1) s).some = true ∧ B ≤ (readN x (pre ++ splitL x m i c ++ post) fuel c (2 ^ i - 1) s).least := by
  have h10 := (nfOk_spec hx).1.2
  intro m
  have leaf : ∀ (i c fuel : Nat) (pre post : List Ct) (s : Rd), c < 2 ^ x.passes.length → s.at_ = pre.length → s.ok = true → (pre ++ [leafC x c] ++ post).length - s.at_ ≤ fuel → (s.some = true → B ≤ s.least) → (coversB x c = true ∨ ∀ j < x.passes.length, (2 ^ i - 1).testBit j = true) →
      (readN x (pre ++ [leafC x c] ++ post) fuel c (2 ^ i - 1) s).ok = true ∧ (readN x (pre ++ [leafC x c] ++ post) fuel c (2 ^ i - 1) s).at_ = (pre ++ [leafC x c]).length ∧ (readN x (pre ++ [leafC x c] ++ post) fuel c (2 ^ i - 1) s).some = true ∧ B ≤ (readN x (pre ++ [leafC x c] ++ post) fuel c (2 ^ i - 1) s).least := by
    intro i c fuel pre post s hc hat hok hf hs hd
    have hlt : s.at_ < (pre ++ [leafC x c] ++ post).length := by rw [hat]; simp
    obtain ⟨fuel, rfl⟩ : ∃ f, fuel = f + 1 := ⟨fuel - 1, by omega⟩
    have hk : (pre ++ [leafC x c] ++ post)[s.at_]'hlt = leafC x c := by
      simp [hat]
    have hge := leafC_ge hx (d := 2 ^ i - 1) hc hB hB2 hd
    simp only [readN, dif_pos (And.intro hok hlt), hk]
    rw [if_neg (by simp [leafC]), if_pos (leafC_prices x c)]
    split
    · exact ⟨rfl, by simp [hat], rfl, hge⟩
    · rename_i h5
      simp only [Bool.or_eq_true, Bool.not_eq_eq_eq_not, Bool.not_true, decide_eq_true_eq, not_or, Bool.not_eq_false] at h5
      exact ⟨rfl, by simp [hat], h5.1, hs h5.1⟩
  induction m with
  | zero =>
    intro i c fuel pre post s him hc hat hok hf hs
    exact leaf i c fuel pre post s hc hat hok hf hs (.inr fun j hj => by rw [Nat.testBit_two_pow_sub_one]; simp; omega)
  | succ m ih =>
    intro i c fuel pre post s him hc hat hok hf hs
    by_cases hcov : coversB x c = true
    · have e : splitL x (m + 1) i c = [leafC x c] := by rw [splitL, if_pos hcov]
      rw [e] at hf ⊢
      exact leaf i c fuel pre post s hc hat hok hf hs (.inl hcov)
    have e : splitL x (m + 1) i c = ⟨(i : Int), []⟩ :: (splitL x m (i + 1) (c ||| 2 ^ i) ++ splitL x m (i + 1) c) := by rw [splitL, if_neg hcov]
    rw [e] at hf ⊢
    obtain ⟨P, hP⟩ : ∃ P, splitL x m (i + 1) (c ||| 2 ^ i) = P := ⟨_, rfl⟩
    obtain ⟨Q, hQ⟩ : ∃ Q, splitL x m (i + 1) c = Q := ⟨_, rfl⟩
    have ih1 := ih (i + 1) (c ||| 2 ^ i)
    have ih2 := ih (i + 1) c
    rw [hP] at ih1 hf ⊢
    rw [hQ] at ih2 hf ⊢
    have e1 : pre ++ (⟨(i : Int), []⟩ :: (P ++ Q)) ++ post = (pre ++ [(⟨(i : Int), []⟩ : Ct)]) ++ P ++ (Q ++ post) := by simp
    have e2 : pre ++ (⟨(i : Int), []⟩ :: (P ++ Q)) ++ post = ((pre ++ [(⟨(i : Int), []⟩ : Ct)]) ++ P) ++ Q ++ post := by simp
    obtain ⟨pf, hpf⟩ : ∃ pf, pre ++ (⟨(i : Int), []⟩ :: (P ++ Q)) ++ post = pf := ⟨_, rfl⟩
    have hlt : s.at_ < pf.length := by rw [hat, ← hpf]; simp
    have hk : pf[s.at_]'hlt = ⟨(i : Int), []⟩ := by
      subst hpf; simp [hat]
    rw [hpf] at hf ⊢
    obtain ⟨fuel, rfl⟩ : ∃ f, fuel = f + 1 := ⟨fuel - 1, by omega⟩
    have him2 : i < x.passes.length := by omega
    have hp : 2 ^ i < 2 ^ x.passes.length := Nat.pow_lt_pow_right (by omega) him2
    have hc2 : c ||| 2 ^ i < 2 ^ x.passes.length := Nat.or_lt_two_pow hc hp
    have hso : splitOk x ⟨(i : Int), []⟩ (2 ^ i - 1) = true := by
      unfold splitOk
      simp only [Int.toNat_natCast, Nat.testBit_two_pow_sub_one, List.length_nil, decide_true, Bool.and_true, Nat.lt_irrefl, decide_false, Bool.not_false]
      rw [btw_iff]; omega
    simp only [readN, dif_pos (And.intro hok hlt), hk]
    rw [if_pos (by omega), if_pos hso]
    simp only [Int.toNat_natCast]
    rw [low_bits i (by omega)]
    have r1 := ih1 fuel (pre ++ [(⟨(i : Int), []⟩ : Ct)]) (Q ++ post) { s with at_ := s.at_ + 1, ok := true } (by omega) hc2 (by simp [hat]) rfl (by rw [← e1, hpf]; simp only; omega) hs
    rw [← e1, hpf] at r1
    generalize readN x pf fuel (c ||| 2 ^ i) (2 ^ (i + 1) - 1) { s with at_ := s.at_ + 1, ok := true } = s2 at r1 ⊢
    obtain ⟨a1, a2, a3, a4⟩ := r1
    have r2 := ih2 fuel ((pre ++ [(⟨(i : Int), []⟩ : Ct)]) ++ P) post s2 (by omega) hc a2 a1 (by rw [← e2, hpf, a2]; simp only [List.length_append, List.length_singleton]; omega) (fun _ => a4)
    rw [← e2, hpf] at r2
    refine ⟨r2.1, ?_, r2.2.2⟩
    rw [r2.2.1]
    simp

theorem prove_bound {x : Nf} (hx : nfOk x = true) (hs : (bestN x 0).2 = true) : BoundR x (splitL x x.passes.length 0 0) = .tuple [I (costB x (bestN x 0).1), I 0] := by
  have h10 := (nfOk_spec hx).1.2
  obtain ⟨hlt, hcov⟩ := best_some hs
  have hB : ∀ b < 2 ^ x.passes.length, coversB x b = true → costB x (bestN x 0).1 ≤ costB x b := fun b h1 h2 => (best_least h1 h2).2
  have hbd := costB_bd hx hlt
  have hlen := (splitL_len x x.passes.length 0 0).2
  have hp11 : 2 ^ (x.passes.length + 1) ≤ 2 ^ 11 := Nat.pow_le_pow_right (by omega) (by omega)
  have r := read_split hx hB hbd.2 x.passes.length 0 0 (splitL x x.passes.length 0 0).length [] [] ⟨true, 0, false, 0⟩ (by omega) (Nat.two_pow_pos _) rfl rfl (by simp) (fun h => by cases h)
  simp only [List.nil_append, List.append_nil] at r
  obtain ⟨a1, a2, a3, a4⟩ := r
  have w := read_weak hx hlt hcov (splitL x x.passes.length 0 0).length 0 0 ⟨true, 0, false, 0⟩ (by simp) a1
  have e : boundN x (splitL x x.passes.length 0 0) = readN x (splitL x x.passes.length 0 0) (splitL x x.passes.length 0 0).length 0 (2 ^ 0 - 1) ⟨true, 0, false, 0⟩ := rfl
  have e2 : boundN x (splitL x x.passes.length 0 0) = readN x (splitL x x.passes.length 0 0) (splitL x x.passes.length 0 0).length 0 0 ⟨true, 0, false, 0⟩ := rfl
  rw [← e] at a1 a2 a3 a4
  rw [← e2] at w
  unfold BoundR
  rw [if_pos hx, if_pos (by omega), a1, a2]
  rw [if_pos (by simp)]
  have : (boundN x (splitL x x.passes.length 0 0)).least = costB x (bestN x 0).1 := by omega
  rw [this]

/-- All passes cover if some do. -/
theorem covers_all {x : Nf} (hx : nfOk x = true) {b : Nat} (hb : b < 2 ^ x.passes.length) (hc : coversB x b = true) : coversB x (2 ^ x.passes.length - 1) = true := by
  have hf : 2 ^ x.passes.length - 1 < 2 ^ x.passes.length := by have := Nat.two_pow_pos x.passes.length; omega
  have e : (2 ^ x.passes.length - 1) &&& b = b := by
    rw [Nat.and_comm, Nat.and_two_pow_sub_one_eq_mod, Nat.mod_eq_of_lt hb]
  rw [covers_zero hx hf, rests_split hx (d := b) hf, e]
  have h0 := (covers_zero hx hb).1 hc
  have hol : ∀ i ∈ openN (2 ^ x.passes.length - 1) b, i < x.passes.length := fun i hi => choiceN_lt hf i (List.mem_filter.1 hi).1
  generalize openN (2 ^ x.passes.length - 1) b = l at hol
  generalize restsL x (choiceN b) = R at h0
  revert R
  induction l with
  | nil => exact fun R h => h
  | cons i l ih =>
    intro R h
    refine ih (fun j hj => hol j (by simp [hj])) _ fun r hr => ?_
    have ha := (adds_small hx (hol i (by simp))).2
    unfold restN at hr
    obtain ⟨q, hq, rfl⟩ := List.getElem_of_mem hr
    rw [List.getElem_zipWith]
    simp only [List.length_zipWith] at hq
    have h1 := h _ (List.getElem_mem (show q < R.length by omega))
    have h2 := ha _ (List.getElem_mem (show q < (addsOf x i).length by omega))
    omega

theorem some_all {x : Nf} (hx : nfOk x = true) : (bestN x 0).2 = coversB x (2 ^ x.passes.length - 1) := by
  have hf : 2 ^ x.passes.length - 1 < 2 ^ x.passes.length := by have := Nat.two_pow_pos x.passes.length; omega
  cases hs : (bestN x 0).2 with
  | true =>
    obtain ⟨h1, h2⟩ := best_some hs
    exact (covers_all hx h1 h2).symm
  | false =>
    cases hc : coversB x (2 ^ x.passes.length - 1) with
    | false => rfl
    | true => rw [(best_least hf hc).1] at hs; cases hs

end Go.Proofs.YtdejdblopmfjfaaGreatDoor


/-! Contracts of the specification: Index, prices, leaf. -/
set_option linter.unusedVariables false
set_option linter.unusedSimpArgs false
set_option maxRecDepth 40000
set_option maxHeartbeats 4000000
namespace Go.Proofs.YtdejdblopmfjfaaGreatDoor
open Go.Am
attribute [local simp] cells scalar mkv splice under2 under dem dem1 eQ nfC intsV
theorem c_Index (l : List Int) (n : Int) (hl : l.length ≤ 1000000) : C Tryz.prog F.ref00_Index [intsV l, I n] (I (firstI (· == n) l 0)) := by
  refine C_of mixed chk.ref00_Index (by simp) fun S ok => ?_
  refine Tr.seqR rfl (by simp) (Tr.seq (Tr.seqR rfl (by simp) (Tr.block ?_)))
  refine Tr.loop (fun (k : Nat) st => (k ≤ l.length ∧ firstI (· == n) l 0 = firstI (· == n) (l.drop k) k) ∧ st = { env := [(0, intsV l), (1, I n), (5, I (k : Nat))], bx := [], rw := [], log := [], stp := false }) (fun k => l.length - k) 0
    (Wk.le (.cons rfl (.refl _) (.cons rfl (.refl _) (.cons rfl (.refl _) .nil))) .nil .nil rfl rfl) ⟨⟨by omega, by simp⟩, rfl⟩ ?_
  rintro k st ⟨⟨hk, hf⟩, rfl⟩
  refine Tr.seq (Tr.seqR rfl (by simp) (Tr.cond rfl rfl (fun h1 => Tr.skip ?_) (fun h1 => Tr.exit ?_)))
  rotate_left
  · have h1 : k = l.length := by simp at h1; omega
    subst h1
    rw [hf, List.drop_length]
    exact Tr.seqR rfl (by simp) (Tr.retX rfl rfl rfl rfl trivial)
  have h1 : k < l.length := by simpa using h1
  refine Tr.seq (Tr.block (Tr.seq (Tr.reg (Steps.runN 3 rfl (by simp; omega) ?_))))
  rw [getD_map h1]
  refine Steps.fin rfl (by simp) (Tr.cond rfl rfl (fun h2 => ?_) (fun h2 => Tr.skip (Tr.regR rfl (by simp) ?_)))
  · have h2 : (l[k] == n) = true := h2
    refine Tr.seqR rfl (by simp) (Tr.retX rfl rfl rfl ?_ trivial)
    rw [hf, firstI_drop _ l h1, if_pos h2]; rfl
  · have h2 : (l[k] == n) = false := h2
    refine ⟨k + 1, _, Wk.le (.cons rfl (.refl _) (.cons rfl (.refl _) (.cons rfl (VLe.i (w64 (by omega) (by omega))) .nil))) .nil .nil rfl rfl, ⟨⟨h1, ?_⟩, rfl⟩, by omega⟩
    rw [hf, firstI_drop _ l h1, if_neg (by simp [h2])]

theorem c_prices07 {x : Nf} {l : List Int} (hl : l.length ≤ 9223372036854775807) : C Tryz.prog F.ref07_prices [.agg (nfC x), intsV l] (.bool (pricesOk x l)) := by
  refine C_of mixed chk.ref07_prices (by simp) fun S ok => ?_
  refine Tr.seqR rfl (by simp) (Tr.seq (Tr.seqR rfl (by simp) (Tr.block ?_)))
  refine Tr.loop (fun (k : Nat) st => (k ≤ l.length ∧ ∀ n ∈ l.take k, btw n 0 1000000 = true) ∧ st = { env := [(1, intsV l), (2, .ptr 2 0), (5, I (k : Nat))], bx := [(2, ⟨nfC x, false⟩)], rw := [], log := [], stp := false }) (fun k => l.length - k) 0
    (Wk.le (.cons rfl (.refl _) (.cons rfl (.refl _) (.cons rfl (.refl _) .nil))) (.cons rfl (LLe.refl _) .nil) .nil rfl rfl) ⟨⟨by omega, by simp⟩, rfl⟩ ?_
  rintro k st ⟨⟨hk, hb⟩, rfl⟩
  refine Tr.seq (Tr.seqR rfl (by simp) (Tr.cond rfl rfl (fun h1 => Tr.skip ?_) (fun h1 => Tr.exit ?_)))
  rotate_left
  · have h1 : k = l.length := by simp at h1; omega
    subst h1
    rw [List.take_length] at hb
    refine Tr.seqR rfl (by simp) (Tr.retX rfl rfl rfl ?_ trivial)
    show V.bool (pricesOk x l) = V.bool (((l.map I).length : Int) == ((x.lacks.map I).length : Int))
    unfold pricesOk
    have e : (l.all (btw · 0 1000000)) = true := List.all_eq_true.2 hb
    rw [e, List.length_map, List.length_map, Bool.and_true]
    by_cases h : l.length = x.lacks.length
    · simp [h]
    · have : ¬ ((l.length : Int) = (x.lacks.length : Int)) := by omega
      simp [h, this]
  have h1 : k < l.length := by simpa using h1
  refine Tr.seq (Tr.block (Tr.seq (Tr.reg (Steps.runN 3 rfl (by simp; omega) ?_))))
  rw [getD_map h1]
  refine Steps.run rfl (by simp) (Steps.call rfl rfl (c_between l[k] 0 1000000) (Steps.fin rfl (by simp) ?_))
  refine Tr.cond rfl rfl (fun h2 => ?_) (fun h2 => Tr.skip (Tr.regR rfl (by simp) ?_))
  · have h2 : (!btw l[k] 0 1000000) = true := h2
    refine Tr.seqR rfl (by simp) (Tr.retX rfl rfl rfl ?_ trivial)
    have e : (l.all (btw · 0 1000000)) = false := List.all_eq_false.2 ⟨_, List.getElem_mem h1, by simpa using h2⟩
    unfold pricesOk
    rw [e]; simp [packR]
  · have h2 : (!btw l[k] 0 1000000) = false := h2
    refine ⟨k + 1, _, Wk.le (.cons rfl (.refl _) (.cons rfl (.refl _) (.cons rfl (VLe.i (w64 (by omega) (by omega))) .nil))) (.cons rfl (LLe.refl _) .nil) .nil rfl rfl, ⟨⟨h1, fun n hn => ?_⟩, rfl⟩, by omega⟩
    rw [List.take_add_one, List.getElem?_eq_getElem h1] at hn
    rcases List.mem_append.1 hn with hn | hn
    · exact hb n hn
    · have : n = l[k] := by simpa using hn
      rw [this]; simpa using h2

/-! ### A choice in whatever order -/
structure Bits (x : Nf) (l : List Nat) (c : Nat) : Prop where
  p : l.Perm (choiceN c)
  lt : c < 2 ^ x.passes.length

theorem Bits.mem {x : Nf} {l : List Nat} {c : Nat} (h : Bits x l c) {i : Nat} (hi : i ∈ l) : i < x.passes.length := choiceN_lt h.lt i (h.p.mem_iff.1 hi)
theorem Bits.len {x : Nf} {l : List Nat} {c : Nat} (h : Bits x l c) : l.length ≤ 10 := by rw [h.p.length_eq]; exact choiceN_len c
theorem Bits.inPs {x : Nf} {l : List Nat} {c : Nat} (h : Bits x l c) : inPs x (castL l) := fun n hn => by
  obtain ⟨i, hi, rfl⟩ := List.mem_map.1 hn
  exact ⟨i, rfl, h.mem hi⟩

theorem bits_sum {x : Nf} {l : List Nat} {c : Nat} (h : Bits x l c) : sumTo x (castL l) (castL l).length = costB x c := by
  have e : sumTo x (castL l) (castL l).length = sumS (costOf x) l := by
    unfold sumTo castL
    rw [List.take_length, List.map_map]
    have := foldl_sumS (costOf x) l 0
    rw [Int.zero_add] at this
    exact this
  rw [e, costB_sum, sumS_perm h.p]

theorem bits_rest {x : Nf} (hx : nfOk x = true) {l : List Nat} {c : Nat} (h : Bits x l c) {q : Nat} (hq : q < x.lacks.length) : restQ x (castL l) q = (restsL x (choiceN c)).getD q 0 := by
  have hl1 := (nfOk_spec hx).2.1
  have hw : ∀ i ∈ l, i < x.passes.length := fun i hi => h.mem hi
  have e : restsL x (choiceN c) = l.foldl (fun c i => restN c (addsOf x i)) x.lacks := (fold_perm hx h.p hw x.lacks).symm
  rw [e, rests_get hx l _ rfl hq hw]
  have h0 : 0 ≤ x.lacks.getD q 0 := by
    have := hl1 _ (List.getElem_mem hq)
    simp [hq]; omega
  have e0 : x.lacks.getD q 0 = max 0 (x.lacks.getD q 0) := by omega
  rw [e0, fold_max]
  · unfold restQ subTo castL
    rw [List.take_length, List.map_map]
    rfl
  · intro a ha
    obtain ⟨i, hi, rfl⟩ := List.mem_map.1 ha
    have := adds_small hx (hw i hi)
    have hqa : q < (addsOf x i).length := by rw [this.1]; exact hq
    have h2 := this.2 _ (List.getElem_mem hqa)
    simp [hqa]; omega

theorem bits_any {x : Nf} {l : List Nat} {d : Nat} (h : Bits x l d) (hx : x.passes.length ≤ 10) (i : Nat) (hi : i < 10) : (castL l).any (· == (i : Int)) = d.testBit i := by
  rw [Bool.eq_iff_iff, List.any_eq_true]
  constructor
  · rintro ⟨n, hn, e⟩
    obtain ⟨j, hj, rfl⟩ := List.mem_map.1 hn
    have e : (j : Int) = (i : Int) := by simpa using e
    have : j = i := by omega
    subst this
    exact (mem_choice.1 (h.p.mem_iff.1 hj)).2
  · intro hb
    exact ⟨(i : Int), List.mem_map.2 ⟨i, h.p.mem_iff.2 (mem_choice.2 ⟨hi, hb⟩), rfl⟩, by simp⟩

theorem c_leaf07 {x : Nf} (hx : nfOk x = true) {pr : List Int} (hp : ∀ m ∈ pr, 0 ≤ m ∧ m ≤ 1000000) (hl : pr.length = x.lacks.length) {l dl : List Nat} {c d : Nat} (hc : Bits x l c) (hd : Bits x dl d) :
    C Tryz.prog F.ref07_leaf [.agg (nfC x), intsV pr, intsV (castL l), intsV (castL dl)] (I (leafN x pr c d)) := by
  obtain ⟨⟨h16, h10⟩, hl1, hp1⟩ := nfOk_spec hx
  have hR := restsL_small hx (choiceN_lt hc.lt)
  have hcb := costB_bd hx hc.lt
  have kc := c_cost07 hx (l := castL l) (by simp [castL]; exact hc.len) hc.inPs
  rw [bits_sum hc] at kc
  obtain ⟨R, hRe⟩ : ∃ R, restsL x (choiceN c) = R := ⟨_, rfl⟩
  rw [hRe] at hR
  have hRl := hR.1
  have kr : ∀ q (h : q < R.length), C Tryz.prog F.ref07_rest [.agg (nfC x), intsV (castL l), I (q : Nat)] (I R[q]) := fun q h => by
    have hq : q < x.lacks.length := by omega
    have := c_rest07 hx (l := castL l) (by simp [castL]; exact hc.len) hc.inPs hq
    rw [bits_rest hx hc hq, hRe] at this
    rw [show R[q] = R.getD q 0 by simp [h]]
    exact this
  obtain ⟨B, hB⟩ : ∃ B, costB x c = B := ⟨_, rfl⟩
  rw [hB] at hcb kc
  have hleaf : leafN x pr c d = (List.range x.passes.length).foldl (leafStep x pr R d) (dotL pr R B) := by unfold leafN; rw [hRe, hB]
  rw [hleaf]
  have hz := dot_bd pr R B hp hR.2
  refine C_of mixed chk.ref07_leaf (by simp) fun S ok => ?_
  refine Tr.seqR rfl (by simp) (Tr.seqC rfl (by simp) (Steps.call rfl rfl kc (Steps.fin rfl (by simp) ?_)))
  refine Tr.seq (Tr.seqR rfl (by simp) (Tr.block ?_))
  refine Tr.loop (fun (k : Nat) st => k ≤ x.lacks.length ∧ st = { env := [(1, intsV pr), (2, intsV (castL l)), (3, intsV (castL dl)), (4, .ptr 4 0), (9, I (dotL (pr.take k) (R.take k) B)), (10, I (k : Nat))], bx := [(4, ⟨nfC x, false⟩)], rw := [], log := [], stp := false }) (fun k => x.lacks.length - k) 0
    (Wk.le (.cons rfl (.refl _) (.cons rfl (.refl _) (.cons rfl (.refl _) (.cons rfl (.refl _) (.cons rfl (VLe.i (by simp [dotL])) (.cons rfl (.refl _) .nil)))))) (.cons rfl (LLe.refl _) .nil) .nil rfl rfl) ⟨by omega, rfl⟩ ?_
  rintro k st ⟨hk, rfl⟩
  refine Tr.seq (Tr.seqR rfl (by simp) (Tr.cond rfl rfl (fun h1 => Tr.skip ?_) (fun h1 => Tr.exit ?_)))
  · have h1 : k < x.lacks.length := by simpa using h1
    have h2 : k < pr.length := by omega
    have h3 : k < R.length := by omega
    have hst := dot_take pr R B h2 h3
    have hb1 := dot_bd (pr.take k) (R.take k) B (fun m hm => hp m (List.mem_of_mem_take hm)) (fun m hm => hR.2 m (List.mem_of_mem_take hm))
    have hpk := hp _ (List.getElem_mem h2)
    have hRk := hR.2 _ (List.getElem_mem h3)
    have q1 : 0 ≤ pr[k] * R[k] := Int.mul_nonneg hpk.1 hRk.1
    have q2 : pr[k] * R[k] ≤ 1000000 * 100 := Int.mul_le_mul hpk.2 hRk.2 hRk.1 (by omega)
    rw [List.length_take] at hb1
    refine Tr.seq (Tr.block (Tr.drawK (TraceK.runN 4 rfl (by simp; omega) ?_)))
    rw [getD_map h2]
    refine TraceK.run rfl (by simp) (TraceK.call rfl rfl (kr k h3) (TraceK.run rfl (by simp) (.done ⟨by kernel_rfl, by kernel_rfl, ?_⟩)))
    refine Tr.regR rfl (by simp) ?_
    refine ⟨k + 1, _, Wk.le (.cons rfl (.refl _) (.cons rfl (.refl _) (.cons rfl (.refl _) (.cons rfl (.refl _) (.cons rfl (VLe.i ?_) (.cons rfl (VLe.i (w64 (by omega) (by omega))) .nil)))))) (.cons rfl (LLe.refl _) .nil) .nil rfl rfl, ⟨h1, rfl⟩, by omega⟩
    show IntKind.wrap .i64 (dotL (pr.take k) (R.take k) B + IntKind.wrap .i64 (pr[k] * R[k])) = _
    rw [hst, w64 (n := pr[k] * R[k]) (by omega) (by omega), w64 (by omega) (by omega)]
  have h1 : k = x.lacks.length := by simp at h1; omega
  subst h1
  rw [show pr.take x.lacks.length = pr from List.take_of_length_le (by omega), show R.take x.lacks.length = R from List.take_of_length_le (by omega)]
  obtain ⟨Z, hZ⟩ : ∃ Z, dotL pr R B = Z := ⟨_, rfl⟩
  rw [hZ] at hz ⊢
  refine Tr.seq (Tr.seqR rfl (by simp) (Tr.block ?_))
  refine Tr.loop (fun (k : Nat) st => k ≤ x.passes.length ∧ st = { env := [(1, intsV pr), (2, intsV (castL l)), (3, intsV (castL dl)), (4, .ptr 4 0), (9, I ((List.range k).foldl (leafStep x pr R d) Z)), (11, I (k : Nat))], bx := [(4, ⟨nfC x, false⟩)], rw := [], log := [], stp := false }) (fun k => x.passes.length - k) 0
    (Wk.le (.cons rfl (.refl _) (.cons rfl (.refl _) (.cons rfl (.refl _) (.cons rfl (.refl _) (.cons rfl (.refl _) (.cons rfl (.refl _) .nil)))))) (.cons rfl (LLe.refl _) .nil) .nil rfl rfl) ⟨by omega, rfl⟩ ?_
  rintro k st ⟨hk, rfl⟩
  refine Tr.seq (Tr.seqR rfl (by simp) (Tr.cond rfl rfl (fun h1 => Tr.skip ?_) (fun h1 => Tr.exit ?_)))
  rotate_left
  · have h1 : k = x.passes.length := by simp at h1; omega
    subst h1
    exact Tr.seqR rfl (by simp) (Tr.retX rfl rfl rfl rfl trivial)
  have h1 : k < x.passes.length := by simpa using h1
  have hlb := leaf_bd hx hp hl hR d Z k (by omega)
  have hgb := gain_bd hx hp hl hR h1
  have hsx : (List.range (k + 1)).foldl (leafStep x pr R d) Z = leafStep x pr R d ((List.range k).foldl (leafStep x pr R d) Z) k := by
    rw [List.range_succ, List.foldl_append]; rfl
  obtain ⟨n, hn⟩ : ∃ n, (List.range k).foldl (leafStep x pr R d) Z = n := ⟨_, rfl⟩
  rw [hn] at hlb hsx ⊢
  have ki := c_Index (castL dl) (k : Int) (by simp [castL]; have := hd.len; omega)
  have hia := bits_any hd h10 k (by omega)
  have hfi := firstI_nn (· == (k : Int)) (castL dl) 0
  rw [hia] at hfi
  refine Tr.meet { env := [(1, intsV pr), (2, intsV (castL l)), (3, intsV (castL dl)), (4, .ptr 4 0), (9, I (leafStep x pr R d n k)), (11, I (k : Nat))], bx := [(4, ⟨nfC x, false⟩)], rw := [], log := [], stp := false } (Tr.block ?_) (Tr.regR rfl (by simp) ?_)
  rotate_left
  · exact ⟨k + 1, _, Wk.le (.cons rfl (.refl _) (.cons rfl (.refl _) (.cons rfl (.refl _) (.cons rfl (.refl _) (.cons rfl (VLe.i hsx.symm) (.cons rfl (VLe.i (w64 (by omega) (by omega))) .nil)))))) (.cons rfl (LLe.refl _) .nil) .nil rfl rfl, ⟨h1, rfl⟩, by omega⟩
  refine Tr.seq (Tr.seqC rfl (by simp) (Steps.call rfl rfl ki (Steps.fin rfl (by simp) ?_)))
  cases hb : d.testBit k with
  | true =>
    rw [hb] at hfi
    refine Tr.condT (congrArg (fun b => some (V.bool b)) hfi) (Tr.exit ?_)
    have e : leafStep x pr R d n k = n := by unfold leafStep; rw [hb]; rfl
    rw [e]
    exact Wk.le (.cons rfl (.refl _) (.cons rfl (.refl _) (.cons rfl (.refl _) (.cons rfl (.refl _) (.cons rfl (.refl _) (.cons rfl (.refl _) .nil)))))) (.cons rfl (LLe.refl _) .nil) .nil rfl rfl
  | false =>
    rw [hb] at hfi
    refine Tr.condF (congrArg (fun b => some (V.bool b)) hfi) (Tr.skip ?_)
    have e : leafStep x pr R d n k = n - max 0 (gainN x pr R k) := by unfold leafStep; rw [hb]; rfl
    have hpk := hp1 _ (List.getElem_mem h1)
    have eadd : addsOf x k = x.passes[k].adds := by simp [addsOf, h1]
    have ecost : costOf x k = x.passes[k].cost := by simp [costOf, h1]
    have hneg : IntKind.wrap .i64 (0 - x.passes[k].cost) = -costOf x k := by rw [ecost, w64 (by omega) (by omega)]; omega
    refine Tr.seqN 4 rfl (by simp; omega) ?_
    rw [getD_map h1]
    refine Steps.fin rfl (by simp) ?_
    refine Tr.seq (Tr.seqR rfl (by simp) (Tr.block ?_))
    refine Tr.loop (fun (j : Nat) st => j ≤ x.lacks.length ∧ st = { env := [(1, intsV pr), (2, intsV (castL l)), (3, intsV (castL dl)), (4, .ptr 4 0), (9, I n), (11, I (k : Nat)), (12, I (dotL (pr.take j) ((minL (addsOf x k) R).take j) (-costOf x k))), (13, I (j : Nat))], bx := [(4, ⟨nfC x, false⟩)], rw := [], log := [], stp := false }) (fun j => x.lacks.length - j) 0
      (Wk.le (.cons rfl (.refl _) (.cons rfl (.refl _) (.cons rfl (.refl _) (.cons rfl (.refl _) (.cons rfl (.refl _) (.cons rfl (.refl _) (.cons rfl (VLe.i (by show IntKind.wrap .i64 (0 - x.passes[k].cost) = dotL (pr.take 0) ((minL (addsOf x k) R).take 0) (-costOf x k); rw [hneg]; simp [dotL])) (.cons rfl (.refl _) .nil)))))))) (.cons rfl (LLe.refl _) .nil) .nil rfl rfl) ⟨by omega, rfl⟩ ?_
    rintro j st ⟨hj, rfl⟩
    have hml := minL_small (adds_small hx h1) hR
    refine Tr.seq (Tr.seqR rfl (by simp) (Tr.cond rfl rfl (fun h2 => Tr.skip ?_) (fun h2 => Tr.exit ?_)))
    rotate_left
    · have h2 : j = x.lacks.length := by simp at h2; omega
      subst h2
      rw [show pr.take x.lacks.length = pr from List.take_of_length_le (by omega), show (minL (addsOf x k) R).take x.lacks.length = minL (addsOf x k) R from List.take_of_length_le (by rw [hml.1]; exact Nat.le_refl _)]
      have eg : dotL pr (minL (addsOf x k) R) (-costOf x k) = gainN x pr R k := rfl
      rw [eg]
      refine Tr.regR rfl (by simp) ?_
      refine Wk.le (.cons rfl (.refl _) (.cons rfl (.refl _) (.cons rfl (.refl _) (.cons rfl (.refl _) (.cons rfl (VLe.i ?_) (.cons rfl (.refl _) .nil)))))) (.cons rfl (LLe.refl _) .nil) .nil rfl rfl
      show IntKind.wrap .i64 (n - (bif true then (if gainN x pr R k > 0 then gainN x pr R k else 0) else _)) = _
      rw [e, cond_true, ite_max, w64 (by omega) (by omega)]
    have h2 : j < x.lacks.length := by simpa using h2
    have h3 : j < pr.length := by omega
    have h4 : j < R.length := by omega
    have h5 : j < x.passes[k].adds.length := by rw [hpk.2.1]; exact h2
    have h6 : j < (minL (addsOf x k) R).length := by rw [hml.1]; exact h2
    have hst := dot_take pr (minL (addsOf x k) R) (-costOf x k) h3 h6
    have hme : (minL (addsOf x k) R)[j] = min x.passes[k].adds[j] R[j] := by
      have e3 : (minL (addsOf x k) R)[j]? = some (min x.passes[k].adds[j] R[j]) := by
        unfold minL
        rw [List.getElem?_zipWith, eadd, List.getElem?_eq_getElem h5, List.getElem?_eq_getElem h4]
      rw [List.getElem?_eq_getElem h6] at e3
      exact Option.some.inj e3
    have hb1 := dot_bd (pr.take j) ((minL (addsOf x k) R).take j) (-costOf x k) (fun m hm => hp m (List.mem_of_mem_take hm)) (fun m hm => hml.2 m (List.mem_of_mem_take hm))
    have hpj := hp _ (List.getElem_mem h3)
    have hmj := hml.2 _ (List.getElem_mem h6)
    have q1 : 0 ≤ pr[j] * (minL (addsOf x k) R)[j] := Int.mul_nonneg hpj.1 hmj.1
    have q2 : pr[j] * (minL (addsOf x k) R)[j] ≤ 1000000 * 100 := Int.mul_le_mul hpj.2 hmj.2 hmj.1 (by omega)
    rw [List.length_take] at hb1
    rw [hme] at hst q1 q2
    refine Tr.seq (Tr.block (Tr.drawK (TraceK.runN 4 rfl (by simp; omega) ?_)))
    rw [getD_map h3]
    refine TraceK.runN 5 rfl (by simp; omega) ?_
    rw [getD_map h1]
    refine TraceK.runN 4 rfl (by simp; omega) ?_
    rw [getD_map h5]
    refine TraceK.run rfl (by simp) (TraceK.call rfl rfl (kr j h4) (TraceK.run rfl (by simp) (.done ⟨by kernel_rfl, by kernel_rfl, ?_⟩)))
    refine Tr.regR rfl (by simp) ?_
    refine ⟨j + 1, _, Wk.le (.cons rfl (.refl _) (.cons rfl (.refl _) (.cons rfl (.refl _) (.cons rfl (.refl _) (.cons rfl (.refl _) (.cons rfl (.refl _) (.cons rfl (VLe.i ?_) (.cons rfl (VLe.i (w64 (by omega) (by omega))) .nil)))))))) (.cons rfl (LLe.refl _) .nil) .nil rfl rfl, ⟨h2, rfl⟩, by omega⟩
    show IntKind.wrap .i64 (dotL (pr.take j) ((minL (addsOf x k) R).take j) (-costOf x k) + IntKind.wrap .i64 (pr[j] * (bif false then _ else (if R[j] < x.passes[k].adds[j] then R[j] else x.passes[k].adds[j])))) = _
    rw [cond_false, ite_min, hst, w64 (n := pr[j] * min x.passes[k].adds[j] R[j]) (by omega) (by omega), w64 (by omega) (by omega)]

end Go.Proofs.YtdejdblopmfjfaaGreatDoor


/-! AM, part Zu: drawn regions that read an arena. -/
set_option linter.unusedVariables false
set_option linter.unusedSimpArgs false
namespace Go.Am
open Go.RowKit

/-- The surroundings while the arena is this one. -/
def pinS (S : Sur) (A : Arena) : Sur := fun log stp M w φ => log = encA A ∧ S log stp M w φ

theorem pinS_ok {S : Sur} (h : S.ok) (A : Arena) : (pinS S A).ok := ⟨fun _ _ _ _ _ _ _ _ h1 mv => ⟨h1.1, h.move _ _ _ _ _ _ _ _ h1.2 mv⟩, fun _ _ _ _ _ h1 => h.gl _ _ _ _ _ h1.2⟩

abbrev Env.pinA (E : Env) (A : Arena) : Env := { E with S := pinS E.S A, ok := pinS_ok E.ok A }

theorem to_pin {E : Env} (hys : E.ys = []) (hlk : E.lk = fun _ => True) {A : Arena} {log : List (List V)} {stp : Bool} {σ : FSt} {a : Act} {w : World} {h : Gh} (hl : log = encA A) (R : E.relF log stp σ a w h) : (E.pinA A).relF log stp σ a w h := by
  refine ⟨{ R.1 with sur := ⟨hl, R.1.sur⟩ }, fun l hl => ⟨?_, by show E.lk l; rw [hlk]; trivial⟩, R.2.2⟩
  intro log x M w φ xs hp
  have hp : List.IsPrefix _ E.ys := hp
  rw [hys] at hp
  exact absurd hp.length_le (by simp)

theorem of_pin {E : Env} (hys : E.ys = []) (hlk : E.lk = fun _ => True) {A : Arena} {log : List (List V)} {stp : Bool} {σ : FSt} {a : Act} {w : World} {h : Gh} (R : (E.pinA A).relF log stp σ a w h) : E.relF log stp σ a w h := by
  refine ⟨{ R.1 with sur := R.1.sur.2 }, fun l hl => ⟨?_, by rw [hlk]; trivial⟩, R.2.2⟩
  intro log x M w φ xs hp
  rw [hys] at hp
  exact absurd hp.length_le (by simp)

theorem opK_nilckZ {P : Program} {o : Oper} {os : List Operand} (hk : opK P o.op = some (.nilck, os)) : ∃ p, o.op = .nilCheck p ∧ os = [p] := by
  cases ho : o.op <;> rw [ho] at hk <;> simp only [opK] at hk <;> (try (cases hk; done)) <;> (try (repeat' (split at hk <;> (try (cases hk; done)))))
  all_goals first
    | (simp only [Option.map_eq_some_iff, Prod.mk.injEq] at hk; obtain ⟨_, _, h1, _⟩ := hk; cases h1; done)
    | (simp only [eqKind] at hk; repeat' (split at hk <;> (try (cases hk; done))))
    | (cases hk; exact ⟨_, rfl, rfl⟩)

theorem opK_faddrZ {P : Program} {o : Oper} {os : List Operand} {off : Nat} (hk : opK P o.op = some (.faddr off, os)) : ∃ t p f fs fd n, o.op = .fieldAddr t p f ∧ P.underlying t = some (.struct fs) ∧ fs[f]? = some fd ∧ szOf P fd.type = some n ∧ n ≠ 0 ∧ fd.offset = off ∧ os = [p] := by
  cases ho : o.op <;> rw [ho] at hk <;> simp only [opK] at hk <;> (try (cases hk; done)) <;> (try (repeat' (split at hk <;> (try (cases hk; done)))))
  all_goals first
    | (simp only [Option.map_eq_some_iff, Prod.mk.injEq] at hk; obtain ⟨_, _, h1, _⟩ := hk; cases h1; done)
    | (simp only [eqKind] at hk; repeat' (split at hk <;> (try (cases hk; done))))
    | (cases hk; exact ⟨_, _, _, _, _, _, rfl, by assumption, by assumption, by assumption, by assumption, rfl, rfl⟩)

section
variable {E : Env} {ro : Option Nat} {n : Nat} {ops : Array Oper}

theorem prefix_okP (hys : E.ys = []) (hlk : E.lk = fun _ => True) {A : Arena} {K : St → Prop} {il1 il2 : List Ins} {s s1 : St} {fp : List (List Loc × List Loc)} (hc : compR E.P E.nt ops = some (il1 ++ il2)) (hl : lexed ops = true) (t : Trace (E.pinA A) s il1 fp s1) (hlog : s.log = encA A)
    (hok : okPlan (befs ops) fp = true) (ht : totTail (befs ops) il1.length ops.size = true) (hst : Steps E il2 K s1) {Q : Exit → Act → World → Prop} (y : Pin)
    (hn : ∀ s' a' w' h', K s' → E.rel s' a' w' h' → h'.y = y → Q .normal a' w') :
    ∃ us : List FSt, ∀ (fuel : Nat) (listed : Array Bool) (a : Act) (w : World) (h : Gh), listed.toList.count false = fuel → listed.size = ops.size → Closed ops (fun i => listed.getD i false) → (∀ i, il1.length ≤ i → listed.getD i false = false) →
      E.relF s.log s.stp (FL us (fun i => listed.getD i false) s.fs il1.length) a w h → h.y = y → wpAnyIn (wideR ro) n E.P .any ops Q fuel listed a w := by
  obtain ⟨t1, t2, t3, us, t4, t5, t6⟩ := trace_spec t
  obtain ⟨hlen, hg⟩ := compR_spec hc
  have hle : il1.length ≤ ops.size := by simp at hlen; omega
  have tot : ∀ k i, il1.length ≤ k → k < ops.size → i < k → ((befs ops).getD k 0).testBit i = true := by
    intro k i h1 h2 h3
    unfold totTail at ht
    rw [List.all_eq_true] at ht
    have := ht (k - il1.length) (by simp; omega)
    rw [List.all_eq_true] at this
    have := this i (by simp; omega)
    rwa [show il1.length + (k - il1.length) = k by omega] at this
  have ap : ∀ i j, i < j → j < il1.length → ((befs ops).getD j 0).testBit i = false → apartFp (fp.getD i ([], [])) (fp.getD j ([], [])) = true := by
    intro i j h1 h2 h3
    unfold okPlan at hok
    rw [List.all_eq_true] at hok
    have := hok j (by simp; omega)
    rw [List.all_eq_true] at this
    have := this i (by simp; omega)
    rw [h3] at this
    simpa using this
  refine ⟨us, ?_⟩
  intro fuel
  induction fuel with
  | zero =>
    intro listed a w h hcn hs hcl hpre R hy
    have all : ∀ i, i < ops.size → listed.getD i false = true := by
      intro i hi
      cases hL : listed.getD i false with
      | true => rfl
      | false =>
        have : false ∈ listed.toList := by
          simp only [Array.getD_eq_getD_getElem?, Array.getElem?_eq_getElem (show i < listed.size by omega), Option.getD_some] at hL
          rw [← hL]; simp
        exact absurd this (List.count_eq_zero.1 hcn)
    have hm : il1.length = ops.size := by
      rcases Nat.lt_or_ge il1.length ops.size with h1 | h1
      · have := all il1.length h1
        rw [hpre il1.length (Nat.le_refl _)] at this; cases this
      · omega
    refine tail_ok hc hl ht y hn 0 ops.size listed s1 a w h (by omega) (by omega) hs hcl (fun i hi => by rw [all i hi]; simp [hi]) ?_ ?_ hy
    · rw [List.drop_append_of_le_length (by omega), List.drop_eq_nil_of_le (by omega)]; simpa using hst
    · show E.relF _ _ _ a w h
      rw [t2, t3, t5]
      have e : FL us (fun i => listed.getD i false) s.fs il1.length = FL us (fun _ => true) s.fs il1.length := by
        funext l
        refine FL_at (i := il1.length) (fun k hk hL => ?_) (fun k hk hL => ?_) _ (Nat.le_refl _)
        · rw [all k (by omega)] at hL; cases hL
        · rw [hpre k hk] at hL; cases hL
      rw [e] at R; exact R
  | succ fuel ih =>
    intro listed a w h hcn hs hcl hpre R hy
    by_cases hall : ∀ i, i < il1.length → listed.getD i false = true
    · have e : FL us (fun i => listed.getD i false) s.fs il1.length = FL us (fun _ => true) s.fs il1.length := by
        funext l
        refine FL_at (i := il1.length) (fun k hk hL => ?_) (fun k hk hL => ?_) _ (Nat.le_refl _)
        · rw [hall k hk] at hL; cases hL
        · rw [hpre k hk] at hL; cases hL
      rw [e] at R
      have hLk : ∀ i, i < ops.size → listed.getD i false = decide (i < il1.length) := fun i hi => by
        rcases Nat.lt_or_ge i il1.length with h1 | h1
        · rw [hall i h1]; simp [h1]
        · rw [hpre i h1]; simp; omega
      have hfuel : il1.length + (fuel + 1) = ops.size := by
        have e1 : listed.toList = List.replicate il1.length true ++ List.replicate (ops.size - il1.length) false := by
          apply List.ext_getElem?
          intro k
          have hk : listed.toList[k]? = if k < ops.size then some (listed.getD k false) else none := by
            by_cases h1 : k < ops.size
            · simp [h1, show k < listed.size by omega]
            · simp [h1, show listed.size ≤ k by omega]
          rw [hk, List.getElem?_append]
          simp only [List.length_replicate]
          by_cases h1 : k < il1.length
          · rw [if_pos h1, if_pos (by omega), hall k h1, List.getElem?_replicate, if_pos h1]
          · rw [if_neg h1, List.getElem?_replicate]
            by_cases h2 : k < ops.size
            · rw [if_pos h2, if_pos (by omega), hpre k (by omega)]
            · rw [if_neg h2, if_neg (by omega)]
        rw [e1] at hcn
        simp [List.count_append, List.count_replicate] at hcn
        omega
      refine tail_ok hc hl ht y hn (fuel + 1) il1.length listed s1 a w h hfuel (Nat.le_refl _) hs hcl hLk ?_ ?_ hy
      · simpa using hst
      · show E.relF _ _ _ a w h
        rw [t2, t3, t5]; exact R
    · obtain ⟨k0, hk0, hk0'⟩ : ∃ k, k < il1.length ∧ listed.getD k false = false := by
        apply Classical.byContradiction
        intro hno
        exact hall fun i hi => by
          cases hL : listed.getD i false with
          | true => rfl
          | false => exact absurd ⟨i, hi, hL⟩ hno
      refine ⟨fun hr => ?_, fun i hi => ?_⟩
      · have := ready_some hl hs hr k0 (by omega)
        rw [hk0'] at this; cases this
      · obtain ⟨h1, h2, o, ho, h3⟩ := (mem_ready hs).1 hi
        have him : i < il1.length := by
          rcases Nat.lt_or_ge i il1.length with h4 | h4
          · exact h4
          · have := befs_ok hcl ho h3 (tot i k0 h4 h1 (by omega))
            rw [hk0'] at this; cases this
        obtain ⟨ins, eff, rd, g1, g2, g3, g4⟩ := t6 i him
        obtain ⟨ins', e1, e2⟩ := hg i o ho
        rw [List.getElem?_append_left him, g1] at e1; cases e1
        -- what may not meet
        have below : ∀ k, k < i → listed.getD k false = false → ∀ l, (l ∈ rd ∨ l ∈ wrOf ins eff) → us.getD k nof l = none := by
          intro k hk hL l hlm
          obtain ⟨insk, effk, rdk, q1, q2, q3, q4⟩ := t6 k (by omega)
          have hb : ((befs ops).getD i 0).testBit k = false := by
            cases hb : ((befs ops).getD i 0).testBit k with
            | false => rfl
            | true => have := befs_ok hcl ho h3 hb; rw [hL] at this; cases this
          have := ap k i hk him hb
          simp only [List.getD_eq_getElem?_getD, q2, g2, Option.getD_some, apartFp, Bool.and_eq_true, Bool.not_eq_true'] at this
          rw [List.getD_eq_getElem?_getD, q3, Option.getD_some]
          refine wrF_out fun hm => ?_
          rcases hlm with h5 | h5
          · exact meets_false this.1.2 l hm h5
          · exact meets_false this.1.1 l hm h5
        have above : ∀ k, i < k → listed.getD k false = true → k < il1.length ∧ ∃ insk effk rdk, fp[k]? = some (wrOf insk effk, rdk) ∧ us[k]? = some (wrF insk effk nof) ∧ apartFp (wrOf ins eff, rd) (wrOf insk effk, rdk) = true := by
          intro k hk hL
          have hkm : k < il1.length := by
            rcases Nat.lt_or_ge k il1.length with h4 | h4
            · exact h4
            · rw [hpre k h4] at hL; cases hL
          obtain ⟨insk, effk, rdk, q1, q2, q3, q4⟩ := t6 k hkm
          have hks : k < ops.size := by omega
          have hb : ((befs ops).getD k 0).testBit i = false := by
            cases hb : ((befs ops).getD k 0).testBit i with
            | false => rfl
            | true =>
              have := befs_ok hcl (Array.getElem?_eq_getElem hks) (hcl k _ (Array.getElem?_eq_getElem hks) hL) hb
              rw [h2] at this; cases this
          have := ap i k hk hkm hb
          simp only [List.getD_eq_getElem?_getD, q2, g2, Option.getD_some] at this
          exact ⟨hkm, insk, effk, rdk, q2, q3, this⟩
        have at_i : ∀ l, (l ∈ rd ∨ l ∈ wrOf ins eff) → FL us (fun i => listed.getD i false) s.fs il1.length l = FL us (fun _ => true) s.fs i l := by
          intro l hlm
          refine FL_at (fun k hk hL => below k hk hL l hlm) (fun k hk hL => ?_) _ (by omega)
          rcases Nat.lt_or_ge i k with h5 | h5
          · obtain ⟨_, insk, effk, rdk, q2, q3, q4⟩ := above k h5 hL
            rw [List.getD_eq_getElem?_getD, q3, Option.getD_some]
            simp only [apartFp, Bool.and_eq_true, Bool.not_eq_true'] at q4
            refine wrF_out fun hm => ?_
            rcases hlm with h6 | h6
            · exact meets_false q4.2 l h6 hm
            · exact meets_false q4.1.1 l h6 hm
          · obtain rfl : k = i := by omega
            rw [h2] at hL; cases hL
        have hd := does_reads (τ := FL us (fun i => listed.getD i false) s.fs il1.length) g4 (fun l hl => at_i l (.inl hl))
        have R2 : (E.pinA A).relF s.log s.stp (FL us (fun i => listed.getD i false) s.fs il1.length) a w h := to_pin hys hlk hlog R
        refine does_ok (E := E.pinA A) e2 rfl ho hd R2 fun a' w' h' R' hy' => ih _ a' w' h' (count_step (by omega) h2 hcn) (by simpa using hs) ?_ ?_ ?_ (hy'.trans hy)
        · intro j o' ho' hj d hd
          simp only [getD_setD (show i < listed.size by omega), Bool.or_eq_true, beq_iff_eq] at hj ⊢
          rcases hj with hj | rfl
          · exact .inl (hcl j o' ho' hj d hd)
          · rw [ho] at ho'; cases ho'; exact .inl (h3 d hd)
        · intro j hj
          rw [getD_setD (show i < listed.size by omega), hpre j hj]
          have : (j == i) = false := by simpa using (show j ≠ i by omega)
          rw [this]; rfl
        · have e : (fun k => (listed.setIfInBounds i true).getD k false) = fun k => listed.getD k false || k == i := by
            funext k; exact getD_setD (by omega)
          rw [e, FL_add h2 (fun k hk hL l => ?_) _ him]
          · rw [List.getD_eq_getElem?_getD, g3, Option.getD_some, ← wrF_nof]; exact of_pin hys hlk R'
          · obtain ⟨_, insk, effk, rdk, q2, q3, q4⟩ := above k hk hL
            simp only [List.getD_eq_getElem?_getD, q3, g3, Option.getD_some]
            simp only [apartFp, Bool.and_eq_true, Bool.not_eq_true'] at q4
            by_cases hm : l ∈ wrOf insk effk
            · right
              exact wrF_out fun hm' => meets_false q4.1.1 l hm' hm
            · left
              exact wrF_out hm

theorem drawn_okP (hys : E.ys = []) (hlk : E.lk = fun _ => True) {A : Arena} {K : St → Prop} {il1 il2 : List Ins} {s s1 : St} {fp : List (List Loc × List Loc)} {id : Nat} {a : Act} {w : World} {h : Gh} (hc : compR E.P E.nt ops = some (il1 ++ il2)) (hl : lexed ops = true) (t : Trace (E.pinA A) s il1 fp s1) (hlog : s.log = encA A)
    (hok : okPlan (befs ops) fp = true) (ht : totTail (befs ops) il1.length ops.size = true) (hst : Steps E il2 K s1) (R : E.rel s a w h) {Q : Exit → Act → World → Prop}
    (hn : ∀ s' a' w' h', K s' → E.rel s' a' w' h' → h'.y = h.y → Q .normal a' w') : (Code.region id ops true).wpIn (wideR ro) n E.P Q a w := by
  obtain ⟨us, key⟩ := prefix_okP (ro := ro) (n := n) hys hlk hc hl t hlog hok ht hst h.y hn
  refine wpIn_region_any E.mixed ?_
  have e0 : ∀ i, (Array.replicate ops.size false).getD i false = false := fun i => by
    simp only [Array.getD_eq_getD_getElem?, Array.getElem?_replicate]
    by_cases h : i < ops.size <;> simp [h]
  refine key ops.size _ a _ h (by simp [List.count_replicate]) (by simp) ?_ (fun i _ => e0 i) ⟨?_, R.2⟩ rfl
  · intro j o ho hj
    have hj : (Array.replicate ops.size false).getD j false = true := hj
    rw [e0] at hj; cases hj
  · have : FL us (fun i => (Array.replicate ops.size false).getD i false) s.fs il1.length = s.fs := by
      have : ∀ m, FL us (fun i => (Array.replicate ops.size false).getD i false) s.fs m = s.fs := by
        intro m
        induction m with
        | zero => rfl
        | succ m ih =>
          have e : FL us (fun i => (Array.replicate ops.size false).getD i false) s.fs (m + 1) = if (Array.replicate ops.size false).getD m false then upF (us.getD m nof) (FL us (fun i => (Array.replicate ops.size false).getD i false) s.fs m) else FL us (fun i => (Array.replicate ops.size false).getD i false) s.fs m := rfl
          rw [e, e0 m, ih]; rfl
      exact this _
    rw [this]
    exact R.1.drew E.ok

end

/-- **A DRAWN REGION THAT READS AN ARENA**. -/
theorem Tr.drawP {E : Env} {ro : Option Nat} {Q : Exit → St → Prop} {s : St} {bef : List Nat} {il : List Ins} (hys : E.ys = []) (hlk : E.lk = fun _ => True) {A : Arena} (hlog : s.log = encA A)
    (t : TraceK (E.pinA A) s il fun fp s' r => okPlan bef fp = true ∧ totTail bef (il.length - r.length) il.length = true ∧ Steps E r (Q .normal) s') : Tr E ro (.draw bef il) Q s := by
  obtain ⟨il1, fp, s', il2, e, t', hok, ht, h⟩ := t.spec
  subst e
  intro c hc n a w g R Q' hq
  obtain ⟨id, ops, rfl, h1, hl, rfl⟩ := compC_inv hc
  have hlen := (compR_spec h1).1
  have ht : totTail (befs ops) il1.length (il1 ++ il2).length = true := by simpa using ht
  rw [hlen] at ht
  exact drawn_okP hys hlk h1 hl t' hlog hok ht h R fun s' a' w' h' k R' e => hq _ s' a' w' h' k R' e

section
variable {E : Env} {σ : FSt}

theorem does_rnil {d : Nat} {x : X} {blk off : Nat} (hx : [x].mapM (evX σ) = some [.rptr blk off]) : Does E σ ⟨some d, .nilck, [x], none⟩ { v := .rptr blk off } (xslots [x]) := by
  refine .sem fun τ hτ slots ops i o ro n log stp a w h hc hs hi R Q next hn => ?_
  have hx' : [x].mapM (evX τ) = some [.rptr blk off] := evX_reads hx fun l hl => hτ l hl
  obtain ⟨os, cc⟩ := comp_of hc
  obtain ⟨p, ho, rfl⟩ := opK_nilckZ cc.op
  obtain ⟨u, hu, o1⟩ := (opds_of R.1 cc.xs hx').one
  simp only [List.cons.injEq, and_true] at hu
  subst hu
  have ep := ok_rptr o1
  have hex : (execOp a.eval o).run E.P w = .ok (.value (.pointer (some ⟨blk, off, none⟩))) w := by simp [execOp, ho, ep]
  exact wpOp_done hi (wanted_none (guard_none cc rfl)) (opK_defer cc.op) (.inl hex) (hn _ _ h (rel_after (eff := { v := .rptr blk off }) cc R R.1 (.data (.rptr _ _)) rfl) rfl)

theorem does_rfaddr {d f : Nat} {x : X} {blk off : Nat} (hx : [x].mapM (evX σ) = some [.rptr blk off]) : Does E σ ⟨some d, .faddr f, [x], none⟩ { v := .rptr blk (off + f) } (xslots [x]) := by
  refine .sem fun τ hτ slots ops i o ro n log stp a w h hc hs hi R Q next hn => ?_
  have hx' : [x].mapM (evX τ) = some [.rptr blk off] := evX_reads hx fun l hl => hτ l hl
  obtain ⟨os, cc⟩ := comp_of hc
  obtain ⟨t, p, g, fs, fd, m, ho, h1, h2, h3, h4, rfl, rfl⟩ := opK_faddrZ cc.op
  obtain ⟨u, hu, o1⟩ := (opds_of R.1 cc.xs hx').one
  simp only [List.cons.injEq, and_true] at hu
  subst hu
  have ep := ok_rptr o1
  have hex : (execOp a.eval o).run E.P w = .ok (.value (.pointer (some ⟨blk, off + fd.offset, none⟩))) w := by
    simp only [execOp, ho, ep, Sem.run_bind, run_fieldAt h1 h2 h3 h4]; rfl
  exact wpOp_done hi (wanted_none (guard_none cc rfl)) (opK_defer cc.op) (.inl hex) (hn _ _ h (rel_after (eff := { v := .rptr blk (off + fd.offset) }) cc R R.1 (.data (.rptr _ _)) rfl) rfl)

theorem does_aload {S0 : Sur} {l0 : List (List V)} {s0 : Bool} {A : Arena} (hE : InA E S0 l0 s0) (hys : E.ys = []) (hlk : E.lk = fun _ => True) {d n : Nat} {agg : Bool} {x : X} {blk off : Nat} {cs : List V} (hx : [x].mapM (evX σ) = some [.rptr blk off]) (hA : (blk, Ob.cells cs) ∈ A) (hv : off + n ≤ cs.length) :
    Does (E.pinA A) σ ⟨some d, .load n agg, [x], none⟩ { v := mkv agg n (cs.drop off) } (xslots [x]) := by
  refine .sem fun τ hτ slots ops i o ro n' log stp a w h hc hs hi R Q next hn => ?_
  have hx' : [x].mapM (evX τ) = some [.rptr blk off] := evX_reads hx fun l hl => hτ l hl
  obtain ⟨os, cc⟩ := comp_of hc
  have hll : log = encA A := R.1.sur.1
  have R' : E.relF (encA A) stp τ a w h := by rw [← hll]; exact of_pin hys hlk R
  obtain ⟨vs, et, h1, h2, h3⟩ := (hE.ar R').ok _ hA
  have hop : ∃ t p dd, o.op = .load t p ∧ szOf E.P t = some n ∧ E.P.underlying t = some dd ∧ aggB E.P t = agg ∧ os = [p] ∧ (agg = false → n = 1) := by
    have hk := cc.op
    cases ho : o.op <;> rw [ho] at hk <;> simp only [opK] at hk <;> (try (cases hk; done)) <;> (try (repeat' (split at hk <;> (try (cases hk; done)))))
    all_goals first
      | (simp only [Option.map_eq_some_iff, Prod.mk.injEq] at hk; obtain ⟨_, _, h1, _⟩ := hk; cases h1; done)
      | (simp only [eqKind] at hk; repeat' (split at hk <;> (try (cases hk; done))))
      | (cases hk; exact ⟨_, _, _, rfl, by assumption, by assumption, by assumption, rfl, by simp⟩)
      | (rename_i q1 q2 q3 q4; subst q4; cases hk; exact ⟨_, _, _, rfl, by assumption, by assumption, Bool.eq_false_iff.2 q3, rfl, by simp⟩)
  obtain ⟨t, p, dd, e1, e2, e3, e4, rfl, e5⟩ := hop
  obtain ⟨u, hu, o1⟩ := (opds_of R.1 cc.xs hx').one
  simp only [List.cons.injEq, and_true] at hu
  subst hu
  have ep := ok_rptr o1
  obtain ⟨y, hy1, hy2⟩ := ok_mkv (σ := τ) (h := h) (w := w) (agg := agg) (n := n) (l := cs.drop off) (f := fun j => vs.getD (off + j) undef) (by simp; omega) e5 (fun j v hv => by
    rw [List.getElem?_drop] at hv
    have hlt : off + j < vs.size := by
      have := (List.getElem?_eq_some_iff.1 hv).1; omega
    have := h3 (off + j) v vs[off + j] hv (by simp [hlt])
    have e : vs.getD (off + j) undef = vs[off + j] := by simp [hlt]
    rw [e]
    exact ⟨.data this.1, Grow.of_data this.1, this.2⟩)
  have hex : (execOp a.eval o).run E.P w = .ok (.value y) w := by
    simp only [execOp, e1, ep, Sem.run_bind]
    rw [run_loadAt (cs := (List.range n).map fun j => vs.getD (off + j) undef) e2 e3 (by simp) (fun j v hv => by
      obtain ⟨hj, rfl⟩ := range_map_get hv
      rw [cell_of_row w blk (off + j) vs et (0, 0) h1]
      have : off + j < vs.size := by omega
      simp [this]) (by rw [e4]; exact hy1)]
    rfl
  exact wpOp_done hi (wanted_none (guard_none cc rfl)) (opK_defer cc.op) (.inl hex) (hn _ _ h (rel_after (eff := { v := mkv agg n (cs.drop off) }) cc R R.1 hy2 rfl) rfl)

theorem TraceK.rnil {s : St} {K : List (List Loc × List Loc) → St → List Ins → Prop} {d : Nat} {x : X} {blk off : Nat} {rest : List Ins} (hx : evXs s.env [x] = some [.rptr blk off])
    (tr : TraceK E (s.put (some d) (.rptr blk off)) rest fun fp s' r' => K (([.slot d], xslots [x]) :: fp) s' r') : TraceK E s (⟨some d, .nilck, [x], none⟩ :: rest) K :=
  .step (ins := ⟨some d, .nilck, [x], none⟩) (eff := { v := .rptr blk off }) (does_rnil (evXs_ok hx)) tr

theorem TraceK.rfaddr {s : St} {K : List (List Loc × List Loc) → St → List Ins → Prop} {d f : Nat} {x : X} {blk off : Nat} {rest : List Ins} (hx : evXs s.env [x] = some [.rptr blk off])
    (tr : TraceK E (s.put (some d) (.rptr blk (off + f))) rest fun fp s' r' => K (([.slot d], xslots [x]) :: fp) s' r') : TraceK E s (⟨some d, .faddr f, [x], none⟩ :: rest) K :=
  .step (ins := ⟨some d, .faddr f, [x], none⟩) (eff := { v := .rptr blk (off + f) }) (does_rfaddr (evXs_ok hx)) tr

theorem TraceK.aload {S0 : Sur} {l0 : List (List V)} {s0 : Bool} {A : Arena} (hE : InA E S0 l0 s0) (hys : E.ys = []) (hlk : E.lk = fun _ => True) {s : St} {K : List (List Loc × List Loc) → St → List Ins → Prop} {d n : Nat} {agg : Bool} {x : X} {blk off : Nat} {cs : List V} {rest : List Ins} (hx : evXs s.env [x] = some [.rptr blk off]) (hA : (blk, Ob.cells cs) ∈ A) (hv : off + n ≤ cs.length)
    (tr : TraceK (E.pinA A) (s.put (some d) (mkv agg n (cs.drop off))) rest fun fp s' r' => K (([.slot d], xslots [x]) :: fp) s' r') : TraceK (E.pinA A) s (⟨some d, .load n agg, [x], none⟩ :: rest) K :=
  .step (ins := ⟨some d, .load n agg, [x], none⟩) (eff := { v := mkv agg n (cs.drop off) }) (does_aload hE hys hlk (evXs_ok hx) hA hv) tr

end

section
variable {E : Env} {S0 : Sur} {l0 : List (List V)} {s0 : Bool} {A : Arena}

end
end Go.Am


/-! Contract of the specification: a proof is read; it reads what the program reads. -/
set_option linter.unusedVariables false
set_option linter.unusedSimpArgs false
set_option maxRecDepth 40000
set_option maxHeartbeats 4000000
namespace Go.Am
/-- A call in a region that draws: its slice is a row that grows. -/
theorem TraceK.callG {E : Env} {s : St} {K : List (List Loc × List Loc) → St → List Ins → Prop} {d : Nat} {f : FuncId} {xs : List X} {vs us : List V} {e : Nat} {l : List Int} {rest : List Ins} (hx : evXs s.env xs = some vs) (hd : ∀ b, toDs b vs = some (us, [])) (hC : CG E.P f us e l) (hrd : get s.rw d = none)
    (tr : TraceK E ((s.eff { v := .slice (d + 1) 1 (l.map intV), wr := [(d, l.length, 1, e)], rr := [d] }).put (some d) (.slice (d + 1) 1 (l.map intV))) rest fun fp s' r' => K ((wrOf ⟨some d, .call f, xs, none⟩ { v := .slice (d + 1) 1 (l.map intV), wr := [(d, l.length, 1, e)], rr := [d] }, xslots xs ++ [.row d]) :: fp) s' r') : TraceK E s (⟨some d, .call f, xs, none⟩ :: rest) K :=
  .step (ins := ⟨some d, .call f, xs, none⟩) (does_callG (evXs_ok hx) hd hC (by rw [fs_r]; exact hrd)) tr
end Go.Am

namespace Go.Proofs.YtdejdblopmfjfaaGreatDoor
open Go.Am
attribute [local simp] cells scalar mkv splice under2 under dem dem1 eQ nfC intsV eC cutsV
structure Rq where
  left : List Ct
  least : Int
  leafs : Nat
  ok : Bool

def rqV (x : Nf) (s : Rq) : List V := [intsV x.lacks, .slice 0 2 (x.passes.map eQ), cutsV s.left, I s.least, I (s.leafs : Nat), .bool s.ok]
abbrev rqA (x : Nf) (blk : Nat) (s : Rq) : Arena := [(blk, .cells (rqV x s))]

def leafQ (x : Nf) (k : Ct) (c d : Nat) (s : Rq) (t : List Ct) : Rq := { left := t, least := if s.leafs = 0 ∨ leafN x k.prices c d < s.least then leafN x k.prices c d else s.least, leafs := s.leafs + 1, ok := s.ok }

def readQ (x : Nf) : Nat → Nat → Nat → Rq → Rq
  | 0, _, _, s => { s with ok := false }
  | n + 1, c, d, s => match s.left with
    | [] => { s with ok := false }
    | k :: t =>
      if k.split = -1 then (if pricesOk x k.prices then leafQ x k c d s t else { s with left := t, ok := false })
      else if splitOk x k d then
        (if (readQ x n (c ||| 2 ^ k.split.toNat) (d ||| 2 ^ k.split.toNat) { s with left := t }).ok then readQ x n c (d ||| 2 ^ k.split.toNat) (readQ x n (c ||| 2 ^ k.split.toNat) (d ||| 2 ^ k.split.toNat) { s with left := t })
        else readQ x n (c ||| 2 ^ k.split.toNat) (d ||| 2 ^ k.split.toNat) { s with left := t })
      else { s with left := t, ok := false }

theorem readQ_nil (x : Nf) {n c d : Nat} {s : Rq} (h : s.left = []) : readQ x n c d s = { s with ok := false } := by
  cases n with
  | zero => rfl
  | succ n => simp only [readQ, h]

theorem readQ_cons (x : Nf) {n c d : Nat} {s : Rq} {k : Ct} {t : List Ct} (h : s.left = k :: t) : readQ x (n + 1) c d s =
    if k.split = -1 then (if pricesOk x k.prices then leafQ x k c d s t else { s with left := t, ok := false })
      else if splitOk x k d then
        (if (readQ x n (c ||| 2 ^ k.split.toNat) (d ||| 2 ^ k.split.toNat) { s with left := t }).ok then readQ x n c (d ||| 2 ^ k.split.toNat) (readQ x n (c ||| 2 ^ k.split.toNat) (d ||| 2 ^ k.split.toNat) { s with left := t })
        else readQ x n (c ||| 2 ^ k.split.toNat) (d ||| 2 ^ k.split.toNat) { s with left := t })
      else { s with left := t, ok := false } := by
  simp only [readQ, h]

theorem readQ_inv (x : Nf) : ∀ (n c d : Nat) (s : Rq), (readQ x n c d s).left.length ≤ s.left.length ∧ (readQ x n c d s).leafs + (readQ x n c d s).left.length ≤ s.leafs + s.left.length
  | 0, c, d, s => ⟨Nat.le_refl _, Nat.le_refl _⟩
  | n + 1, c, d, s => by
    cases h : s.left with
    | nil => rw [readQ_nil x h]; simp [h]
    | cons k t =>
      rw [readQ_cons x h]
      have e1 : ({ s with left := t } : Rq).left = t := rfl
      have e2 : ({ s with left := t } : Rq).leafs = s.leafs := rfl
      split
      · split
        · simp only [leafQ, List.length_cons]; omega
        · simp only [List.length_cons]; omega
      · split
        · have i1 := readQ_inv x n (c ||| 2 ^ k.split.toNat) (d ||| 2 ^ k.split.toNat) { s with left := t }
          rw [e1, e2] at i1
          split
          · have i2 := readQ_inv x n c (d ||| 2 ^ k.split.toNat) (readQ x n (c ||| 2 ^ k.split.toNat) (d ||| 2 ^ k.split.toNat) { s with left := t })
            simp only [List.length_cons]; omega
          · simp only [List.length_cons]; omega
        · simp only [List.length_cons]; omega

/-! ### It reads what the program reads -/
def sim (pf : List Ct) (s : Rd) (q : Rq) : Prop := s.ok = q.ok ∧ (s.ok = true → (q.left = pf.drop s.at_ ∧ s.at_ ≤ pf.length) ∧ q.least = s.least ∧ (s.some = true ↔ q.leafs ≠ 0))

theorem readN_go (x : Nf) (pf : List Ct) {n c d : Nat} {s : Rd} (h : s.ok = true) (hlt : s.at_ < pf.length) : readN x pf (n + 1) c d s =
    if pf[s.at_].split ≠ -1 then
      (if splitOk x pf[s.at_] d then readN x pf n c (d ||| 2 ^ pf[s.at_].split.toNat) (readN x pf n (c ||| 2 ^ pf[s.at_].split.toNat) (d ||| 2 ^ pf[s.at_].split.toNat) { s with at_ := s.at_ + 1, ok := true })
      else { s with at_ := s.at_ + 1, ok := false })
    else if pricesOk x pf[s.at_].prices then
      (if (!s.some || decide (leafN x pf[s.at_].prices c d < s.least)) then { s with at_ := s.at_ + 1, ok := true, least := leafN x pf[s.at_].prices c d, some := true } else { s with at_ := s.at_ + 1, ok := true })
    else { s with at_ := s.at_ + 1, ok := false } := by
  simp only [readN]
  rw [dif_pos ⟨h, hlt⟩]

theorem readN_no (x : Nf) (pf : List Ct) {n c d : Nat} {s : Rd} (h : ¬ (s.ok = true ∧ s.at_ < pf.length)) : readN x pf n c d s = { s with ok := false } := by
  cases n with
  | zero => rfl
  | succ n => simp only [readN]; rw [dif_neg h]

theorem read_sim (x : Nf) (pf : List Ct) : ∀ (n c d : Nat) (s : Rd) (q : Rq), sim pf s q → s.ok = true → sim pf (readN x pf n c d s) (readQ x n c d q)
  | 0, c, d, s, q, _, _ => ⟨rfl, fun h => by cases h⟩
  | n + 1, c, d, s, q, h, hok => by
    obtain ⟨h1, h2⟩ := h
    obtain ⟨⟨h3, h4⟩, h5, h6⟩ := h2 hok
    by_cases hlt : s.at_ < pf.length
    rotate_left
    · have hnil : q.left = [] := by rw [h3]; exact List.drop_eq_nil_of_le (by omega)
      rw [readN_no x pf (fun h => hlt h.2), readQ_nil x hnil]
      exact ⟨rfl, fun h => by cases h⟩
    have hcons : q.left = pf[s.at_] :: pf.drop (s.at_ + 1) := by rw [h3]; exact List.drop_eq_getElem_cons hlt
    rw [readN_go x pf hok hlt, readQ_cons x hcons]
    obtain ⟨k, hk⟩ : ∃ k, pf[s.at_] = k := ⟨_, rfl⟩
    rw [hk]
    by_cases hs : k.split = -1
    · rw [if_neg (by simpa using hs), if_pos hs]
      by_cases hp : pricesOk x k.prices = true
      rotate_left
      · rw [if_neg hp, if_neg hp]
        exact ⟨rfl, fun h => by cases h⟩
      rw [if_pos hp, if_pos hp]
      unfold leafQ
      by_cases hl : q.leafs = 0 ∨ leafN x k.prices c d < q.least
      · rw [if_pos hl]
        have hb : (!s.some || decide (leafN x k.prices c d < s.least)) = true := by
          rw [Bool.or_eq_true, decide_eq_true_eq, ← h5]
          rcases hl with h | h
          · left
            cases hsm : s.some with
            | false => rfl
            | true => exact absurd h (h6.1 hsm)
          · exact .inr h
        rw [if_pos hb]
        exact ⟨h1 ▸ hok.symm, fun _ => ⟨⟨rfl, by simp only; omega⟩, rfl, by simp⟩⟩
      · rw [if_neg hl]
        have hb : ¬ (!s.some || decide (leafN x k.prices c d < s.least)) = true := by
          rw [Bool.or_eq_true, decide_eq_true_eq, ← h5]
          rintro (h | h)
          · have : q.leafs = 0 := by
              rcases Nat.eq_zero_or_pos q.leafs with h7 | h7
              · exact h7
              · have := h6.2 (by omega)
                rw [this] at h; cases h
            exact hl (.inl this)
          · exact hl (.inr h)
        rw [if_neg hb]
        have hne : q.leafs ≠ 0 := fun h => hl (.inl h)
        exact ⟨h1 ▸ hok.symm, fun _ => ⟨⟨rfl, by simp only; omega⟩, h5, by simp [h6.2 hne]⟩⟩
    · rw [if_pos (by simpa using hs), if_neg hs]
      by_cases hp : splitOk x k d = true
      rotate_left
      · rw [if_neg hp, if_neg hp]
        exact ⟨rfl, fun h => by cases h⟩
      rw [if_pos hp, if_pos hp]
      have i1 := read_sim x pf n (c ||| 2 ^ k.split.toNat) (d ||| 2 ^ k.split.toNat) { s with at_ := s.at_ + 1, ok := true } { q with left := pf.drop (s.at_ + 1) } ⟨by rw [← h1, hok], fun _ => ⟨⟨rfl, by simp only; omega⟩, h5, h6⟩⟩ rfl
      obtain ⟨s2, hs2⟩ : ∃ s2, readN x pf n (c ||| 2 ^ k.split.toNat) (d ||| 2 ^ k.split.toNat) { s with at_ := s.at_ + 1, ok := true } = s2 := ⟨_, rfl⟩
      obtain ⟨q2, hq2⟩ : ∃ q2, readQ x n (c ||| 2 ^ k.split.toNat) (d ||| 2 ^ k.split.toNat) { q with left := pf.drop (s.at_ + 1) } = q2 := ⟨_, rfl⟩
      rw [hs2, hq2] at i1
      rw [hs2, hq2]
      by_cases ho : q2.ok = true
      · rw [if_pos ho]
        exact read_sim x pf n c _ s2 q2 i1 (i1.1.trans ho)
      · rw [if_neg ho]
        have ho2 : q2.ok = false := by simpa using ho
        have hso : s2.ok = false := i1.1.trans ho2
        rw [readN_no x pf (fun h => by rw [hso] at h; cases h.1)]
        exact ⟨ho2.symm, fun h => by cases h⟩

def BoundQ (x : Nf) (pf : List Ct) : V := if nfOk x then (if btw (pf.length : Int) 1 2048 then (if (readQ x pf.length 0 0 ⟨pf, 0, 0, true⟩).ok && decide ((readQ x pf.length 0 0 ⟨pf, 0, 0, true⟩).left = []) then .tuple [I (readQ x pf.length 0 0 ⟨pf, 0, 0, true⟩).least, I 0] else .tuple [I 0, I 76]) else .tuple [I 0, I 76]) else .tuple [I 0, I 74]

theorem bound_same (x : Nf) (pf : List Ct) : BoundQ x pf = BoundR x pf := by
  unfold BoundQ BoundR
  by_cases hx : nfOk x = true
  rotate_left
  · rw [if_neg hx, if_neg hx]
  rw [if_pos hx, if_pos hx]
  have hs := read_sim x pf pf.length 0 0 ⟨true, 0, false, 0⟩ ⟨pf, 0, 0, true⟩ ⟨rfl, fun _ => ⟨⟨rfl, by simp⟩, rfl, by simp⟩⟩ rfl
  have e : readN x pf pf.length 0 0 ⟨true, 0, false, 0⟩ = boundN x pf := rfl
  rw [e] at hs
  by_cases hb : btw (pf.length : Int) 1 2048 = true
  rotate_left
  · rw [if_neg hb]
    rw [btw_iff] at hb
    by_cases h2 : pf.length ≤ 2048
    · have h0 : pf = [] := List.eq_nil_of_length_eq_zero (by omega)
      subst h0
      rfl
    · rw [if_neg h2]
  rw [if_pos hb]
  rw [btw_iff] at hb
  have h2048 : pf.length ≤ 2048 := by omega
  rw [if_pos h2048]
  obtain ⟨s1, s2⟩ := hs
  generalize boundN x pf = s at s1 s2 ⊢
  generalize readQ x pf.length 0 0 ⟨pf, 0, 0, true⟩ = q at s1 s2 ⊢
  rw [← s1]
  cases ho : s.ok with
  | false => rfl
  | true =>
    obtain ⟨⟨h1, h2⟩, h3, _⟩ := s2 ho
    have e3 : decide (q.left = []) = decide (s.at_ = pf.length) := by
      rw [decide_eq_decide, h1]
      constructor
      · intro h
        have := congrArg List.length h
        rw [List.length_drop, List.length_nil] at this; omega
      · intro h
        rw [h, List.drop_length]
    rw [e3, h3]

end Go.Proofs.YtdejdblopmfjfaaGreatDoor

