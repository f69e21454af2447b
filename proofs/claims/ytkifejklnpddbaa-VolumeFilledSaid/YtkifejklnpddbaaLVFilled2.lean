/-
  Parts of the proof, 2: the abstract machine, the compiled code, contracts of the functions, plain laws.
-/
import Derived.Test.YtkifejklnpddbaaLVFilled1


/-! The laws VolumeNames and VolumeEncloses, as contracts. -/
set_option linter.unusedVariables false
set_option linter.unusedSimpArgs false
set_option maxRecDepth 20000
namespace Go.Proofs.Ytkifejklnpddbaa
open Go.Am
attribute [local simp] cells scalar mkv splice under2 under dem dem1 boxC cellC volC intsV eB

theorem nameS_form (l : List Echo) (x y z aper slow : Int) : ∃ (a b c : Int) (s : Int × Int) (r : List (Int × Int)) (e : Int), r.length ≤ 32 ∧
    nameS l x y z aper slow = .tuple [.agg [I a, I b, I c, .slice 0 2 (r.map eB), I s.1, I s.2], I e] := by
  unfold nameS nameR
  split
  · rename_i h1
    have h2 := echoesOk_len h1
    split
    · refine ⟨x, y, z, valueB ⟨l, aper, (slow, slow)⟩ x y z, namedL ⟨l, aper, (slow, slow)⟩ x y z, 0, ?_, rfl⟩
      unfold namedL
      exact Nat.le_trans (List.length_filterMap_le _ _) (Nat.le_trans nears_len h2)
    · exact ⟨0, 0, 0, (0, 0), [], 102, by simp, rfl⟩
  · exact ⟨0, 0, 0, (0, 0), [], 100, by simp, rfl⟩

theorem boxS_form (l : List Echo) (b : Bx) (aper : Int) (slow : Int × Int) (of : Int × Int × Int → Int × Int) : ∃ (c : Bx) (r : List (Int × Int)) (e : Int), r.length ≤ 4096 ∧
    boxR (.slice 0 2 []) l b aper slow of = .tuple [.agg [I c.x, I c.y, I c.z, I c.a, I c.b, I c.c, .slice 0 2 (r.map eB)], I e] := by
  unfold boxR
  split
  · split
    · unfold imageR
      split
      · rename_i h1
        refine ⟨b, (boxCells b).map of, 0, ?_, ?_⟩
        · rw [List.length_map]; exact boxCells_len (boxOk_spec h1).1
        · rw [List.map_map]; rfl
      · exact ⟨⟨0, 0, 0, 0, 0, 0⟩, [], 102, by simp, rfl⟩
    · exact ⟨⟨0, 0, 0, 0, 0, 0⟩, [], 102, by simp, rfl⟩
  · exact ⟨⟨0, 0, 0, 0, 0, 0⟩, [], 100, by simp, rfl⟩

theorem c_VolumeNames {l : List Echo} (hl : sane l) (x y z aper slow : Int) : C Try.prog F.law10_VolumeNames [sE l, .agg (cellC x y z), .agg [I aper, I slow]] (.bool true) := by
  refine C_of mixed chk.law10_VolumeNames (by simp) fun S ok => ?_
  obtain ⟨a, b, c, s, r, e, hr, hN⟩ := nameS_form l x y z aper slow
  refine Tr.seqR rfl (by simp) ?_
  refine Tr.seqC rfl (by simp) (Steps.call rfl rfl (hN ▸ c_NameS hl x y z aper slow) (Steps.fin rfl (by simp) ?_))
  refine Tr.seqC rfl (by simp) (Steps.call rfl rfl (hN ▸ c_Name10 hl x y z aper slow) (Steps.fin rfl (by simp) ?_))
  refine Tr.seqC rfl (by simp) (Steps.call rfl rfl (c_SameNamed a b c a b c s s r r (by omega)) (Steps.run rfl (by simp) ?_))
  refine Steps.gcall rfl rfl rfl rfl (by simp) (fun _ => c_works) (Steps.fin rfl (by simp) (Tr.retX rfl rfl rfl ?_ trivial))
  simp [packR]

theorem c_VolumeEncloses {l : List Echo} (hl : sane l) (b : Bx) (aper : Int) (slow : Int × Int) : C Try.prog F.law10_VolumeEncloses [sE l, .agg [I b.x, I b.y, I b.z, I b.a, I b.b, I b.c, I aper, I slow.1, I slow.2]] (.bool true) := by
  refine C_of mixed chk.law10_VolumeEncloses (by simp) fun S ok => ?_
  obtain ⟨c, r, e, hr, hN⟩ := boxS_form l b aper slow (encOf l aper slow)
  have k1 := c_Enclose hl b aper slow
  have k2 := c_Enclose10 hl b aper slow
  unfold encS at k1 k2
  rw [hN] at k1 k2
  refine Tr.seqR rfl (by simp) ?_
  refine Tr.seqC rfl (by simp) (Steps.call rfl rfl k1 (Steps.fin rfl (by simp) ?_))
  refine Tr.seqC rfl (by simp) (Steps.call rfl rfl k2 (Steps.fin rfl (by simp) ?_))
  refine Tr.seqC rfl (by simp) (Steps.call rfl rfl (c_SameImage c c r r (by omega)) (Steps.run rfl (by simp) ?_))
  refine Steps.gcall rfl rfl rfl rfl (by simp) (fun _ => c_works) (Steps.fin rfl (by simp) (Tr.retX rfl rfl rfl ?_ trivial))
  simp [packR]

end Go.Proofs.Ytkifejklnpddbaa

/-! Plain facts for VolumeFar: what is named among all echoes, and among the near ones; contracts: Equal, Verify. -/
set_option linter.unusedVariables false
set_option linter.unusedSimpArgs false
set_option maxRecDepth 20000
set_option maxHeartbeats 2000000
namespace Go.Proofs.Ytkifejklnpddbaa
open Go.Am

/-- The near echoes, with where they are. -/
def pickE (aper x y : Int) : List Echo → Nat → List (Nat × Echo)
  | [], _ => []
  | e :: r, k => if hears aper x y e then (k, e) :: pickE aper x y r (k + 1) else pickE aper x y r (k + 1)

/-- What is named: where it is among all, where among the near ones, and the time. -/
def zipG (z slow x y : Int) : List (Nat × Echo) → Nat → List (Nat × Nat × Int)
  | [], _ => []
  | (q, e) :: r, j => if timeN z (dst x y e) slow < (e.s.length : Int) then (q, j, timeN z (dst x y e) slow) :: zipG z slow x y r (j + 1) else zipG z slow x y r (j + 1)

theorem pickE_spec {aper x y : Int} : ∀ {l : List Echo} {k : Nat} {p : Nat × Echo}, p ∈ pickE aper x y l k → k ≤ p.1 ∧ l[p.1 - k]? = some p.2 ∧ hears aper x y p.2 = true
  | [], k, p, h => by simp [pickE] at h
  | e :: r, k, p, h => by
    have hrec : p ∈ pickE aper x y r (k + 1) → k ≤ p.1 ∧ (e :: r)[p.1 - k]? = some p.2 ∧ hears aper x y p.2 = true := fun h => by
      obtain ⟨h1, h2, h3⟩ := pickE_spec h
      refine ⟨by omega, ?_, h3⟩
      rw [show p.1 - k = (p.1 - (k + 1)) + 1 by omega]; simpa using h2
    unfold pickE at h
    split at h
    · rename_i he
      rcases List.mem_cons.1 h with rfl | h
      · exact ⟨Nat.le_refl _, by simp, he⟩
      · exact hrec h
    · exact hrec h

theorem nears_pick {aper x y : Int} : ∀ {l : List Echo} {k : Nat}, nears aper x y l k = (pickE aper x y l k).map fun p => ((p.1 : Int), dst x y p.2)
  | [], k => rfl
  | e :: r, k => by
    unfold nears pickE
    split
    · rw [nears_pick]; rfl
    · exact nears_pick

theorem named_zip {aper slow x y z : Int} {l : List Echo} : ∀ (P : List (Nat × Echo)) (j : Nat), (∀ p ∈ P, l[p.1]? = some p.2) →
    (P.map fun p => ((p.1 : Int), dst x y p.2)).filterMap (refOf ⟨l, aper, (slow, slow)⟩ z) = (zipG z slow x y P j).map fun a => ((a.1 : Int), a.2.2)
  | [], j, _ => rfl
  | (q, e) :: r, j, h => by
    have h1 := h (q, e) (by simp)
    have ih := named_zip (aper := aper) (slow := slow) (x := x) (y := y) (z := z) r (j + 1) (fun p hp => h p (List.mem_cons_of_mem _ hp))
    simp only [List.map_cons, List.filterMap_cons, refOf, Int.toNat_natCast, h1, Option.map_some, Option.getD_some, zipG]
    by_cases ht : timeN z (dst x y e) slow < (e.s.length : Int)
    · simp only [ht, if_true, List.map_cons]
      rw [← ih]
    · simp only [ht, if_false]
      rw [← ih]

theorem named_near {aper slow x y z : Int} {nl : List Echo} : ∀ (P : List (Nat × Echo)) (j : Nat), (∀ i (h : i < P.length), nl[j + i]? = some P[i].2) → (∀ p ∈ P, hears aper x y p.2 = true) →
    (nears aper x y (P.map (·.2)) j).filterMap (refOf ⟨nl, aper, (slow, slow)⟩ z) = (zipG z slow x y P j).map fun a => ((a.2.1 : Int), a.2.2)
  | [], j, _, _ => rfl
  | (q, e) :: r, j, h, hh => by
    have h0 : hears aper x y e = true := hh (q, e) (by simp)
    have h1 : nl[j]? = some e := h 0 (by simp)
    have ih := named_near (aper := aper) (slow := slow) (x := x) (y := y) (z := z) (nl := nl) r (j + 1) (fun i hi => by
      have := h (i + 1) (by simpa using hi)
      rw [show j + 1 + i = j + (i + 1) by omega]; simpa using this) (fun p hp => hh p (List.mem_cons_of_mem _ hp))
    simp only [List.map_cons, nears, h0, if_true, List.filterMap_cons, refOf, Int.toNat_natCast, h1, Option.map_some, Option.getD_some, zipG]
    by_cases ht : timeN z (dst x y e) slow < (e.s.length : Int)
    · simp only [ht, if_true, List.map_cons]
      rw [← ih]
    · simp only [ht, if_false]
      rw [← ih]

theorem zipG_spec {z slow x y : Int} : ∀ {P : List (Nat × Echo)} {j : Nat} {a : Nat × Nat × Int}, a ∈ zipG z slow x y P j → ∃ e, j ≤ a.2.1 ∧ P[a.2.1 - j]? = some (a.1, e) ∧ a.2.2 = timeN z (dst x y e) slow ∧ a.2.2 < (e.s.length : Int)
  | [], j, a, h => by simp [zipG] at h
  | (q, e) :: r, j, a, h => by
    have hrec : a ∈ zipG z slow x y r (j + 1) → ∃ e', j ≤ a.2.1 ∧ ((q, e) :: r)[a.2.1 - j]? = some (a.1, e') ∧ a.2.2 = timeN z (dst x y e') slow ∧ a.2.2 < (e'.s.length : Int) := fun h => by
      obtain ⟨e', h1, h2, h3, h4⟩ := zipG_spec h
      refine ⟨e', by omega, ?_, h3, h4⟩
      rw [show a.2.1 - j = (a.2.1 - (j + 1)) + 1 by omega]; simpa using h2
    unfold zipG at h
    split at h
    · rename_i ht
      rcases List.mem_cons.1 h with rfl | h
      · exact ⟨e, Nat.le_refl _, by simp, rfl, ht⟩
      · exact hrec h
    · exact hrec h

theorem pick_sorted {aper x y : Int} : ∀ (l : List Echo) (k : Nat), (pickE aper x y l k).Pairwise fun a b => a.1 < b.1
  | [], k => by simp [pickE]
  | e :: r, k => by
    unfold pickE
    split
    · refine List.pairwise_cons.2 ⟨fun p hp => ?_, pick_sorted r (k + 1)⟩
      have := (pickE_spec hp).1
      show k < p.1
      omega
    · exact pick_sorted r (k + 1)

theorem zip_sorted {z slow x y : Int} : ∀ (P : List (Nat × Echo)) (j : Nat), (P.Pairwise fun a b => a.1 < b.1) → (zipG z slow x y P j).Pairwise fun a b => a.1 < b.1
  | [], j, _ => by simp [zipG]
  | (q, e) :: r, j, h => by
    obtain ⟨h1, h2⟩ := List.pairwise_cons.1 h
    unfold zipG
    split
    · refine List.pairwise_cons.2 ⟨fun a ha => ?_, zip_sorted r (j + 1) h2⟩
      obtain ⟨e', _, g, _⟩ := zipG_spec ha
      exact h1 _ (List.mem_of_getElem? g)
    · exact zip_sorted r (j + 1) h2

/-- What is named among all, and among the near ones. -/
structure FarR (l : List Echo) (aper slow x y z : Int) (nl : List Echo) (wh : List Int) (A B : List (Int × Int)) : Prop where
  len : A.length = B.length
  each : ∀ i (h : i < A.length) (h' : i < B.length), ∃ (q t j : Nat) (hq : q < l.length) (ht : t < l[q].s.length) (hj : j < wh.length), A[i] = ((q : Int), (t : Int)) ∧ B[i] = ((j : Int), (t : Int)) ∧ wh[j] = (q : Int) ∧ boundAt ⟨l, aper, (slow, slow)⟩ A[i] = l[q].s[t]
  up : ∀ i j (h : i < A.length) (h' : j < A.length), i < j → A[i].1 < A[j].1
  named : namedL ⟨l, aper, (slow, slow)⟩ x y z = A
  namedN : namedL ⟨nl, aper, (slow, slow)⟩ x y z = B
  value : valueB ⟨nl, aper, (slow, slow)⟩ x y z = valueB ⟨l, aper, (slow, slow)⟩ x y z

theorem far_of (l : List Echo) (aper slow x y z : Int) : ∃ A B, FarR l aper slow x y z ((pickE aper x y l 0).map (·.2)) ((pickE aper x y l 0).map fun p => (p.1 : Int)) A B := by
  have hP : ∀ p ∈ pickE aper x y l 0, l[p.1]? = some p.2 := fun p hp => by simpa using (pickE_spec hp).2.1
  have hH : ∀ p ∈ pickE aper x y l 0, hears aper x y p.2 = true := fun p hp => (pickE_spec hp).2.2
  have e1 : namedL ⟨l, aper, (slow, slow)⟩ x y z = (zipG z slow x y (pickE aper x y l 0) 0).map fun a => ((a.1 : Int), a.2.2) := by
    unfold namedL
    rw [nears_pick]
    exact named_zip (x := x) (y := y) _ 0 hP
  have e2 : namedL ⟨(pickE aper x y l 0).map (·.2), aper, (slow, slow)⟩ x y z = (zipG z slow x y (pickE aper x y l 0) 0).map fun a => ((a.2.1 : Int), a.2.2) := by
    unfold namedL
    exact named_near _ 0 (fun i h => by rw [Nat.zero_add, List.getElem?_map, List.getElem?_eq_getElem h]; rfl) hH
  have hz : ∀ a ∈ zipG z slow x y (pickE aper x y l 0) 0, ∃ (t j : Nat) (e : Echo) (hj : j < (pickE aper x y l 0).length) (ht : t < e.s.length), a = (a.1, j, (t : Int)) ∧ (pickE aper x y l 0)[j] = (a.1, e) := fun a ha => by
    obtain ⟨e, h1, h2, h3, h4⟩ := zipG_spec ha
    have h5 := timeN_nn z (dst x y e) slow
    rw [Nat.sub_zero] at h2
    have hj := (List.getElem?_eq_some_iff.1 h2).1
    obtain ⟨t, ht⟩ : ∃ t : Nat, a.2.2 = (t : Int) := ⟨a.2.2.toNat, by omega⟩
    refine ⟨t, a.2.1, e, hj, by omega, ?_, (List.getElem?_eq_some_iff.1 h2).2⟩
    rw [← ht]
  have bnd : ∀ a ∈ zipG z slow x y (pickE aper x y l 0) 0, boundAt ⟨(pickE aper x y l 0).map (·.2), aper, (slow, slow)⟩ ((a.2.1 : Int), a.2.2) = boundAt ⟨l, aper, (slow, slow)⟩ ((a.1 : Int), a.2.2) := fun a ha => by
    obtain ⟨t, j, e, hj, ht, h1, h2⟩ := hz a ha
    have h3 : (a.1, e) ∈ pickE aper x y l 0 := h2 ▸ List.getElem_mem hj
    have h4 := hP _ h3
    rw [h1]
    simp only [boundAt, Int.toNat_natCast, List.getElem?_map, List.getElem?_eq_getElem hj, h2, h4, Option.map_some]
  refine ⟨_, _, ⟨by rw [List.length_map, List.length_map], fun i h h' => ?_, fun i j h h' hij => ?_, e1, e2, ?_⟩⟩
  · rw [List.length_map] at h
    obtain ⟨t, j, e, hj, ht, h1, h2⟩ := hz _ (List.getElem_mem h)
    obtain ⟨q0, hq0⟩ : ∃ q0, (zipG z slow x y (pickE aper x y l 0) 0)[i].1 = q0 := ⟨_, rfl⟩
    rw [hq0] at h1 h2
    have h3 : l[q0]? = some e := hP _ (h2 ▸ List.getElem_mem hj)
    obtain ⟨hq, h4⟩ := List.getElem?_eq_some_iff.1 h3
    subst h4
    refine ⟨_, t, j, hq, ht, by simpa using hj, ?_, ?_, ?_, ?_⟩
    · rw [List.getElem_map, h1]
    · rw [List.getElem_map, h1]
    · rw [List.getElem_map, h2]
    · rw [List.getElem_map, h1]
      simp only [boundAt, Int.toNat_natCast, h3, Option.map_some, Option.getD_some, List.getElem?_eq_getElem ht]
  · rw [List.length_map] at h h'
    rw [List.getElem_map, List.getElem_map]
    have := List.pairwise_iff_getElem.1 (zip_sorted (z := z) (slow := slow) (x := x) (y := y) _ 0 (pick_sorted l 0 (aper := aper) (x := x) (y := y))) i j h h' hij
    exact Int.ofNat_lt.2 this
  · unfold valueB
    rw [e1, e2, List.map_map, List.map_map]
    congr 1
    exact List.map_congr_left fun a ha => bnd a ha

theorem pickE_append (aper x y : Int) : ∀ (a b : List Echo) (k : Nat), pickE aper x y (a ++ b) k = pickE aper x y a k ++ pickE aper x y b (k + a.length)
  | [], b, k => by simp [pickE]
  | e :: r, b, k => by
    have ih := pickE_append aper x y r b (k + 1)
    simp only [List.cons_append, pickE, ih, List.length_cons]
    rw [show k + 1 + r.length = k + (r.length + 1) by omega]
    split
    · rfl
    · rfl

theorem pickE_take {aper x y : Int} {l : List Echo} {i : Nat} (h : i < l.length) : pickE aper x y (l.take (i + 1)) 0 = pickE aper x y (l.take i) 0 ++ if hears aper x y l[i] then [(i, l[i])] else [] := by
  rw [List.take_add_one, List.getElem?_eq_getElem h, pickE_append]
  simp only [Option.toList, pickE, List.length_take, Nat.zero_add, Nat.min_eq_left (Nat.le_of_lt h)]

theorem pickE_len {aper x y : Int} : ∀ (l : List Echo) (k : Nat), (pickE aper x y l k).length ≤ l.length
  | [], k => by simp [pickE]
  | e :: r, k => by
    have := pickE_len (aper := aper) (x := x) (y := y) r (k + 1)
    unfold pickE
    split <;> simp <;> omega

/-! ### Contracts -/
attribute [local simp] cells scalar mkv splice under2 under dem dem1 eB

theorem c_EqualR (l l' : List (Int × Int)) (hl : l.length ≤ 9223372036854775807) : C Try.prog F.slices_Equal_api_Ref_api_Ref [.slice 0 2 (l.map eB), .slice 0 2 (l'.map eB)] (.bool (decide (l = l'))) := by
  refine C_of mixed chk.slices_Equal_api_Ref_api_Ref (by simp) fun S ok => ?_
  refine Tr.seqR rfl (by simp) (Tr.seq (Tr.seqR rfl (by simp) ?_))
  refine Tr.cond rfl rfl (fun h1 => Tr.seqR rfl (by simp) (Tr.retX rfl rfl rfl ?_ trivial)) (fun h1 => Tr.skip ?_)
  · have h1 : (((l.map eB).length : Int) != ((l'.map eB).length : Int)) = true := h1
    simp only [packR, V.bool.injEq]
    rw [decide_eq_false]
    rintro rfl
    simp at h1
  have h1 : (((l.map eB).length : Int) != ((l'.map eB).length : Int)) = false := h1
  have hll : l.length = l'.length := by simp at h1; omega
  refine Tr.seq (Tr.seqR rfl (by simp) (Tr.block ?_))
  refine Tr.loop (fun k st => (k ≤ l.length ∧ l.take k = l'.take k) ∧ st = { env := [(0, .slice 0 2 (l.map eB)), (1, .slice 0 2 (l'.map eB)), (12, I l.length), (13, I k)], bx := [], rw := [], log := [], stp := false }) (fun k => l.length - k) 0
    (Wk.le (.cons rfl (.refl _) (.cons rfl (.refl _) (.cons rfl (VLe.i (by simp)) (.cons rfl (.refl _) .nil)))) .nil .nil rfl rfl) ⟨⟨by omega, by simp⟩, rfl⟩ ?_
  rintro k st ⟨⟨hk, he⟩, rfl⟩
  refine Tr.seqR rfl (by simp) (Tr.seqI rfl (fun h3 => ?_) (fun h3 => ?_))
  · have h3 : k < l.length := by simpa using h3
    have h4 : k < l'.length := by omega
    refine Tr.skipT (Tr.seq (Tr.block (Tr.seqR rfl (by simp) (Tr.seq (Tr.drawK (TraceK.runN 3 rfl (by simp; omega) ?_))))))
    rw [getD_map h3]
    refine TraceK.runN 4 rfl (by simp; omega) ?_
    rw [getD_map h4]
    refine TraceK.run rfl (by simp) (.done ⟨by kernel_rfl, by kernel_rfl, ?_⟩)
    refine Tr.cond rfl rfl (fun h5 => Tr.seqR rfl (by simp) (Tr.retX rfl rfl rfl ?_ trivial)) (fun h5 => Tr.skip (Tr.regR rfl (by simp) ?_))
    · have h5 : (!(l[k].1 == l'[k].1 && (l[k].2 == l'[k].2 && true))) = true := h5
      rw [eB_inj] at h5
      simp only [packR, V.bool.injEq]
      rw [decide_eq_false]
      rintro rfl
      simp at h5
    · have h5 : (!(l[k].1 == l'[k].1 && (l[k].2 == l'[k].2 && true))) = false := h5
      rw [eB_inj] at h5
      have h5 : l[k] = l'[k] := by simpa using h5
      exact ⟨k + 1, _, Wk.le (.cons rfl (.refl _) (.cons rfl (.refl _) (.cons rfl (.refl _) (.cons rfl (VLe.i (w64 (by omega) (by omega))) .nil)))) .nil .nil rfl rfl, ⟨⟨h3, take_ext h3 h4 he h5⟩, rfl⟩, by omega⟩
  · have h3 : k = l.length := by simp at h3; omega
    subst h3
    refine Tr.exit (Tr.seqR rfl (by simp) (Tr.retX rfl rfl rfl ?_ trivial))
    rw [List.take_length, hll, List.take_length] at he
    simp [packR, he]

theorem c_Verify {l : List Echo} (hl : sane l) (x y z aper slow : Int) {a b c e : Int} {s s' : Int × Int} {r r' : List (Int × Int)} (hN : nameS l x y z aper slow = .tuple [.agg [I a, I b, I c, .slice 0 2 (r.map eB), I s.1, I s.2], I e]) (hr : r.length ≤ 9223372036854775807) :
    C Try.prog F.volume_Verify [sE l, I aper, I slow, .agg [I x, I y, I z, .slice 0 2 (r'.map eB), I s'.1, I s'.2]] (.tuple [.bool (decide (e = 0) && decide (s = s' ∧ r = r')), I e]) := by
  refine C_of mixed chk.volume_Verify (by simp) fun S ok => ?_
  refine Tr.seqR rfl (by simp) ?_
  refine Tr.seqC rfl (by simp) (Steps.call rfl rfl (hN ▸ c_NameS hl x y z aper slow) (Steps.fin rfl (by simp) ?_))
  refine Tr.seq (Tr.seqR rfl (by simp) (Tr.cond rfl rfl (fun h => Tr.seqR rfl (by simp) (Tr.retX rfl rfl rfl ?_ trivial)) (fun h => Tr.skip ?_)))
  · have h : (e != 0) = true := h
    have h : e ≠ 0 := by simpa using h
    simp [packR, h]
  have h : (e != 0) = false := h
  have h : e = 0 := by simpa using h
  subst h
  refine Tr.seqC rfl (by simp) (Steps.gcall rfl rfl rfl rfl (by simp) (fun _ => c_EqualR r r' hr) (Steps.fin rfl (by simp) (Tr.retX rfl rfl rfl ?_ trivial)))
  have e1 : (bif (s.1 == s'.1 && (s.2 == s'.2 && true)) then decide (r = r') else false) = (decide ((0 : Int) = 0) && decide (s = s' ∧ r = r')) := by
    rw [eB_inj]
    by_cases h1 : s = s' <;> by_cases h2 : r = r' <;> simp [h1, h2]
  show _ = V.tuple [.bool (bif (s.1 == s'.1 && (s.2 == s'.2 && true)) then decide (r = r') else false), I 0]
  rw [e1]

theorem c_added (a b : Int × Int) : C Try.prog F.law10_added [eB a, eB b] (eB (plusB a b)) := by
  refine C_of mixed chk.law10_added (by simp) fun S ok => ?_
  refine Tr.seqR rfl (by simp) ?_
  exact Tr.seqR rfl (by simp) (Tr.retQ rfl rfl rfl trivial)

end Go.Proofs.Ytkifejklnpddbaa

/-! The law VolumeLinear. -/
set_option linter.unusedVariables false
set_option linter.unusedSimpArgs false
set_option maxRecDepth 20000
set_option maxHeartbeats 4000000
namespace Go.Proofs.Ytkifejklnpddbaa
open Go.Am
attribute [local simp] cells scalar mkv splice under2 under dem dem1 boxC cellC eE sB eB

/-- Sums so far. -/
def flatB (L : List (Int × Int)) : List V := L.flatMap fun a => [I a.1, I a.2]

theorem flatB_len (L : List (Int × Int)) : (flatB L).length = 2 * L.length := by
  unfold flatB
  induction L with
  | nil => rfl
  | cons a L ih => rw [List.flatMap_cons, List.length_append, ih]; simp; omega

theorem flatB_drop : ∀ (L : List (Int × Int)) (k : Nat), List.drop (2 * k) (flatB L) = flatB (L.drop k)
  | L, 0 => by simp
  | [], k + 1 => by simp [flatB]
  | a :: L, k + 1 => by
    have e : flatB (a :: L) = I a.1 :: I a.2 :: flatB L := rfl
    rw [e, show 2 * (k + 1) = 2 * k + 1 + 1 by omega, List.drop_succ_cons, List.drop_succ_cons, List.drop_succ_cons, flatB_drop L k]

theorem flatB_take : ∀ (L : List (Int × Int)) (k : Nat), List.take (2 * k) (flatB L) = flatB (L.take k)
  | L, 0 => by simp [flatB]
  | [], k + 1 => by simp [flatB]
  | a :: L, k + 1 => by
    have e : flatB (a :: L) = I a.1 :: I a.2 :: flatB L := rfl
    rw [e, show 2 * (k + 1) = 2 * k + 1 + 1 by omega, List.take_succ_cons, List.take_succ_cons, List.take_succ_cons, flatB_take L k]
    rfl

theorem flatB_app (L M : List (Int × Int)) : flatB (L ++ M) = flatB L ++ flatB M := by
  unfold flatB; rw [List.flatMap_append]

theorem flatB_set (L : List (Int × Int)) (k : Nat) (hk : k < L.length) (c : Int × Int) : List.take (2 * k) (flatB L) ++ [I c.1, I c.2] ++ List.drop (2 * k + 2) (flatB L) = flatB (L.take k ++ c :: L.drop (k + 1)) := by
  rw [flatB_take, show 2 * k + 2 = 2 * (k + 1) by omega, flatB_drop, flatB_app, List.append_assoc]
  rfl

theorem flatB_refs (L : List (Int × Int)) (B : Nat → Bool) (R : Nat → Option (Nat × Nat × Nat)) : (flatB L).all (refsOk B R 6) = true := by
  rw [List.all_eq_true]
  intro x hx
  obtain ⟨a, _, h⟩ := List.mem_flatMap.1 hx
  rcases List.mem_cons.1 h with rfl | h
  · rfl
  · rw [List.mem_singleton] at h; subst h; rfl

theorem ok183 {L : List (Int × Int)} {env : List (Nat × V)} {bx : List (Nat × Box)} {rw : List (Nat × Nat × Nat × Nat)} (h : okRefs env ((183, ⟨[], false⟩) :: bx) rw = true) : okRefs env ((183, ⟨flatB L, false⟩) :: bx) rw = true := by
  have e : hasKey ((183, (⟨flatB L, false⟩ : Box)) :: bx) = hasKey ((183, (⟨[], false⟩ : Box)) :: bx) := rfl
  unfold okRefs at h ⊢
  rw [e]
  rw [Bool.and_eq_true] at h ⊢
  refine ⟨h.1, ?_⟩
  have h2 := h.2
  rw [List.all_cons, Bool.and_eq_true] at h2 ⊢
  exact ⟨flatB_refs _ _ _, h2.2⟩

theorem flatB_zero (n : Nat) : (List.replicate n [I 0, I 0]).flatten = flatB (List.replicate n (0, 0)) := by
  induction n with
  | zero => rfl
  | succ n ih => rw [List.replicate_succ, List.flatten_cons, ih]; rfl

/-- What Migrate returns for a box, if all is in order. -/
theorem val_ok {l : List Echo} {b : Bx} {aper slow : Int} (hE : echoesOk l = true) (hA : earOk aper (slow, slow) = true) (hb : boxOk b = true) : valS l b aper slow = .tuple [.agg [I b.x, I b.y, I b.z, I b.a, I b.b, I b.c, .slice 0 2 (((boxCells b).map (valOf l aper slow)).map eB)], I 0] := by
  show boxR _ _ _ _ _ _ = _
  unfold boxR imageR
  rw [if_pos hE, if_pos hA, if_pos hb, List.map_map]
  rfl

theorem sane_of {l : List Echo} (h : echoesOk l = true) : sane l := by
  obtain ⟨h1, h2⟩ := echoesOk_spec h
  exact ⟨by omega, fun e he => by have := (echoOk_spec (h2 e he)).2.1; omega⟩

theorem c_VolumeLinear {l : List Echo} {more : List Int} (hl : sane l) (hm : more.length ≤ 9223372036854775807) (b : Bx) (aper : Int) (slow : Int × Int) : C Try.prog F.law10_VolumeLinear [sE l, intsV more, .agg [I b.x, I b.y, I b.z, I b.a, I b.b, I b.c, I aper, I slow.1, I slow.2]] (.bool true) := by
  refine C_of mixed chk.law10_VolumeLinear (by simp) fun S ok => ?_
  refine Tr.seqR rfl (by simp) ?_
  have k1 := c_Migrate hl b aper slow.1
  by_cases hOk : (echoesOk l = true ∧ earOk aper (slow.1, slow.1) = true ∧ boxOk b = true)
  rotate_left
  · obtain ⟨e, he, hr⟩ : ∃ e : Int, e ≠ 0 ∧ valS l b aper slow.1 = .tuple [.agg [I 0, I 0, I 0, I 0, I 0, I 0, .slice 0 2 []], I e] := by
      show ∃ e : Int, e ≠ 0 ∧ boxR _ _ _ _ _ _ = _
      unfold boxR imageR
      by_cases h1 : echoesOk l = true
      · rw [if_pos h1]
        by_cases h2 : earOk aper (slow.1, slow.1) = true
        · rw [if_pos h2]
          by_cases h3 : boxOk b = true
          · exact absurd ⟨h1, h2, h3⟩ hOk
          · rw [if_neg h3]; exact ⟨102, by omega, rfl⟩
        · rw [if_neg h2]; exact ⟨102, by omega, rfl⟩
      · rw [if_neg h1]; exact ⟨100, by omega, rfl⟩
    rw [hr] at k1
    refine Tr.seqC rfl (by simp) (Steps.call rfl rfl k1 (Steps.fin rfl (by simp) ?_))
    refine Tr.seq (Tr.seqR rfl (by simp) (Tr.cond rfl rfl (fun _ => ?_) (fun h => ?_)))
    · refine Tr.seqC rfl (by simp) (Steps.gcall rfl rfl rfl rfl (by simp) (fun _ => c_works) (Steps.fin rfl (by simp) (Tr.retX rfl rfl rfl ?_ trivial)))
      simp [packR]
    · have h : (e != 0) = false := h
      simp at h; exact absurd h he
  obtain ⟨hE, hA, hB⟩ := hOk
  obtain ⟨hE1, hE2⟩ := echoesOk_spec hE
  have hcl := boxCells_len (boxOk_spec hB).1
  rw [val_ok hE hA hB] at k1
  obtain ⟨AL, hAL⟩ : ∃ AL, (boxCells b).map (valOf l aper slow.1) = AL := ⟨_, rfl⟩
  have hALl : AL.length = (boxCells b).length := by rw [← hAL, List.length_map]
  rw [hAL] at k1
  refine Tr.seqC rfl (by simp) (Steps.call rfl rfl k1 (Steps.fin rfl (by simp) ?_))
  refine Tr.seq (Tr.seqR rfl (by simp) (Tr.condF rfl (Tr.skip ?_)))
  refine Tr.seqR rfl (by simp) (Tr.seq (Tr.seqR rfl (by simp) (Tr.block ?_)))
  refine Tr.loop (fun i s => i ≤ l.length ∧ s = { env := [(0, sE l), (1, intsV more), (5, .ptr 5 0), (7, .ptr 7 0), (9, .slice 123 3 ((List.range i).map fun i => eE (othE more l i))), (10, .slice 127 3 ((List.range i).map fun i => eE (botE more l i))), (11, I i)], bx := [(5, ⟨[I b.x, I b.y, I b.z, I b.a, I b.b, I b.c, I aper, I slow.1, I slow.2], false⟩), (7, ⟨[I b.x, I b.y, I b.z, I b.a, I b.b, I b.c, .slice 0 2 (AL.map eB)], false⟩)], rw := [(122, i, 3, 79), (126, i, 3, 79)], log := [], stp := false }) (fun i => l.length - i) 0
    (Wk.le (.cons rfl (.refl _) (.cons rfl (.refl _) (.cons rfl (.refl _) (.cons rfl (.refl _) (.cons rfl (.nil 123 3) (.cons rfl (.nil 127 3) (.cons rfl (.refl _) .nil)))))))
      (.cons rfl (LLe.refl _) (.cons rfl (LLe.refl _) .nil)) (.new rfl (.new rfl .nil)) rfl rfl) ⟨by omega, rfl⟩ ?_
  rintro i s ⟨hi, rfl⟩
  refine Tr.seq (Tr.seqR rfl (by simp [sE]) (Tr.cond rfl rfl (fun h3 => Tr.skip ?_) (fun h3 => Tr.exit ?_)))
  · have h3 : i < l.length := by simpa [sE] using h3
    have el := echoAt_eq h3
    obtain ⟨⟨x, y, es⟩, hx⟩ : ∃ e, l[i] = e := ⟨_, rfl⟩
    rw [hx] at el
    have hsl : es.length ≤ 64 := by
      have := (echoOk_spec (hE2 _ (List.getElem_mem h3))).2.1
      rw [hx] at this; exact this.2
    refine Tr.seq (Tr.block (Tr.seq (Tr.drawK (TraceK.runN 3 rfl (by simp [sE]; omega) ?_))))
    rw [getD_map h3, hx]
    refine TraceK.runN 5 rfl (by simp [sE]; omega) ?_
    rw [getD_map h3, hx]
    refine TraceK.runN 6 rfl (by simp [sE]; omega) ?_
    rw [getD_map h3, hx]
    refine TraceK.runN 5 rfl (by simp [sE]; omega) ?_
    rw [getD_map h3, hx]
    refine TraceK.run rfl (by simp) (.done ⟨by kernel_rfl, by kernel_rfl, ?_⟩)
    refine Tr.seq (Tr.seqR rfl (by simp) (Tr.block ?_))
    refine Tr.loop (fun k s => k ≤ es.length ∧ s = { env := [(0, sE l), (1, intsV more), (5, .ptr 5 0), (7, .ptr 7 0), (9, .slice 123 3 ((List.range i).map fun i => eE (othE more l i))), (10, .slice 127 3 ((List.range i).map fun i => eE (botE more l i))), (11, I i), (12, .ptr 12 0), (13, .ptr 13 0), (14, I k)], bx := [(5, ⟨[I b.x, I b.y, I b.z, I b.a, I b.b, I b.c, I aper, I slow.1, I slow.2], false⟩), (7, ⟨[I b.x, I b.y, I b.z, I b.a, I b.b, I b.c, .slice 0 2 (AL.map eB)], false⟩), (12, ⟨[I x, I y, .slice 101 2 ((othS more i k).map eB)], false⟩), (13, ⟨[I x, I y, .slice 118 2 ((botS more i es k).map eB)], false⟩)], rw := [(122, i, 3, 79), (126, i, 3, 79), (100, k, 2, 33), (117, k, 2, 33)], log := [], stp := false }) (fun k => es.length - k) 0
      (Wk.le (.cons rfl (.refl _) (.cons rfl (.refl _) (.cons rfl (.refl _) (.cons rfl (.refl _) (.cons rfl (.refl _) (.cons rfl (.refl _) (.cons rfl (.refl _) (.cons rfl (.refl _) (.cons rfl (.refl _) (.cons rfl (.refl _) .nil))))))))))
        (.cons rfl (LLe.refl _) (.cons rfl (LLe.refl _) (.cons rfl (.cons (.refl _) (.cons (.refl _) (.cons (.nil 101 2) .nil))) (.cons rfl (.cons (.refl _) (.cons (.refl _) (.cons (.nil 118 2) .nil))) .nil)))) (.cons rfl (.cons rfl (.new rfl (.new rfl .nil)))) rfl rfl) ⟨by omega, rfl⟩ ?_
    rintro k s ⟨hk, rfl⟩
    refine Tr.seq (Tr.seqN 4 rfl (by simp [sE]; omega) ?_)
    rw [getD_map h3, hx]
    refine Steps.fin rfl (by simp) (Tr.cond rfl rfl (fun h4 => Tr.skip ?_) (fun h4 => Tr.exit ?_))
    rotate_left
    · have h4 : k = es.length := by simp at h4; omega
      subst h4
      refine Tr.drawR rfl (by simp [othS, botS]; omega) (by kernel_rfl) (Tr.regR rfl (by simp) ?_)
      refine ⟨i + 1, _, Wk.le (.cons rfl (.refl _) (.cons rfl (.refl _) (.cons rfl (.refl _) (.cons rfl (.refl _) (.cons rfl (.of_eq ?_) (.cons rfl (.of_eq ?_) (.cons rfl (VLe.i (w64 (by omega) (by omega))) .nil)))))))
        (.cons rfl (LLe.refl _) (.cons rfl (LLe.refl _) .nil)) (.cons ?_ (.cons ?_ .nil)) rfl rfl, ⟨h3, rfl⟩, by omega⟩
      · rw [List.range_succ, List.map_append, List.map_cons, List.map_nil, othE, el]; simp
      · rw [List.range_succ, List.map_append, List.map_cons, List.map_nil, botE, el]; simp
      · show some _ = some _
        simp
      · show some _ = some _
        simp
    have h4 : k < es.length := by simpa using h4
    have hpick := c_Pick more (5 * (i : Int) + (k : Int)) hm
    have hidx : IntKind.i64.wrap (IntKind.i64.wrap (5 * (i : Int)) + (k : Int)) = 5 * (i : Int) + (k : Int) := by rw [w64 (n := 5 * (i : Int)) (by omega) (by omega)]; exact w64 (by omega) (by omega)
    have hnb := restI_bd (n := pickI more (5 * (i : Int) + (k : Int))) (m := 2001) (by omega)
    have hno : IntKind.i64.wrap (restI (pickI more (5 * (i : Int) + (k : Int))) 2001 - 1000) = noiseI more i k := w64 (by omega) (by omega)
    rw [← hidx] at hpick
    refine Tr.seq (Tr.block (Tr.seqC rfl (by simp [intsV]) (Steps.call rfl rfl hpick ?_)))
    rw [hidx]
    refine Steps.call rfl rfl (c_Rest _ 2001 (by omega)) (Steps.fin rfl (by simp) ?_)
    rw [hno]
    have eo : othS more i (k + 1) = othS more i k ++ [(noiseI more i k, noiseI more i k)] := by unfold othS; rw [List.range_succ, List.map_append]; rfl
    have eb : botS more i es (k + 1) = botS more i es k ++ [plusB es[k] (noiseI more i k, noiseI more i k)] := by
      unfold botS; rw [List.range_succ, List.map_append]
      simp [List.getElem?_eq_getElem h4]
    refine Tr.seqR rfl (by simp [othS]; omega) ?_
    refine Tr.drawK (TraceK.runN 5 rfl (by simp [sE]; omega) ?_)
    rw [getD_map h3, hx]
    refine TraceK.runN 4 rfl (by simp; omega) ?_
    rw [getD_map h4]
    refine TraceK.run rfl (by simp) (TraceK.call rfl rfl (c_added es[k] (noiseI more i k, noiseI more i k)) (TraceK.run rfl (by simp [botS]; omega) (.done ⟨by kernel_rfl, by kernel_rfl, ?_⟩)))
    refine Tr.regR rfl (by simp) ?_
    refine ⟨k + 1, _, Wk.le (.cons rfl (.refl _) (.cons rfl (.refl _) (.cons rfl (.refl _) (.cons rfl (.refl _) (.cons rfl (.refl _) (.cons rfl (.refl _) (.cons rfl (.refl _) (.cons rfl (.refl _) (.cons rfl (.refl _) (.cons rfl (VLe.i (w64 (by omega) (by omega))) .nil))))))))))
      (.cons rfl (LLe.refl _) (.cons rfl (LLe.refl _) (.cons rfl (.cons (.refl _) (.cons (.refl _) (.cons (.of_eq ?_) .nil))) (.cons rfl (.cons (.refl _) (.cons (.refl _) (.cons (.of_eq ?_) .nil))) .nil)))) (.cons rfl (.cons rfl (.cons ?_ (.cons ?_ .nil)))) rfl rfl, ⟨h4, rfl⟩, by omega⟩
    · rw [eo]; simp
    · rw [eb]; simp
    · show some _ = some _
      simp [othS]
    · show some _ = some _
      simp [botS]
  have h3 : i = l.length := by simp [sE] at h3; omega
  subst h3
  obtain ⟨oL, hoL⟩ : ∃ oL, (List.range l.length).map (othE more l) = oL := ⟨_, rfl⟩
  obtain ⟨bL, hbL⟩ : ∃ bL, (List.range l.length).map (botE more l) = bL := ⟨_, rfl⟩
  have eo : ((List.range l.length).map fun i => eE (othE more l i)) = oL.map eE := by rw [← hoL, List.map_map]; rfl
  have eb : ((List.range l.length).map fun i => eE (botE more l i)) = bL.map eE := by rw [← hbL, List.map_map]; rfl
  have hadd : ∀ p, valOf bL aper slow.1 p = plusB (valOf l aper slow.1 p) (valOf oL aper slow.1 p) := fun p => by rw [← hbL, ← hoL]; exact value_add more l aper slow.1 p
  have hoE : echoesOk oL = true := by rw [← hoL]; exact oth_ok hE
  have hbS : sane bL := by
    rw [← hbL]
    refine ⟨by simp; omega, fun e he => ?_⟩
    obtain ⟨i, hi, rfl⟩ := List.mem_map.1 he
    have hi : i < l.length := by simpa using hi
    have := (echoOk_spec (hE2 _ (List.getElem_mem hi))).2.1
    simp [botE, botS, echoAt_eq hi]; omega
  have k2 := c_Migrate (sane_of hoE) b aper slow.1
  have k3 := c_Migrate hbS b aper slow.1
  rw [val_ok hoE hA hB] at k2
  obtain ⟨BL, hBL⟩ : ∃ BL, (boxCells b).map (valOf oL aper slow.1) = BL := ⟨_, rfl⟩
  have hBLl : BL.length = AL.length := by rw [← hBL, List.length_map, hALl]
  rw [hBL] at k2
  refine Tr.weak (s' := { env := [(0, sE l), (5, .ptr 5 0), (7, .ptr 7 0), (9, sE oL), (10, sE bL)], bx := [(5, ⟨[I b.x, I b.y, I b.z, I b.a, I b.b, I b.c, I aper, I slow.1, I slow.2], false⟩), (7, ⟨[I b.x, I b.y, I b.z, I b.a, I b.b, I b.c, .slice 0 2 (AL.map eB)], false⟩)], rw := [], log := [], stp := false })
    (Wk.le (.cons rfl (.refl _) (.cons rfl (.refl _) (.cons rfl (.refl _) (.cons rfl (by rw [eo]; exact .dem _ _ _) (.cons rfl (by rw [eb]; exact .dem _ _ _) .nil)))))
      (.cons rfl (LLe.refl _) (.cons rfl (LLe.refl _) .nil)) .nil rfl rfl) ?_
  clear eo eb hoL hbL
  refine Tr.seqC rfl (by simp) (Steps.call rfl rfl k2 (Steps.fin rfl (by simp) ?_))
  by_cases hbE : echoesOk bL = true
  rotate_left
  · have hr : valS bL b aper slow.1 = .tuple [.agg [I 0, I 0, I 0, I 0, I 0, I 0, .slice 0 2 []], I 100] := by
      show boxR _ _ _ _ _ _ = _
      unfold boxR
      rw [if_neg hbE]; rfl
    rw [hr] at k3
    refine Tr.seqC rfl (by simp) (Steps.call rfl rfl k3 (Steps.fin rfl (by simp) ?_))
    refine Tr.seq (Tr.seqR rfl (by simp) (Tr.cond rfl rfl (fun h => ?_) (fun _ => Tr.skip ?_)))
    · exfalso; revert h; simp [hBLl]
    refine Tr.seq (Tr.seqR rfl (by simp) (Tr.condT rfl ?_))
    refine Tr.seqC rfl (by simp) (Steps.gcall rfl rfl rfl rfl (by simp) (fun _ => c_works) (Steps.fin rfl (by simp) (Tr.retX rfl rfl rfl ?_ trivial)))
    simp [packR]
  rw [val_ok hbE hA hB] at k3
  obtain ⟨CL, hCL⟩ : ∃ CL, (boxCells b).map (valOf bL aper slow.1) = CL := ⟨_, rfl⟩
  have hCLl : CL.length = AL.length := by rw [← hCL, List.length_map, hALl]
  rw [hCL] at k3
  have hsum : ∀ k (h1 : k < AL.length) (h2 : k < BL.length) (h3 : k < CL.length), CL[k] = plusB AL[k] BL[k] := by
    intro k h1 h2 h3
    subst hAL hBL hCL
    simp only [List.getElem_map]
    exact hadd _
  refine Tr.seqC rfl (by simp) (Steps.call rfl rfl k3 (Steps.fin rfl (by simp) ?_))
  refine Tr.seq (Tr.seqR rfl (by simp) (Tr.cond rfl rfl (fun h => ?_) (fun _ => Tr.skip ?_)))
  · exfalso; revert h; simp [hBLl]
  refine Tr.seq (Tr.seqR rfl (by simp) (Tr.condF rfl (Tr.skip ?_)))
  refine Tr.seq (Tr.seqR rfl (by simp) (Tr.cond rfl rfl (fun h => ?_) (fun _ => Tr.skip ?_)))
  · exfalso; revert h; simp [hCLl]
  refine Tr.seqR rfl (by simp; omega) (Tr.seq (Tr.seqR rfl (by simp) (Tr.block ?_)))
  have hz : (boxCells b).map (valOf [] aper slow.1) = List.replicate AL.length (0, 0) := by
    rw [hALl]
    generalize boxCells b = L
    induction L with
    | nil => rfl
    | cons p L ih => rw [List.map_cons, ih, List.length_cons, List.replicate_succ, value_gives]; rfl
  have hlen : ∀ i, ((boxCells b).map (valOf (l.take i) aper slow.1)).length = AL.length := fun i => by rw [List.length_map, hALl]
  refine Tr.loop (fun i s => i ≤ l.length ∧ s = { env := [(0, sE l), (5, .ptr 5 0), (7, .ptr 7 0), (16, .ptr 16 0), (17, .ptr 17 0), (19, .bsl 183 0 2 AL.length), (20, I i)], bx := [(183, ⟨flatB ((boxCells b).map (valOf (l.take i) aper slow.1)), false⟩), (5, ⟨[I b.x, I b.y, I b.z, I b.a, I b.b, I b.c, I aper, I slow.1, I slow.2], false⟩), (7, ⟨[I b.x, I b.y, I b.z, I b.a, I b.b, I b.c, .slice 0 2 (AL.map eB)], false⟩), (16, ⟨[I b.x, I b.y, I b.z, I b.a, I b.b, I b.c, .slice 0 2 (BL.map eB)], false⟩), (17, ⟨[I b.x, I b.y, I b.z, I b.a, I b.b, I b.c, .slice 0 2 (CL.map eB)], false⟩)], rw := [], log := [], stp := false }) (fun i => l.length - i) 0
    (Wk.le (.cons rfl (.refl _) (.cons rfl (.refl _) (.cons rfl (.refl _) (.cons rfl (.refl _) (.cons rfl (.refl _) (.cons rfl (.of_eq ?_) (.cons rfl (.refl _) .nil)))))))
      (.cons rfl ?_ (.cons rfl (LLe.refl _) (.cons rfl (LLe.refl _) (.cons rfl (LLe.refl _) (.cons rfl (LLe.refl _) .nil))))) .nil (ok183 rfl) rfl) ⟨by omega, rfl⟩ ?_
  · simp
  · rw [List.take_zero, hz, ← flatB_zero]; simp; exact LLe.refl _
  rintro i s ⟨hi, rfl⟩
  refine Tr.seq (Tr.seqR rfl (by simp [sE]) (Tr.cond rfl rfl (fun h3 => Tr.skip ?_) (fun h3 => Tr.exit ?_)))
  · have h3 : i < l.length := by simpa [sE] using h3
    have hslx : List.take ((IntKind.i64.wrap ((i : Int) + 1)).toNat - (i : Int).toNat) (List.drop (i : Int).toNat (l.map eE)) = [l[i]].map eE := by
      rw [w64 (by omega) (by omega), show ((i : Int) + 1).toNat - (i : Int).toNat = 1 by omega, Int.toNat_natCast, List.drop_eq_getElem_cons (by simpa using h3)]
      simp
    have hiE : echoesOk [l[i]] = true := by
      simp only [echoesOk, List.length_singleton, List.all_cons, List.all_nil, Bool.and_true, Bool.and_eq_true, decide_eq_true_eq]
      exact ⟨by omega, hE2 _ (List.getElem_mem h3)⟩
    have k4 := c_Migrate (sane_of hiE) b aper slow.1
    rw [val_ok hiE hA hB] at k4
    obtain ⟨OL, hOL⟩ : ∃ OL, (boxCells b).map (valOf [l[i]] aper slow.1) = OL := ⟨_, rfl⟩
    have hOLl : OL.length = AL.length := by rw [← hOL, List.length_map, hALl]
    rw [hOL] at k4
    refine Tr.seq (Tr.block (Tr.seq (Tr.drawK (TraceK.runN 5 rfl (by simp [sE]; rw [w64 (by omega) (by omega)]; omega) ?_))))
    rw [hslx]
    refine TraceK.run rfl (by simp) (TraceK.call rfl rfl k4 (TraceK.run rfl (by simp) (.done ⟨by kernel_rfl, by kernel_rfl, ?_⟩)))
    have hS : ∀ k (h1 : k < ((boxCells b).map (valOf (l.take i) aper slow.1)).length) (h2 : k < OL.length) (h4 : k < ((boxCells b).map (valOf (l.take (i + 1)) aper slow.1)).length), ((boxCells b).map (valOf (l.take (i + 1)) aper slow.1))[k] = plusB ((boxCells b).map (valOf (l.take i) aper slow.1))[k] OL[k] := by
      intro k h1 h2 h4
      subst hOL
      simp only [List.getElem_map]
      exact (value_take h3).symm
    have hS0 := hlen i
    have hS1 := hlen (i + 1)
    generalize (boxCells b).map (valOf (l.take i) aper slow.1) = S0 at hS hS0 ⊢
    generalize hS1e : (boxCells b).map (valOf (l.take (i + 1)) aper slow.1) = S1 at hS hS1
    refine Tr.seq (Tr.seqR rfl (by simp [allU]) (Tr.cond rfl rfl (fun h => ?_) (fun _ => Tr.skip ?_)))
    · exfalso; revert h; simp [hOLl]
    refine Tr.seqR rfl (by simp) (Tr.block ?_)
    refine Tr.loop (fun k s => k ≤ AL.length ∧ s = { env := [(0, sE l), (5, .ptr 5 0), (7, .ptr 7 0), (16, .ptr 16 0), (17, .ptr 17 0), (19, .bsl 183 0 2 AL.length), (20, I i), (21, .ptr 21 0), (23, I k)], bx := [(183, ⟨flatB (S1.take k ++ S0.drop k), false⟩), (5, ⟨[I b.x, I b.y, I b.z, I b.a, I b.b, I b.c, I aper, I slow.1, I slow.2], false⟩), (7, ⟨[I b.x, I b.y, I b.z, I b.a, I b.b, I b.c, .slice 0 2 (AL.map eB)], false⟩), (16, ⟨[I b.x, I b.y, I b.z, I b.a, I b.b, I b.c, .slice 0 2 (BL.map eB)], false⟩), (17, ⟨[I b.x, I b.y, I b.z, I b.a, I b.b, I b.c, .slice 0 2 (CL.map eB)], false⟩), (21, ⟨[I b.x, I b.y, I b.z, I b.a, I b.b, I b.c, .slice 0 2 (OL.map eB)], false⟩)], rw := [], log := [], stp := false }) (fun k => AL.length - k) 0
      (Wk.le (.cons rfl (.refl _) (.cons rfl (.refl _) (.cons rfl (.refl _) (.cons rfl (.refl _) (.cons rfl (.refl _) (.cons rfl (.refl _) (.cons rfl (.refl _) (.cons rfl (.refl _) (.cons rfl (.refl _) .nil)))))))))
        (.cons rfl ?_ (.cons rfl (LLe.refl _) (.cons rfl (LLe.refl _) (.cons rfl (LLe.refl _) (.cons rfl (LLe.refl _) (.cons rfl (LLe.refl _) .nil)))))) .nil (ok183 rfl) rfl) ⟨by omega, rfl⟩ ?_
    · rw [List.take_zero, List.nil_append, List.drop_zero]; exact LLe.refl _
    rintro k s ⟨hk, rfl⟩
    refine Tr.seq (Tr.seqR rfl (by simp) (Tr.cond rfl rfl (fun h4 => Tr.skip ?_) (fun h4 => Tr.exit ?_)))
    rotate_left
    · have h4 : k = AL.length := by simp at h4; omega
      subst h4
      have e1 : S1.take AL.length ++ S0.drop AL.length = S1 := by rw [List.take_of_length_le (by omega), List.drop_eq_nil_of_le (by omega), List.append_nil]
      rw [e1]
      refine Tr.regR rfl (by simp) ?_
      refine ⟨i + 1, _, Wk.le (.cons rfl (.refl _) (.cons rfl (.refl _) (.cons rfl (.refl _) (.cons rfl (.refl _) (.cons rfl (.refl _) (.cons rfl (.refl _) (.cons rfl (VLe.i (w64 (by omega) (by omega))) .nil)))))))
        (.cons rfl (by rw [hS1e]; exact LLe.refl _) (.cons rfl (LLe.refl _) (.cons rfl (LLe.refl _) (.cons rfl (LLe.refl _) (.cons rfl (LLe.refl _) .nil))))) .nil (ok183 rfl) rfl, ⟨h3, rfl⟩, by omega⟩
    have h4 : k < AL.length := by simpa using h4
    have h2k : 0 + (k : Int).toNat * 2 = 2 * k := by omega
    have hkO : k < OL.length := by omega
    have hk0 : k < S0.length := by omega
    have hk1 : k < S1.length := by omega
    have hmt : (S1.take k).length = k := by rw [List.length_take]; omega
    have hmix : (S1.take k ++ S0.drop k).drop k = S0[k] :: S0.drop (k + 1) := by
      rw [List.drop_append_of_le_length (by omega), List.drop_eq_nil_of_le (by omega), List.nil_append, List.drop_eq_getElem_cons hk0]
    have hml : (S1.take k ++ S0.drop k).length = AL.length := by rw [List.length_append, hmt, List.length_drop]; omega
    have hfl := flatB_len (S1.take k ++ S0.drop k)
    have hdr : List.drop (2 * k) (flatB (S1.take k ++ S0.drop k)) = I S0[k].1 :: I S0[k].2 :: flatB (S0.drop (k + 1)) := by
      rw [flatB_drop, hmix]; rfl
    have hnew : List.take (2 * k) (flatB (S1.take k ++ S0.drop k)) ++ [I (plusB S0[k] OL[k]).1, I (plusB S0[k] OL[k]).2] ++ List.drop (2 * k + 2) (flatB (S1.take k ++ S0.drop k)) = flatB (S1.take (k + 1) ++ S0.drop (k + 1)) := by
      rw [flatB_set _ _ (by omega)]
      congr 1
      have e1 : (S1.take k ++ S0.drop k).drop (k + 1) = S0.drop (k + 1) := by
        have := congrArg (List.drop 1) hmix
        rw [List.drop_drop] at this
        simpa using this
      rw [e1, List.take_append_of_le_length (by omega), List.take_take, Nat.min_self, List.take_add_one, List.getElem?_eq_getElem hk1, hS k hk0 hkO hk1]
      simp
    refine Tr.seq (Tr.block (Tr.drawK (TraceK.runN 5 rfl (by simp; omega) ?_)))
    rw [h2k]
    refine TraceK.runN 1 rfl (by simp; omega) ?_
    rw [hdr]
    refine TraceK.runN 4 rfl (by simp; omega) ?_
    rw [getD_map hkO]
    refine TraceK.run rfl (by simp) (TraceK.call rfl rfl (c_added S0[k] OL[k]) (TraceK.runN 1 rfl (by simp; omega) ?_))
    rw [h2k]
    refine TraceK.run rfl (by simp; omega) (.done ⟨by kernel_rfl, by kernel_rfl, ?_⟩)
    refine Tr.regR rfl (by simp) ?_
    refine ⟨k + 1, _, Wk.le (.cons rfl (.refl _) (.cons rfl (.refl _) (.cons rfl (.refl _) (.cons rfl (.refl _) (.cons rfl (.refl _) (.cons rfl (.refl _) (.cons rfl (.refl _) (.cons rfl (.refl _) (.cons rfl (VLe.i (w64 (by omega) (by omega))) .nil)))))))))
        (.cons rfl ?_ (.cons rfl (LLe.refl _) (.cons rfl (LLe.refl _) (.cons rfl (LLe.refl _) (.cons rfl (LLe.refl _) (.cons rfl (LLe.refl _) .nil)))))) .nil (ok183 rfl) rfl, ⟨h4, rfl⟩, by omega⟩
    rw [← hnew]
    exact LLe.refl _
  have h3 : i = l.length := by simp [sE] at h3; omega
  subst h3
  rw [List.take_length, hAL]
  refine Tr.seq (Tr.seqR rfl (by simp) (Tr.block ?_))
  refine Tr.loop (fun k s => k ≤ AL.length ∧ s = { env := [(7, .ptr 7 0), (16, .ptr 16 0), (17, .ptr 17 0), (19, .bsl 183 0 2 AL.length), (24, I k)], bx := [(183, ⟨flatB AL, false⟩), (5, ⟨[I b.x, I b.y, I b.z, I b.a, I b.b, I b.c, I aper, I slow.1, I slow.2], false⟩), (7, ⟨[I b.x, I b.y, I b.z, I b.a, I b.b, I b.c, .slice 0 2 (AL.map eB)], false⟩), (16, ⟨[I b.x, I b.y, I b.z, I b.a, I b.b, I b.c, .slice 0 2 (BL.map eB)], false⟩), (17, ⟨[I b.x, I b.y, I b.z, I b.a, I b.b, I b.c, .slice 0 2 (CL.map eB)], false⟩)], rw := [], log := [], stp := false }) (fun k => AL.length - k) 0
      (Wk.le (.cons rfl (.refl _) (.cons rfl (.refl _) (.cons rfl (.refl _) (.cons rfl (.refl _) (.cons rfl (.refl _) .nil)))))
        (.cons rfl (LLe.refl _) (.cons rfl (LLe.refl _) (.cons rfl (LLe.refl _) (.cons rfl (LLe.refl _) (.cons rfl (LLe.refl _) .nil))))) .nil (ok183 rfl) rfl) ⟨by omega, rfl⟩ ?_
  rintro k s ⟨hk, rfl⟩
  refine Tr.seq (Tr.seqR rfl (by simp) (Tr.cond rfl rfl (fun h4 => Tr.skip ?_) (fun h4 => Tr.exit ?_)))
  rotate_left
  · refine Tr.seqC rfl (by simp) (Steps.call rfl rfl c_works (Steps.fin rfl (by simp) (Tr.retX rfl rfl rfl ?_ trivial)))
    simp [packR]
  have h4 : k < AL.length := by simpa using h4
  have h2k : 0 + (k : Int).toNat * 2 = 2 * k := by omega
  have hkB : k < BL.length := by omega
  have hkC : k < CL.length := by omega
  have hfl := flatB_len AL
  have hsk := hsum k h4 hkB hkC
  have hdr : List.drop (2 * k) (flatB AL) = I AL[k].1 :: I AL[k].2 :: flatB (AL.drop (k + 1)) := by
    rw [flatB_drop, List.drop_eq_getElem_cons h4]; rfl
  refine Tr.seq (Tr.block (Tr.seq (Tr.drawK (TraceK.runN 3 rfl (by simp; omega) ?_))))
  rw [h2k]
  refine TraceK.runN 1 rfl (by simp; omega) ?_
  rw [hdr]
  refine TraceK.runN 4 rfl (by simp; omega) ?_
  rw [getD_map h4]
  refine TraceK.runN 7 rfl (by simp; try omega) ?_
  rw [getD_map hkC, hsk]
  refine TraceK.runN 5 rfl (by simp; try omega) ?_
  rw [getD_map h4]
  refine TraceK.runN 5 rfl (by simp; try omega) ?_
  rw [getD_map hkB]
  refine TraceK.run rfl (by simp) ?_
  refine TraceK.gcall (r := eB (plusB AL[k] BL[k])) rfl rfl rfl rfl (by simp) (fun _ => c_added AL[k] BL[k]) ?_
  refine TraceK.run rfl (by simp) (.done ⟨by kernel_rfl, by kernel_rfl, ?_⟩)
  refine Tr.cond rfl rfl (fun h => ?_) (fun _ => Tr.skip ?_)
  · exfalso; revert h; simp
  refine Tr.regR rfl (by simp) ?_
  exact ⟨k + 1, _, Wk.le (.cons rfl (.refl _) (.cons rfl (.refl _) (.cons rfl (.refl _) (.cons rfl (.refl _) (.cons rfl (VLe.i (w64 (by omega) (by omega))) .nil)))))
        (.cons rfl (LLe.refl _) (.cons rfl (LLe.refl _) (.cons rfl (LLe.refl _) (.cons rfl (LLe.refl _) (.cons rfl (LLe.refl _) .nil))))) .nil (ok183 rfl) rfl, ⟨h4, rfl⟩, by omega⟩

end Go.Proofs.Ytkifejklnpddbaa

/-! The law VolumePoint. -/
set_option linter.unusedVariables false
set_option linter.unusedSimpArgs false
set_option maxRecDepth 20000
set_option maxHeartbeats 4000000
namespace Go.Proofs.Ytkifejklnpddbaa
open Go.Am
attribute [local simp] cells scalar mkv splice under2 under dem dem1 boxC cellC eE sB eB

theorem okF {k : Nat} {L : List (Int × Int)} {env : List (Nat × V)} {bx : List (Nat × Box)} {rw : List (Nat × Nat × Nat × Nat)} (h : okRefs env ((k, ⟨[], false⟩) :: bx) rw = true) : okRefs env ((k, ⟨flatB L, false⟩) :: bx) rw = true := by
  have e : hasKey ((k, (⟨flatB L, false⟩ : Box)) :: bx) = hasKey ((k, (⟨[], false⟩ : Box)) :: bx) := rfl
  unfold okRefs at h ⊢
  rw [e]
  rw [Bool.and_eq_true] at h ⊢
  refine ⟨h.1, ?_⟩
  have h2 := h.2
  rw [List.all_cons, Bool.and_eq_true] at h2 ⊢
  exact ⟨flatB_refs _ _ _, h2.2⟩

theorem holds_flat (L : List (Int × Int)) : Holds (flatB L) 0 2 L.length (L.map eB) := by
  refine ⟨by omega, by simp, fun x hx => ?_, ?_, fun x hx => ?_⟩
  · obtain ⟨c, _, rfl⟩ := List.mem_map.1 hx; rfl
  · rw [List.drop_zero, List.take_of_length_le (by rw [flatB_len]; omega)]
    unfold flatB
    rw [List.flatMap_map]
    rfl
  · obtain ⟨c, _, rfl⟩ := List.mem_map.1 hx; rfl

theorem flat_peak (t : Nat) (ht : t < 64) : List.take (2 * t) (flatB (List.replicate 64 (0, 0))) ++ [I 1, I 1] ++ List.drop (2 * t + 2) (flatB (List.replicate 64 (0, 0))) = flatB (peakL t) := by
  have h := flatB_set (List.replicate 64 (0, 0)) t (by simpa using ht) (1, 1)
  rw [h]
  congr 1
  unfold peakL
  rw [List.set_eq_take_append_cons_drop, if_pos (by simpa using ht)]

theorem peak_none (t : Nat) (ht : ¬ t < 64) : peakL t = List.replicate 64 (0, 0) := by
  unfold peakL
  rw [List.set_eq_of_length_le (by simp; omega)]

theorem ptD_eq (x y : Int) (p : Int × Int) : IntKind.i64.wrap (IntKind.i64.wrap (IntKind.i64.wrap (ptX p - x) * IntKind.i64.wrap (ptX p - x)) + IntKind.i64.wrap (IntKind.i64.wrap (ptY p - y) * IntKind.i64.wrap (ptY p - y))) = ptD x y p := by
  show w (w (w (ptX p - x) * w (ptX p - x)) + w (w (ptY p - y) * w (ptY p - y))) = _
  rw [w_sq (ptX p), w_sq (ptY p)]
  rfl

theorem c_VolumePoint {pl : List (Int × Int)} (hpl : pl.length ≤ 9223372036854775807) (x y z : Int) (b : Bx) (aper : Int) (slow : Int × Int) : C Try.prog F.law10_VolumePoint [sB pl, .agg [I x, I y, I z], .agg [I b.x, I b.y, I b.z, I b.a, I b.b, I b.c, I aper, I slow.1, I slow.2]] (.bool true) := by
  refine C_of mixed chk.law10_VolumePoint (by simp) fun S ok => ?_
  refine Tr.seqR rfl (by simp) (Tr.seqR rfl (by simp) (Tr.seqR rfl (by simp) (Tr.seq (Tr.seqR rfl (by simp) (Tr.block ?_)))))
  refine Tr.loop (fun i s => (i ≤ pl.length ∧ i ≤ 32) ∧ s = { env := [(0, sB pl), (4, .ptr 4 0), (5, .ptr 5 0), (7, .slice 100 3 ((pl.take i).map fun p => eE (ptE x y z slow.1 p))), (8, I ((pl.take i).countP (ptH x y z slow.1 aper) : Nat)), (9, I i)], bx := [(4, ⟨[I x, I y, I z], false⟩), (5, ⟨[I b.x, I b.y, I b.z, I b.a, I b.b, I b.c, I aper, I slow.1, I slow.2], false⟩)], rw := [(99, i, 3, 79)], log := [], stp := false }) (fun i => 32 - i) 0
    (Wk.le (.cons rfl (.refl _) (.cons rfl (.refl _) (.cons rfl (.refl _) (.cons rfl (.nil 100 3) (.cons rfl (.refl _) (.cons rfl (.refl _) .nil))))))
      (.cons rfl (LLe.refl _) (.cons rfl (LLe.refl _) .nil)) (.new rfl .nil) rfl rfl) ⟨by omega, rfl⟩ ?_
  rintro i s ⟨⟨hi, hi32⟩, rfl⟩
  refine Tr.seq (Tr.seqR rfl (by simp) (Tr.cond rfl rfl (fun h3 => Tr.skip ?_) (fun h3 => Tr.exit ?_)))
  · have h3 : (bif decide ((i : Int) < ((pl.map eB).length : Int)) then decide ((i : Int) < 32) else false) = true := h3
    have h3 : i < pl.length ∧ i < 32 := by
      rw [List.length_map] at h3
      cases h : decide ((i : Int) < (pl.length : Int)) with
      | false => rw [h] at h3; cases h3
      | true =>
        rw [h] at h3
        have h5 : decide ((i : Int) < 32) = true := h3
        rw [decide_eq_true_eq] at h h5
        omega
    obtain ⟨h3, h32⟩ := h3
    obtain ⟨p, hp⟩ : ∃ p, pl[i] = p := ⟨_, rfl⟩
    have hb1 := restI_bd (n := p.1) (m := 129) (by omega)
    have hb2 := restI_bd (n := p.2) (m := 129) (by omega)
    have htl : (pl.take i).length = i := by rw [List.length_take]; omega
    have hct := List.countP_le_length (p := ptH x y z slow.1 aper) (l := pl.take i)
    rw [htl] at hct
    have htk : pl.take (i + 1) = pl.take i ++ [p] := by rw [List.take_add_one, List.getElem?_eq_getElem h3, hp]; rfl
    refine Tr.seq (Tr.block (Tr.seq (Tr.drawK (TraceK.runN 3 rfl (by simp; omega) ?_))))
    rw [getD_map h3, hp]
    refine TraceK.run rfl (by simp) (TraceK.call rfl rfl (c_Rest p.1 129 (by omega)) ?_)
    refine TraceK.runN 4 rfl (by simp; omega) ?_
    rw [getD_map h3, hp]
    refine TraceK.run rfl (by simp) (TraceK.call rfl rfl (c_Rest p.2 129 (by omega)) ?_)
    refine TraceK.run rfl (by simp) (.done ⟨by kernel_rfl, by kernel_rfl, ?_⟩)
    refine Tr.weak (s' := { env := [(0, sB pl), (4, .ptr 4 0), (5, .ptr 5 0), (7, .slice 100 3 ((pl.take i).map fun p => eE (ptE x y z slow.1 p))), (8, I ((pl.take i).countP (ptH x y z slow.1 aper) : Nat)), (9, I i), (10, .ptr 10 0)], bx := [(42, ⟨flatB (List.replicate 64 (0, 0)), false⟩), (4, ⟨[I x, I y, I z], false⟩), (5, ⟨[I b.x, I b.y, I b.z, I b.a, I b.b, I b.c, I aper, I slow.1, I slow.2], false⟩), (10, ⟨[I (ptX p), I (ptY p), .bsl 42 0 2 64], false⟩)], rw := [(99, i, 3, 79)], log := [], stp := false })
      (Wk.le (.cons rfl (.refl _) (.cons rfl (.refl _) (.cons rfl (.refl _) (.cons rfl (.refl _) (.cons rfl (.refl _) (.cons rfl (.refl _) (.cons rfl (.refl _) .nil)))))))
        (.cons rfl (LLe.refl _) (.cons rfl (LLe.refl _) (.cons rfl (LLe.refl _) (.cons rfl (.cons (VLe.i (w64 (by omega) (by omega))) (.cons (VLe.i (w64 (by omega) (by omega))) (.cons (.refl _) .nil))) .nil)))) (.cons rfl .nil) (okF rfl) rfl) ?_
    refine Tr.seqR rfl (by simp) ?_
    refine Tr.weak (s' := { env := [(0, sB pl), (4, .ptr 4 0), (5, .ptr 5 0), (7, .slice 100 3 ((pl.take i).map fun p => eE (ptE x y z slow.1 p))), (8, I ((pl.take i).countP (ptH x y z slow.1 aper) : Nat)), (9, I i), (10, .ptr 10 0), (11, I (ptD x y p))], bx := [(42, ⟨flatB (List.replicate 64 (0, 0)), false⟩), (4, ⟨[I x, I y, I z], false⟩), (5, ⟨[I b.x, I b.y, I b.z, I b.a, I b.b, I b.c, I aper, I slow.1, I slow.2], false⟩), (10, ⟨[I (ptX p), I (ptY p), .bsl 42 0 2 64], false⟩)], rw := [(99, i, 3, 79)], log := [], stp := false })
      (Wk.le (.cons rfl (.refl _) (.cons rfl (.refl _) (.cons rfl (.refl _) (.cons rfl (.refl _) (.cons rfl (.refl _) (.cons rfl (.refl _) (.cons rfl (.refl _) (.cons rfl (VLe.i (ptD_eq x y p)) .nil))))))))
        (.cons rfl (LLe.refl _) (.cons rfl (LLe.refl _) (.cons rfl (LLe.refl _) (.cons rfl (LLe.refl _) .nil)))) (.cons rfl .nil) (okF rfl) rfl) ?_
    have kT := c_Time z (ptD x y p) slow.1
    unfold TimeR at kT
    by_cases hT : timeOk z (ptD x y p) slow.1 = true
    rotate_left
    · rw [if_neg hT] at kT
      refine Tr.seqC rfl (by simp) (Steps.call rfl rfl kT (Steps.fin rfl (by simp) ?_))
      refine Tr.seq (Tr.seqR rfl (by simp) (Tr.condT rfl (Tr.seqC rfl (by simp) (Steps.call rfl rfl c_works (Steps.fin rfl (by simp) (Tr.retX rfl rfl rfl ?_ trivial))))))
      simp [packR]
    rw [if_pos hT] at kT
    obtain ⟨T, hTt⟩ : ∃ T : Nat, timeN z (ptD x y p) slow.1 = (T : Int) := ⟨(timeN z (ptD x y p) slow.1).toNat, by have := timeN_nn z (ptD x y p) slow.1; omega⟩
    rw [hTt] at kT
    have ePt : ptE x y z slow.1 p = ⟨ptX p, ptY p, peakL T⟩ := by unfold ptE ptT; rw [hTt, Int.toNat_natCast]
    refine Tr.seqC rfl (by simp) (Steps.call rfl rfl kT (Steps.fin rfl (by simp) ?_))
    refine Tr.seq (Tr.seqR rfl (by simp) (Tr.condF rfl (Tr.skip ?_)))
    have hH : ptH x y z slow.1 aper p = (decide ((T : Int) < 64) && decide (ptD x y p ≤ w (aper * aper))) := by unfold ptH ptT; rw [hTt]
    refine Tr.meet { env := [(0, sB pl), (4, .ptr 4 0), (5, .ptr 5 0), (7, .slice 100 3 ((pl.take i).map fun p => eE (ptE x y z slow.1 p))), (8, I ((pl.take (i + 1)).countP (ptH x y z slow.1 aper) : Nat)), (9, I i), (10, .ptr 10 0)], bx := [(4, ⟨[I x, I y, I z], false⟩), (5, ⟨[I b.x, I b.y, I b.z, I b.a, I b.b, I b.c, I aper, I slow.1, I slow.2], false⟩), (10, ⟨[I (ptX p), I (ptY p), .slice 0 2 ((peakL T).map eB)], false⟩)], rw := [(99, i, 3, 79)], log := [], stp := false } ?_ ?_
    rotate_left
    · refine Tr.regR rfl (by simp; omega) (Tr.regR rfl (by simp) ?_)
      refine ⟨i + 1, _, Wk.le (.cons rfl (.refl _) (.cons rfl (.refl _) (.cons rfl (.refl _) (.cons rfl (.of_eq ?_) (.cons rfl (.refl _) (.cons rfl (VLe.i (w64 (by omega) (by omega))) .nil))))))
        (.cons rfl (LLe.refl _) (.cons rfl (LLe.refl _) .nil)) (.cons ?_ .nil) rfl rfl, ⟨by omega, rfl⟩, by omega⟩
      · rw [htk, List.map_append, List.map_cons, List.map_nil, ePt]; rfl
      · show some _ = some _
        simp; omega
    have hpk := peak_len T
    have hfin : ∀ n : Int, n = ((pl.take (i + 1)).countP (ptH x y z slow.1 aper) : Nat) → Wk (env0 Try.prog mixed 178 S ok) { env := [(0, sB pl), (4, .ptr 4 0), (5, .ptr 5 0), (7, .slice 100 3 ((pl.take i).map fun p => eE (ptE x y z slow.1 p))), (8, I n), (9, I i), (10, .ptr 10 0)], bx := [(42, ⟨flatB (peakL T), false⟩), (4, ⟨[I x, I y, I z], false⟩), (5, ⟨[I b.x, I b.y, I b.z, I b.a, I b.b, I b.c, I aper, I slow.1, I slow.2], false⟩), (10, ⟨[I (ptX p), I (ptY p), .bsl 42 0 2 64], false⟩)], rw := [(99, i, 3, 79)], log := [], stp := false } { env := [(0, sB pl), (4, .ptr 4 0), (5, .ptr 5 0), (7, .slice 100 3 ((pl.take i).map fun p => eE (ptE x y z slow.1 p))), (8, I ((pl.take (i + 1)).countP (ptH x y z slow.1 aper) : Nat)), (9, I i), (10, .ptr 10 0)], bx := [(4, ⟨[I x, I y, I z], false⟩), (5, ⟨[I b.x, I b.y, I b.z, I b.a, I b.b, I b.c, I aper, I slow.1, I slow.2], false⟩), (10, ⟨[I (ptX p), I (ptY p), .slice 0 2 ((peakL T).map eB)], false⟩)], rw := [(99, i, 3, 79)], log := [], stp := false } := by
      rintro n rfl
      refine Wk.trans (Wk.bslB (E := env0 Try.prog mixed 178 S ok) (k := 10) (j := 2) (i := 42) (by omega) rfl rfl rfl (by have h := holds_flat (peakL T); rw [hpk] at h; exact h)) ?_
      exact Wk.le (.cons rfl (.refl _) (.cons rfl (.refl _) (.cons rfl (.refl _) (.cons rfl (.refl _) (.cons rfl (.refl _) (.cons rfl (.refl _) (.cons rfl (.refl _) .nil)))))))
        (.cons rfl (LLe.refl _) (.cons rfl (LLe.refl _) (.cons rfl (LLe.refl _) .nil))) (.cons rfl .nil) rfl rfl
    have hcnt : (((pl.take (i + 1)).countP (ptH x y z slow.1 aper) : Nat) : Int) = ((pl.take i).countP (ptH x y z slow.1 aper) : Nat) + if ptH x y z slow.1 aper p then 1 else 0 := by
      rw [htk, List.countP_append, List.countP_cons, List.countP_nil, Nat.zero_add]
      by_cases h : ptH x y z slow.1 aper p = true
      · rw [if_pos h, if_pos h]; push_cast; rfl
      · rw [if_neg h, if_neg h]; push_cast; rfl
    refine Tr.seqR rfl (by simp) (Tr.cond rfl rfl (fun h4 => ?_) (fun h4 => ?_))
    rotate_left
    · have h4 : decide ((T : Int) < 64) = false := h4
      have hn : ¬ T < 64 := by rw [decide_eq_false_iff_not] at h4; omega
      rw [h4, Bool.false_and] at hH
      refine Tr.weak (s' := { env := [(0, sB pl), (4, .ptr 4 0), (5, .ptr 5 0), (7, .slice 100 3 ((pl.take i).map fun p => eE (ptE x y z slow.1 p))), (8, I ((pl.take i).countP (ptH x y z slow.1 aper) : Nat)), (9, I i), (10, .ptr 10 0)], bx := [(42, ⟨flatB (peakL T), false⟩), (4, ⟨[I x, I y, I z], false⟩), (5, ⟨[I b.x, I b.y, I b.z, I b.a, I b.b, I b.c, I aper, I slow.1, I slow.2], false⟩), (10, ⟨[I (ptX p), I (ptY p), .bsl 42 0 2 64], false⟩)], rw := [(99, i, 3, 79)], log := [], stp := false })
        (Wk.le (.cons rfl (.refl _) (.cons rfl (.refl _) (.cons rfl (.refl _) (.cons rfl (.refl _) (.cons rfl (.refl _) (.cons rfl (.refl _) (.cons rfl (.refl _) .nil)))))))
        (.cons rfl ?_ (.cons rfl (LLe.refl _) (.cons rfl (LLe.refl _) (.cons rfl (LLe.refl _) .nil)))) (.cons rfl .nil) (okF rfl) rfl) (Tr.skip ?_)
      · rw [peak_none T hn]; exact LLe.refl _
      exact hfin _ (by rw [hcnt, hH]; simp)
    have h4 : decide ((T : Int) < 64) = true := h4
    have hn : T < 64 := by rw [decide_eq_true_eq] at h4; omega
    rw [h4, Bool.true_and] at hH
    have h2T : 0 + (T : Int).toNat * 2 = 2 * T := by omega
    have hfl := flatB_len (List.replicate 64 ((0 : Int), (0 : Int)))
    rw [List.length_replicate] at hfl
    refine Tr.seqN 5 rfl (by simp; omega) ?_
    rw [h2T]
    refine Steps.fin rfl (by simp [flatB_len]; omega) ?_
    have hpeak := flat_peak T hn
    refine Tr.weak (s' := { env := [(0, sB pl), (4, .ptr 4 0), (5, .ptr 5 0), (7, .slice 100 3 ((pl.take i).map fun p => eE (ptE x y z slow.1 p))), (8, I ((pl.take i).countP (ptH x y z slow.1 aper) : Nat)), (9, I i), (10, .ptr 10 0), (11, I (ptD x y p))], bx := [(42, ⟨flatB (peakL T), false⟩), (4, ⟨[I x, I y, I z], false⟩), (5, ⟨[I b.x, I b.y, I b.z, I b.a, I b.b, I b.c, I aper, I slow.1, I slow.2], false⟩), (10, ⟨[I (ptX p), I (ptY p), .bsl 42 0 2 64], false⟩)], rw := [(99, i, 3, 79)], log := [], stp := false })
      (Wk.le (.cons rfl (.refl _) (.cons rfl (.refl _) (.cons rfl (.refl _) (.cons rfl (.refl _) (.cons rfl (.refl _) (.cons rfl (.refl _) (.cons rfl (.refl _) (.cons rfl (.refl _) .nil))))))))
        (.cons rfl ?_ (.cons rfl (LLe.refl _) (.cons rfl (LLe.refl _) (.cons rfl (LLe.refl _) .nil)))) (.cons rfl .nil) (okF rfl) rfl) ?_
    · rw [← hpeak]; exact LLe.refl _
    refine Tr.seqR rfl (by simp) (Tr.cond rfl rfl (fun h5 => ?_) (fun h5 => ?_))
    · have h5 : decide (ptD x y p ≤ w (aper * aper)) = true := h5
      rw [h5] at hH
      refine Tr.regR rfl (by simp) ?_
      refine Wk.trans (Wk.le (env := [(0, sB pl), (4, .ptr 4 0), (5, .ptr 5 0), (7, .slice 100 3 ((pl.take i).map fun p => eE (ptE x y z slow.1 p))), (8, I (((pl.take i).countP (ptH x y z slow.1 aper) : Nat) + 1)), (9, I i), (10, .ptr 10 0)]) (bx := [(42, ⟨flatB (peakL T), false⟩), (4, ⟨[I x, I y, I z], false⟩), (5, ⟨[I b.x, I b.y, I b.z, I b.a, I b.b, I b.c, I aper, I slow.1, I slow.2], false⟩), (10, ⟨[I (ptX p), I (ptY p), .bsl 42 0 2 64], false⟩)]) (rw := [(99, i, 3, 79)]) (.cons rfl (.refl _) (.cons rfl (.refl _) (.cons rfl (.refl _) (.cons rfl (.refl _) (.cons rfl (VLe.i (w64 (by omega) (by omega))) (.cons rfl (.refl _) (.cons rfl (.refl _) .nil)))))))
        (.cons rfl (LLe.refl _) (.cons rfl (LLe.refl _) (.cons rfl (LLe.refl _) (.cons rfl (LLe.refl _) .nil)))) (.cons rfl .nil) (okF rfl) rfl) (hfin _ ?_)
      rw [hcnt, hH]; rfl
    · have h5 : decide (ptD x y p ≤ w (aper * aper)) = false := h5
      rw [h5] at hH
      refine Tr.weak (s' := { env := [(0, sB pl), (4, .ptr 4 0), (5, .ptr 5 0), (7, .slice 100 3 ((pl.take i).map fun p => eE (ptE x y z slow.1 p))), (8, I ((pl.take i).countP (ptH x y z slow.1 aper) : Nat)), (9, I i), (10, .ptr 10 0)], bx := [(42, ⟨flatB (peakL T), false⟩), (4, ⟨[I x, I y, I z], false⟩), (5, ⟨[I b.x, I b.y, I b.z, I b.a, I b.b, I b.c, I aper, I slow.1, I slow.2], false⟩), (10, ⟨[I (ptX p), I (ptY p), .bsl 42 0 2 64], false⟩)], rw := [(99, i, 3, 79)], log := [], stp := false }) (Wk.le (.cons rfl (.refl _) (.cons rfl (.refl _) (.cons rfl (.refl _) (.cons rfl (.refl _) (.cons rfl (.refl _) (.cons rfl (.refl _) (.cons rfl (.refl _) .nil)))))))
        (.cons rfl (LLe.refl _) (.cons rfl (LLe.refl _) (.cons rfl (LLe.refl _) (.cons rfl (LLe.refl _) .nil)))) (.cons rfl .nil) (okF rfl) rfl) (Tr.skip ?_)
      exact hfin _ (by rw [hcnt, hH]; simp)
  clear h3
  obtain ⟨Q, hQ⟩ : ∃ Q, pl.take i = Q := ⟨_, rfl⟩
  have hQl : Q.length ≤ 32 := by rw [← hQ, List.length_take]; omega
  rw [hQ]
  obtain ⟨L, hL⟩ : ∃ L, Q.map (ptE x y z slow.1) = L := ⟨_, rfl⟩
  have hLl : L.length = Q.length := by rw [← hL, List.length_map]
  have hLE : echoesOk L = true := by rw [← hL]; exact pts_ok x y z slow.1 Q hQl
  have eL : (Q.map fun p => eE (ptE x y z slow.1 p)) = L.map eE := by rw [← hL, List.map_map]; rfl
  have hval := pts_value x y z slow.1 aper Q hQl
  have hnam := pts_named x y z slow.1 aper Q
  have hlow := fun q => pts_low x y z slow.1 aper slow.1 q Q hQl
  rw [hL] at hval hnam hlow
  have hcl := List.countP_le_length (p := ptH x y z slow.1 aper) (l := Q)
  generalize Q.countP (ptH x y z slow.1 aper) = H at hval hnam hcl ⊢
  refine Tr.weak (s' := { env := [(4, .ptr 4 0), (5, .ptr 5 0), (7, sE L), (8, I (H : Int))], bx := [(4, ⟨[I x, I y, I z], false⟩), (5, ⟨[I b.x, I b.y, I b.z, I b.a, I b.b, I b.c, I aper, I slow.1, I slow.2], false⟩)], rw := [], log := [], stp := false })
    (Wk.le (.cons rfl (.refl _) (.cons rfl (.refl _) (.cons rfl (by rw [eL]; exact .dem _ _ _) (.cons rfl (.refl _) .nil)))) (.cons rfl (LLe.refl _) (.cons rfl (LLe.refl _) .nil)) .nil rfl rfl) ?_
  have hs := sane_of hLE
  have k1 := c_NameS hs x y z aper slow.1
  have k2 := c_Migrate hs b aper slow.1
  unfold nameS nameR at k1
  rw [if_pos hLE] at k1
  by_cases hN : (earOk aper (slow.1, slow.1) && cellOk x y z) = true
  rotate_left
  · rw [if_neg hN] at k1
    refine Tr.seqC rfl (by simp) (Steps.call rfl rfl k1 (Steps.fin rfl (by simp) ?_))
    refine Tr.seq (Tr.seqR rfl (by simp) (Tr.condT rfl ?_))
    refine Tr.seqC rfl (by simp) (Steps.gcall rfl rfl rfl rfl (by simp) (fun _ => c_works) (Steps.fin rfl (by simp) (Tr.retX rfl rfl rfl ?_ trivial)))
    simp [packR]
  rw [if_pos hN, nameC] at k1
  simp only [Bool.and_eq_true] at hN
  obtain ⟨hA, hC⟩ := hN
  rw [hval] at k1
  generalize namedL ⟨L, aper, (slow.1, slow.1)⟩ x y z = R at k1 hnam
  refine Tr.seqC rfl (by simp) (Steps.call rfl rfl k1 (Steps.fin rfl (by simp) ?_))
  refine Tr.seq (Tr.seqR rfl (by simp) (Tr.condF rfl (Tr.skip ?_)))
  by_cases hB : boxOk b = true
  rotate_left
  · have hr : valS L b aper slow.1 = .tuple [.agg [I 0, I 0, I 0, I 0, I 0, I 0, .slice 0 2 []], I 102] := by
      show boxR _ _ _ _ _ _ = _
      unfold boxR imageR
      rw [if_pos hLE, if_pos hA, if_neg hB]; rfl
    rw [hr] at k2
    refine Tr.seqC rfl (by simp) (Steps.call rfl rfl k2 (Steps.fin rfl (by simp) ?_))
    refine Tr.seq (Tr.seqR rfl (by simp) (Tr.cond rfl rfl (fun h => ?_) (fun _ => Tr.skip ?_)))
    · exfalso; revert h; simp [hnam]
    refine Tr.seq (Tr.seqR rfl (by simp) (Tr.condT rfl ?_))
    refine Tr.seqC rfl (by simp) (Steps.gcall rfl rfl rfl rfl (by simp) (fun _ => c_works) (Steps.fin rfl (by simp) (Tr.retX rfl rfl rfl ?_ trivial)))
    simp [packR]
  rw [val_ok hLE hA hB] at k2
  have hcl2 := boxCells_len (boxOk_spec hB).1
  obtain ⟨AL, hAL⟩ : ∃ AL, (boxCells b).map (valOf L aper slow.1) = AL := ⟨_, rfl⟩
  have hALl : AL.length = (boxCells b).length := by rw [← hAL, List.length_map]
  have hbd : ∀ k (h : k < AL.length), 0 ≤ AL[k].1 ∧ AL[k].2 ≤ (Q.length : Int) := by
    intro k h
    subst hAL
    rw [List.getElem_map]
    exact hlow _
  rw [hAL] at k2
  refine Tr.seqC rfl (by simp) (Steps.call rfl rfl k2 (Steps.fin rfl (by simp) ?_))
  refine Tr.seq (Tr.seqR rfl (by simp) (Tr.cond rfl rfl (fun h => ?_) (fun _ => Tr.skip ?_)))
  · exfalso; revert h; simp [hnam]
  refine Tr.seq (Tr.seqR rfl (by simp) (Tr.condF rfl (Tr.skip ?_)))
  refine Tr.seq (Tr.seqR rfl (by simp) (Tr.block ?_))
  refine Tr.loop (fun k s => k ≤ AL.length ∧ s = { env := [(7, sE L), (16, .ptr 16 0), (17, I k)], bx := [(16, ⟨[I b.x, I b.y, I b.z, I b.a, I b.b, I b.c, .slice 0 2 (AL.map eB)], false⟩)], rw := [], log := [], stp := false }) (fun k => AL.length - k) 0
    (Wk.le (.cons rfl (.refl _) (.cons rfl (.refl _) (.cons rfl (.refl _) .nil))) (.cons rfl (LLe.refl _) .nil) .nil rfl rfl) ⟨by omega, rfl⟩ ?_
  rintro k s ⟨hk, rfl⟩
  refine Tr.seq (Tr.seqR rfl (by simp) (Tr.cond rfl rfl (fun h4 => Tr.skip ?_) (fun h4 => Tr.exit ?_)))
  rotate_left
  · refine Tr.seqC rfl (by simp) (Steps.call rfl rfl c_works (Steps.fin rfl (by simp) (Tr.retX rfl rfl rfl ?_ trivial)))
    simp [packR]
  have h4 : k < AL.length := by simpa using h4
  have hb4 := hbd k h4
  refine Tr.seq (Tr.block (Tr.seqN 4 rfl (by simp; omega) ?_))
  rw [getD_map h4]
  refine Steps.runN 10 rfl (by simp [sE]; try omega) ?_
  rw [getD_map h4]
  refine Steps.fin rfl (by simp) (Tr.cond rfl rfl (fun h => ?_) (fun _ => Tr.skip ?_))
  · exfalso
    revert h
    simp [hLl]
    omega
  refine Tr.regR rfl (by simp) ?_
  exact ⟨k + 1, _, Wk.le (.cons rfl (.refl _) (.cons rfl (.refl _) (.cons rfl (VLe.i (w64 (by omega) (by omega))) .nil))) (.cons rfl (LLe.refl _) .nil) .nil rfl rfl, ⟨h4, rfl⟩, by omega⟩

end Go.Proofs.Ytkifejklnpddbaa

/-! The law VolumeTruth. -/
set_option linter.unusedVariables false
set_option linter.unusedSimpArgs false
set_option maxRecDepth 20000
set_option maxHeartbeats 1000000
namespace Go.Proofs.Ytkifejklnpddbaa
open Go.Am
attribute [local simp] cells scalar mkv splice under2 under dem dem1 boxC cellC

theorem boxR_cases (nl : V) (l : List Echo) (b : Bx) (aper : Int) (slow : Int × Int) (of : Int × Int × Int → Int × Int) :
    ((echoesOk l = true ∧ earOk aper slow = true ∧ boxOk b = true) ∧ boxR nl l b aper slow of = .tuple [.agg [I b.x, I b.y, I b.z, I b.a, I b.b, I b.c, .slice 0 2 (((boxCells b).map of).map eB)], I 0]) ∨
      ((¬ (echoesOk l = true ∧ earOk aper slow = true ∧ boxOk b = true)) ∧ ∃ e : Int, (e = 100 ∨ e = 102) ∧ boxR nl l b aper slow of = errImg nl e) := by
  unfold boxR
  by_cases h1 : echoesOk l = true
  · by_cases h2 : earOk aper slow = true
    · unfold imageR
      by_cases h3 : boxOk b = true
      · exact .inl ⟨⟨h1, h2, h3⟩, by rw [if_pos h1, if_pos h2, if_pos h3, List.map_map]; rfl⟩
      · exact .inr ⟨fun h => h3 h.2.2, 102, .inr rfl, by rw [if_pos h1, if_pos h2, if_neg h3]⟩
    · exact .inr ⟨fun h => h2 h.2.1, 102, .inr rfl, by rw [if_pos h1, if_neg h2]⟩
  · exact .inr ⟨fun h => h1 h.1, 100, .inl rfl, by rw [if_neg h1]⟩

def gridP (p : Int × Int × Int) : Prop := (-64 ≤ p.1 ∧ p.1 ≤ 64) ∧ (-64 ≤ p.2.1 ∧ p.2.1 ≤ 64) ∧ 0 ≤ p.2.2 ∧ p.2.2 ≤ 64

theorem cells_grid {b : Bx} (hb : boxOk b = true) {p : Int × Int × Int} (hp : p ∈ boxCells b) : gridP p := by
  have h := mem_box.1 hp
  have h : hasB b p.1 p.2.1 p.2.2 = true := h
  simp only [boxOk, Bool.and_eq_true, cellOk] at hb
  simp only [hasB, Bool.and_eq_true] at h
  simp only [btw_iff] at hb h
  unfold gridP
  omega

theorem nears_ch (bits : List Int) (aper x y : Int) : ∀ (l : List Echo) (i k : Nat), nears aper x y (chL bits l i) k = nears aper x y l k
  | [], i, k => rfl
  | e :: r, i, k => by
    simp only [chL, nears, nears_ch bits aper x y r (i + 1) (k + 1)]
    rfl

theorem bdd_getD {s : List (Int × Int)} (hs : ∀ b ∈ s, -16777216 ≤ b.1 ∧ b.1 ≤ b.2 ∧ b.2 ≤ 16777216) (t : Nat) : bdd 16777216 (s.getD t (0, 0)) ∧ (s.getD t (0, 0)).1 ≤ (s.getD t (0, 0)).2 := by
  rw [List.getD_eq_getElem?_getD]
  by_cases h : t < s.length
  · rw [List.getElem?_eq_getElem h, Option.getD_some]
    have := hs _ (List.getElem_mem h)
    unfold bdd; omega
  · rw [List.getElem?_eq_none (by omega), Option.getD_none]
    unfold bdd; simp

theorem ch_smp {bits : List Int} {i : Nat} {s : List (Int × Int)} (hs : ∀ b ∈ s, -16777216 ≤ b.1 ∧ b.1 ≤ b.2 ∧ b.2 ≤ 16777216) (t : Nat) :
    bdd 16777216 ((chS bits i s 0).getD t (0, 0)) ∧ ins ((chS bits i s 0).getD t (0, 0)) (s.getD t (0, 0)) ∧ ((chS bits i s 0).getD t (0, 0)).1 = ((chS bits i s 0).getD t (0, 0)).2 := by
  rw [List.getD_eq_getElem?_getD, List.getD_eq_getElem?_getD, chS_get]
  by_cases h : t < s.length
  · rw [List.getElem?_eq_getElem h]
    have h1 := hs _ (List.getElem_mem h)
    have h2 := chN_bd (bits := bits) (i := i) (k := 0 + t) (b := s[t]) h1.2.1
    simp only [Option.map_some, Option.getD_some]
    refine ⟨?_, ?_, trivial⟩
    · unfold bdd; simp only; omega
    · unfold ins; simp only; omega
  · rw [List.getElem?_eq_none (by omega)]
    simp only [Option.map_none, Option.getD_none]
    refine ⟨?_, ins_refl _, trivial⟩
    unfold bdd; simp

section
variable {l : List Echo} (hE : echoesOk l = true)
include hE

theorem near_spec {aper x y : Int} {p : Int × Int} (hp : p ∈ nears aper x y l 0) (hx : -64 ≤ x ∧ x ≤ 64) (hy : -64 ≤ y ∧ y ≤ 64) : ∃ i : Nat, ∃ h : i < l.length, p.1 = (i : Int) ∧ (0 ≤ p.2 ∧ p.2 ≤ 100000) ∧ ∀ b ∈ l[i].s, -16777216 ≤ b.1 ∧ b.1 ≤ b.2 ∧ b.2 ≤ 16777216 := by
  obtain ⟨i, h, h1, h2, _⟩ := nears_dst hp
  obtain ⟨e1, _, e3⟩ := echoOk_spec ((echoesOk_spec hE).2 _ (List.getElem_mem h))
  have := dst_bd hx hy e1
  exact ⟨i, h, by simpa using h1, by rw [h2]; omega, e3⟩

theorem val_enc {aper q : Int} {slow : Int × Int} {p : Int × Int × Int} (hp : gridP p) (hq : slow.1 ≤ q ∧ q ≤ slow.2) (hs : 0 ≤ slow.1 ∧ slow.2 ≤ 4096) : ins (valOf l aper q p) (encOf l aper slow p) := by
  obtain ⟨x, y, z⟩ := p
  obtain ⟨hx, hy, hz⟩ := hp
  simp only at hx hy hz
  unfold valOf encOf encB
  rw [value_sum]
  have hl := (echoesOk_spec hE).1
  have hnl := nears_len (aper := aper) (x := x) (y := y) (l := l) (k := 0)
  refine fold_ins (valC ⟨l, aper, (q, q)⟩ z) (reachOf ⟨l, aper, slow⟩ z) _ 0 _ _ (Int.le_refl _) (by simp only; omega) (fun p hp => ?_) (by unfold bdd; simp) (by unfold bdd; simp) (ins_refl _)
  obtain ⟨i, h, h1, h2, h3⟩ := near_spec hE hp hx hy
  have es : ∀ (a : Int) (s : Int × Int), sAt ⟨l, a, s⟩ p.1 = l[i].s := fun a s => by simp [sAt, h1, List.getElem?_eq_getElem h]
  unfold valC reachOf
  rw [es, es]
  show bdd 16777216 (smp l[i].s z p.2 q) ∧ bdd 16777216 (reachB l[i].s z p.2 slow) ∧ ins (smp l[i].s z p.2 q) (reachB l[i].s z p.2 slow)
  refine ⟨(bdd_getD h3 _).1, ?_, smp_reach _ _ _ _ _ (timeN_mono hz h2 hs.1 hq.1 (by omega)) (timeN_mono hz h2 (by omega) hq.2 hs.2)⟩
  unfold reachB
  refine reachG_bdd _ _ _ _ _ (fun b hb => ?_) (by unfold bdd; simp)
  have := h3 b (List.mem_of_mem_drop hb)
  unfold bdd; omega

theorem known_val {bits : List Int} {aper q : Int} {p : Int × Int × Int} (hp : gridP p) : ins (valOf (chL bits l 0) aper q p) (valOf l aper q p) ∧ (valOf (chL bits l 0) aper q p).1 = (valOf (chL bits l 0) aper q p).2 := by
  obtain ⟨x, y, z⟩ := p
  obtain ⟨hx, hy, hz⟩ := hp
  simp only at hx hy hz
  unfold valOf
  rw [value_sum, value_sum]
  simp only [nears_ch]
  have hl := (echoesOk_spec hE).1
  have hnl := nears_len (aper := aper) (x := x) (y := y) (l := l) (k := 0)
  have key : ∀ p ∈ nears aper x y l 0, bdd 16777216 (valC ⟨chL bits l 0, aper, (q, q)⟩ z p) ∧ bdd 16777216 (valC ⟨l, aper, (q, q)⟩ z p) ∧ ins (valC ⟨chL bits l 0, aper, (q, q)⟩ z p) (valC ⟨l, aper, (q, q)⟩ z p) ∧ (valC ⟨chL bits l 0, aper, (q, q)⟩ z p).1 = (valC ⟨chL bits l 0, aper, (q, q)⟩ z p).2 := fun p hp => by
    obtain ⟨i, h, h1, h2, h3⟩ := near_spec hE hp hx hy
    have es : sAt ⟨l, aper, (q, q)⟩ p.1 = l[i].s := by simp [sAt, h1, List.getElem?_eq_getElem h]
    have es2 : sAt ⟨chL bits l 0, aper, (q, q)⟩ p.1 = chS bits i l[i].s 0 := by simp [sAt, h1, chL_get, List.getElem?_eq_getElem h]
    unfold valC smp
    rw [es, es2]
    obtain ⟨g1, g2, g3⟩ := ch_smp (bits := bits) (i := i) h3 (timeN z p.2 q).toNat
    exact ⟨g1, (bdd_getD h3 _).1, g2, g3⟩
  refine ⟨fold_ins _ _ _ 0 _ _ (Int.le_refl _) (by omega) (fun p hp => ⟨(key p hp).1, (key p hp).2.1, (key p hp).2.2.1⟩) (by unfold bdd; simp) (by unfold bdd; simp) (ins_refl _), fold_diag _ _ _ (fun p hp => (key p hp).2.2.2) rfl⟩

theorem ch_ok (bits : List Int) : echoesOk (chL bits l 0) = true := by
  obtain ⟨h1, h2⟩ := echoesOk_spec hE
  simp only [echoesOk, Bool.and_eq_true, decide_eq_true_eq, List.all_eq_true]
  refine ⟨by rw [chL_len]; exact h1, fun e he => ?_⟩
  obtain ⟨i, hi, rfl⟩ := List.mem_iff_getElem.1 he
  have hil : i < l.length := by rw [chL_len] at hi; exact hi
  have e1 : (chL bits l 0)[i] = ⟨l[i].x, l[i].y, chS bits i l[i].s 0⟩ := by
    have := chL_get bits l 0 i
    rw [List.getElem?_eq_getElem hi, List.getElem?_eq_getElem hil] at this
    simpa using this
  have g := h2 _ (List.getElem_mem hil)
  obtain ⟨_, _, hs⟩ := echoOk_spec g
  rw [e1]
  simp only [echoOk, Bool.and_eq_true, chS_len] at g ⊢
  refine ⟨g.1, ?_⟩
  rw [List.all_eq_true]
  intro b hb
  obtain ⟨t, ht, rfl⟩ := List.mem_iff_getElem.1 hb
  obtain ⟨g1, g2, g3⟩ := ch_smp (bits := bits) (i := i) hs t
  rw [List.getD_eq_getElem?_getD, List.getElem?_eq_getElem ht, Option.getD_some] at g1 g3
  unfold bdd at g1
  simp only [loud, Bool.and_eq_true, decide_eq_true_eq]
  omega

end

theorem c_VolumeTruth {l : List Echo} (hl : sane l) (b : Bx) (aper : Int) (slow : Int × Int) {bits : List Int} (hb : bits.length ≤ 9223372036854775807) (n : Int) :
    C Try.prog F.law10_VolumeTruth [sE l, .agg [I b.x, I b.y, I b.z, I b.a, I b.b, I b.c, I aper, I slow.1, I slow.2], .agg [intsV bits, I n]] (.bool true) := by
  refine C_of mixed chk.law10_VolumeTruth (by simp) fun S ok => ?_
  have k1 := c_Enclose hl b aper slow
  unfold encS at k1
  refine Tr.seqR rfl (by simp [intsV]) ?_
  rcases boxR_cases (.slice 0 2 []) l b aper slow (encOf l aper slow) with ⟨⟨hE, hA, hB⟩, hr⟩ | ⟨_, e, he, hr⟩
  rotate_left
  · rw [hr] at k1
    refine Tr.seqC rfl (by simp) (Steps.call rfl rfl k1 (Steps.fin rfl (by simp) ?_))
    refine Tr.seq (Tr.seqR rfl (by simp) (Tr.cond rfl rfl (fun _ => ?_) (fun h1 => ?_)))
    · refine Tr.seqC rfl (by simp) (Steps.gcall rfl rfl rfl rfl (by simp) (fun _ => c_works) (Steps.fin rfl (by simp) (Tr.retX rfl rfl rfl ?_ trivial)))
      simp [packR]
    · have h1 : (e != 0) = false := h1
      rcases he with rfl | rfl <;> cases h1
  rw [hr] at k1
  have hA' : (0 ≤ aper ∧ aper ≤ 128) ∧ 0 ≤ slow.1 ∧ slow.1 ≤ slow.2 ∧ slow.2 ≤ 4096 := by
    simp only [earOk, Bool.and_eq_true, btw_iff, decide_eq_true_eq] at hA
    omega
  have hsm := (boxOk_spec hB).1
  have hbl := boxCells_len hsm
  have hq0 := restI_bd (n := n) (m := slow.2 - slow.1 + 1) (by omega)
  obtain ⟨q, hq⟩ : ∃ q, slow.1 + restI n (slow.2 - slow.1 + 1) = q := ⟨_, rfl⟩
  have hqb : slow.1 ≤ q ∧ q ≤ slow.2 := by omega
  have wd : IntKind.i64.wrap (slow.2 - slow.1) = slow.2 - slow.1 := w64 (by omega) (by omega)
  have wd1 : IntKind.i64.wrap (slow.2 - slow.1 + 1) = slow.2 - slow.1 + 1 := w64 (by omega) (by omega)
  have wq : IntKind.i64.wrap (slow.1 + restI n (slow.2 - slow.1 + 1)) = q := by rw [hq]; exact w64 (by omega) (by omega)
  have hAq : earOk aper (q, q) = true := by
    rw [earOk_one, Bool.and_eq_true]
    simp only [btw_iff]; omega
  have hcE := ch_ok hE bits
  have hcs : sane (chL bits l 0) := by
    refine ⟨by rw [chL_len]; exact hl.1, fun e he => ?_⟩
    have := (echoOk_spec ((echoesOk_spec hcE).2 e he)).2.1
    omega
  have k2 := c_Migrate hcs b aper q
  have k3 := c_Migrate hl b aper q
  unfold valS at k2 k3
  rcases boxR_cases (.slice 0 2 []) (chL bits l 0) b aper (q, q) (valOf (chL bits l 0) aper q) with ⟨_, hr2⟩ | ⟨h, _⟩
  rotate_left
  · exact absurd ⟨hcE, hAq, hB⟩ h
  rcases boxR_cases (.slice 0 2 []) l b aper (q, q) (valOf l aper q) with ⟨_, hr3⟩ | ⟨h, _⟩
  rotate_left
  · exact absurd ⟨hE, hAq, hB⟩ h
  rw [hr2] at k2
  rw [hr3] at k3
  refine Tr.seqC rfl (by simp) (Steps.call rfl rfl k1 (Steps.fin rfl (by simp) ?_))
  refine Tr.seq (Tr.seqR rfl (by simp) (Tr.condF rfl (Tr.skip ?_)))
  refine Tr.seq (Tr.drawK (TraceK.run rfl (by simp) ?_))
  rw [wd, wd1]
  refine TraceK.call rfl rfl (c_Rest n (slow.2 - slow.1 + 1) (by omega)) (TraceK.run rfl (by simp) (.done ⟨by kernel_rfl, by kernel_rfl, ?_⟩))
  refine Tr.seqC rfl (by simp) (Steps.call rfl rfl (c_chosen hE bits hb) (Steps.fin rfl (by simp) ?_))
  refine Tr.seqC rfl (by simp [sE]) ?_
  rw [wq]
  refine Steps.call rfl rfl k2 (Steps.fin rfl (by simp) ?_)
  refine Tr.seqC rfl (by simp) ?_
  refine Steps.call rfl rfl k3 (Steps.fin rfl (by simp) ?_)
  have get : ∀ (f g : Int × Int × Int → Int × Int), (∀ p ∈ boxCells b, ins (f p) (g p)) → ∀ i (h : i < ((boxCells b).map f).length) (h' : i < ((boxCells b).map g).length), ins ((boxCells b).map f)[i] ((boxCells b).map g)[i] := fun f g hfg i h h' => by
    rw [List.getElem_map, List.getElem_map]
    exact hfg _ (List.getElem_mem _)
  have i1 := c_inside b ((boxCells b).map (valOf (chL bits l 0) aper q)) ((boxCells b).map (encOf l aper slow)) (by rw [List.length_map]; omega) (by simp) (get _ _ fun p hp => ins_trans (known_val hE (cells_grid hB hp)).1 (val_enc hE (cells_grid hB hp) hqb (by omega)))
  have i2 := c_inside b ((boxCells b).map (valOf (chL bits l 0) aper q)) ((boxCells b).map (valOf l aper q)) (by rw [List.length_map]; omega) (by simp) (get _ _ fun p hp => (known_val hE (cells_grid hB hp)).1)
  have i3 := c_inside b ((boxCells b).map (valOf l aper q)) ((boxCells b).map (encOf l aper slow)) (by rw [List.length_map]; omega) (by simp) (get _ _ fun p hp => val_enc hE (cells_grid hB hp) hqb (by omega))
  refine Tr.seq (Tr.seq (Tr.reg (Steps.runG rfl (by simp) ?_)))
  refine Steps.on rfl rfl (Steps.call rfl rfl i1 (Steps.runG rfl (by simp) ?_))
  refine Steps.on rfl rfl (Steps.call rfl rfl i2 (Steps.runG rfl (by simp) ?_))
  refine Steps.on rfl rfl (Steps.call rfl rfl i3 (Steps.runG rfl (by simp) ?_))
  refine Tr.condF (by simp; rfl) (Tr.skip ?_)
  obtain ⟨R, hR⟩ : ∃ R, (boxCells b).map (valOf (chL bits l 0) aper q) = R := ⟨_, rfl⟩
  have hRl : R.length ≤ 4096 := by rw [← hR, List.length_map]; exact hbl
  have hRd : ∀ i (h : i < R.length), R[i].1 = R[i].2 := fun i h => by
    subst hR
    rw [List.getElem_map]
    exact (known_val hE (cells_grid hB (List.getElem_mem _))).2
  rw [hR]
  refine Tr.seq (Tr.seqR rfl (by simp) (Tr.block ?_))
  refine Tr.loop (fun k st => k ≤ R.length ∧ st = { env := [(11, .ptr 11 0), (14, I k)], bx := [(11, ⟨[I b.x, I b.y, I b.z, I b.a, I b.b, I b.c, .slice 0 2 (R.map eB)], false⟩)], rw := [], log := [], stp := false }) (fun k => R.length - k) 0
    (Wk.le (.cons rfl (.refl _) (.cons rfl (.refl _) .nil)) (.cons rfl (LLe.refl _) .nil) .nil rfl rfl) ⟨by omega, rfl⟩ ?_
  rintro k st ⟨hk, rfl⟩
  refine Tr.seq (Tr.seqR rfl (by simp) (Tr.cond rfl rfl (fun h3 => Tr.skip ?_) (fun h3 => Tr.exit ?_)))
  · have h3 : k < R.length := by simpa using h3
    have hd := hRd k h3
    refine Tr.seq (Tr.block (Tr.seq (Tr.drawK (TraceK.runN 4 rfl (by simp; omega) ?_))))
    rw [getD_map h3]
    refine TraceK.runN 6 rfl (by simp [eB]; omega) ?_
    rw [getD_map h3]
    refine TraceK.run rfl (by simp [eB]) (.done ⟨by kernel_rfl, by kernel_rfl, ?_⟩)
    refine Tr.cond rfl rfl (fun h5 => ?_) (fun h5 => Tr.skip (Tr.regR rfl (by simp) ?_))
    · have h5 : (R[k].1 != R[k].2) = true := h5
      rw [hd] at h5
      simp at h5
    · exact ⟨k + 1, _, Wk.le (.cons rfl (.refl _) (.cons rfl (VLe.i (w64 (by omega) (by omega))) .nil)) (.cons rfl (LLe.refl _) .nil) .nil rfl rfl, ⟨h3, rfl⟩, by omega⟩
  · refine Tr.seqC rfl (by simp) (Steps.call rfl rfl c_works (Steps.fin rfl (by simp) (Tr.retX rfl rfl rfl rfl trivial)))

end Go.Proofs.Ytkifejklnpddbaa

/-! The law VolumeFilled: what is heard, and what of it is seen. -/
set_option linter.unusedVariables false
set_option linter.unusedSimpArgs false
set_option maxRecDepth 20000
set_option maxHeartbeats 4000000
namespace Go.Proofs.Ytkifejklnpddbaa
open Go.Am
attribute [local simp] cells scalar mkv splice under2 under dem dem1 boxC cellC eE sB eB

structure Heard where
  pl : List (Int × Int)
  st : List Int
  ms : List Int
  sl : Int
def hearC (x : Heard) : List V := [sB x.pl, intsV x.st, intsV x.ms, I x.sl]
def slN (x : Heard) : Int := restI x.sl 100
def dN (x : Heard) (i k : Nat) : Int := restI (pickI x.st (3 * (i : Int) + (k : Int))) (2 * slN x + 1) - slN x
def cum (x : Heard) (i : Nat) : Nat → Int
  | 0 => 0
  | k + 1 => cum x i k + dN x i k
def trueL (x : Heard) (i n : Nat) : List Int := (List.range n).map fun k => cum x i (k + 1)
def missB (x : Heard) (i k : Nat) : Bool := restI (pickI x.ms ((i : Int) + (k : Int))) 2 == 1
def seenN (x : Heard) (i m k : Nat) : Int := if 1 ≤ k ∧ k < m ∧ missB x i k = true then 40000 else cum x i (k + 1)
def seenL (x : Heard) (i m : Nat) : List Int := (List.range 20).map (seenN x i m)
def hX (x : Heard) (i : Nat) : Int := restI (x.pl.getD i (0, 0)).1 41 - 20
def hY (x : Heard) (i : Nat) : Int := restI (x.pl.getD i (0, 0)).2 41 - 20
def lE (x : Heard) (i : Nat) : Echo := ⟨hX x i, hY x i, fillL (seenL x i 20) (slN x)⟩
def aE (x : Heard) (i : Nat) : Echo := ⟨hX x i, hY x i, (trueL x i 20).map fun n => (n, n)⟩

theorem slN_bd (x : Heard) : 0 ≤ slN x ∧ slN x ≤ 99 := by
  have := restI_bd (n := x.sl) (m := 100) (by omega)
  unfold slN; omega

theorem dN_bd (x : Heard) (i k : Nat) : -slN x ≤ dN x i k ∧ dN x i k ≤ slN x := by
  have h := slN_bd x
  have := restI_bd (n := pickI x.st (3 * (i : Int) + (k : Int))) (m := 2 * slN x + 1) (by omega)
  unfold dN; omega

theorem cum_diff (x : Heard) (i : Nat) : ∀ (d k : Nat), cum x i k - slN x * (d : Int) ≤ cum x i (k + d) ∧ cum x i (k + d) ≤ cum x i k + slN x * (d : Int)
  | 0, k => by simp
  | d + 1, k => by
    have h1 := cum_diff x i d k
    have h2 := dN_bd x i (k + d)
    have e : cum x i (k + (d + 1)) = cum x i (k + d) + dN x i (k + d) := rfl
    rw [e]
    push_cast
    rw [Int.mul_add, Int.mul_one]
    omega

theorem cum_bd (x : Heard) (i : Nat) {k : Nat} (hk : k ≤ 20) : -1980 ≤ cum x i k ∧ cum x i k ≤ 1980 := by
  have h1 := cum_diff x i k 0
  have h2 := slN_bd x
  have h3 : slN x * (k : Int) ≤ 99 * 20 := Int.mul_le_mul h2.2 (by omega) (by omega) (by omega)
  rw [Nat.zero_add] at h1
  have h0 : cum x i 0 = 0 := rfl
  omega

theorem seen_ok (x : Heard) (i : Nat) : Seen (trueL x i 20) (seenL x i 20) (slN x) where
  len := by simp [trueL, seenL]
  many := by simp [trueL]
  sl := by have := slN_bd x; omega
  is k h h' := by
    simp only [seenL, trueL, List.getElem_map, List.getElem_range, seenN]
    split
    · exact .inr rfl
    · exact .inl rfl
  lip a k h h' := by
    simp only [trueL, List.getElem_map, List.getElem_range, List.length_map, List.length_range] at h h' ⊢
    unfold awayI
    rcases Nat.le_total a k with hh | hh
    · obtain ⟨d, rfl⟩ : ∃ d, k = a + d := ⟨k - a, by omega⟩
      have h1 := cum_diff x i d (a + 1)
      have e : max ((a : Int) - ((a + d : Nat) : Int)) (((a + d : Nat) : Int) - (a : Int)) = (d : Int) := by omega
      rw [e, show a + d + 1 = a + 1 + d by omega]
      omega
    · obtain ⟨d, rfl⟩ : ∃ d, a = k + d := ⟨a - k, by omega⟩
      have h1 := cum_diff x i d (k + 1)
      have e : max (((k + d : Nat) : Int) - (k : Int)) ((k : Int) - ((k + d : Nat) : Int)) = (d : Int) := by omega
      rw [e, show k + d + 1 = k + 1 + d by omega]
      omega
  small k h := by
    simp only [trueL, List.getElem_map, List.getElem_range, List.length_map, List.length_range] at h ⊢
    have := cum_bd x i (k := k + 1) (by omega)
    omega
  one := by
    have := cum_bd x i (k := 1) (by omega)
    have e : (seenL x i 20).getD 0 40000 = cum x i 1 := by simp [seenL, seenN]
    rw [e]
    exact btw_iff _ _ _ |>.2 (by omega)

theorem l_ok (x : Heard) (i : Nat) : echoOk (lE x i) = true := by
  have h1 := restI_bd (n := (x.pl.getD i (0, 0)).1) (m := 41) (by omega)
  have h2 := restI_bd (n := (x.pl.getD i (0, 0)).2) (m := 41) (by omega)
  have hl : (fillL (seenL x i 20) (slN x)).length = 20 := by simp [fillL, seenL]
  simp only [echoOk, lE, Bool.and_eq_true, List.all_eq_true, btw_iff, hl, hX, hY]
  refine ⟨⟨⟨by omega, by omega⟩, by omega⟩, fun b hb => ?_⟩
  obtain ⟨k, hk, rfl⟩ := List.mem_iff_getElem.1 hb
  have hk20 : k < (trueL x i 20).length := by rw [hl] at hk; simpa [trueL] using hk
  have h := (seen_ok x i).at hk20
  simp only [fillL, List.getElem_map, List.getElem_range, loud, Bool.and_eq_true, decide_eq_true_eq]
  omega

theorem a_ok (x : Heard) (i : Nat) : echoOk (aE x i) = true := by
  have h1 := restI_bd (n := (x.pl.getD i (0, 0)).1) (m := 41) (by omega)
  have h2 := restI_bd (n := (x.pl.getD i (0, 0)).2) (m := 41) (by omega)
  simp only [echoOk, aE, Bool.and_eq_true, List.all_eq_true, btw_iff, hX, hY, List.length_map]
  refine ⟨⟨⟨by omega, by omega⟩, by simp [trueL]⟩, fun b hb => ?_⟩
  obtain ⟨n, hn, rfl⟩ := List.mem_map.1 hb
  obtain ⟨k, hk, rfl⟩ := List.mem_map.1 hn
  have hk : k < 20 := by simpa using hk
  have := cum_bd x i (k := k + 1) (by omega)
  simp only [loud, Bool.and_eq_true, decide_eq_true_eq]
  omega

theorem ls_ok (x : Heard) {n : Nat} (hn : n ≤ 8) : echoesOk ((List.range n).map (lE x)) = true ∧ echoesOk ((List.range n).map (aE x)) = true := by
  simp only [echoesOk, Bool.and_eq_true, decide_eq_true_eq, List.all_eq_true, List.length_map, List.length_range]
  exact ⟨⟨by omega, fun e he => by obtain ⟨i, _, rfl⟩ := List.mem_map.1 he; exact l_ok x i⟩, by omega, fun e he => by obtain ⟨i, _, rfl⟩ := List.mem_map.1 he; exact a_ok x i⟩

theorem gives_ins (x : Heard) (i : Nat) (aper q a b c : Int) : bdd 16777216 (givesB aper q a b c (aE x i)) ∧ bdd 16777216 (givesB aper q a b c (lE x i)) ∧ ins (givesB aper q a b c (aE x i)) (givesB aper q a b c (lE x i)) := by
  have z : bdd 16777216 (0, 0) := by unfold bdd; simp
  unfold givesB
  have h1 : hears aper a b (aE x i) = hears aper a b (lE x i) := rfl
  have d1 : dst a b (aE x i) = dst a b (lE x i) := rfl
  rw [h1, d1]
  split
  · unfold smp
    generalize (timeN c (dst a b (lE x i)) q).toNat = t
    have ga := bdd_getD (echoOk_spec (a_ok x i)).2.2 t
    have gl := bdd_getD (echoOk_spec (l_ok x i)).2.2 t
    refine ⟨ga.1, gl.1, ?_⟩
    by_cases ht : t < 20
    · have h := (seen_ok x i).at (i := t) (by simpa [trueL] using ht)
      have e1 : (aE x i).s.getD t (0, 0) = (cum x i (t + 1), cum x i (t + 1)) := by
        simp [aE, trueL, List.getD_eq_getElem?_getD, List.getElem?_range ht]
      have e2 : (lE x i).s.getD t (0, 0) = fillAt (seenL x i 20) (slN x) t := by
        have : t < (seenL x i 20).length := by simpa [seenL] using ht
        simp [lE, fillL, List.getD_eq_getElem?_getD, List.getElem?_range this]
      have e3 : (trueL x i 20)[t]'(by simpa [trueL] using ht) = cum x i (t + 1) := by simp [trueL]
      rw [e3] at h
      rw [e1, e2]
      unfold ins
      simp only
      omega
    · have e1 : (aE x i).s.getD t (0, 0) = (0, 0) := by
        rw [List.getD_eq_getElem?_getD, List.getElem?_eq_none (by simp [aE, trueL]; omega)]; rfl
      have e2 : (lE x i).s.getD t (0, 0) = (0, 0) := by
        rw [List.getD_eq_getElem?_getD, List.getElem?_eq_none (by simp [lE, fillL, seenL]; omega)]; rfl
      rw [e1, e2]
      exact ins_refl _
  · exact ⟨z, z, ins_refl _⟩

theorem filled_ins (x : Heard) {n : Nat} (hn : n ≤ 8) (aper q : Int) (p : Int × Int × Int) : ins (valOf ((List.range n).map (aE x)) aper q p) (valOf ((List.range n).map (lE x)) aper q p) := by
  rw [value_gives, value_gives, List.map_map, List.map_map]
  exact fold_ins (fun i => givesB aper q p.1 p.2.1 p.2.2 (aE x i)) (fun i => givesB aper q p.1 p.2.1 p.2.2 (lE x i)) (List.range n) 0 _ _ (Int.le_refl _) (by simp; omega) (fun i _ => gives_ins x i aper q _ _ _) (by unfold bdd; simp) (by unfold bdd; simp) (ins_refl _)

end Go.Proofs.Ytkifejklnpddbaa

/-! The law VolumeFilled: what is told of what is heard. -/
set_option linter.unusedVariables false
set_option linter.unusedSimpArgs false
set_option maxRecDepth 20000
set_option maxHeartbeats 4000000
namespace Go.Proofs.Ytkifejklnpddbaa
open Go.Am
attribute [local simp] cells scalar mkv splice under2 under dem dem1 boxC cellC eE sB eB intsV

theorem seen_one (x : Heard) (i : Nat) : seenL x i 1 = trueL x i 20 := by
  unfold seenL trueL
  refine List.map_congr_left fun k hk => ?_
  unfold seenN
  rw [if_neg (by omega)]

theorem true_succ (x : Heard) (i k : Nat) : (trueL x i k).map I ++ [I (cum x i (k + 1))] = (trueL x i (k + 1)).map I := by
  unfold trueL
  rw [List.range_succ, List.map_append, List.map_append]
  rfl

theorem seen_hit (x : Heard) (i : Nat) {m : Nat} (h1 : 1 ≤ m) (hm : m < 20) (hb : missB x i m = true) : List.take m ((seenL x i m).map I) ++ [I 40000] ++ List.drop (m + 1) ((seenL x i m).map I) = (seenL x i (m + 1)).map I := by
  refine List.ext_getElem (by simp [seenL]; omega) fun k hk hk' => ?_
  simp only [seenL, List.length_map, List.length_range] at hk'
  rcases Nat.lt_trichotomy k m with h | h | h
  · rw [List.getElem_append_left (by simp [seenL]; omega), List.getElem_append_left (by simp [seenL]; omega)]
    simp only [List.getElem_take, seenL, List.getElem_map, List.getElem_range, seenN]
    congr 1
    by_cases hc : 1 ≤ k ∧ missB x i k = true
    · rw [if_pos ⟨hc.1, h, hc.2⟩, if_pos ⟨hc.1, by omega, hc.2⟩]
    · rw [if_neg (fun c => hc ⟨c.1, c.2.2⟩), if_neg (fun c => hc ⟨c.1, c.2.2⟩)]
  · subst h
    rw [List.getElem_append_left (by simp [seenL]; omega), List.getElem_append_right (by simp [seenL]; omega)]
    simp only [seenL, List.getElem_map, List.getElem_range, seenN]
    rw [if_pos ⟨h1, by omega, hb⟩]
    simp
  · have el : (List.take m (List.map I (seenL x i m)) ++ [I 40000]).length = m + 1 := by simp [seenL]; omega
    rw [List.getElem_append_right (by omega), List.getElem_drop]
    simp only [el]
    simp only [seenL, List.getElem_map, List.getElem_range, seenN, show m + 1 + (k - (m + 1)) = k by omega]
    rw [if_neg (by omega), if_neg (by omega)]

theorem seen_miss (x : Heard) (i : Nat) {m : Nat} (hb : missB x i m = false) : seenL x i m = seenL x i (m + 1) := by
  unfold seenL
  refine List.map_congr_left fun k hk => ?_
  unfold seenN
  by_cases h : k = m
  · subst h
    rw [hb]
    simp
  · by_cases hc : 1 ≤ k ∧ k < m ∧ missB x i k = true
    · rw [if_pos hc, if_pos ⟨hc.1, by omega, hc.2.2⟩]
    · rw [if_neg hc, if_neg (fun c => hc ⟨c.1, by omega, c.2.2⟩)]

theorem c_told (x : Heard) (hpl : x.pl.length ≤ 9223372036854775807) (hst : x.st.length ≤ 9223372036854775807) (hms : x.ms.length ≤ 9223372036854775807) : C Try.prog F.law10_told [.agg [sB x.pl, intsV x.st, intsV x.ms, I x.sl]] (.tuple [sE ((List.range (min x.pl.length 8)).map (lE x)), sE ((List.range (min x.pl.length 8)).map (aE x)), .bool true]) := by
  have hsb := slN_bd x
  have kS : C Try.prog F.ref00_Rest [I x.sl, I 100] (I (slN x)) := c_Rest x.sl 100 (by omega)
  refine C_of mixed chk.law10_told (by simp) fun S ok => ?_
  refine Tr.seqR rfl (by simp) (Tr.seqC rfl (by simp) (Steps.call rfl rfl kS (Steps.fin rfl (by simp) ?_)))
  refine Tr.seqR rfl (by simp) (Tr.seq (Tr.seqR rfl (by simp) (Tr.block ?_)))
  refine Tr.loop (fun i s => (i ≤ x.pl.length ∧ i ≤ 8) ∧ s = { env := [(1, .ptr 1 0), (5, I (slN x)), (6, .slice 112 3 ((List.range i).map fun i => eE (lE x i))), (7, .slice 120 3 ((List.range i).map fun i => eE (aE x i))), (8, I i)], bx := [(1, ⟨[sB x.pl, intsV x.st, intsV x.ms, I x.sl], false⟩)], rw := [(111, i, 3, 79), (119, i, 3, 79)], log := [], stp := false }) (fun i => 8 - i) 0
    (Wk.le (.cons rfl (.refl _) (.cons rfl (.refl _) (.cons rfl (.nil 112 3) (.cons rfl (.nil 120 3) (.cons rfl (.refl _) .nil))))) (.cons rfl (LLe.refl _) .nil) (.new rfl (.new rfl .nil)) rfl rfl) ⟨by omega, rfl⟩ ?_
  rintro i s ⟨⟨hi, hi8⟩, rfl⟩
  refine Tr.seq (Tr.seqR rfl (by simp) (Tr.cond rfl rfl (fun h3 => Tr.skip ?_) (fun h3 => Tr.exit ?_)))
  rotate_left
  · have h3 : (bif decide ((i : Int) < ((x.pl.map eB).length : Int)) then decide ((i : Int) < 8) else false) = false := h3
    have h3 : i = min x.pl.length 8 := by
      rw [List.length_map] at h3
      by_cases h : (i : Int) < (x.pl.length : Int)
      · rw [decide_eq_true h] at h3
        have h5 : decide ((i : Int) < 8) = false := h3
        rw [decide_eq_false_iff_not] at h5
        omega
      · omega
    obtain ⟨n, hn⟩ : ∃ n, min x.pl.length 8 = n := ⟨_, rfl⟩
    rw [hn] at h3 ⊢
    subst h3
    have e1 : ((List.range i).map fun i => eE (lE x i)) = ((List.range i).map (lE x)).map eE := by rw [List.map_map]; rfl
    have e2 : ((List.range i).map fun i => eE (aE x i)) = ((List.range i).map (aE x)).map eE := by rw [List.map_map]; rfl
    rw [e1, e2]
    refine Tr.weak (s' := { env := [(6, sE ((List.range i).map (lE x))), (7, sE ((List.range i).map (aE x)))], bx := [], rw := [], log := [], stp := false }) (Wk.le (.cons rfl (.dem _ _ _) (.cons rfl (.dem _ _ _) .nil)) .nil .nil rfl rfl) ?_
    exact Tr.seqR rfl (by simp) (Tr.retX rfl rfl rfl rfl trivial)
  have h3 : (bif decide ((i : Int) < ((x.pl.map eB).length : Int)) then decide ((i : Int) < 8) else false) = true := h3
  have h3 : i < x.pl.length ∧ i < 8 := by
    rw [List.length_map] at h3
    cases h : decide ((i : Int) < (x.pl.length : Int)) with
    | false => rw [h] at h3; cases h3
    | true =>
      rw [h] at h3
      have h5 : decide ((i : Int) < 8) = true := h3
      rw [decide_eq_true_eq] at h h5
      omega
  obtain ⟨h3, h8⟩ := h3
  obtain ⟨p, hp⟩ : ∃ p, x.pl[i] = p := ⟨_, rfl⟩
  have hpd : x.pl.getD i (0, 0) = p := by rw [List.getD_eq_getElem?_getD, List.getElem?_eq_getElem h3, hp]; rfl
  have hb1 := restI_bd (n := p.1) (m := 41) (by omega)
  have hb2 := restI_bd (n := p.2) (m := 41) (by omega)
  have hXe : hX x i = restI p.1 41 - 20 := by unfold hX; rw [hpd]
  have hYe : hY x i = restI p.2 41 - 20 := by unfold hY; rw [hpd]
  refine Tr.seq (Tr.block (Tr.seq (Tr.drawK (TraceK.runN 4 rfl (by simp; omega) ?_))))
  rw [getD_map h3, hp]
  refine TraceK.run rfl (by simp) (TraceK.call rfl rfl (c_Rest p.1 41 (by omega)) ?_)
  refine TraceK.runN 5 rfl (by simp; omega) ?_
  rw [getD_map h3, hp]
  refine TraceK.run rfl (by simp) (TraceK.call rfl rfl (c_Rest p.2 41 (by omega)) ?_)
  refine TraceK.run rfl (by simp) (.done ⟨by kernel_rfl, by kernel_rfl, ?_⟩)
  refine Tr.weak (s' := { env := [(1, .ptr 1 0), (5, I (slN x)), (6, .slice 112 3 ((List.range i).map fun i => eE (lE x i))), (7, .slice 120 3 ((List.range i).map fun i => eE (aE x i))), (8, I i), (9, I (hX x i)), (10, I (hY x i))], bx := [(1, ⟨[sB x.pl, intsV x.st, intsV x.ms, I x.sl], false⟩)], rw := [(111, i, 3, 79), (119, i, 3, 79)], log := [], stp := false })
    (Wk.le (.cons rfl (.refl _) (.cons rfl (.refl _) (.cons rfl (.refl _) (.cons rfl (.refl _) (.cons rfl (.refl _) (.cons rfl (VLe.i (by rw [hXe]; exact w64 (by omega) (by omega))) (.cons rfl (VLe.i (by rw [hYe]; exact w64 (by omega) (by omega))) .nil))))))) (.cons rfl (LLe.refl _) .nil) (.cons rfl (.cons rfl .nil)) rfl rfl) ?_
  refine Tr.seqR rfl (by simp) (Tr.seqR rfl (by simp) (Tr.seq (Tr.seqR rfl (by simp) (Tr.block ?_))))
  refine Tr.loop (fun k s => k ≤ 20 ∧ s = { env := [(1, .ptr 1 0), (5, I (slN x)), (6, .slice 112 3 ((List.range i).map fun i => eE (lE x i))), (7, .slice 120 3 ((List.range i).map fun i => eE (aE x i))), (8, I i), (9, I (hX x i)), (10, I (hY x i)), (11, I (cum x i k)), (12, .slice 71 1 ((trueL x i k).map I)), (13, I k)], bx := [(1, ⟨[sB x.pl, intsV x.st, intsV x.ms, I x.sl], false⟩)], rw := [(70, k, 1, 3), (111, i, 3, 79), (119, i, 3, 79)], log := [], stp := false }) (fun k => 20 - k) 0
    (Wk.le (.cons rfl (.refl _) (.cons rfl (.refl _) (.cons rfl (.refl _) (.cons rfl (.refl _) (.cons rfl (.refl _) (.cons rfl (.refl _) (.cons rfl (.refl _) (.cons rfl (.refl _) (.cons rfl (.nil 71 1) (.cons rfl (.refl _) .nil)))))))))) (.cons rfl (LLe.refl _) .nil) (.new rfl (.cons rfl (.cons rfl .nil))) rfl rfl) ⟨by omega, rfl⟩ ?_
  rintro k s ⟨hk, rfl⟩
  refine Tr.seq (Tr.seqR rfl (by simp) (Tr.cond rfl rfl (fun h4 => Tr.skip ?_) (fun h4 => Tr.exit ?_)))
  · have h4 : k < 20 := Int.ofNat_lt.1 (by simpa using h4)
    have hcb := cum_bd x i (k := k) (by omega)
    have hcb1 := cum_bd x i (k := k + 1) (by omega)
    have hdb := dN_bd x i k
    have kP : C Try.prog F.ref00_Pick [intsV x.st, I (IntKind.i64.wrap (IntKind.i64.wrap (3 * (i : Int)) + (k : Int)))] (I (pickI x.st (3 * (i : Int) + (k : Int)))) := by
      rw [w64 (n := 3 * (i : Int)) (by omega) (by omega), w64 (n := 3 * (i : Int) + (k : Int)) (by omega) (by omega)]
      exact c_Pick x.st _ hst
    have kR : C Try.prog F.ref00_Rest [I (pickI x.st (3 * (i : Int) + (k : Int))), I (IntKind.i64.wrap (IntKind.i64.wrap (2 * slN x) + 1))] (I (restI (pickI x.st (3 * (i : Int) + (k : Int))) (2 * slN x + 1))) := by
      rw [w64 (n := 2 * slN x) (by omega) (by omega), w64 (n := 2 * slN x + 1) (by omega) (by omega)]
      exact c_Rest _ _ (by omega)
    have hd : dN x i k = restI (pickI x.st (3 * (i : Int) + (k : Int))) (2 * slN x + 1) - slN x := rfl
    have hc : cum x i (k + 1) = cum x i k + dN x i k := rfl
    refine Tr.seq (Tr.block (Tr.seqC rfl (by simp) (Steps.call rfl rfl kP (Steps.run rfl (by simp) (Steps.call rfl rfl kR (Steps.fin rfl (by simp) ?_))))))
    generalize restI (pickI x.st (3 * (i : Int) + (k : Int))) (2 * slN x + 1) = R at hd
    refine Tr.weak (s' := { env := [(1, .ptr 1 0), (5, I (slN x)), (6, .slice 112 3 ((List.range i).map fun i => eE (lE x i))), (7, .slice 120 3 ((List.range i).map fun i => eE (aE x i))), (8, I i), (9, I (hX x i)), (10, I (hY x i)), (11, I (cum x i (k + 1))), (12, .slice 71 1 ((trueL x i k).map I)), (13, I k)], bx := [(1, ⟨[sB x.pl, intsV x.st, intsV x.ms, I x.sl], false⟩)], rw := [(70, k, 1, 3), (111, i, 3, 79), (119, i, 3, 79)], log := [], stp := false })
      (Wk.le (.cons rfl (.refl _) (.cons rfl (.refl _) (.cons rfl (.refl _) (.cons rfl (.refl _) (.cons rfl (.refl _) (.cons rfl (.refl _) (.cons rfl (.refl _) (.cons rfl (VLe.i (by rw [w64 (n := R - slN x) (by omega) (by omega), w64 (n := cum x i k + (R - slN x)) (by omega) (by omega)]; omega)) (.cons rfl (.refl _) (.cons rfl (.refl _) .nil)))))))))) (.cons rfl (LLe.refl _) .nil) (.cons rfl (.cons rfl (.cons rfl .nil))) rfl rfl) ?_
    refine Tr.regR rfl (by simp [trueL]; omega) (Tr.regR rfl (by simp) ?_)
    refine ⟨k + 1, _, (Wk.le (.cons rfl (.refl _) (.cons rfl (.refl _) (.cons rfl (.refl _) (.cons rfl (.refl _) (.cons rfl (.refl _) (.cons rfl (.refl _) (.cons rfl (.refl _) (.cons rfl (.refl _) (.cons rfl (.of_eq (by rw [← true_succ])) (.cons rfl (VLe.i (w64 (by omega) (by omega))) .nil)))))))))) (.cons rfl (LLe.refl _) .nil) (.cons ?_ (.cons rfl (.cons rfl .nil))) rfl rfl), ⟨by omega, rfl⟩, by omega⟩
    show some _ = some _
    simp [trueL]
  have h4 : k = 20 := by simp at h4; omega
  subst h4
  refine Tr.weak (s' := { env := [(1, .ptr 1 0), (5, I (slN x)), (6, .slice 112 3 ((List.range i).map fun i => eE (lE x i))), (7, .slice 120 3 ((List.range i).map fun i => eE (aE x i))), (8, I i), (9, I (hX x i)), (10, I (hY x i)), (12, intsV (trueL x i 20))], bx := [(1, ⟨[sB x.pl, intsV x.st, intsV x.ms, I x.sl], false⟩)], rw := [(111, i, 3, 79), (119, i, 3, 79)], log := [], stp := false }) (Wk.le (.cons rfl (.refl _) (.cons rfl (.refl _) (.cons rfl (.refl _) (.cons rfl (.refl _) (.cons rfl (.refl _) (.cons rfl (.refl _) (.cons rfl (.refl _) (.cons rfl (.dem _ _ _) .nil)))))))) (.cons rfl (LLe.refl _) .nil) (.cons rfl (.cons rfl .nil)) rfl rfl) ?_
  have htl : (trueL x i 20).length = 20 := by simp [trueL]
  have hO := c_Own (l := trueL x i 20) (by intro e; rw [e] at htl; cases htl) (by omega)
  refine Tr.seqC rfl (by simp) (Steps.callO rfl (fun _ => rfl) hO rfl (Steps.fin rfl (by simp) ?_))
  refine Tr.weak (s' := { env := [(1, .ptr 1 0), (5, I (slN x)), (6, .slice 112 3 ((List.range i).map fun i => eE (lE x i))), (7, .slice 120 3 ((List.range i).map fun i => eE (aE x i))), (8, I i), (9, I (hX x i)), (10, I (hY x i)), (12, intsV (trueL x i 20)), (14, .bsl 72 0 1 20)], bx := [(72, ⟨(seenL x i 1).map I, false⟩), (1, ⟨[sB x.pl, intsV x.st, intsV x.ms, I x.sl], false⟩)], rw := [(111, i, 3, 79), (119, i, 3, 79)], log := [], stp := false })
    (Wk.le (.cons rfl (.refl _) (.cons rfl (.refl _) (.cons rfl (.refl _) (.cons rfl (.refl _) (.cons rfl (.refl _) (.cons rfl (.refl _) (.cons rfl (.refl _) (.cons rfl (.refl _) (.cons rfl (.of_eq (by simp [htl])) .nil))))))))) (.cons rfl (by rw [seen_one, flat_ints]; exact LLe.refl _) (.cons rfl (LLe.refl _) .nil)) (.cons rfl (.cons rfl .nil)) (okI rfl) rfl) ?_
  refine Tr.seq (Tr.seqR rfl (by simp) (Tr.block ?_))
  refine Tr.loop (fun (m : Nat) s => (1 ≤ m ∧ m ≤ 20) ∧ s = { env := [(1, .ptr 1 0), (5, I (slN x)), (6, .slice 112 3 ((List.range i).map fun i => eE (lE x i))), (7, .slice 120 3 ((List.range i).map fun i => eE (aE x i))), (8, I i), (9, I (hX x i)), (10, I (hY x i)), (12, intsV (trueL x i 20)), (14, .bsl 72 0 1 20), (15, I m)], bx := [(72, ⟨(seenL x i m).map I, false⟩), (1, ⟨[sB x.pl, intsV x.st, intsV x.ms, I x.sl], false⟩)], rw := [(111, i, 3, 79), (119, i, 3, 79)], log := [], stp := false }) (fun (m : Nat) => 20 - m) 1
    (Wk.le (.cons rfl (.refl _) (.cons rfl (.refl _) (.cons rfl (.refl _) (.cons rfl (.refl _) (.cons rfl (.refl _) (.cons rfl (.refl _) (.cons rfl (.refl _) (.cons rfl (.refl _) (.cons rfl (.refl _) (.cons rfl (.refl _) .nil)))))))))) (.cons rfl (LLe.refl _) (.cons rfl (LLe.refl _) .nil)) (.cons rfl (.cons rfl .nil)) (okI rfl) rfl) ⟨by omega, rfl⟩ ?_
  rintro m s ⟨⟨hm1, hm⟩, rfl⟩
  have hsl : ∀ m, (seenL x i m).length = 20 := fun m => by simp [seenL]
  refine Tr.seq (Tr.seqR rfl (by simp) (Tr.cond rfl rfl (fun h4 => Tr.skip ?_) (fun h4 => Tr.exit ?_)))
  · have h4 : m < 20 := Int.ofNat_lt.1 (by simpa using h4)
    have kP : C Try.prog F.ref00_Pick [intsV x.ms, I (IntKind.i64.wrap ((i : Int) + (m : Int)))] (I (pickI x.ms ((i : Int) + (m : Int)))) := by
      rw [w64 (by omega) (by omega)]
      exact c_Pick x.ms _ hms
    have kR := c_Rest (pickI x.ms ((i : Int) + (m : Int))) 2 (by omega)
    have hmb : missB x i m = (restI (pickI x.ms ((i : Int) + (m : Int))) 2 == 1) := rfl
    refine Tr.seq (Tr.block (Tr.seqC rfl (by simp) (Steps.call rfl rfl kP (Steps.run rfl (by simp) (Steps.call rfl rfl kR (Steps.fin rfl (by simp) (Tr.cond rfl rfl (fun h => ?_) (fun h => Tr.skip ?_))))))))
    · have hb : missB x i m = true := by rw [hmb]; simpa using h
      have hit := seen_hit x i hm1 h4 hb
      refine Tr.regR rfl (by simp [hsl]; omega) (Tr.regR rfl (by simp) ?_)
      refine ⟨m + 1, _, (Wk.le (.cons rfl (.refl _) (.cons rfl (.refl _) (.cons rfl (.refl _) (.cons rfl (.refl _) (.cons rfl (.refl _) (.cons rfl (.refl _) (.cons rfl (.refl _) (.cons rfl (.refl _) (.cons rfl (.refl _) (.cons rfl (VLe.i (w64 (by omega) (by omega))) .nil)))))))))) (.cons rfl ?_ (.cons rfl (LLe.refl _) .nil)) (.cons rfl (.cons rfl .nil)) (okI rfl) rfl), ⟨by omega, rfl⟩, by omega⟩
      rw [← hit]
      rw [show 0 + ((m : Int)).toNat * 1 = m by omega]
      exact LLe.refl _
    · have hb : missB x i m = false := by rw [hmb]; simpa using h
      have e := seen_miss x i hb
      refine Tr.regR rfl (by simp) ?_
      exact ⟨m + 1, _, (Wk.le (.cons rfl (.refl _) (.cons rfl (.refl _) (.cons rfl (.refl _) (.cons rfl (.refl _) (.cons rfl (.refl _) (.cons rfl (.refl _) (.cons rfl (.refl _) (.cons rfl (.refl _) (.cons rfl (.refl _) (.cons rfl (VLe.i (w64 (by omega) (by omega))) .nil)))))))))) (.cons rfl (by rw [e]; exact LLe.refl _) (.cons rfl (LLe.refl _) .nil)) (.cons rfl (.cons rfl .nil)) (okI rfl) rfl), ⟨by omega, rfl⟩, by omega⟩
  have h4 : m = 20 := by simp at h4; omega
  subst h4
  refine Tr.weak (Wk.bsl (t := 14) rfl rfl (by have h := holds_ints (seenL x i 20); rw [hsl] at h; exact h)) ?_
  refine Tr.weak (s' := { env := [(1, .ptr 1 0), (5, I (slN x)), (6, .slice 112 3 ((List.range i).map fun i => eE (lE x i))), (7, .slice 120 3 ((List.range i).map fun i => eE (aE x i))), (8, I i), (9, I (hX x i)), (10, I (hY x i)), (12, intsV (trueL x i 20)), (14, intsV (seenL x i 20))], bx := [(1, ⟨[sB x.pl, intsV x.st, intsV x.ms, I x.sl], false⟩)], rw := [(111, i, 3, 79), (119, i, 3, 79)], log := [], stp := false }) (Wk.le (.cons rfl (.refl _) (.cons rfl (.refl _) (.cons rfl (.refl _) (.cons rfl (.refl _) (.cons rfl (.refl _) (.cons rfl (.refl _) (.cons rfl (.refl _) (.cons rfl (.refl _) (.cons rfl (.refl _) .nil))))))))) (.cons rfl (LLe.refl _) .nil) (.cons rfl (.cons rfl .nil)) rfl rfl) ?_
  refine Tr.seqC rfl (by simp) (Steps.call rfl rfl (c_Fill (seen_ok x i)) (Steps.fin rfl (by simp) ?_))
  have hfl : (fillL (seenL x i 20) (slN x)).length = 20 := by simp [fillL, hsl]
  refine Tr.seq (Tr.seqR rfl (by simp) (Tr.cond rfl rfl (fun h => ?_) (fun _ => Tr.skip ?_)))
  · exfalso; revert h; simp [hfl, htl]
  refine Tr.weak (s' := { env := [(1, .ptr 1 0), (5, I (slN x)), (6, .slice 112 3 ((List.range i).map fun i => eE (lE x i))), (7, .slice 120 3 ((List.range i).map fun i => eE (aE x i))), (8, I i), (9, I (hX x i)), (10, I (hY x i)), (12, intsV (trueL x i 20)), (16, sB (fillL (seenL x i 20) (slN x)))], bx := [(1, ⟨[sB x.pl, intsV x.st, intsV x.ms, I x.sl], false⟩)], rw := [(111, i, 3, 79), (119, i, 3, 79)], log := [], stp := false }) (Wk.le (.cons rfl (.refl _) (.cons rfl (.refl _) (.cons rfl (.refl _) (.cons rfl (.refl _) (.cons rfl (.refl _) (.cons rfl (.refl _) (.cons rfl (.refl _) (.cons rfl (.refl _) (.cons rfl (.refl _) .nil))))))))) (.cons rfl (LLe.refl _) .nil) (.cons rfl (.cons rfl .nil)) rfl rfl) ?_
  refine Tr.reg (Steps.run rfl (by simp; omega) (Steps.call rfl rfl (c_sure (l := trueL x i 20) (by omega)) (Steps.fin rfl (by simp; omega) ?_)))
  refine Tr.regR rfl (by simp) ?_
  refine ⟨i + 1, _, (Wk.le (.cons rfl (.refl _) (.cons rfl (.refl _) (.cons rfl (.of_eq ?_) (.cons rfl (.of_eq ?_) (.cons rfl (VLe.i (w64 (by omega) (by omega))) .nil))))) (.cons rfl (LLe.refl _) .nil) (.cons ?_ (.cons ?_ .nil)) rfl rfl), ⟨by omega, rfl⟩, by omega⟩
  · rw [List.range_succ, List.map_append]; rfl
  · rw [List.range_succ, List.map_append]; rfl
  · show some _ = some _
    simp
  · show some _ = some _
    simp

end Go.Proofs.Ytkifejklnpddbaa

/-! The law VolumeFilled. -/
set_option linter.unusedVariables false
set_option linter.unusedSimpArgs false
set_option maxRecDepth 20000
set_option maxHeartbeats 2000000
namespace Go.Proofs.Ytkifejklnpddbaa
open Go.Am Go.ChangeShapes Go.WideShapes Go.ChangeAt Go.RowKit

section
variable {H : Type} {enc : TypeId × Value → H} {W : World}
theorem rd_heard : Reads enc W 105 (fun vs => ∃ x : Heard, (x.pl.length ≤ 9223372036854775807 ∧ x.st.length ≤ 9223372036854775807 ∧ x.ms.length ≤ 9223372036854775807) ∧ vs = hearC x) := by
  refine (reads_struct Try.underlying105 (by kernel_rfl) (readsL_cons rd_places (readsL_cons rd_ints (readsL_cons rd_ints (readsL_cons rd_int readsL_nil))))).mono ?_
  rintro vs ⟨_, _, ⟨a, ha, rfl⟩, ⟨_, _, ⟨b, hb, rfl⟩, ⟨_, _, ⟨c, hc, rfl⟩, ⟨_, _, ⟨n, rfl, _⟩, rfl, rfl⟩, rfl⟩, rfl⟩, rfl⟩
  exact ⟨⟨a, b, c, n⟩, ⟨ha, hb, hc⟩, rfl⟩
end

attribute [local simp] cells scalar mkv splice under2 under dem dem1 boxC cellC

theorem boxR_ok (nl : V) {l : List Echo} (hE : echoesOk l = true) (b : Bx) (aper : Int) (slow : Int × Int) (of : Int × Int × Int → Int × Int) :
    ((earOk aper slow = true ∧ boxOk b = true) ∧ boxR nl l b aper slow of = .tuple [.agg [I b.x, I b.y, I b.z, I b.a, I b.b, I b.c, .slice 0 2 (((boxCells b).map of).map eB)], I 0]) ∨ boxR nl l b aper slow of = errImg nl 102 := by
  unfold boxR
  by_cases h2 : earOk aper slow = true
  · unfold imageR
    by_cases h3 : boxOk b = true
    · exact .inl ⟨⟨h2, h3⟩, by rw [if_pos hE, if_pos h2, if_pos h3, List.map_map]; rfl⟩
    · exact .inr (by rw [if_pos hE, if_pos h2, if_neg h3])
  · exact .inr (by rw [if_pos hE, if_neg h2])

theorem c_VolumeFilled {x : Heard} (hx : x.pl.length ≤ 9223372036854775807 ∧ x.st.length ≤ 9223372036854775807 ∧ x.ms.length ≤ 9223372036854775807) (b : Bx) (aper : Int) (slow : Int × Int) : C Try.prog F.law10_VolumeFilled [.agg (hearC x), .agg [I b.x, I b.y, I b.z, I b.a, I b.b, I b.c, I aper, I slow.1, I slow.2]] (.bool true) := by
  have k0 := c_told x hx.1 hx.2.1 hx.2.2
  obtain ⟨n, hn⟩ : ∃ n, min x.pl.length 8 = n := ⟨_, rfl⟩
  have hn8 : n ≤ 8 := by omega
  rw [hn] at k0
  have hins := fun aper q p => filled_ins x hn8 aper q p
  obtain ⟨hE, hAE⟩ := ls_ok x hn8
  generalize (List.range n).map (lE x) = l at k0 hE hins
  generalize (List.range n).map (aE x) = al at k0 hAE hins
  have hl := sane_of hE
  have hal := sane_of hAE
  refine C_of mixed chk.law10_VolumeFilled (by simp) fun S ok => ?_
  have k1 := c_Enclose hl b aper slow
  unfold encS at k1
  refine Tr.seqR rfl (by simp [hearC, sB, intsV]) ?_
  refine Tr.seqC rfl (by simp [hearC, sB, intsV]) (Steps.call rfl rfl k0 (Steps.fin rfl (by simp) ?_))
  refine Tr.seq (Tr.seqR rfl (by simp) (Tr.condF rfl (Tr.skip ?_)))
  rcases boxR_ok (.slice 0 2 []) hE b aper slow (encOf l aper slow) with ⟨⟨hA, hB⟩, hr⟩ | hr
  rotate_left
  · rw [hr] at k1
    refine Tr.seqC rfl (by simp) (Steps.call rfl rfl k1 (Steps.fin rfl (by simp) ?_))
    refine Tr.seq (Tr.seqR rfl (by simp) (Tr.condT rfl ?_))
    refine Tr.seqC rfl (by simp) (Steps.gcall rfl rfl rfl rfl (by simp) (fun _ => c_works) (Steps.fin rfl (by simp) (Tr.retX rfl rfl rfl ?_ trivial)))
    simp [packR]
  rw [hr] at k1
  have hA' : (0 ≤ aper ∧ aper ≤ 128) ∧ 0 ≤ slow.1 ∧ slow.1 ≤ slow.2 ∧ slow.2 ≤ 4096 := by
    simp only [earOk, Bool.and_eq_true, btw_iff, decide_eq_true_eq] at hA
    omega
  have hbl := boxCells_len (boxOk_spec hB).1
  have hAq : ∀ q, slow.1 ≤ q ∧ q ≤ slow.2 → earOk aper (q, q) = true := fun q hq => by
    rw [earOk_one, Bool.and_eq_true]
    simp only [btw_iff]; omega
  have k2 := c_Migrate hal b aper slow.1
  have k3 := c_Migrate hal b aper slow.2
  rw [val_ok hAE (hAq _ (by omega)) hB] at k2
  rw [val_ok hAE (hAq _ (by omega)) hB] at k3
  have i1 := c_inside b ((boxCells b).map (valOf al aper slow.1)) ((boxCells b).map (encOf l aper slow)) (by rw [List.length_map]; omega) (by simp) (fun i h h' => by
    rw [List.getElem_map, List.getElem_map]
    exact ins_trans (hins aper slow.1 _) (val_enc hE (cells_grid hB (List.getElem_mem _)) (by omega) (by omega)))
  have i2 := c_inside b ((boxCells b).map (valOf al aper slow.2)) ((boxCells b).map (encOf l aper slow)) (by rw [List.length_map]; omega) (by simp) (fun i h h' => by
    rw [List.getElem_map, List.getElem_map]
    exact ins_trans (hins aper slow.2 _) (val_enc hE (cells_grid hB (List.getElem_mem _)) (by omega) (by omega)))
  refine Tr.seqC rfl (by simp) (Steps.call rfl rfl k1 (Steps.fin rfl (by simp) ?_))
  refine Tr.seq (Tr.seqR rfl (by simp) (Tr.condF rfl (Tr.skip ?_)))
  refine Tr.seqC rfl (by simp) (Steps.call rfl rfl k2 (Steps.fin rfl (by simp) ?_))
  refine Tr.seqC rfl (by simp) (Steps.call rfl rfl k3 (Steps.fin rfl (by simp) ?_))
  refine Tr.seq (Tr.reg (Steps.runG rfl (by simp) ?_))
  refine Steps.on rfl rfl (Steps.call rfl rfl i1 (Steps.runG rfl (by simp) ?_))
  refine Steps.on rfl rfl (Steps.call rfl rfl i2 (Steps.runG rfl (by simp) ?_))
  refine Steps.on rfl rfl (Steps.call rfl rfl c_works (Steps.runG rfl (by simp) ?_))
  refine Tr.retX rfl rfl rfl ?_ trivial
  simp [packR]

end Go.Proofs.Ytkifejklnpddbaa
