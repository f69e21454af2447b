/-
  Parts of the proof, 1: the abstract machine, the compiled code, contracts of the functions, plain laws.
-/
import Derived.Test.YtkifejklnpddbaaZ5


/-! The code of further functions, compiled. -/
set_option maxRecDepth 100000
namespace Go.Proofs.Ytkifejklnpddbaa
open Go.Am
/-- paravane/paravanelaw10.VolumeUnrung -/
abbrev F.law10_VolumeUnrung : Nat := 9
def ir.law10_VolumeUnrung : IC :=
 (.seq (.reg [⟨(some 6), .mov, [.c (.bool false)], none⟩])
   (.seq (.reg [⟨(some 13), .mov, [.t 0], none⟩,
     ⟨(some 14), .mov, [.t 1], none⟩,
     ⟨(some 15), .mov, [.t 2], none⟩,
     ⟨(some 16), .call 37, [.t 13, .t 14, .t 15], none⟩,
     ⟨(some 12), .mov, [.t 16], none⟩,
     ⟨(some 17), .extract 0, [.t 12], none⟩,
     ⟨(some 18), .extract 1, [.t 12], none⟩,
     ⟨(some 7), .mov, [.t 17], none⟩,
     ⟨(some 8), .mov, [.t 18], none⟩])
   (.seq (.seq (.reg [⟨(some 19), .mov, [.t 8], none⟩,
     ⟨(some 20), .bin .eql, [.t 19, .c (.int .i64 0)], none⟩])
   (.cond (.t 20) (.seq (.reg [⟨(some 22), .mov, [.t 7], none⟩,
     ⟨(some 23), .mov, [.t 1], none⟩,
     ⟨(some 24), .mov, [.t 2], none⟩,
     ⟨(some 25), .call 40, [.t 22, .t 23, .t 24], none⟩,
     ⟨(some 21), .mov, [.t 25], none⟩,
     ⟨(some 26), .extract 0, [.t 21], none⟩,
     ⟨(some 27), .extract 1, [.t 21], none⟩,
     ⟨(some 9), .mov, [.t 26], none⟩,
     ⟨(some 10), .mov, [.t 27], none⟩])
   (.seq (.reg [⟨(some 28), .mov, [.t 10], none⟩,
     ⟨(some 29), .bin .neq, [.t 28, .c (.int .i64 0)], none⟩,
     ⟨(some 30), .mov, [.t 29], none⟩,
     ⟨(some 31), .mov, [.t 9], (some (30, false))⟩,
     ⟨(some 32), .mov, [.t 0], (some (30, false))⟩,
     ⟨(some 33), .call 39, [.t 31, .t 32], (some (30, false))⟩,
     ⟨(some 34), .un .not, [.t 33], (some (30, false))⟩,
     ⟨(some 35), .pick, [.t 30, .c (.bool true), .t 34], none⟩])
   (.cond (.t 35) (.seq (.reg [⟨(some 6), .mov, [.c (.bool false)], none⟩])
   .ret) .skip))) (.seq (.reg [⟨(some 36), .mov, [.t 7], none⟩,
     ⟨(some 37), .len false, [.t 36], none⟩,
     ⟨(some 38), .bin .neq, [.t 37, .c (.int .i64 0)], none⟩])
   (.cond (.t 38) (.seq (.reg [⟨(some 6), .mov, [.c (.bool false)], none⟩])
   .ret) .skip))))
   (.seq (.reg [⟨(some 40), .mov, [.t 0], none⟩,
     ⟨(some 41), .mov, [.t 1], none⟩,
     ⟨(some 42), .mov, [.t 2], none⟩,
     ⟨(some 43), .call 40, [.t 40, .t 41, .t 42], none⟩,
     ⟨(some 39), .mov, [.t 43], none⟩,
     ⟨(some 44), .extract 0, [.t 39], none⟩,
     ⟨(some 45), .extract 1, [.t 39], none⟩,
     ⟨(some 11), .mov, [.t 44], none⟩,
     ⟨(some 8), .mov, [.t 45], none⟩])
   (.seq (.seq (.reg [⟨(some 46), .mov, [.t 8], none⟩,
     ⟨(some 47), .bin .neq, [.t 46, .c (.int .i64 0)], none⟩])
   (.cond (.t 47) (.seq (.reg [⟨(some 48), .mov, [.t 11], none⟩,
     ⟨(some 49), .len false, [.t 48], none⟩,
     ⟨(some 50), .bin .eql, [.t 49, .c (.int .i64 0)], none⟩,
     ⟨(some 51), .mov, [.t 50], none⟩,
     ⟨(some 52), .mov, [.t 8], (some (51, true))⟩,
     ⟨(some 53), .bin .eql, [.t 52, .c (.int .i64 2)], (some (51, true))⟩,
     ⟨(some 54), .pick, [.t 51, .t 53, .c (.bool false)], none⟩,
     ⟨(some 55), .mov, [.t 54], none⟩,
     ⟨(some 56), .call 30, [], (some (55, true))⟩,
     ⟨(some 57), .pick, [.t 55, .t 56, .c (.bool false)], none⟩,
     ⟨(some 6), .mov, [.t 57], none⟩])
   .ret) .skip))
   (.seq (.reg [⟨(some 59), .mov, [.t 11], none⟩,
     ⟨(some 60), .mov, [.t 1], none⟩,
     ⟨(some 61), .mov, [.t 2], none⟩,
     ⟨(some 62), .call 37, [.t 59, .t 60, .t 61], none⟩,
     ⟨(some 58), .mov, [.t 62], none⟩,
     ⟨(some 63), .extract 0, [.t 58], none⟩,
     ⟨(some 64), .extract 1, [.t 58], none⟩,
     ⟨(some 7), .mov, [.t 63], none⟩,
     ⟨(some 8), .mov, [.t 64], none⟩])
   (.seq (.reg [⟨(some 65), .mov, [.t 8], none⟩,
     ⟨(some 66), .bin .eql, [.t 65, .c (.int .i64 2)], none⟩,
     ⟨(some 67), .mov, [.t 66], none⟩,
     ⟨(some 68), .mov, [.t 8], (some (67, false))⟩,
     ⟨(some 69), .bin .eql, [.t 68, .c (.int .i64 0)], (some (67, false))⟩,
     ⟨(some 70), .mov, [.t 69], (some (67, false))⟩,
     ⟨(some 71), .mov, [.t 7], (some (70, true))⟩,
     ⟨(some 72), .mov, [.t 0], (some (70, true))⟩,
     ⟨(some 73), .call 39, [.t 71, .t 72], (some (70, true))⟩,
     ⟨(some 74), .pick, [.t 70, .t 73, .c (.bool false)], (some (67, false))⟩,
     ⟨(some 75), .pick, [.t 67, .c (.bool true), .t 74], none⟩,
     ⟨(some 76), .mov, [.t 75], none⟩,
     ⟨(some 77), .call 30, [], (some (76, true))⟩,
     ⟨(some 78), .pick, [.t 76, .t 77, .c (.bool false)], none⟩,
     ⟨(some 6), .mov, [.t 78], none⟩])
   .ret)))))))
theorem chk.law10_VolumeUnrung : chkF Try.prog 9 = some (79, ir.law10_VolumeUnrung, [.tmp 6]) := by kernel_rfl

end Go.Proofs.Ytkifejklnpddbaa

/-! Plain facts: ringing and taking it away. -/
set_option linter.unusedVariables false
set_option linter.unusedSimpArgs false
set_option maxRecDepth 20000
namespace Go.Proofs.Ytkifejklnpddbaa
open Go.Am

theorem getD_of_lt {l : List Int} {i : Nat} (h : i < l.length) : l.getD i 0 = l[i] := by
  rw [List.getD_eq_getElem?_getD, List.getElem?_eq_getElem h]; rfl

theorem backN_take {m : List Int} {t : Nat} {period part : Int} (hp : 1 ≤ period) : backN (m.take t) t period part = backN m t period part := by
  unfold backN
  split
  · rfl
  · rename_i h
    have h1 : t - period.toNat < t := by omega
    rw [List.getD_eq_getElem?_getD, List.getD_eq_getElem?_getD, List.getElem?_take, if_pos h1]

theorem ringG_some {period part : Int} (hp : 1 ≤ period) : ∀ (r m0 m : List Int), ringG period part r m0 = some m → m.length = m0.length + r.length ∧ m.take m0.length = m0 ∧
    ∀ i, i < r.length → m.getD (m0.length + i) 0 = r.getD i 0 + backN m (m0.length + i) period part ∧ -1073741824 ≤ m.getD (m0.length + i) 0 ∧ m.getD (m0.length + i) 0 ≤ 1073741824
  | [], m0, m, h => by
    simp only [ringG, Option.some.injEq] at h
    subst h
    exact ⟨by simp, by simp, fun i hi => by simp at hi⟩
  | n :: r, m0, m, h => by
    simp only [ringG] at h
    split at h
    · rename_i hb
      obtain ⟨h1, h2, h3⟩ := ringG_some hp r _ m h
      simp only [List.length_append, List.length_cons, List.length_nil, Nat.zero_add] at h1 h2 h3
      have e1 : m.take m0.length = m0 := by
        have := congrArg (List.take m0.length) h2
        rw [List.take_take, Nat.min_eq_left (by omega), List.take_left] at this
        exact this
      have e2 : m.getD m0.length 0 = n + backN m0 m0.length period part := by
        have h4 : (m.take (m0.length + 1))[m0.length]? = (m0 ++ [n + backN m0 m0.length period part])[m0.length]? := by rw [h2]
        rw [List.getElem?_take, if_pos (by omega), List.getElem?_append_right (by omega), Nat.sub_self] at h4
        rw [List.getD_eq_getElem?_getD, h4]; rfl
      have e3 : backN m0 m0.length period part = backN m m0.length period part := by
        have := backN_take (m := m) (t := m0.length) (part := part) hp
        rw [e1] at this; exact this
      have hb : -1073741824 ≤ n + backN m0 m0.length period part ∧ n + backN m0 m0.length period part ≤ 1073741824 := by simpa [btw] using hb
      refine ⟨by simp only [List.length_cons]; omega, e1, fun i hi => ?_⟩
      cases i with
      | zero =>
        simp only [Nat.add_zero, List.getD_cons_zero]
        rw [e2]
        refine ⟨by rw [e3], hb⟩
      | succ i =>
        have := h3 i (by simpa using hi)
        rw [show m0.length + 1 + i = m0.length + (i + 1) by omega] at this
        simpa using this
    · cases h

theorem ring_back {s m : List Int} {period part : Int} (h : ringOk s 16777216 period part = true) (hg : ringG period part s [] = some m) :
    ringOk m 1073741824 period part = true ∧ unringTo m period part m.length = s := by
  obtain ⟨h1, h2, h3, h4⟩ := ringOk_spec h
  obtain ⟨g1, _, g3⟩ := ringG_some h2.1 s [] m hg
  simp only [List.length_nil, Nat.zero_add] at g1 g3
  constructor
  · simp only [ringOk, btw, Bool.and_eq_true, decide_eq_true_eq, List.all_eq_true]
    refine ⟨⟨⟨by omega, by omega⟩, by omega⟩, fun n hn => ?_⟩
    obtain ⟨i, hi, rfl⟩ := List.mem_iff_getElem.1 hn
    have := g3 i (by omega)
    rw [getD_of_lt hi] at this
    omega
  · refine List.ext_getElem (by simp [unringTo, g1]) fun i hi hi' => ?_
    have := g3 i hi'
    have hm : i < m.length := by omega
    rw [getD_of_lt hi'] at this
    simp only [unringTo, List.getElem_map, List.getElem_range]
    omega

theorem unring_ring {s : List Int} {period part : Int} (h : ringOk s 1073741824 period part = true) : ringG period part (unringTo s period part s.length) [] = some s := by
  obtain ⟨h1, h2, h3, h4⟩ := ringOk_spec h
  have key : ∀ d k, k + d = s.length → ringG period part ((unringTo s period part s.length).drop k) (s.take k) = some s := by
    intro d
    induction d with
    | zero =>
      intro k hk
      rw [List.drop_eq_nil_of_le (by simp [unringTo]; omega), List.take_of_length_le (by omega)]
      rfl
    | succ d ih =>
      intro k hk
      have hk1 : k < s.length := by omega
      have hk2 : k < (unringTo s period part s.length).length := by simp [unringTo]; omega
      rw [List.drop_eq_getElem_cons hk2]
      have e1 : (unringTo s period part s.length)[k] = s[k] - backN s k period part := by
        simp only [unringTo, List.getElem_map, List.getElem_range]
        rw [getD_of_lt hk1]
      have e2 : (s.take k).length = k := by simp; omega
      simp only [ringG, e1, e2, backN_take h2.1]
      have e3 : s[k] - backN s k period part + backN s k period part = s[k] := by omega
      have hb := h4 _ (List.getElem_mem hk1)
      rw [e3, if_pos (by simp [btw]; omega)]
      have e4 : s.take k ++ [s[k]] = s.take (k + 1) := by rw [List.take_add_one, List.getElem?_eq_getElem hk1]; rfl
      rw [e4]
      exact ih (k + 1) (by omega)
  simpa using key s.length 0 (by omega)

theorem unringTo_len (s : List Int) (period part : Int) : (unringTo s period part s.length).length = s.length := by simp [unringTo]

end Go.Proofs.Ytkifejklnpddbaa

/-! The law VolumeUnrung. -/
set_option linter.unusedVariables false
set_option linter.unusedSimpArgs false
set_option maxRecDepth 20000
namespace Go.Proofs.Ytkifejklnpddbaa
open Go.Am
attribute [local simp] cells scalar mkv splice under2 under dem dem1

theorem c_VolumeUnrung (s : List Int) (period part : Int) (hl : s.length ≤ 9223372036854775807) : C Try.prog F.law10_VolumeUnrung [intsV s, I period, I part] (.bool true) := by
  refine C_of mixed chk.law10_VolumeUnrung (by simp) fun S ok => ?_
  refine Tr.seqR rfl (by simp) ?_
  obtain ⟨r, e, hR, hcase⟩ : ∃ (r : List Int) (e : Int), ringS s period part = .tuple [intsV r, I e] ∧ ((e = 0 ∧ ringOk s 16777216 period part = true ∧ ringG period part s [] = some r) ∨ (e ≠ 0 ∧ r = [])) := by
    unfold ringS ringR
    by_cases h : ringOk s 16777216 period part = true
    · cases hg : ringG period part s [] with
      | some m => exact ⟨m, 0, by rw [if_pos h], .inl ⟨rfl, h, rfl⟩⟩
      | none => exact ⟨[], 7, by rw [if_pos h], .inr ⟨by omega, rfl⟩⟩
    · exact ⟨[], 2, by rw [if_neg h], .inr ⟨by omega, rfl⟩⟩
  refine Tr.seqC rfl (by simp) (Steps.call rfl rfl (hR ▸ c_Ring s period part hl) (Steps.fin rfl (by simp) ?_))
  refine Tr.meet { env := [(0, intsV s), (1, I period), (2, I part)], bx := [], rw := [], log := [], stp := false } ?_ ?_
  · rcases hcase with ⟨rfl, h1, h2⟩ | ⟨h1, rfl⟩
    · obtain ⟨g1, g2⟩ := ring_back h1 h2
      have hml := (ringG_some (ringOk_spec h1).2.1.1 _ _ _ h2).1
      have hsl := (ringOk_spec h1).1
      have hu : unringS r period part = .tuple [intsV s, I 0] := by unfold unringS unringR; rw [if_pos g1, g2]
      refine Tr.seqR rfl (by simp) (Tr.condT rfl ?_)
      refine Tr.seqC rfl (by simp) (Steps.call rfl rfl (hu ▸ c_Unring r period part (by simp at hml; omega)) (Steps.fin rfl (by simp) ?_))
      refine Tr.seq (Tr.reg (Steps.runG rfl (by simp) ?_))
      refine Steps.on rfl rfl (Steps.call rfl rfl (c_Alike s s hl) (Steps.runG rfl (by simp) ?_))
      refine Tr.condF (by simp; rfl) (Tr.skip ?_)
      exact Wk.le (.cons rfl (.refl _) (.cons rfl (.refl _) (.cons rfl (.refl _) .nil))) .nil .nil rfl rfl
    · refine Tr.seqR rfl (by simp) (Tr.cond rfl rfl (fun h2 => ?_) (fun _ => ?_))
      · exact absurd (by simpa using h2) h1
      refine Tr.seqR rfl (by simp [intsV]) (Tr.condF rfl (Tr.skip ?_))
      exact Wk.le (.cons rfl (.refl _) (.cons rfl (.refl _) (.cons rfl (.refl _) .nil))) .nil .nil rfl rfl
  by_cases hU : ringOk s 1073741824 period part = true
  · have hu : unringS s period part = .tuple [intsV (unringTo s period part s.length), I 0] := by unfold unringS unringR; rw [if_pos hU]
    have hul := unringTo_len s period part
    refine Tr.seqC rfl (by simp) (Steps.call rfl rfl (hu ▸ c_Unring s period part hl) (Steps.fin rfl (by simp) ?_))
    refine Tr.seq (Tr.seqR rfl (by simp) (Tr.condF rfl (Tr.skip ?_)))
    by_cases hB : ringOk (unringTo s period part s.length) 16777216 period part = true
    · have hb : ringS (unringTo s period part s.length) period part = .tuple [intsV s, I 0] := by unfold ringS ringR; rw [if_pos hB, unring_ring hU]
      refine Tr.seqC rfl (by simp) (Steps.call rfl rfl (hb ▸ c_Ring (unringTo s period part s.length) period part (by omega)) (Steps.fin rfl (by simp) ?_))
      refine Tr.seq (Tr.reg (Steps.runG rfl (by simp) ?_))
      refine Steps.on rfl rfl (Steps.call rfl rfl (c_Alike s s hl) (Steps.run rfl (by simp) ?_))
      refine Steps.gcall rfl rfl rfl rfl (by simp) (fun _ => c_works) (Steps.fin rfl (by simp) (Tr.retX rfl rfl rfl ?_ trivial))
      simp [packR]
    · have hb : ringS (unringTo s period part s.length) period part = .tuple [intsV [], I 2] := by unfold ringS ringR; rw [if_neg hB]
      refine Tr.seqC rfl (by simp) (Steps.call rfl rfl (hb ▸ c_Ring (unringTo s period part s.length) period part (by omega)) (Steps.fin rfl (by simp) ?_))
      refine Tr.seqC rfl (by simp) ?_
      refine Steps.gcall (gb := false) (r := .bool false) rfl rfl rfl rfl (by simp) (fun e => (by cases e)) (Steps.run rfl (by simp) ?_)
      refine Steps.gcall rfl rfl rfl rfl (by simp) (fun _ => c_works) (Steps.fin rfl (by simp) (Tr.retX rfl rfl rfl ?_ trivial))
      simp [packR]
  · have hu : unringS s period part = .tuple [intsV [], I 2] := by unfold unringS unringR; rw [if_neg hU]
    refine Tr.seqC rfl (by simp) (Steps.call rfl rfl (hu ▸ c_Unring s period part hl) (Steps.fin rfl (by simp) ?_))
    refine Tr.seq (Tr.seqR rfl (by simp) (Tr.condT rfl ?_))
    refine Tr.seqC rfl (by simp [intsV]) (Steps.gcall rfl rfl rfl rfl (by simp) (fun _ => c_works) (Steps.fin rfl (by simp) (Tr.retX rfl rfl rfl ?_ trivial)))
    simp [packR, intsV]

end Go.Proofs.Ytkifejklnpddbaa
