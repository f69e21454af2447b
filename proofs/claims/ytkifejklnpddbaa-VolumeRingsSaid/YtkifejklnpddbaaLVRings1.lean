/-
  Parts of the proof, 1: the abstract machine, the compiled code, contracts of the functions, plain laws.
-/
import Derived.Test.YtkifejklnpddbaaZ5


/-! The code of further functions, compiled. -/
set_option maxRecDepth 100000
namespace Go.Proofs.Ytkifejklnpddbaa
open Go.Am
/-- paravane/paravanelaw10.VolumeRings -/
abbrev F.law10_VolumeRings : Nat := 6
def ir.law10_VolumeRings : IC :=
 (.seq (.reg [⟨(some 6), .mov, [.c (.bool false)], none⟩])
   (.seq (.reg [⟨(some 12), .mov, [.t 0], none⟩,
     ⟨(some 13), .mov, [.t 1], none⟩,
     ⟨(some 14), .mov, [.t 2], none⟩,
     ⟨(some 15), .call 37, [.t 12, .t 13, .t 14], none⟩,
     ⟨(some 11), .mov, [.t 15], none⟩,
     ⟨(some 16), .extract 0, [.t 11], none⟩,
     ⟨(some 17), .extract 1, [.t 11], none⟩,
     ⟨(some 7), .mov, [.t 16], none⟩,
     ⟨(some 8), .mov, [.t 17], none⟩])
   (.seq (.reg [⟨(some 19), .mov, [.t 0], none⟩,
     ⟨(some 20), .mov, [.t 1], none⟩,
     ⟨(some 21), .mov, [.t 2], none⟩,
     ⟨(some 22), .call 38, [.t 19, .t 20, .t 21], none⟩,
     ⟨(some 18), .mov, [.t 22], none⟩,
     ⟨(some 23), .extract 0, [.t 18], none⟩,
     ⟨(some 24), .extract 1, [.t 18], none⟩,
     ⟨(some 9), .mov, [.t 23], none⟩,
     ⟨(some 10), .mov, [.t 24], none⟩])
   (.seq (.seq (.reg [⟨(some 25), .mov, [.t 7], none⟩,
     ⟨(some 26), .mov, [.t 9], none⟩,
     ⟨(some 27), .call 39, [.t 25, .t 26], none⟩,
     ⟨(some 28), .un .not, [.t 27], none⟩,
     ⟨(some 29), .mov, [.t 28], none⟩,
     ⟨(some 30), .mov, [.t 8], (some (29, false))⟩,
     ⟨(some 31), .mov, [.t 10], (some (29, false))⟩,
     ⟨(some 32), .bin .neq, [.t 30, .t 31], (some (29, false))⟩,
     ⟨(some 33), .pick, [.t 29, .c (.bool true), .t 32], none⟩])
   (.cond (.t 33) (.seq (.reg [⟨(some 6), .mov, [.c (.bool false)], none⟩])
   .ret) .skip))
   (.seq (.reg [⟨(some 35), .mov, [.t 0], none⟩,
     ⟨(some 36), .mov, [.t 1], none⟩,
     ⟨(some 37), .mov, [.t 2], none⟩,
     ⟨(some 38), .call 40, [.t 35, .t 36, .t 37], none⟩,
     ⟨(some 34), .mov, [.t 38], none⟩,
     ⟨(some 39), .extract 0, [.t 34], none⟩,
     ⟨(some 40), .extract 1, [.t 34], none⟩,
     ⟨(some 7), .mov, [.t 39], none⟩,
     ⟨(some 8), .mov, [.t 40], none⟩])
   (.seq (.reg [⟨(some 42), .mov, [.t 0], none⟩,
     ⟨(some 43), .mov, [.t 1], none⟩,
     ⟨(some 44), .mov, [.t 2], none⟩,
     ⟨(some 45), .call 41, [.t 42, .t 43, .t 44], none⟩,
     ⟨(some 41), .mov, [.t 45], none⟩,
     ⟨(some 46), .extract 0, [.t 41], none⟩,
     ⟨(some 47), .extract 1, [.t 41], none⟩,
     ⟨(some 9), .mov, [.t 46], none⟩,
     ⟨(some 10), .mov, [.t 47], none⟩])
   (.seq (.reg [⟨(some 48), .mov, [.t 7], none⟩,
     ⟨(some 49), .mov, [.t 9], none⟩,
     ⟨(some 50), .call 39, [.t 48, .t 49], none⟩,
     ⟨(some 51), .mov, [.t 50], none⟩,
     ⟨(some 52), .mov, [.t 8], (some (51, true))⟩,
     ⟨(some 53), .mov, [.t 10], (some (51, true))⟩,
     ⟨(some 54), .bin .eql, [.t 52, .t 53], (some (51, true))⟩,
     ⟨(some 55), .pick, [.t 51, .t 54, .c (.bool false)], none⟩,
     ⟨(some 56), .mov, [.t 55], none⟩,
     ⟨(some 57), .call 30, [], (some (56, true))⟩,
     ⟨(some 58), .pick, [.t 56, .t 57, .c (.bool false)], none⟩,
     ⟨(some 6), .mov, [.t 58], none⟩])
   .ret)))))))
theorem chk.law10_VolumeRings : chkF Try.prog 6 = some (59, ir.law10_VolumeRings, [.tmp 6]) := by kernel_rfl

/-- paravane/paravaneref10.Ring -/
abbrev F.ref10_Ring : Nat := 38
def ir.ref10_Ring : IC :=
 (.seq (.reg [⟨(some 6), .mov, [.c .nils], none⟩,
     ⟨(some 7), .mov, [.c (.int .i64 0)], none⟩])
   (.seq (.reg [⟨(some 13), .mov, [.t 0], none⟩,
     ⟨(some 14), .len false, [.t 13], none⟩,
     ⟨(some 15), .bin .leq, [.t 14, .c (.int .i64 64)], none⟩,
     ⟨(some 16), .mov, [.t 15], none⟩,
     ⟨(some 17), .mov, [.t 1], (some (16, true))⟩,
     ⟨(some 18), .mov, [.t 2], (some (16, true))⟩,
     ⟨(some 19), .call 95, [.t 17, .t 18], (some (16, true))⟩,
     ⟨(some 20), .pick, [.t 16, .t 19, .c (.bool false)], none⟩,
     ⟨(some 8), .mov, [.t 20], none⟩])
   (.seq (.seq (.reg [⟨(some 9), .mov, [.c (.int .i64 0)], none⟩])
   (.block 0 (.loop (.seq (.seq (.reg [⟨(some 21), .mov, [.t 9], none⟩,
     ⟨(some 22), .mov, [.t 0], none⟩,
     ⟨(some 23), .len false, [.t 22], none⟩,
     ⟨(some 24), .bin .lss, [.t 21, .t 23], none⟩])
   (.cond (.t 24) .skip (.exit 0)))
   (.seq (.block 1 (.reg [⟨(some 27), .mov, [.t 8], none⟩,
     ⟨(some 28), .mov, [.t 27], none⟩,
     ⟨(some 29), .mov, [.t 0], (some (28, true))⟩,
     ⟨(some 30), .mov, [.t 9], (some (28, true))⟩,
     ⟨(some 31), .iaddrS 1, [.t 29, .t 30], (some (28, true))⟩,
     ⟨(some 32), .load 1 false, [.t 31], (some (28, true))⟩,
     ⟨(some 33), .call 51, [.t 32, .c (.int .i64 (-16777216)), .c (.int .i64 16777216)], (some (28, true))⟩,
     ⟨(some 34), .pick, [.t 28, .t 33, .c (.bool false)], none⟩,
     ⟨(some 8), .mov, [.t 34], none⟩]))
   (.reg [⟨(some 25), .mov, [.t 9], none⟩,
     ⟨(some 26), .bin .add, [.t 25, .c (.int .i64 1)], none⟩,
     ⟨(some 9), .mov, [.t 26], none⟩]))))))
   (.seq (.seq (.reg [⟨(some 35), .mov, [.t 8], none⟩,
     ⟨(some 36), .un .not, [.t 35], none⟩])
   (.cond (.t 36) (.seq (.reg [⟨(some 6), .mov, [.c .nils], none⟩,
     ⟨(some 7), .mov, [.c (.int .i64 2)], none⟩])
   .ret) .skip))
   (.seq (.reg [⟨(some 10), .mov, [.c .nils], none⟩])
   (.seq (.seq (.reg [⟨(some 11), .mov, [.c (.int .i64 0)], none⟩])
   (.block 2 (.loop (.seq (.seq (.reg [⟨(some 37), .mov, [.t 11], none⟩,
     ⟨(some 38), .mov, [.t 0], none⟩,
     ⟨(some 39), .len false, [.t 38], none⟩,
     ⟨(some 40), .bin .lss, [.t 37, .t 39], none⟩])
   (.cond (.t 40) .skip (.exit 2)))
   (.seq (.block 3 (.seq (.draw [0, 0, 3, 7, 0, 0, 0, 0, 240, 511, 1023] [⟨(some 43), .mov, [.t 0], none⟩,
     ⟨(some 44), .mov, [.t 11], none⟩,
     ⟨(some 45), .iaddrS 1, [.t 43, .t 44], none⟩,
     ⟨(some 46), .load 1 false, [.t 45], none⟩,
     ⟨(some 47), .mov, [.t 10], none⟩,
     ⟨(some 48), .mov, [.t 11], none⟩,
     ⟨(some 49), .mov, [.t 1], none⟩,
     ⟨(some 50), .mov, [.t 2], none⟩,
     ⟨(some 51), .call 96, [.t 47, .t 48, .t 49, .t 50], none⟩,
     ⟨(some 52), .bin .add, [.t 46, .t 51], none⟩,
     ⟨(some 12), .mov, [.t 52], none⟩])
   (.seq (.seq (.reg [⟨(some 53), .mov, [.t 12], none⟩,
     ⟨(some 54), .call 51, [.t 53, .c (.int .i64 (-1073741824)), .c (.int .i64 1073741824)], none⟩,
     ⟨(some 55), .un .not, [.t 54], none⟩])
   (.cond (.t 55) (.seq (.reg [⟨(some 6), .mov, [.c .nils], none⟩,
     ⟨(some 7), .mov, [.c (.int .i64 7)], none⟩])
   .ret) .skip))
   (.reg [⟨(some 56), .mov, [.t 10], none⟩,
     ⟨(some 57), .mov, [.t 12], none⟩,
     ⟨(some 58), .mkslice 1 3, [.t 57], none⟩,
     ⟨(some 59), .append 1 8 3, [.t 56, .t 58], none⟩,
     ⟨(some 10), .mov, [.t 59], none⟩]))))
   (.reg [⟨(some 41), .mov, [.t 11], none⟩,
     ⟨(some 42), .bin .add, [.t 41, .c (.int .i64 1)], none⟩,
     ⟨(some 11), .mov, [.t 42], none⟩]))))))
   (.seq (.reg [⟨(some 60), .mov, [.t 10], none⟩,
     ⟨(some 6), .mov, [.t 60], none⟩,
     ⟨(some 7), .mov, [.c (.int .i64 0)], none⟩])
   .ret)))))))
theorem chk.ref10_Ring : chkF Try.prog 38 = some (61, ir.ref10_Ring, [.tmp 6, .tmp 7]) := by kernel_rfl

/-- paravane/paravaneref10.Unring -/
abbrev F.ref10_Unring : Nat := 41
def ir.ref10_Unring : IC :=
 (.seq (.reg [⟨(some 6), .mov, [.c .nils], none⟩,
     ⟨(some 7), .mov, [.c (.int .i64 0)], none⟩])
   (.seq (.reg [⟨(some 12), .mov, [.t 0], none⟩,
     ⟨(some 13), .len false, [.t 12], none⟩,
     ⟨(some 14), .bin .leq, [.t 13, .c (.int .i64 64)], none⟩,
     ⟨(some 15), .mov, [.t 14], none⟩,
     ⟨(some 16), .mov, [.t 1], (some (15, true))⟩,
     ⟨(some 17), .mov, [.t 2], (some (15, true))⟩,
     ⟨(some 18), .call 95, [.t 16, .t 17], (some (15, true))⟩,
     ⟨(some 19), .pick, [.t 15, .t 18, .c (.bool false)], none⟩,
     ⟨(some 8), .mov, [.t 19], none⟩])
   (.seq (.seq (.reg [⟨(some 9), .mov, [.c (.int .i64 0)], none⟩])
   (.block 0 (.loop (.seq (.seq (.reg [⟨(some 20), .mov, [.t 9], none⟩,
     ⟨(some 21), .mov, [.t 0], none⟩,
     ⟨(some 22), .len false, [.t 21], none⟩,
     ⟨(some 23), .bin .lss, [.t 20, .t 22], none⟩])
   (.cond (.t 23) .skip (.exit 0)))
   (.seq (.block 1 (.reg [⟨(some 26), .mov, [.t 8], none⟩,
     ⟨(some 27), .mov, [.t 26], none⟩,
     ⟨(some 28), .mov, [.t 0], (some (27, true))⟩,
     ⟨(some 29), .mov, [.t 9], (some (27, true))⟩,
     ⟨(some 30), .iaddrS 1, [.t 28, .t 29], (some (27, true))⟩,
     ⟨(some 31), .load 1 false, [.t 30], (some (27, true))⟩,
     ⟨(some 32), .call 51, [.t 31, .c (.int .i64 (-1073741824)), .c (.int .i64 1073741824)], (some (27, true))⟩,
     ⟨(some 33), .pick, [.t 27, .t 32, .c (.bool false)], none⟩,
     ⟨(some 8), .mov, [.t 33], none⟩]))
   (.reg [⟨(some 24), .mov, [.t 9], none⟩,
     ⟨(some 25), .bin .add, [.t 24, .c (.int .i64 1)], none⟩,
     ⟨(some 9), .mov, [.t 25], none⟩]))))))
   (.seq (.seq (.reg [⟨(some 34), .mov, [.t 8], none⟩,
     ⟨(some 35), .un .not, [.t 34], none⟩])
   (.cond (.t 35) (.seq (.reg [⟨(some 6), .mov, [.c .nils], none⟩,
     ⟨(some 7), .mov, [.c (.int .i64 2)], none⟩])
   .ret) .skip))
   (.seq (.reg [⟨(some 10), .mov, [.c .nils], none⟩])
   (.seq (.seq (.reg [⟨(some 11), .mov, [.c (.int .i64 0)], none⟩])
   (.block 2 (.loop (.seq (.seq (.reg [⟨(some 36), .mov, [.t 11], none⟩,
     ⟨(some 37), .mov, [.t 0], none⟩,
     ⟨(some 38), .len false, [.t 37], none⟩,
     ⟨(some 39), .bin .lss, [.t 36, .t 38], none⟩])
   (.cond (.t 39) .skip (.exit 2)))
   (.seq (.block 3 (.draw [0, 0, 0, 6, 14, 0, 0, 0, 0, 480, 1022, 2046, 4095, 8191] [⟨(some 42), .mov, [.t 10], none⟩,
     ⟨(some 43), .mov, [.t 0], none⟩,
     ⟨(some 44), .mov, [.t 11], none⟩,
     ⟨(some 45), .iaddrS 1, [.t 43, .t 44], none⟩,
     ⟨(some 46), .load 1 false, [.t 45], none⟩,
     ⟨(some 47), .mov, [.t 0], none⟩,
     ⟨(some 48), .mov, [.t 11], none⟩,
     ⟨(some 49), .mov, [.t 1], none⟩,
     ⟨(some 50), .mov, [.t 2], none⟩,
     ⟨(some 51), .call 96, [.t 47, .t 48, .t 49, .t 50], none⟩,
     ⟨(some 52), .bin .sub, [.t 46, .t 51], none⟩,
     ⟨(some 53), .mkslice 1 3, [.t 52], none⟩,
     ⟨(some 54), .append 1 8 3, [.t 42, .t 53], none⟩,
     ⟨(some 10), .mov, [.t 54], none⟩]))
   (.reg [⟨(some 40), .mov, [.t 11], none⟩,
     ⟨(some 41), .bin .add, [.t 40, .c (.int .i64 1)], none⟩,
     ⟨(some 11), .mov, [.t 41], none⟩]))))))
   (.seq (.reg [⟨(some 55), .mov, [.t 10], none⟩,
     ⟨(some 6), .mov, [.t 55], none⟩,
     ⟨(some 7), .mov, [.c (.int .i64 0)], none⟩])
   .ret)))))))
theorem chk.ref10_Unring : chkF Try.prog 41 = some (56, ir.ref10_Unring, [.tmp 6, .tmp 7]) := by kernel_rfl

end Go.Proofs.Ytkifejklnpddbaa

/-! Plain facts: ringing and taking it away. -/
set_option linter.unusedVariables false
set_option linter.unusedSimpArgs false
set_option maxRecDepth 20000
namespace Go.Proofs.Ytkifejklnpddbaa
open Go.Am

theorem getD_of_lt {l : List Int} {i : Nat} (h : i < l.length) : l.getD i 0 = l[i] := by
  rw [List.getD_eq_getElem?_getD, List.getElem?_eq_getElem h]; rfl

theorem backN_take {m : List Int} {t : Nat} {period part : Int} (hp : 1 ≤ period) : backN (m.take t) t period part = backN m t period part := by
  unfold backN
  split
  · rfl
  · rename_i h
    have h1 : t - period.toNat < t := by omega
    rw [List.getD_eq_getElem?_getD, List.getD_eq_getElem?_getD, List.getElem?_take, if_pos h1]

theorem ringG_some {period part : Int} (hp : 1 ≤ period) : ∀ (r m0 m : List Int), ringG period part r m0 = some m → m.length = m0.length + r.length ∧ m.take m0.length = m0 ∧
    ∀ i, i < r.length → m.getD (m0.length + i) 0 = r.getD i 0 + backN m (m0.length + i) period part ∧ -1073741824 ≤ m.getD (m0.length + i) 0 ∧ m.getD (m0.length + i) 0 ≤ 1073741824
  | [], m0, m, h => by
    simp only [ringG, Option.some.injEq] at h
    subst h
    exact ⟨by simp, by simp, fun i hi => by simp at hi⟩
  | n :: r, m0, m, h => by
    simp only [ringG] at h
    split at h
    · rename_i hb
      obtain ⟨h1, h2, h3⟩ := ringG_some hp r _ m h
      simp only [List.length_append, List.length_cons, List.length_nil, Nat.zero_add] at h1 h2 h3
      have e1 : m.take m0.length = m0 := by
        have := congrArg (List.take m0.length) h2
        rw [List.take_take, Nat.min_eq_left (by omega), List.take_left] at this
        exact this
      have e2 : m.getD m0.length 0 = n + backN m0 m0.length period part := by
        have h4 : (m.take (m0.length + 1))[m0.length]? = (m0 ++ [n + backN m0 m0.length period part])[m0.length]? := by rw [h2]
        rw [List.getElem?_take, if_pos (by omega), List.getElem?_append_right (by omega), Nat.sub_self] at h4
        rw [List.getD_eq_getElem?_getD, h4]; rfl
      have e3 : backN m0 m0.length period part = backN m m0.length period part := by
        have := backN_take (m := m) (t := m0.length) (part := part) hp
        rw [e1] at this; exact this
      have hb : -1073741824 ≤ n + backN m0 m0.length period part ∧ n + backN m0 m0.length period part ≤ 1073741824 := by simpa [btw] using hb
      refine ⟨by simp only [List.length_cons]; omega, e1, fun i hi => ?_⟩
      cases i with
      | zero =>
        simp only [Nat.add_zero, List.getD_cons_zero]
        rw [e2]
        refine ⟨by rw [e3], hb⟩
      | succ i =>
        have := h3 i (by simpa using hi)
        rw [show m0.length + 1 + i = m0.length + (i + 1) by omega] at this
        simpa using this
    · cases h

theorem ring_back {s m : List Int} {period part : Int} (h : ringOk s 16777216 period part = true) (hg : ringG period part s [] = some m) :
    ringOk m 1073741824 period part = true ∧ unringTo m period part m.length = s := by
  obtain ⟨h1, h2, h3, h4⟩ := ringOk_spec h
  obtain ⟨g1, _, g3⟩ := ringG_some h2.1 s [] m hg
  simp only [List.length_nil, Nat.zero_add] at g1 g3
  constructor
  · simp only [ringOk, btw, Bool.and_eq_true, decide_eq_true_eq, List.all_eq_true]
    refine ⟨⟨⟨by omega, by omega⟩, by omega⟩, fun n hn => ?_⟩
    obtain ⟨i, hi, rfl⟩ := List.mem_iff_getElem.1 hn
    have := g3 i (by omega)
    rw [getD_of_lt hi] at this
    omega
  · refine List.ext_getElem (by simp [unringTo, g1]) fun i hi hi' => ?_
    have := g3 i hi'
    have hm : i < m.length := by omega
    rw [getD_of_lt hi'] at this
    simp only [unringTo, List.getElem_map, List.getElem_range]
    omega

theorem unring_ring {s : List Int} {period part : Int} (h : ringOk s 1073741824 period part = true) : ringG period part (unringTo s period part s.length) [] = some s := by
  obtain ⟨h1, h2, h3, h4⟩ := ringOk_spec h
  have key : ∀ d k, k + d = s.length → ringG period part ((unringTo s period part s.length).drop k) (s.take k) = some s := by
    intro d
    induction d with
    | zero =>
      intro k hk
      rw [List.drop_eq_nil_of_le (by simp [unringTo]; omega), List.take_of_length_le (by omega)]
      rfl
    | succ d ih =>
      intro k hk
      have hk1 : k < s.length := by omega
      have hk2 : k < (unringTo s period part s.length).length := by simp [unringTo]; omega
      rw [List.drop_eq_getElem_cons hk2]
      have e1 : (unringTo s period part s.length)[k] = s[k] - backN s k period part := by
        simp only [unringTo, List.getElem_map, List.getElem_range]
        rw [getD_of_lt hk1]
      have e2 : (s.take k).length = k := by simp; omega
      simp only [ringG, e1, e2, backN_take h2.1]
      have e3 : s[k] - backN s k period part + backN s k period part = s[k] := by omega
      have hb := h4 _ (List.getElem_mem hk1)
      rw [e3, if_pos (by simp [btw]; omega)]
      have e4 : s.take k ++ [s[k]] = s.take (k + 1) := by rw [List.take_add_one, List.getElem?_eq_getElem hk1]; rfl
      rw [e4]
      exact ih (k + 1) (by omega)
  simpa using key s.length 0 (by omega)

theorem unringTo_len (s : List Int) (period part : Int) : (unringTo s period part s.length).length = s.length := by simp [unringTo]

end Go.Proofs.Ytkifejklnpddbaa

/-! Contracts: ringing in the specification; the law VolumeRings. -/
set_option linter.unusedVariables false
set_option linter.unusedSimpArgs false
set_option maxRecDepth 20000
namespace Go.Proofs.Ytkifejklnpddbaa
open Go.Am
attribute [local simp] cells scalar mkv splice under2 under dem dem1

theorem ring_form (s : List Int) (period part : Int) : ∃ (r : List Int) (e : Int), r.length ≤ 64 ∧ ringS s period part = .tuple [intsV r, I e] := by
  unfold ringS ringR
  split
  · rename_i h1
    obtain ⟨hlen, hper, _, _⟩ := ringOk_spec h1
    split
    · rename_i m hm
      have := (ringG_some hper.1 _ _ _ hm).1
      exact ⟨m, 0, by simp at this; omega, rfl⟩
    · exact ⟨[], 7, by simp, rfl⟩
  · exact ⟨[], 2, by simp, rfl⟩

theorem unring_form (s : List Int) (period part : Int) : ∃ (r : List Int) (e : Int), r.length ≤ 64 ∧ unringS s period part = .tuple [intsV r, I e] := by
  unfold unringS unringR
  split
  · rename_i h1
    obtain ⟨hlen, hper, _, _⟩ := ringOk_spec h1
    exact ⟨_, 0, by rw [unringTo_len]; exact hlen, rfl⟩
  · exact ⟨[], 2, by simp, rfl⟩

theorem all_take_succ {α : Type} {p : α → Bool} {l : List α} {k : Nat} (h : k < l.length) : (l.take (k + 1)).all p = ((l.take k).all p && p l[k]) := by
  rw [List.take_add_one, List.getElem?_eq_getElem h, List.all_append]
  simp

theorem c_Ring10 (s : List Int) (period part : Int) (hl : s.length ≤ 9223372036854775807) : C Try.prog F.ref10_Ring [intsV s, I period, I part] (ringS s period part) := by
  refine C.le (r := ringR .nils s period part) ?_ fun _ _ _ h => ring_le h
  refine C_of mixed chk.ref10_Ring (by simp) fun S ok => ?_
  refine Tr.seqR rfl (by simp) (Tr.seqC rfl (by simp [intsV]) (Steps.gcall rfl rfl rfl rfl (by simp) (fun _ => c_rings10 period part) (Steps.fin rfl (by simp) ?_)))
  refine Tr.seq (Tr.seqR rfl (by simp) (Tr.block ?_))
  refine Tr.loop (fun k st => k ≤ s.length ∧ st = { env := [(0, intsV s), (1, I period), (2, I part), (8, .bool ((decide (s.length ≤ 64) && (btw period 1 64 && btw part (-63) 63)) && (s.take k).all fun n => btw n (-16777216) 16777216)), (9, I k)], bx := [], rw := [], log := [], stp := false }) (fun k => s.length - k) 0
    (Wk.le (.cons rfl (.refl _) (.cons rfl (.refl _) (.cons rfl (.refl _) (.cons rfl (.of_eq ?_) (.cons rfl (.refl _) .nil))))) .nil .nil rfl rfl) ⟨by omega, rfl⟩ ?_
  · simp only [V.bool.injEq, List.take_zero, List.all_nil, Bool.and_true, intsV, List.length_map]
    by_cases h : s.length ≤ 64
    · have h' : ((s.length : Int) ≤ 64) := by omega
      simp [h, h']
    · have h' : ¬ ((s.length : Int) ≤ 64) := by omega
      simp [h, h']
  · rintro k st ⟨hk, rfl⟩
    refine Tr.seq (Tr.seqR rfl (by simp [intsV]) (Tr.cond rfl rfl (fun h1 => Tr.skip ?_) (fun h1 => Tr.exit ?_)))
    · have h1 : k < s.length := by simpa using h1
      refine Tr.seq (Tr.block (Tr.reg (Steps.runN 5 rfl (by simp [intsV] <;> (intros; (try simp_all) <;> omega)) ?_)))
      rw [getD_map h1]
      refine Steps.run rfl (by simp) (Steps.gcall rfl rfl rfl rfl (by simp) (fun _ => c_between _ _ _) (Steps.fin rfl (by simp) ?_))
      refine Tr.regR rfl (by simp) ?_
      refine ⟨k + 1, _, Wk.le (.cons rfl (.refl _) (.cons rfl (.refl _) (.cons rfl (.refl _) (.cons rfl (.of_eq ?_) (.cons rfl (VLe.i (w64 (by omega) (by omega))) .nil))))) .nil .nil rfl rfl, ⟨h1, rfl⟩, by omega⟩
      rw [all_take_succ h1]
      simp only [V.bool.injEq]
      generalize (decide (s.length ≤ 64) && (btw period 1 64 && btw part (-63) 63)) = X
      generalize ((s.take k).all fun n => btw n (-16777216) 16777216) = Y
      cases X <;> cases Y <;> rfl
    have h1 : k = s.length := by simp at h1; omega
    subst h1
    rw [List.take_length]
    have e0 : ((decide (s.length ≤ 64) && (btw period 1 64 && btw part (-63) 63)) && s.all fun n => btw n (-16777216) 16777216) = ringOk s 16777216 period part := by
      unfold ringOk
      generalize (s.all fun n => btw n (-16777216) 16777216) = Y
      cases decide (s.length ≤ 64) <;> cases btw period 1 64 <;> cases btw part (-63) 63 <;> cases Y <;> rfl
    rw [e0]
    refine Tr.seq (Tr.seqR rfl (by simp) (Tr.cond rfl rfl (fun h1 => Tr.seqR rfl (by simp) (Tr.retX rfl rfl rfl ?_ trivial)) (fun h1 => Tr.skip ?_)))
    · have h1 : ringOk s 16777216 period part = false := by simpa using h1
      simp [packR, ringR, h1]
    have h1 : ringOk s 16777216 period part = true := by simpa using h1
    obtain ⟨hlen, hper, hpart, hs⟩ := ringOk_spec h1
    refine Tr.seqR rfl (by simp) (Tr.seq (Tr.seqR rfl (by simp) (Tr.block ?_)))
    refine Tr.loop (α := Nat × List Int) (fun p st => (p.1 ≤ s.length ∧ p.2.length = p.1 ∧ (∀ n ∈ p.2, -1073741824 ≤ n ∧ n ≤ 1073741824) ∧ ringG period part (s.drop p.1) p.2 = ringG period part s []) ∧ st = { env := [(0, intsV s), (1, I period), (2, I part), (10, .slice 60 1 (p.2.map I)), (11, I p.1)], bx := [], rw := [(59, p.2.length, 1, 3)], log := [], stp := false }) (fun p => s.length - p.1) (0, [])
      (Wk.le (.cons rfl (.refl _) (.cons rfl (.refl _) (.cons rfl (.refl _) (.cons rfl (.nil 60 1) (.cons rfl (.refl _) .nil))))) .nil (.new rfl .nil) rfl rfl) ⟨⟨by omega, rfl, by simp, rfl⟩, rfl⟩ ?_
    rintro ⟨t, m⟩ st ⟨⟨ht, hm, hmb, hG⟩, rfl⟩
    simp only at ht hm hmb hG
    refine Tr.seq (Tr.seqR rfl (by simp [intsV]) (Tr.cond rfl rfl (fun h2 => Tr.skip ?_) (fun h2 => Tr.exit ?_)))
    rotate_left
    · have h2 : t = s.length := by simp at h2; omega
      subst h2
      rw [List.drop_length] at hG
      refine Tr.seqR rfl (by simp) (Tr.retX rfl rfl rfl ?_ trivial)
      have hG : ringG period part s [] = some m := hG.symm
      simp [packR, ringR, h1, hG, intsV]
    have h2 : t < s.length := by simpa using h2
    have hn := hs _ (List.getElem_mem h2)
    have hbk := backN_bd (t := t) (period := period) hpart hmb
    rw [List.drop_eq_getElem_cons h2] at hG
    simp only [ringG, hm] at hG
    have hadd : IntKind.i64.wrap (s[t] + backN m t period part) = s[t] + backN m t period part := w64 (by omega) (by omega)
    refine Tr.seq (Tr.block (Tr.seq (Tr.drawK (TraceK.runN 3 rfl (by simp [intsV]; omega) ?_))))
    rw [getD_map h2]
    refine TraceK.run rfl (by simp) (TraceK.call rfl rfl (c_back10 m t period part hper (by omega) (by omega) hpart hmb) (TraceK.run rfl (by simp) (.done ⟨by kernel_rfl, by kernel_rfl, ?_⟩)))
    refine Tr.seq (Tr.seqC rfl (by simp) ?_)
    rw [hadd]
    refine Steps.call rfl rfl (c_between _ _ _) (Steps.fin rfl (by simp) (Tr.cond rfl rfl (fun h4 => Tr.seqR rfl (by simp) (Tr.retX rfl rfl rfl ?_ trivial)) (fun h4 => Tr.skip ?_)))
    · have h4 : btw (s[t] + backN m t period part) (-1073741824) 1073741824 = false := by simpa using h4
      rw [h4] at hG
      have hG : ringG period part s [] = none := hG.symm
      simp [packR, ringR, h1, hG]
    · have h4 : btw (s[t] + backN m t period part) (-1073741824) 1073741824 = true := by simpa using h4
      rw [h4, if_pos rfl] at hG
      have h5 : -1073741824 ≤ s[t] + backN m t period part ∧ s[t] + backN m t period part ≤ 1073741824 := by simpa [btw] using h4
      refine Tr.regR rfl (by simp; omega) (Tr.regR rfl (by simp) ?_)
      refine ⟨(t + 1, m ++ [s[t] + backN m t period part]), _, Wk.le (.cons rfl (.refl _) (.cons rfl (.refl _) (.cons rfl (.refl _) (.cons rfl (.of_eq ?_) (.cons rfl (VLe.i (w64 (by omega) (by omega))) .nil))))) .nil (.cons ?_ .nil) rfl rfl, ⟨⟨h2, by simp [hm], ?_, hG⟩, rfl⟩, by simp; omega⟩
      · simp
      · show some _ = some _
        simp
      · intro n hn
        rcases List.mem_append.1 hn with hn | hn
        · exact hmb n hn
        · have hn : n = s[t] + backN m t period part := by simpa using hn
          subst hn; exact h5

theorem c_Unring10 (s : List Int) (period part : Int) (hl : s.length ≤ 9223372036854775807) : C Try.prog F.ref10_Unring [intsV s, I period, I part] (unringS s period part) := by
  refine C.le (r := unringR .nils s period part) ?_ fun _ _ _ h => unring_le h
  refine C_of mixed chk.ref10_Unring (by simp) fun S ok => ?_
  refine Tr.seqR rfl (by simp) (Tr.seqC rfl (by simp [intsV]) (Steps.gcall rfl rfl rfl rfl (by simp) (fun _ => c_rings10 period part) (Steps.fin rfl (by simp) ?_)))
  refine Tr.seq (Tr.seqR rfl (by simp) (Tr.block ?_))
  refine Tr.loop (fun k st => k ≤ s.length ∧ st = { env := [(0, intsV s), (1, I period), (2, I part), (8, .bool ((decide (s.length ≤ 64) && (btw period 1 64 && btw part (-63) 63)) && (s.take k).all fun n => btw n (-1073741824) 1073741824)), (9, I k)], bx := [], rw := [], log := [], stp := false }) (fun k => s.length - k) 0
    (Wk.le (.cons rfl (.refl _) (.cons rfl (.refl _) (.cons rfl (.refl _) (.cons rfl (.of_eq ?_) (.cons rfl (.refl _) .nil))))) .nil .nil rfl rfl) ⟨by omega, rfl⟩ ?_
  · simp only [V.bool.injEq, List.take_zero, List.all_nil, Bool.and_true, intsV, List.length_map]
    by_cases h : s.length ≤ 64
    · have h' : ((s.length : Int) ≤ 64) := by omega
      simp [h, h']
    · have h' : ¬ ((s.length : Int) ≤ 64) := by omega
      simp [h, h']
  · rintro k st ⟨hk, rfl⟩
    refine Tr.seq (Tr.seqR rfl (by simp [intsV]) (Tr.cond rfl rfl (fun h1 => Tr.skip ?_) (fun h1 => Tr.exit ?_)))
    · have h1 : k < s.length := by simpa using h1
      refine Tr.seq (Tr.block (Tr.reg (Steps.runN 5 rfl (by simp [intsV] <;> (intros; (try simp_all) <;> omega)) ?_)))
      rw [getD_map h1]
      refine Steps.run rfl (by simp) (Steps.gcall rfl rfl rfl rfl (by simp) (fun _ => c_between _ _ _) (Steps.fin rfl (by simp) ?_))
      refine Tr.regR rfl (by simp) ?_
      refine ⟨k + 1, _, Wk.le (.cons rfl (.refl _) (.cons rfl (.refl _) (.cons rfl (.refl _) (.cons rfl (.of_eq ?_) (.cons rfl (VLe.i (w64 (by omega) (by omega))) .nil))))) .nil .nil rfl rfl, ⟨h1, rfl⟩, by omega⟩
      rw [all_take_succ h1]
      simp only [V.bool.injEq]
      generalize (decide (s.length ≤ 64) && (btw period 1 64 && btw part (-63) 63)) = X
      generalize ((s.take k).all fun n => btw n (-1073741824) 1073741824) = Y
      cases X <;> cases Y <;> rfl
    have h1 : k = s.length := by simp at h1; omega
    subst h1
    rw [List.take_length]
    have e0 : ((decide (s.length ≤ 64) && (btw period 1 64 && btw part (-63) 63)) && s.all fun n => btw n (-1073741824) 1073741824) = ringOk s 1073741824 period part := by
      unfold ringOk
      generalize (s.all fun n => btw n (-1073741824) 1073741824) = Y
      cases decide (s.length ≤ 64) <;> cases btw period 1 64 <;> cases btw part (-63) 63 <;> cases Y <;> rfl
    rw [e0]
    refine Tr.seq (Tr.seqR rfl (by simp) (Tr.cond rfl rfl (fun h1 => Tr.seqR rfl (by simp) (Tr.retX rfl rfl rfl ?_ trivial)) (fun h1 => Tr.skip ?_)))
    · have h1 : ringOk s 1073741824 period part = false := by simpa using h1
      simp [packR, unringR, h1]
    have h1 : ringOk s 1073741824 period part = true := by simpa using h1
    obtain ⟨hlen, hper, hpart, hs⟩ := ringOk_spec h1
    refine Tr.seqR rfl (by simp) (Tr.seq (Tr.seqR rfl (by simp) (Tr.block ?_)))
    refine Tr.loop (α := Nat × List Int) (fun p st => (p.1 ≤ s.length ∧ p.2 = unringTo s period part p.1) ∧ st = { env := [(0, intsV s), (1, I period), (2, I part), (10, .slice 55 1 (p.2.map I)), (11, I p.1)], bx := [], rw := [(54, p.2.length, 1, 3)], log := [], stp := false }) (fun p => s.length - p.1) (0, [])
      (Wk.le (.cons rfl (.refl _) (.cons rfl (.refl _) (.cons rfl (.refl _) (.cons rfl (.nil 55 1) (.cons rfl (.refl _) .nil))))) .nil (.new rfl .nil) rfl rfl) ⟨⟨by omega, rfl⟩, rfl⟩ ?_
    rintro ⟨t, m⟩ st ⟨⟨ht, hm⟩, rfl⟩
    simp only at ht hm
    refine Tr.seq (Tr.seqR rfl (by simp [intsV]) (Tr.cond rfl rfl (fun h2 => Tr.skip ?_) (fun h2 => Tr.exit ?_)))
    rotate_left
    · have h2 : t = s.length := by simp at h2; omega
      subst h2
      refine Tr.seqR rfl (by simp) (Tr.retX rfl rfl rfl ?_ trivial)
      simp [packR, unringR, h1, hm, intsV]
    have h2 : t < s.length := by simpa using h2
    have hn := hs _ (List.getElem_mem h2)
    have hbk := backN_bd (t := t) (period := period) hpart hs
    have hml : m.length = t := by rw [hm]; simp [unringTo]
    have hadd : IntKind.i64.wrap (s[t] - backN s t period part) = s[t] - backN s t period part := w64 (by omega) (by omega)
    refine Tr.seq (Tr.block (Tr.drawK (TraceK.runN 4 rfl (by simp [intsV]; omega) ?_)))
    rw [getD_map h2]
    refine TraceK.run rfl (by simp) (TraceK.call rfl rfl (c_back10 s t period part hper (by omega) (by omega) hpart hs) ?_)
    refine TraceK.run rfl (by simp; omega) (.done ⟨by kernel_rfl, by kernel_rfl, ?_⟩)
    refine Tr.regR rfl (by simp) ?_
    refine ⟨(t + 1, m ++ [s[t] - backN s t period part]), _, Wk.le (.cons rfl (.refl _) (.cons rfl (.refl _) (.cons rfl (.refl _) (.cons rfl (.of_eq ?_) (.cons rfl (VLe.i (w64 (by omega) (by omega))) .nil))))) .nil (.cons ?_ .nil) rfl rfl, ⟨⟨h2, by rw [unringTo_succ _ _ _ h2, hm]⟩, rfl⟩, by simp; omega⟩
    · rw [hadd]; simp
    · show some _ = some _
      simp

theorem c_VolumeRings (s : List Int) (period part : Int) (hl : s.length ≤ 9223372036854775807) : C Try.prog F.law10_VolumeRings [intsV s, I period, I part] (.bool true) := by
  refine C_of mixed chk.law10_VolumeRings (by simp) fun S ok => ?_
  obtain ⟨r, e, hr, hR⟩ := ring_form s period part
  obtain ⟨r2, e2, hr2, hR2⟩ := unring_form s period part
  refine Tr.seqR rfl (by simp) ?_
  refine Tr.seqC rfl (by simp) (Steps.call rfl rfl (hR ▸ c_Ring s period part hl) (Steps.fin rfl (by simp) ?_))
  refine Tr.seqC rfl (by simp) (Steps.call rfl rfl (hR ▸ c_Ring10 s period part hl) (Steps.fin rfl (by simp) ?_))
  refine Tr.seq (Tr.seqC rfl (by simp) (Steps.call rfl rfl (c_Alike r r (by omega)) (Steps.fin rfl (by simp) (Tr.condF (by simp; rfl) (Tr.skip ?_)))))
  refine Tr.seqC rfl (by simp) (Steps.call rfl rfl (hR2 ▸ c_Unring s period part hl) (Steps.fin rfl (by simp) ?_))
  refine Tr.seqC rfl (by simp) (Steps.call rfl rfl (hR2 ▸ c_Unring10 s period part hl) (Steps.fin rfl (by simp) ?_))
  refine Tr.seqC rfl (by simp) (Steps.call rfl rfl (c_Alike r2 r2 (by omega)) (Steps.run rfl (by simp) ?_))
  refine Steps.gcall rfl rfl rfl rfl (by simp) (fun _ => c_works) (Steps.fin rfl (by simp) (Tr.retX rfl rfl rfl ?_ trivial))
  simp [packR]

end Go.Proofs.Ytkifejklnpddbaa
