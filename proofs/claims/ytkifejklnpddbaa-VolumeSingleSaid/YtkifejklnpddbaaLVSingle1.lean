/-
  Parts of the proof, 1: the abstract machine, the compiled code, contracts of the functions, plain laws.
-/
import Derived.Test.YtkifejklnpddbaaZ5


/-! The code of further functions, compiled. -/
set_option maxRecDepth 100000
namespace Go.Proofs.Ytkifejklnpddbaa
open Go.Am
/-- paravane/paravanelaw10.VolumeNames -/
abbrev F.law10_VolumeNames : Nat := 4
def ir.law10_VolumeNames : IC :=
 (.seq (.reg [⟨(some 4), .box, [.t 1], none⟩,
     ⟨(some 5), .box, [.t 2], none⟩,
     ⟨(some 6), .mov, [.c (.bool false)], none⟩])
   (.seq (.reg [⟨(some 12), .mov, [.t 0], none⟩,
     ⟨(some 13), .load 3 true, [.t 4], none⟩,
     ⟨(some 14), .iaddrA 2 1, [.t 5, .c (.int .i64 0)], none⟩,
     ⟨(some 15), .load 1 false, [.t 14], none⟩,
     ⟨(some 16), .iaddrA 2 1, [.t 5, .c (.int .i64 1)], none⟩,
     ⟨(some 17), .load 1 false, [.t 16], none⟩,
     ⟨(some 18), .call 31, [.t 12, .t 13, .t 15, .t 17], none⟩,
     ⟨(some 11), .mov, [.t 18], none⟩,
     ⟨(some 19), .extract 0, [.t 11], none⟩,
     ⟨(some 20), .extract 1, [.t 11], none⟩,
     ⟨(some 7), .alloc [(.int .i64 0), (.int .i64 0), (.int .i64 0), .nils, (.int .i64 0), (.int .i64 0)], [], none⟩,
     ⟨none, .store 6, [.t 7, .t 19], none⟩,
     ⟨(some 8), .mov, [.t 20], none⟩])
   (.seq (.reg [⟨(some 22), .mov, [.t 0], none⟩,
     ⟨(some 23), .load 3 true, [.t 4], none⟩,
     ⟨(some 24), .iaddrA 2 1, [.t 5, .c (.int .i64 0)], none⟩,
     ⟨(some 25), .load 1 false, [.t 24], none⟩,
     ⟨(some 26), .iaddrA 2 1, [.t 5, .c (.int .i64 1)], none⟩,
     ⟨(some 27), .load 1 false, [.t 26], none⟩,
     ⟨(some 28), .call 32, [.t 22, .t 23, .t 25, .t 27], none⟩,
     ⟨(some 21), .mov, [.t 28], none⟩,
     ⟨(some 29), .extract 0, [.t 21], none⟩,
     ⟨(some 30), .extract 1, [.t 21], none⟩,
     ⟨(some 9), .alloc [(.int .i64 0), (.int .i64 0), (.int .i64 0), .nils, (.int .i64 0), (.int .i64 0)], [], none⟩,
     ⟨none, .store 6, [.t 9, .t 29], none⟩,
     ⟨(some 10), .mov, [.t 30], none⟩])
   (.seq (.reg [⟨(some 31), .load 6 true, [.t 7], none⟩,
     ⟨(some 32), .load 6 true, [.t 9], none⟩,
     ⟨(some 33), .call 33, [.t 31, .t 32], none⟩,
     ⟨(some 34), .mov, [.t 33], none⟩,
     ⟨(some 35), .mov, [.t 8], (some (34, true))⟩,
     ⟨(some 36), .mov, [.t 10], (some (34, true))⟩,
     ⟨(some 37), .bin .eql, [.t 35, .t 36], (some (34, true))⟩,
     ⟨(some 38), .pick, [.t 34, .t 37, .c (.bool false)], none⟩,
     ⟨(some 39), .mov, [.t 38], none⟩,
     ⟨(some 40), .call 30, [], (some (39, true))⟩,
     ⟨(some 41), .pick, [.t 39, .t 40, .c (.bool false)], none⟩,
     ⟨(some 6), .mov, [.t 41], none⟩])
   .ret))))
theorem chk.law10_VolumeNames : chkF Try.prog 4 = some (42, ir.law10_VolumeNames, [.tmp 6]) := by kernel_rfl

/-- paravane/paravanelaw10.VolumeEncloses -/
abbrev F.law10_VolumeEncloses : Nat := 5
def ir.law10_VolumeEncloses : IC :=
 (.seq (.reg [⟨(some 3), .box, [.t 1], none⟩,
     ⟨(some 4), .mov, [.c (.bool false)], none⟩])
   (.seq (.reg [⟨(some 10), .mov, [.t 0], none⟩,
     ⟨(some 11), .faddr 0, [.t 3], none⟩,
     ⟨(some 12), .load 3 true, [.t 11], none⟩,
     ⟨(some 13), .faddr 3, [.t 3], none⟩,
     ⟨(some 14), .load 3 true, [.t 13], none⟩,
     ⟨(some 15), .faddr 6, [.t 3], none⟩,
     ⟨(some 16), .load 1 false, [.t 15], none⟩,
     ⟨(some 17), .faddr 7, [.t 3], none⟩,
     ⟨(some 18), .load 2 true, [.t 17], none⟩,
     ⟨(some 19), .call 34, [.t 10, .t 12, .t 14, .t 16, .t 18], none⟩,
     ⟨(some 9), .mov, [.t 19], none⟩,
     ⟨(some 20), .extract 0, [.t 9], none⟩,
     ⟨(some 21), .extract 1, [.t 9], none⟩,
     ⟨(some 5), .alloc [(.int .i64 0), (.int .i64 0), (.int .i64 0), (.int .i64 0), (.int .i64 0), (.int .i64 0), .nils], [], none⟩,
     ⟨none, .store 7, [.t 5, .t 20], none⟩,
     ⟨(some 6), .mov, [.t 21], none⟩])
   (.seq (.reg [⟨(some 23), .mov, [.t 0], none⟩,
     ⟨(some 24), .faddr 0, [.t 3], none⟩,
     ⟨(some 25), .load 3 true, [.t 24], none⟩,
     ⟨(some 26), .faddr 3, [.t 3], none⟩,
     ⟨(some 27), .load 3 true, [.t 26], none⟩,
     ⟨(some 28), .faddr 6, [.t 3], none⟩,
     ⟨(some 29), .load 1 false, [.t 28], none⟩,
     ⟨(some 30), .faddr 7, [.t 3], none⟩,
     ⟨(some 31), .load 2 true, [.t 30], none⟩,
     ⟨(some 32), .call 35, [.t 23, .t 25, .t 27, .t 29, .t 31], none⟩,
     ⟨(some 22), .mov, [.t 32], none⟩,
     ⟨(some 33), .extract 0, [.t 22], none⟩,
     ⟨(some 34), .extract 1, [.t 22], none⟩,
     ⟨(some 7), .alloc [(.int .i64 0), (.int .i64 0), (.int .i64 0), (.int .i64 0), (.int .i64 0), (.int .i64 0), .nils], [], none⟩,
     ⟨none, .store 7, [.t 7, .t 33], none⟩,
     ⟨(some 8), .mov, [.t 34], none⟩])
   (.seq (.reg [⟨(some 35), .load 7 true, [.t 5], none⟩,
     ⟨(some 36), .load 7 true, [.t 7], none⟩,
     ⟨(some 37), .call 36, [.t 35, .t 36], none⟩,
     ⟨(some 38), .mov, [.t 37], none⟩,
     ⟨(some 39), .mov, [.t 6], (some (38, true))⟩,
     ⟨(some 40), .mov, [.t 8], (some (38, true))⟩,
     ⟨(some 41), .bin .eql, [.t 39, .t 40], (some (38, true))⟩,
     ⟨(some 42), .pick, [.t 38, .t 41, .c (.bool false)], none⟩,
     ⟨(some 43), .mov, [.t 42], none⟩,
     ⟨(some 44), .call 30, [], (some (43, true))⟩,
     ⟨(some 45), .pick, [.t 43, .t 44, .c (.bool false)], none⟩,
     ⟨(some 4), .mov, [.t 45], none⟩])
   .ret))))
theorem chk.law10_VolumeEncloses : chkF Try.prog 5 = some (46, ir.law10_VolumeEncloses, [.tmp 4]) := by kernel_rfl

/-- paravane/paravanelaw10.VolumeSingle -/
abbrev F.law10_VolumeSingle : Nat := 14
def ir.law10_VolumeSingle : IC :=
 (.seq (.reg [⟨(some 3), .box, [.t 1], none⟩,
     ⟨(some 4), .mov, [.c (.bool false)], none⟩])
   (.seq (.reg [⟨(some 10), .mov, [.t 0], none⟩,
     ⟨(some 11), .faddr 0, [.t 3], none⟩,
     ⟨(some 12), .load 3 true, [.t 11], none⟩,
     ⟨(some 13), .faddr 3, [.t 3], none⟩,
     ⟨(some 14), .load 3 true, [.t 13], none⟩,
     ⟨(some 15), .faddr 6, [.t 3], none⟩,
     ⟨(some 16), .load 1 false, [.t 15], none⟩,
     ⟨(some 17), .faddr 7, [.t 3], none⟩,
     ⟨(some 18), .faddr 0, [.t 17], none⟩,
     ⟨(some 19), .load 1 false, [.t 18], none⟩,
     ⟨(some 20), .faddr 7, [.t 3], none⟩,
     ⟨(some 21), .faddr 0, [.t 20], none⟩,
     ⟨(some 22), .load 1 false, [.t 21], none⟩,
     ⟨(some 23), .build [(.int .i64 0), (.int .i64 0)] [(0, 1), (1, 1)], [.t 19, .t 22], none⟩,
     ⟨(some 24), .call 34, [.t 10, .t 12, .t 14, .t 16, .t 23], none⟩,
     ⟨(some 9), .mov, [.t 24], none⟩,
     ⟨(some 25), .extract 0, [.t 9], none⟩,
     ⟨(some 26), .extract 1, [.t 9], none⟩,
     ⟨(some 5), .alloc [(.int .i64 0), (.int .i64 0), (.int .i64 0), (.int .i64 0), (.int .i64 0), (.int .i64 0), .nils], [], none⟩,
     ⟨none, .store 7, [.t 5, .t 25], none⟩,
     ⟨(some 6), .mov, [.t 26], none⟩])
   (.seq (.reg [⟨(some 28), .mov, [.t 0], none⟩,
     ⟨(some 29), .faddr 0, [.t 3], none⟩,
     ⟨(some 30), .load 3 true, [.t 29], none⟩,
     ⟨(some 31), .faddr 3, [.t 3], none⟩,
     ⟨(some 32), .load 3 true, [.t 31], none⟩,
     ⟨(some 33), .faddr 6, [.t 3], none⟩,
     ⟨(some 34), .load 1 false, [.t 33], none⟩,
     ⟨(some 35), .faddr 7, [.t 3], none⟩,
     ⟨(some 36), .faddr 0, [.t 35], none⟩,
     ⟨(some 37), .load 1 false, [.t 36], none⟩,
     ⟨(some 38), .call 52, [.t 28, .t 30, .t 32, .t 34, .t 37], none⟩,
     ⟨(some 27), .mov, [.t 38], none⟩,
     ⟨(some 39), .extract 0, [.t 27], none⟩,
     ⟨(some 40), .extract 1, [.t 27], none⟩,
     ⟨(some 7), .alloc [(.int .i64 0), (.int .i64 0), (.int .i64 0), (.int .i64 0), (.int .i64 0), (.int .i64 0), .nils], [], none⟩,
     ⟨none, .store 7, [.t 7, .t 39], none⟩,
     ⟨(some 8), .mov, [.t 40], none⟩])
   (.seq (.reg [⟨(some 41), .load 7 true, [.t 5], none⟩,
     ⟨(some 42), .load 7 true, [.t 7], none⟩,
     ⟨(some 43), .call 36, [.t 41, .t 42], none⟩,
     ⟨(some 44), .mov, [.t 43], none⟩,
     ⟨(some 45), .mov, [.t 6], (some (44, true))⟩,
     ⟨(some 46), .mov, [.t 8], (some (44, true))⟩,
     ⟨(some 47), .bin .eql, [.t 45, .t 46], (some (44, true))⟩,
     ⟨(some 48), .pick, [.t 44, .t 47, .c (.bool false)], none⟩,
     ⟨(some 49), .mov, [.t 48], none⟩,
     ⟨(some 50), .call 30, [], (some (49, true))⟩,
     ⟨(some 51), .pick, [.t 49, .t 50, .c (.bool false)], none⟩,
     ⟨(some 4), .mov, [.t 51], none⟩])
   .ret))))
theorem chk.law10_VolumeSingle : chkF Try.prog 14 = some (52, ir.law10_VolumeSingle, [.tmp 4]) := by kernel_rfl

end Go.Proofs.Ytkifejklnpddbaa

/-! Plain facts: values and enclosures as sums over what is near. -/
set_option linter.unusedVariables false
set_option linter.unusedSimpArgs false
set_option maxRecDepth 20000
namespace Go.Proofs.Ytkifejklnpddbaa
open Go.Am

theorem w_range (n : Int) : -9223372036854775808 ≤ w n ∧ w n < 9223372036854775808 := by
  have e : ∀ m : Int, m = n % 18446744073709551616 → -9223372036854775808 ≤ (if (true && decide (m ≥ 9223372036854775808)) = true then m - 18446744073709551616 else m) ∧ (if (true && decide (m ≥ 9223372036854775808)) = true then m - 18446744073709551616 else m) < 9223372036854775808 := by
    intro m hm
    by_cases h : m ≥ 9223372036854775808
    · simp only [h, decide_true, Bool.and_self, if_true]; omega
    · simp only [h, decide_false, Bool.and_false, Bool.false_eq_true, if_false]; omega
  exact e _ rfl

theorem w_w (n : Int) : w (w n) = w n := w64 (w_range n).1 (w_range n).2

/-- What the sample at a time is; nothing, if there is none. -/
def smp (s : List (Int × Int)) (z d slow : Int) : Int × Int := s.getD (timeN z d slow).toNat (0, 0)
def valC (h : Ear) (z : Int) (p : Int × Int) : Int × Int := smp (sAt h p.1) z p.2 h.slow.1

def nrm (a : Int × Int) : Prop := w a.1 = a.1 ∧ w a.2 = a.2
theorem nrm_plus (a b : Int × Int) : nrm (plusB a b) := ⟨w_w _, w_w _⟩
theorem nrm0 : nrm (0, 0) := ⟨w64 (by omega) (by omega), w64 (by omega) (by omega)⟩
theorem plus0 {a : Int × Int} (h : nrm a) : plusB a (0, 0) = a := by
  obtain ⟨x, y⟩ := a
  obtain ⟨h1, h2⟩ := h
  simp only at h1 h2
  simp only [plusB, Int.add_zero, h1, h2]

theorem fold_filter {α β : Type} (f : α → Option β) (g : β → Int × Int) : ∀ (L : List α) (acc : Int × Int), nrm acc →
    ((L.filterMap f).map g).foldl plusB acc = (L.map fun p => match f p with | some r => g r | none => (0, 0)).foldl plusB acc
  | [], acc, _ => rfl
  | p :: r, acc, h => by
    simp only [List.filterMap_cons, List.map_cons, List.foldl_cons]
    cases hf : f p with
    | none => simp only [plus0 h]; exact fold_filter f g r acc h
    | some q => simp only [List.map_cons, List.foldl_cons]; exact fold_filter f g r _ (nrm_plus _ _)

theorem map_congr' {α β : Type} {f g : α → β} {L : List α} (h : ∀ p ∈ L, f p = g p) : L.map f = L.map g := List.map_congr_left h

theorem value_sum (h : Ear) (x y z : Int) : valueB h x y z = ((nears h.aper x y h.l 0).map (valC h z)).foldl plusB (0, 0) := by
  unfold valueB namedL
  rw [fold_filter _ _ _ _ nrm0]
  congr 1
  refine map_congr' fun p hp => ?_
  obtain ⟨i, h1, h2⟩ := nears_mem hp
  have h1 : p.1 = (i : Int) := by simpa using h1
  have h0 := timeN_nn z p.2 h.slow.1
  have es : sAt h p.1 = h.l[i].s := by simp [sAt, h1, List.getElem?_eq_getElem h2]
  unfold refOf valC smp
  rw [es, h1]
  simp only [Int.toNat_natCast, List.getElem?_eq_getElem h2, Option.map_some, Option.getD_some]
  by_cases hc : timeN z p.2 h.slow.1 < (h.l[i].s.length : Int)
  · rw [if_pos hc]
    simp [boundAt, List.getElem?_eq_getElem h2, List.getD_eq_getElem?_getD]
  · rw [if_neg hc, List.getD_eq_getElem?_getD, List.getElem?_eq_none (by omega)]
    rfl

theorem reach_one (s : List (Int × Int)) (z d q : Int) : reachB s z d (q, q) = smp s z d q := by
  have h0 := timeN_nn z d q
  unfold reachB smp
  simp only
  obtain ⟨t, ht⟩ : ∃ t : Nat, timeN z d q = (t : Int) := ⟨_, (Int.toNat_of_nonneg h0).symm⟩
  rw [ht, Int.toNat_natCast]
  by_cases h1 : t < s.length
  · rw [reachG_drop h1, if_pos (Int.le_refl _), List.getD_eq_getElem?_getD, List.getElem?_eq_getElem h1]
    have e : decide ((t : Int) ≥ (s.length : Int)) = false := by simp; omega
    rw [e]
    simp only [stepB, Bool.false_eq_true, if_false, Option.getD_some]
    by_cases h2 : t + 1 < s.length
    · rw [reachG_drop h2, if_neg (by omega)]
    · rw [List.drop_eq_nil_of_le (by omega)]; rfl
  · rw [List.drop_eq_nil_of_le (by omega), List.getD_eq_getElem?_getD, List.getElem?_eq_none (by omega)]; rfl

/-- **ONE SLOWNESS**: the enclosure is the value. -/
theorem enc_one (l : List Echo) (aper q : Int) (p : Int × Int × Int) : encOf l aper (q, q) p = valOf l aper q p := by
  unfold encOf valOf encB
  rw [value_sum]
  congr 1
  refine map_congr' fun p _ => ?_
  exact reach_one _ _ _ _

/-! ### Bounds within bounds -/
def ins (a b : Int × Int) : Prop := b.1 ≤ a.1 ∧ a.2 ≤ b.2
def bdd (n : Int) (a : Int × Int) : Prop := (-n ≤ a.1 ∧ a.1 ≤ n) ∧ (-n ≤ a.2 ∧ a.2 ≤ n)

theorem fold_ins {α : Type} (f g : α → Int × Int) (L : List α) : ∀ (n : Int) (a b : Int × Int), 0 ≤ n → n + L.length ≤ 1000 → (∀ p ∈ L, bdd 16777216 (f p) ∧ bdd 16777216 (g p) ∧ ins (f p) (g p)) → bdd (n * 16777216) a → bdd (n * 16777216) b → ins a b →
    ins ((L.map f).foldl plusB a) ((L.map g).foldl plusB b) := by
  induction L with
  | nil => intro n a b _ _ _ _ _ h; exact h
  | cons p r ih =>
    intro n a b h0 hn hf ha hb h
    obtain ⟨h1, h2, h3⟩ := hf p (by simp)
    simp only [List.map_cons, List.foldl_cons]
    simp only [List.length_cons] at hn
    unfold bdd at ha hb h1 h2
    have e1 : plusB a (f p) = (a.1 + (f p).1, a.2 + (f p).2) := by
      unfold plusB; rw [show w (a.1 + (f p).1) = a.1 + (f p).1 from w64 (by omega) (by omega), show w (a.2 + (f p).2) = a.2 + (f p).2 from w64 (by omega) (by omega)]
    have e2 : plusB b (g p) = (b.1 + (g p).1, b.2 + (g p).2) := by
      unfold plusB; rw [show w (b.1 + (g p).1) = b.1 + (g p).1 from w64 (by omega) (by omega), show w (b.2 + (g p).2) = b.2 + (g p).2 from w64 (by omega) (by omega)]
    rw [e1, e2]
    unfold ins at h h3
    refine ih (n + 1) _ _ (by omega) (by omega) (fun q hq => hf q (List.mem_cons_of_mem _ hq)) ?_ ?_ ?_
    · unfold bdd; simp only; omega
    · unfold bdd; simp only; omega
    · unfold ins; simp only; omega

theorem fold_diag {α : Type} (f : α → Int × Int) : ∀ (L : List α) (a : Int × Int), (∀ p ∈ L, (f p).1 = (f p).2) → a.1 = a.2 → ((L.map f).foldl plusB a).1 = ((L.map f).foldl plusB a).2
  | [], a, _, h => h
  | p :: r, a, hf, h => by
    simp only [List.map_cons, List.foldl_cons]
    refine fold_diag f r _ (fun q hq => hf q (List.mem_cons_of_mem _ hq)) ?_
    simp only [plusB, h, hf p (by simp)]

theorem ins_refl (a : Int × Int) : ins a a := ⟨Int.le_refl _, Int.le_refl _⟩
theorem ins_trans {a b c : Int × Int} (h : ins a b) (k : ins b c) : ins a c := ⟨Int.le_trans k.1 h.1, Int.le_trans h.2 k.2⟩

theorem reachG_wide (to : Int) : ∀ (r : List (Int × Int)) (t : Nat) (out : Int × Int), ins out (reachG to r t true out)
  | [], t, out => ins_refl _
  | b :: r, t, out => by
    unfold reachG
    split
    · refine ins_trans ?_ (reachG_wide to r (t + 1) _)
      unfold ins stepB; simp only [if_true]; omega
    · exact ins_refl _

theorem reachG_has (to : Int) : ∀ (r : List (Int × Int)) (t : Nat) (is : Bool) (out : Int × Int) (j : Nat) (h : j < r.length), ((t + j : Nat) : Int) ≤ to → ins r[j] (reachG to r t is out)
  | [], t, is, out, j, h, _ => by simp at h
  | b :: r, t, is, out, j, h, hj => by
    unfold reachG
    rw [if_pos (by omega)]
    cases j with
    | zero =>
      refine ins_trans ?_ (reachG_wide to r (t + 1) _)
      unfold ins stepB
      cases is
      · simp
      · simp only [if_true, List.getElem_cons_zero]; omega
    | succ j =>
      rw [List.getElem_cons_succ]
      exact reachG_has to r (t + 1) true _ j (by simpa using h) (by rw [show t + 1 + j = t + (j + 1) by omega]; exact hj)

theorem reachG_bdd {n : Int} (to : Int) : ∀ (r : List (Int × Int)) (t : Nat) (is : Bool) (out : Int × Int), (∀ b ∈ r, bdd n b) → bdd n out → bdd n (reachG to r t is out)
  | [], t, is, out, _, h => h
  | b :: r, t, is, out, hr, h => by
    unfold reachG
    split
    · refine reachG_bdd to r (t + 1) true _ (fun b hb => hr b (List.mem_cons_of_mem _ hb)) ?_
      have hb := hr b (by simp)
      unfold stepB
      split
      · unfold bdd at h hb ⊢; simp only; omega
      · exact hb
    · exact h

/-- A time between the least and the greatest one: the sample lies in what may be reached. -/
theorem smp_reach (s : List (Int × Int)) (z d q : Int) (sl : Int × Int) (h1 : timeN z d sl.1 ≤ timeN z d q) (h2 : timeN z d q ≤ timeN z d sl.2) : ins (smp s z d q) (reachB s z d sl) := by
  have h0 := timeN_nn z d sl.1
  unfold smp reachB
  by_cases h : (timeN z d q).toNat < s.length
  · rw [List.getD_eq_getElem?_getD, List.getElem?_eq_getElem h]
    have hj : (timeN z d q).toNat - (timeN z d sl.1).toNat < (s.drop (timeN z d sl.1).toNat).length := by rw [List.length_drop]; omega
    have := reachG_has (timeN z d sl.2) (s.drop (timeN z d sl.1).toNat) (timeN z d sl.1).toNat (decide (timeN z d sl.2 ≥ s.length)) (0, 0) _ hj (by omega)
    rw [List.getElem_drop] at this
    simpa [show (timeN z d sl.1).toNat + ((timeN z d q).toNat - (timeN z d sl.1).toNat) = (timeN z d q).toNat by omega] using this
  · rw [List.getD_eq_getElem?_getD, List.getElem?_eq_none (by omega)]
    have e : decide (timeN z d sl.2 ≥ (s.length : Int)) = true := by simp; omega
    rw [e]
    exact reachG_wide _ _ _ _

theorem isq_mono {a b : Int} (h0 : 0 ≤ a) (h : a ≤ b) (h1 : b ≤ 1099511627776) : isq a ≤ isq b := by
  obtain ⟨a0, a1, a2⟩ := isq_spec h0 (by omega)
  obtain ⟨b0, b1, b2⟩ := isq_spec (n := b) (by omega) h1
  have := sq_lt a0 (b := isq b + 1) (by omega) (by omega)
  omega

theorem timeN_mono {z d s t : Int} (hz : 0 ≤ z ∧ z ≤ 64) (hd : 0 ≤ d ∧ d ≤ 100000) (hs : 0 ≤ s) (h : s ≤ t) (ht : t ≤ 4096) : timeN z d s ≤ timeN z d t := by
  have m0 : 0 ≤ z * z ∧ z * z ≤ 64 * 64 := ⟨Int.mul_nonneg hz.1 hz.1, Int.mul_le_mul hz.2 hz.2 hz.1 (by omega)⟩
  have m1 : 0 ≤ s * d ∧ s * d ≤ 4096 * 100000 := ⟨Int.mul_nonneg hs hd.1, Int.mul_le_mul (by omega) hd.2 hd.1 (by omega)⟩
  have m2 : 0 ≤ t * d ∧ t * d ≤ 4096 * 100000 := ⟨Int.mul_nonneg (by omega) hd.1, Int.mul_le_mul (by omega) hd.2 hd.1 (by omega)⟩
  have m3 : s * d ≤ t * d := Int.mul_le_mul_of_nonneg_right h hd.1
  have q1 : (s * d).tdiv 64 = s * d / 64 := Int.tdiv_eq_ediv_of_nonneg m1.1
  have q2 : (t * d).tdiv 64 = t * d / 64 := Int.tdiv_eq_ediv_of_nonneg m2.1
  have e1 : IntKind.wrap .i64 (IntKind.wrap .i64 (z * z) + IntKind.wrap .i64 ((IntKind.wrap .i64 (s * d)).tdiv 64)) = z * z + s * d / 64 := by
    rw [w64 (n := z * z) (by omega) (by omega), w64 (n := s * d) (by omega) (by omega), q1, w64 (n := s * d / 64) (by omega) (by omega), w64 (by omega) (by omega)]
  have e2 : IntKind.wrap .i64 (IntKind.wrap .i64 (z * z) + IntKind.wrap .i64 ((IntKind.wrap .i64 (t * d)).tdiv 64)) = z * z + t * d / 64 := by
    rw [w64 (n := z * z) (by omega) (by omega), w64 (n := t * d) (by omega) (by omega), q2, w64 (n := t * d / 64) (by omega) (by omega), w64 (by omega) (by omega)]
  unfold timeN
  rw [e1, e2]
  unfold rootN
  rw [if_pos (by simp [btw]; omega), if_pos (by simp [btw]; omega)]
  exact isq_mono (by omega) (by omega) (by omega)

/-- Distances of echoes. -/
theorem dst_bd {x y : Int} {e : Echo} (hx : -64 ≤ x ∧ x ≤ 64) (hy : -64 ≤ y ∧ y ≤ 64) (he : (-64 ≤ e.x ∧ e.x ≤ 64) ∧ (-64 ≤ e.y ∧ e.y ≤ 64)) : dst x y e = (x - e.x) * (x - e.x) + (y - e.y) * (y - e.y) ∧ 0 ≤ dst x y e ∧ dst x y e ≤ 32768 := by
  have sq : ∀ a : Int, -128 ≤ a → a ≤ 128 → 0 ≤ a * a ∧ a * a ≤ 16384 := fun a h1 h2 => by
    rcases Int.le_total 0 a with h | h
    · exact ⟨Int.mul_nonneg h h, Int.mul_le_mul h2 h2 h (by omega)⟩
    · have e : a * a = (-a) * (-a) := by rw [Int.neg_mul_neg]
      rw [e]
      exact ⟨Int.mul_nonneg (by omega) (by omega), Int.mul_le_mul (c := 128) (d := 128) (by omega) (by omega) (by omega) (by omega)⟩
  have a1 := sq (x - e.x) (by omega) (by omega)
  have a2 := sq (y - e.y) (by omega) (by omega)
  have e1 : dst x y e = (x - e.x) * (x - e.x) + (y - e.y) * (y - e.y) := by
    unfold dst
    rw [show w (x - e.x) = x - e.x from w64 (by omega) (by omega), show w (y - e.y) = y - e.y from w64 (by omega) (by omega), show w ((x - e.x) * (x - e.x)) = _ from w64 (by omega) (by omega), show w ((y - e.y) * (y - e.y)) = _ from w64 (by omega) (by omega)]
    exact w64 (by omega) (by omega)
  omega

theorem nears_dst {aper x y : Int} : ∀ {l : List Echo} {k : Nat} {p : Int × Int}, p ∈ nears aper x y l k → ∃ i : Nat, ∃ h : i < l.length, p.1 = ((k + i : Nat) : Int) ∧ p.2 = dst x y l[i] ∧ hears aper x y l[i] = true
  | [], k, p, h => by simp [nears] at h
  | e :: r, k, p, h => by
    simp only [nears] at h
    have rest : p ∈ nears aper x y r (k + 1) → ∃ i : Nat, ∃ h : i < (e :: r).length, p.1 = ((k + i : Nat) : Int) ∧ p.2 = dst x y (e :: r)[i] ∧ hears aper x y (e :: r)[i] = true := fun h => by
      obtain ⟨i, h1, h2, h3, h4⟩ := nears_dst h
      exact ⟨i + 1, by simpa using h1, by rw [h2]; congr 1; omega, by simpa using h3, by simpa using h4⟩
    split at h
    · rename_i hh
      rcases List.mem_cons.1 h with rfl | h
      · exact ⟨0, by simp, by simp, rfl, hh⟩
      · exact rest h
    · exact rest h

theorem echoOk_spec {e : Echo} (h : echoOk e = true) : ((-64 ≤ e.x ∧ e.x ≤ 64) ∧ (-64 ≤ e.y ∧ e.y ≤ 64)) ∧ (1 ≤ e.s.length ∧ e.s.length ≤ 64) ∧ ∀ b ∈ e.s, -16777216 ≤ b.1 ∧ b.1 ≤ b.2 ∧ b.2 ≤ 16777216 := by
  simp only [echoOk, btw, Bool.and_eq_true, decide_eq_true_eq, List.all_eq_true, loud] at h
  obtain ⟨⟨⟨h1, h2⟩, h3⟩, h4⟩ := h
  exact ⟨by omega, by omega, fun b hb => by have := h4 b hb; omega⟩

theorem echoesOk_spec {l : List Echo} (h : echoesOk l = true) : l.length ≤ 32 ∧ ∀ e ∈ l, echoOk e = true := by
  simp only [echoesOk, Bool.and_eq_true, decide_eq_true_eq, List.all_eq_true] at h
  exact h

end Go.Proofs.Ytkifejklnpddbaa

/-! The laws VolumeNames and VolumeEncloses, as contracts. -/
set_option linter.unusedVariables false
set_option linter.unusedSimpArgs false
set_option maxRecDepth 20000
namespace Go.Proofs.Ytkifejklnpddbaa
open Go.Am
attribute [local simp] cells scalar mkv splice under2 under dem dem1 boxC cellC volC intsV eB

theorem nameS_form (l : List Echo) (x y z aper slow : Int) : ∃ (a b c : Int) (s : Int × Int) (r : List (Int × Int)) (e : Int), r.length ≤ 32 ∧
    nameS l x y z aper slow = .tuple [.agg [I a, I b, I c, .slice 0 2 (r.map eB), I s.1, I s.2], I e] := by
  unfold nameS nameR
  split
  · rename_i h1
    have h2 := echoesOk_len h1
    split
    · refine ⟨x, y, z, valueB ⟨l, aper, (slow, slow)⟩ x y z, namedL ⟨l, aper, (slow, slow)⟩ x y z, 0, ?_, rfl⟩
      unfold namedL
      exact Nat.le_trans (List.length_filterMap_le _ _) (Nat.le_trans nears_len h2)
    · exact ⟨0, 0, 0, (0, 0), [], 102, by simp, rfl⟩
  · exact ⟨0, 0, 0, (0, 0), [], 100, by simp, rfl⟩

theorem boxS_form (l : List Echo) (b : Bx) (aper : Int) (slow : Int × Int) (of : Int × Int × Int → Int × Int) : ∃ (c : Bx) (r : List (Int × Int)) (e : Int), r.length ≤ 4096 ∧
    boxR (.slice 0 2 []) l b aper slow of = .tuple [.agg [I c.x, I c.y, I c.z, I c.a, I c.b, I c.c, .slice 0 2 (r.map eB)], I e] := by
  unfold boxR
  split
  · split
    · unfold imageR
      split
      · rename_i h1
        refine ⟨b, (boxCells b).map of, 0, ?_, ?_⟩
        · rw [List.length_map]; exact boxCells_len (boxOk_spec h1).1
        · rw [List.map_map]; rfl
      · exact ⟨⟨0, 0, 0, 0, 0, 0⟩, [], 102, by simp, rfl⟩
    · exact ⟨⟨0, 0, 0, 0, 0, 0⟩, [], 102, by simp, rfl⟩
  · exact ⟨⟨0, 0, 0, 0, 0, 0⟩, [], 100, by simp, rfl⟩

theorem c_VolumeNames {l : List Echo} (hl : sane l) (x y z aper slow : Int) : C Try.prog F.law10_VolumeNames [sE l, .agg (cellC x y z), .agg [I aper, I slow]] (.bool true) := by
  refine C_of mixed chk.law10_VolumeNames (by simp) fun S ok => ?_
  obtain ⟨a, b, c, s, r, e, hr, hN⟩ := nameS_form l x y z aper slow
  refine Tr.seqR rfl (by simp) ?_
  refine Tr.seqC rfl (by simp) (Steps.call rfl rfl (hN ▸ c_NameS hl x y z aper slow) (Steps.fin rfl (by simp) ?_))
  refine Tr.seqC rfl (by simp) (Steps.call rfl rfl (hN ▸ c_Name10 hl x y z aper slow) (Steps.fin rfl (by simp) ?_))
  refine Tr.seqC rfl (by simp) (Steps.call rfl rfl (c_SameNamed a b c a b c s s r r (by omega)) (Steps.run rfl (by simp) ?_))
  refine Steps.gcall rfl rfl rfl rfl (by simp) (fun _ => c_works) (Steps.fin rfl (by simp) (Tr.retX rfl rfl rfl ?_ trivial))
  simp [packR]

theorem c_VolumeEncloses {l : List Echo} (hl : sane l) (b : Bx) (aper : Int) (slow : Int × Int) : C Try.prog F.law10_VolumeEncloses [sE l, .agg [I b.x, I b.y, I b.z, I b.a, I b.b, I b.c, I aper, I slow.1, I slow.2]] (.bool true) := by
  refine C_of mixed chk.law10_VolumeEncloses (by simp) fun S ok => ?_
  obtain ⟨c, r, e, hr, hN⟩ := boxS_form l b aper slow (encOf l aper slow)
  have k1 := c_Enclose hl b aper slow
  have k2 := c_Enclose10 hl b aper slow
  unfold encS at k1 k2
  rw [hN] at k1 k2
  refine Tr.seqR rfl (by simp) ?_
  refine Tr.seqC rfl (by simp) (Steps.call rfl rfl k1 (Steps.fin rfl (by simp) ?_))
  refine Tr.seqC rfl (by simp) (Steps.call rfl rfl k2 (Steps.fin rfl (by simp) ?_))
  refine Tr.seqC rfl (by simp) (Steps.call rfl rfl (c_SameImage c c r r (by omega)) (Steps.run rfl (by simp) ?_))
  refine Steps.gcall rfl rfl rfl rfl (by simp) (fun _ => c_works) (Steps.fin rfl (by simp) (Tr.retX rfl rfl rfl ?_ trivial))
  simp [packR]

end Go.Proofs.Ytkifejklnpddbaa

/-! The law VolumeSingle. -/
set_option linter.unusedVariables false
set_option linter.unusedSimpArgs false
set_option maxRecDepth 20000
namespace Go.Proofs.Ytkifejklnpddbaa
open Go.Am
attribute [local simp] cells scalar mkv splice under2 under dem dem1 boxC cellC

theorem enc_val (l : List Echo) (b : Bx) (aper q : Int) : encS l b aper (q, q) = valS l b aper q := by
  unfold encS valS
  rw [show encOf l aper (q, q) = valOf l aper q from funext fun p => enc_one l aper q p]

theorem c_VolumeSingle {l : List Echo} (hl : sane l) (b : Bx) (aper : Int) (slow : Int × Int) : C Try.prog F.law10_VolumeSingle [sE l, .agg [I b.x, I b.y, I b.z, I b.a, I b.b, I b.c, I aper, I slow.1, I slow.2]] (.bool true) := by
  refine C_of mixed chk.law10_VolumeSingle (by simp) fun S ok => ?_
  obtain ⟨c, r, e, hr, hN⟩ := boxS_form l b aper (slow.1, slow.1) (valOf l aper slow.1)
  have k1 := c_Migrate hl b aper slow.1
  unfold valS at k1
  rw [hN] at k1
  have k3 := c_Enclose hl b aper (slow.1, slow.1)
  rw [enc_val] at k3
  unfold valS at k3
  rw [hN] at k3
  refine Tr.seqR rfl (by simp) ?_
  refine Tr.seqC rfl (by simp) (Steps.call rfl rfl k3 (Steps.fin rfl (by simp) ?_))
  refine Tr.seqC rfl (by simp) (Steps.call rfl rfl k1 (Steps.fin rfl (by simp) ?_))
  refine Tr.seqC rfl (by simp) (Steps.call rfl rfl (c_SameImage c c r r (by omega)) (Steps.run rfl (by simp) ?_))
  refine Steps.gcall rfl rfl rfl rfl (by simp) (fun _ => c_works) (Steps.fin rfl (by simp) (Tr.retX rfl rfl rfl ?_ trivial))
  simp [packR]

end Go.Proofs.Ytkifejklnpddbaa
