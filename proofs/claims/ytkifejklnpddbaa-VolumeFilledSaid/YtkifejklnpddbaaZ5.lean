/-
  Parts of the proof, 5: the abstract machine, the compiled code, contracts of the functions, plain laws.
-/
import Derived.Test.YtkifejklnpddbaaZ4
import Derived.Test.YtkifejklnpddbaaRows
import Derived.WalkKit
import Derived.ProofKit
import Derived.OpenShut
import Derived.ShutString
import Derived.ChangeOld
import Derived.Below


/-! From the reading of a row's arguments to values. -/
set_option linter.unusedVariables false
set_option linter.unusedSimpArgs false
set_option maxRecDepth 20000
namespace Go.Proofs.Ytkifejklnpddbaa
open Go.Am Go.ChangeShapes Go.WideShapes Go.ChangeAt Go.RowKit

/-- Everything that was there is stable. -/
def phi (W : World) : Nat → Nat := fun b => match W.heap[b]? with
  | some (.cells cs _ _) => cs.size
  | _ => 0

theorem phi_top {W : World} : ∀ b, W.heap.size ≤ b → phi W b = 0 := fun b hb => by
  unfold phi
  rw [Array.getElem?_eq_none hb]

theorem phi_lt {W : World} {b o : Nat} {z : Value} (h : W.cell? ⟨b, o, none⟩ = some z) : o < phi W b := by
  unfold World.cell? at h
  unfold phi
  cases hb : W.heap[b]? with
  | none => rw [hb] at h; simp at h
  | some ob =>
    rw [hb] at h
    cases ob with
    | cells c e m => simp only at h ⊢; exact (Array.getElem?_eq_some_iff.1 h).1
    | _ => simp at h

section
variable {H : Type} (enc : TypeId × Value → H) (W : World)

def Got (Pr : List V → Prop) (cs : List Value) : Prop := ∃ vs, Pr vs ∧ vs.length = cs.length ∧ ∀ (i : Nat) v c, vs[i]? = some v → cs[i]? = some c → RepD W (phi W) v c ∧ scalar v = true

/-- Whatever reads as this type has such values. -/
def Reads (t : TypeId) (Pr : List V → Prop) : Prop := ∀ fuel cs x, DataW.trod enc Try.prog W 0 (fun _ => true) true fuel t cs = some x → Got W Pr cs

def trods (fuel : Nat) : List TypeId → List Value → Prop
  | [], cs => cs = []
  | t :: ts, cs => (∃ x, DataW.trod enc Try.prog W 0 (fun _ => true) true fuel t (cs.take (Try.prog.cellsOf t)) = some x) ∧ Try.prog.cellsOf t ≤ cs.length ∧ trods fuel ts (cs.drop (Try.prog.cellsOf t))

def ReadsL (ts : List TypeId) (Pr : List V → Prop) : Prop := ∀ fuel cs, trods enc W fuel ts cs → Got W Pr cs

variable {enc W}

theorem Got.mono {P Q : List V → Prop} {cs : List Value} (h : Got W P cs) (k : ∀ vs, P vs → Q vs) : Got W Q cs := let ⟨vs, a, b⟩ := h; ⟨vs, k vs a, b⟩
theorem Reads.mono {t : TypeId} {P Q : List V → Prop} (h : Reads enc W t P) (k : ∀ vs, P vs → Q vs) : Reads enc W t Q := fun fuel cs x hx => (h fuel cs x hx).mono k

theorem readsL_nil : ReadsL enc W [] (fun vs => vs = []) := fun fuel cs h => by
  have h : cs = [] := h
  subst h
  exact ⟨[], rfl, rfl, fun i v c h => by simp at h⟩

theorem readsL_cons {t : TypeId} {ts : List TypeId} {P Q : List V → Prop} (h : Reads enc W t P) (k : ReadsL enc W ts Q) : ReadsL enc W (t :: ts) (fun vs => ∃ a b, P a ∧ Q b ∧ vs = a ++ b) := fun fuel cs ht => by
  obtain ⟨⟨x, hx⟩, hle, hr⟩ := ht
  obtain ⟨a, ha, la, ra⟩ := h _ _ _ hx
  obtain ⟨b, hb, lb, rb⟩ := k _ _ hr
  rw [List.length_take] at la
  rw [List.length_drop] at lb
  refine ⟨a ++ b, ⟨a, b, ha, hb, rfl⟩, by simp; omega, fun i v c hv hc => ?_⟩
  by_cases hi : i < a.length
  · rw [List.getElem?_append_left hi] at hv
    exact ra i v c hv (by rw [List.getElem?_take, if_pos (by omega)]; exact hc)
  · rw [List.getElem?_append_right (by omega)] at hv
    refine rb (i - a.length) v c hv ?_
    rw [List.getElem?_drop, show Try.prog.cellsOf t + (i - a.length) = i by omega]
    exact hc

theorem reads_int {t : TypeId} (ht : Try.prog.underlying t = some (.int .i64)) : Reads enc W t (fun vs => ∃ n : Int, vs = [I n] ∧ -9223372036854775808 ≤ n ∧ n ≤ 9223372036854775807) := fun fuel cs x hx => by
  obtain ⟨n, rfl, _, hw⟩ := DataW.trod_int ht hx
  have hb := Go.bounds_i64 hw
  refine ⟨[I n], ⟨n, rfl, by omega, by omega⟩, rfl, fun i v c hv hc => ?_⟩
  cases i with
  | zero => cases hv; cases hc; exact ⟨.int _ _, rfl⟩
  | succ i => cases hv

theorem reads_bool {t : TypeId} (ht : Try.prog.underlying t = some .bool) : Reads enc W t (fun vs => ∃ b : Bool, vs = [.bool b]) := fun fuel cs x hx => by
  obtain ⟨b, rfl, _⟩ := DataW.trod_bool ht hx
  refine ⟨[.bool b], ⟨b, rfl⟩, rfl, fun i v c hv hc => ?_⟩
  cases i with
  | zero => cases hv; cases hc; exact ⟨.bool _, rfl⟩
  | succ i => cases hv

/-- Fields one behind the other. -/
noncomputable def offsB : List Field → Nat → Nat → Bool
  | [], o, n => o == n
  | f :: r, o, n => f.offset == o && offsB r (o + Try.prog.cellsOf f.type) n

theorem trods_of {fuel : Nat} : ∀ (fs : List Field) (o n : Nat) (cs : List Value), offsB fs o n = true → cs.length = n → o ≤ n → (∀ f ∈ fs, ∃ x, DataW.trod enc Try.prog W 0 (fun _ => true) true fuel f.type ((cs.drop f.offset).take (Try.prog.cellsOf f.type)) = some x) → trods enc W fuel (fs.map (·.type)) (cs.drop o)
  | [], o, n, cs, h, hl, _, _ => by
    simp only [offsB, beq_iff_eq] at h
    show cs.drop o = []
    rw [List.drop_eq_nil_of_le (by omega)]
  | f :: r, o, n, cs, h, hl, ho, hf => by
    simp only [offsB, Bool.and_eq_true, beq_iff_eq] at h
    have hle : o + Try.prog.cellsOf f.type ≤ n := by
      have : ∀ (fs : List Field) (o n : Nat), offsB fs o n = true → o ≤ n := by
        intro fs
        induction fs with
        | nil => intro o n h; simp only [offsB, beq_iff_eq] at h; omega
        | cons g r ih => intro o n h; simp only [offsB, Bool.and_eq_true, beq_iff_eq] at h; have := ih _ _ h.2; omega
      exact this _ _ _ h.2
    refine ⟨?_, by rw [List.length_drop]; show Try.prog.cellsOf f.type ≤ _; omega, ?_⟩
    · have := hf f (by simp)
      rw [h.1] at this
      exact this
    · rw [List.drop_drop]
      exact trods_of r _ n cs h.2 hl hle fun g hg => hf g (by simp [hg])

theorem reads_struct {t : TypeId} {fs : Array Field} {Pr : List V → Prop} (ht : Try.prog.underlying t = some (.struct fs)) (ho : offsB fs.toList 0 (Try.prog.cellsOf t) = true) (h : ReadsL enc W (fs.toList.map (·.type)) Pr) : Reads enc W t Pr := fun fuel cs x hx => by
  obtain ⟨xs, n, _, _, hl, hxs, hf⟩ := DataW.trod_struct ht hx
  refine h n cs ?_
  have := trods_of (enc := enc) (W := W) (fuel := n) fs.toList 0 _ cs ho hl (Nat.zero_le _) fun f hm => by
    obtain ⟨i, hi, rfl⟩ := List.mem_iff_getElem.1 hm
    have h1 := hf i fs.toList[i] (by simp at hi ⊢)
    rw [h1]
    have : i < xs.length := by simp at hi; omega
    exact ⟨_, List.getElem?_eq_getElem this⟩
  simpa using this

theorem trods_rep {fuel : Nat} {e : TypeId} : ∀ (n k : Nat) (cs : List Value), cs.length = (k + n) * Try.prog.cellsOf e → (∀ i, i < n → ∃ x, DataW.trod enc Try.prog W 0 (fun _ => true) true fuel e ((cs.drop ((k + i) * Try.prog.cellsOf e)).take (Try.prog.cellsOf e)) = some x) → trods enc W fuel (List.replicate n e) (cs.drop (k * Try.prog.cellsOf e))
  | 0, k, cs, hl, _ => by
    show cs.drop _ = []
    rw [List.drop_eq_nil_of_le (by rw [hl]; simp)]
  | n + 1, k, cs, hl, hf => by
    have e1 : (k + (n + 1)) * Try.prog.cellsOf e = k * Try.prog.cellsOf e + (n * Try.prog.cellsOf e + Try.prog.cellsOf e) := by rw [Nat.add_mul, Nat.succ_mul]
    refine ⟨by simpa using hf 0 (by omega), by rw [List.length_drop]; omega, ?_⟩
    rw [List.drop_drop, show k * Try.prog.cellsOf e + Try.prog.cellsOf e = (k + 1) * Try.prog.cellsOf e by rw [Nat.succ_mul]]
    exact trods_rep n (k + 1) cs (by rw [hl]; congr 1; omega) fun i hi => by
      have := hf (i + 1) (by omega)
      rwa [show k + 1 + i = k + (i + 1) by omega]

theorem reads_array {t e : TypeId} {n : Nat} {Pr : List V → Prop} (ht : Try.prog.underlying t = some (.array n e)) (hc : Try.prog.cellsOf t = n * Try.prog.cellsOf e) (h : ReadsL enc W (List.replicate n e) Pr) : Reads enc W t Pr := fun fuel cs x hx => by
  obtain ⟨xs, m, _, _, hl, hxs, hf⟩ := DataW.trod_array ht hx
  refine h m cs ?_
  have := trods_rep (enc := enc) (W := W) (fuel := m) (e := e) n 0 cs (by rw [hl, hc]; simp) fun i hi => by
    rw [Nat.zero_add, hf i hi]
    exact ⟨_, List.getElem?_eq_getElem (by omega)⟩
  simpa using this

def wrapV (agg : Bool) (x : List V) : V := bif agg then .agg x else x.headD nothing

theorem cells_wrap {agg : Bool} {x : List V} {sz : Nat} (hx : x.length = sz) (hs : ∀ v ∈ x, scalar v = true) (ha : agg = false → sz = 1) : cells (wrapV agg x) = x := by
  cases agg with
  | true => rfl
  | false =>
    have := ha rfl
    subst this
    match x, hx with
    | [v], _ =>
      have hv := hs v (by simp)
      show cells v = [v]
      cases v <;> simp [scalar] at hv <;> rfl

theorem cell_spot {a : Addr} {z : Value} (h : W.cell? a = some z) : a = ⟨a.block, a.off, none⟩ := by
  have := World.cell?_spot h
  obtain ⟨b, o, s⟩ := a
  simp only at this
  subst this; rfl

theorem reads_slice {t e : TypeId} {sz : Nat} {Pe : List V → Prop} (agg : Bool) (ht : Try.prog.underlying t = some (.slice e)) (hc : Try.prog.cellsOf e = sz) (h0 : 0 < sz) (ha : agg = false → sz = 1) (h : Reads enc W e Pe) :
    Reads enc W t (fun vs => ∃ xs : List (List V), (∀ x ∈ xs, Pe x) ∧ xs.length ≤ 9223372036854775807 ∧ vs = [.slice 0 sz (xs.map (wrapV agg))]) := fun fuel cs x hx => by
  subst hc
  rcases DataW.trod_slice ht hx with ⟨rfl, _⟩ | ⟨a, len, cap, elems, rest, n, _, rfl, _, _, hlc, hcm, hel, hE, _⟩
  · refine ⟨[.slice 0 _ []], ⟨[], fun x hx => by simp at hx, by simp, rfl⟩, rfl, fun i v c hv hc => ?_⟩
    cases i with
    | zero => cases hv; cases hc; exact ⟨.slice0 _ _ _, rfl⟩
    | succ i => cases hv
  · have hcm' : cap ≤ 9223372036854775807 := by unfold maxLen at hcm; omega
    -- the elements, one by one
    have step : ∀ m, m ≤ len → ∃ xs : List (List V), xs.length = m ∧ (∀ x ∈ xs, Pe x ∧ x.length = Try.prog.cellsOf e) ∧
        ∀ (i : Nat) x (j : Nat) v, xs[i]? = some x → x[j]? = some v → ∃ c, W.cell? (a.add (i * Try.prog.cellsOf e + j)) = some c ∧ RepD W (phi W) v c ∧ scalar v = true := by
      intro m
      induction m with
      | zero => exact fun _ => ⟨[], rfl, fun x hx => by simp at hx, fun i x j v hx => by simp at hx⟩
      | succ m ih =>
        intro hm
        obtain ⟨xs, l1, l2, l3⟩ := ih (by omega)
        have h1 := hE m (by omega)
        rw [List.getElem?_eq_getElem (by omega)] at h1
        rw [Option.bind_eq_some_iff] at h1
        obtain ⟨ccs, h2, h3⟩ := h1
        obtain ⟨vs, v1, v2, v3⟩ := h _ _ _ h3
        have hcc : ccs.length = Try.prog.cellsOf e ∧ ∀ (j : Nat) c, ccs[j]? = some c → W.cell? (a.add (m * Try.prog.cellsOf e + j)) = some c := by
          unfold World.cells? at h2
          rw [if_pos (Nat.zero_le _)] at h2
          refine ⟨by simpa using mapM_some_length h2, fun j c hj => ?_⟩
          have hjl : j < Try.prog.cellsOf e := by
            have := (List.getElem?_eq_some_iff.1 hj).1
            have hh := mapM_some_length h2
            simp at hh; omega
          have := mapM_some_get h2 j j (by simp [hjl])
          rw [hj] at this
          rw [← this, Addr.add_add]
        refine ⟨xs ++ [vs], by simp [l1], fun x hx => ?_, fun i x j v hx hj => ?_⟩
        · rcases List.mem_append.1 hx with hx | hx
          · exact l2 x hx
          · simp at hx; subst hx; exact ⟨v1, by omega⟩
        · by_cases hi : i < xs.length
          · rw [List.getElem?_append_left hi] at hx
            exact l3 i x j v hx hj
          · have hi' : i = xs.length := by
              have := (List.getElem?_eq_some_iff.1 hx).1
              simp at this; omega
            subst hi'
            rw [List.getElem?_append_right (by omega)] at hx
            simp at hx; subst hx
            have hjl : j < ccs.length := by have := (List.getElem?_eq_some_iff.1 hj).1; omega
            rw [l1]
            exact ⟨ccs[j], hcc.2 j _ (List.getElem?_eq_getElem hjl), v3 j v _ hj (List.getElem?_eq_getElem hjl)⟩
    obtain ⟨xs, l1, l2, l3⟩ := step len (Nat.le_refl _)
    have hsc : ∀ x ∈ xs, ∀ v ∈ x, scalar v = true := fun x hx v hv => by
      obtain ⟨i, hi, rfl⟩ := List.mem_iff_getElem.1 hx
      obtain ⟨j, hj, rfl⟩ := List.mem_iff_getElem.1 hv
      obtain ⟨c, _, _, hs⟩ := l3 i _ j _ (List.getElem?_eq_getElem hi) (List.getElem?_eq_getElem hj)
      exact hs
    have hcw : ∀ x ∈ xs, cells (wrapV agg x) = x := fun x hx => cells_wrap (l2 x hx).2 (hsc x hx) ha
    refine ⟨[.slice 0 _ (xs.map (wrapV agg))], ⟨xs, fun x hx => (l2 x hx).1, by omega, rfl⟩, rfl, fun i v c hv hc => ?_⟩
    cases i with
    | succ i => cases hv
    | zero =>
      cases hv; cases hc
      refine ⟨?_, rfl⟩
      by_cases hl0 : len = 0
      · subst hl0
        have : xs = [] := List.eq_nil_of_length_eq_zero l1
        subst this
        exact .slice0 _ _ _
      · -- the place of the first cell
        have hx0 : 0 < xs.length := by omega
        have hlen0 := (l2 _ (List.getElem_mem hx0)).2
        obtain ⟨c0, hc0, _⟩ := l3 0 xs[0] 0 (xs[0][0]'(by omega)) (List.getElem?_eq_getElem hx0) (List.getElem?_eq_getElem (by omega))
        have hsp := cell_spot hc0
        obtain ⟨b, off, sp⟩ := a
        have : sp = none := by simpa [Addr.add] using hsp
        subst this
        have hwl : ∀ y ∈ xs.map (wrapV agg), (cells y).length = Try.prog.cellsOf e := fun y hy => by
          obtain ⟨x, hx, rfl⟩ := List.mem_map.1 hy
          rw [hcw x hx, (l2 x hx).2]
        have at_ : ∀ (j : Nat) v, ((xs.map (wrapV agg)).flatMap cells)[j]? = some v → ∃ c, W.cell? ⟨b, off + j, none⟩ = some c ∧ RepD W (phi W) v c ∧ scalar v = true := fun j v hj => by
          obtain ⟨i, u, k, hu, hk, rfl⟩ := flat_split h0 hwl j v hj
          rw [List.getElem?_map, Option.map_eq_some_iff] at hu
          obtain ⟨x, hx, rfl⟩ := hu
          rw [hcw x (List.mem_of_getElem? hx)] at hk
          obtain ⟨c, q1, q2⟩ := l3 i x k v hx hk
          refine ⟨c, ?_, q2⟩
          rw [← q1]
          unfold Addr.add
          split
          · rename_i h; rw [h]; rfl
          · rfl
        refine .slice _ _ b off len cap (fun j => (W.cell? ⟨b, off + j, none⟩).getD undef) h0 (by simp [l1]) hlc hwl (fun j v hj => ?_) (fun j v hj => ?_)
        · obtain ⟨c, q1, q2, q3⟩ := at_ j v hj
          exact ⟨phi_lt q1, by rw [q1]; rfl, q3⟩
        · obtain ⟨c, q1, q2, q3⟩ := at_ j v hj
          rw [q1]; exact q2

/-! ### Arguments -/
theorem arg_agg {t : TypeId} {Pr : List V → Prop} {v : Value} {d : DataW H} {p : List MemPlace} (ha : aggB Try.prog t = true) (h : Reads enc W t Pr) (hv : Value.okWide Try.prog W .any 0 t v) (ht : DataW.Trod enc Try.prog W 0 (fun _ => true) true t v d p) : ∃ vs, Pr vs ∧ RepD W (phi W) (.agg vs) v := by
  obtain ⟨fuel, hf⟩ := ht
  obtain ⟨vs, h1, h2, h3⟩ := h _ _ _ hf
  obtain ⟨cs, rfl, _⟩ : ∃ cs, v = .agg cs ∧ True := by
    unfold aggB at ha
    unfold Value.okWide at hv
    split at ha
    · rename_i hu; rw [hu] at hv; obtain ⟨cs, rfl, _⟩ := hv; exact ⟨cs, rfl, trivial⟩
    · rename_i hu; rw [hu] at hv; obtain ⟨cs, rfl, _⟩ := hv; exact ⟨cs, rfl, trivial⟩
    · cases ha
  refine ⟨vs, h1, .agg _ _ (by simpa [Value.cells] using h2) fun i v x hv hx => (h3 i v x hv ?_).1⟩
  simpa [Value.cells] using hx

theorem arg_one {t : TypeId} {Pr : List V → Prop} {v : Value} {d : DataW H} {p : List MemPlace} (hc : v.cells = #[v]) (h : Reads enc W t Pr) (ht : DataW.Trod enc Try.prog W 0 (fun _ => true) true t v d p) : ∃ u, Pr [u] ∧ RepD W (phi W) u v := by
  obtain ⟨fuel, hf⟩ := ht
  obtain ⟨vs, h1, h2, h3⟩ := h _ _ _ hf
  rw [hc] at h2 h3
  match vs, h2 with
  | [u], _ => exact ⟨u, h1, (h3 0 u v rfl rfl).1⟩

theorem exists_list {α : Type} {xs : List (List V)} {R : α → Prop} {g : α → List V} (h : ∀ x ∈ xs, ∃ a, R a ∧ x = g a) : ∃ l : List α, xs = l.map g ∧ ∀ a ∈ l, R a := by
  induction xs with
  | nil => exact ⟨[], rfl, fun a ha => by simp at ha⟩
  | cons x r ih =>
    obtain ⟨a, ha, rfl⟩ := h x (by simp)
    obtain ⟨l, rfl, hl⟩ := ih fun y hy => h y (by simp [hy])
    exact ⟨a :: l, rfl, fun b hb => by
      rcases List.mem_cons.1 hb with rfl | hb
      · exact ha
      · exact hl b hb⟩

end
end Go.Proofs.Ytkifejklnpddbaa

/-! The statement VolumeTimes, in the frame's terms; what arguments of the laws read as. -/
set_option linter.unusedVariables false
set_option linter.unusedSimpArgs false
set_option maxRecDepth 20000
namespace Go.Proofs.Ytkifejklnpddbaa
open Go.Am Go.ChangeShapes Go.WideShapes Go.ChangeAt Go.RowKit
attribute [local simp] cells scalar mkv splice under2 under dem dem1 boxC cellC volC intsV eB

theorem c_VolumeTimes {l : List Echo} (hl : sane l) (a b c : Int) : C Try.prog F.law10_VolumeTimes [sE l, .agg [I a, I b, I c]] (.bool true) := by
  refine C_of mixed chk.law10_VolumeTimes (by simp) fun S ok => ?_
  obtain ⟨p, q, hT⟩ : ∃ p q, TimeR a b c = .tuple [I p, I q] := by
    unfold TimeR; split
    · exact ⟨_, _, rfl⟩
    · exact ⟨_, _, rfl⟩
  obtain ⟨r, hC1, hC2⟩ : ∃ r, C Try.prog F.volume_CheckEchoes [sE l] (I r) ∧ C Try.prog F.ref10_CheckEchoes [sE l] (I r) := ⟨_, c_CheckEchoes hl, c_CheckEchoes10 hl⟩
  refine Tr.seqR rfl (by simp) ?_
  refine Tr.seqC rfl (by simp) (Steps.call rfl rfl (hT ▸ c_Time a b c) (Steps.fin rfl (by simp) ?_))
  refine Tr.seqC rfl (by simp) (Steps.call rfl rfl (hT ▸ c_Time10 a b c) (Steps.fin rfl (by simp) ?_))
  refine Tr.seqC rfl (by simp) (Steps.call rfl rfl hC1 (Steps.run rfl (by simp) ?_))
  refine Steps.call rfl rfl hC2 (Steps.run rfl (by simp) ?_)
  refine Steps.gcall rfl rfl rfl rfl (by simp) (fun _ => c_works) (Steps.fin rfl (by simp) (Tr.retX rfl rfl rfl ?_ trivial))
  simp [packR]

/-! ### What the laws' arguments read as -/
section
variable {H : Type} {enc : TypeId × Value → H} {W : World}

theorem rd_int : Reads enc W 3 (fun vs => ∃ n : Int, vs = [I n] ∧ -9223372036854775808 ≤ n ∧ n ≤ 9223372036854775807) := reads_int Try.underlying3

theorem rd_bound : Reads enc W 33 (fun vs => ∃ b : Int × Int, vs = [I b.1, I b.2]) := by
  refine (reads_struct Try.underlying33 (by kernel_rfl) (readsL_cons rd_int (readsL_cons rd_int readsL_nil))).mono ?_
  rintro vs ⟨a, b, ⟨x, rfl, _⟩, ⟨c, d, ⟨y, rfl, _⟩, rfl, rfl⟩, rfl⟩
  exact ⟨(x, y), rfl⟩

theorem rd_bounds : Reads enc W 42 (fun vs => ∃ l : List (Int × Int), l.length ≤ 9223372036854775807 ∧ vs = [sB l]) := by
  refine (reads_slice (sz := 2) true Try.underlying42 (by kernel_rfl) (by decide) (by decide) rd_bound).mono ?_
  rintro vs ⟨xs, h1, h2, rfl⟩
  obtain ⟨l, rfl, _⟩ := exists_list (R := fun _ => True) (g := fun b : Int × Int => [I b.1, I b.2]) fun x hx => by obtain ⟨b, rfl⟩ := h1 x hx; exact ⟨b, trivial, rfl⟩
  refine ⟨l, by simpa using h2, ?_⟩
  simp [sB, wrapV, Function.comp_def]

theorem rd_echo : Reads enc W 79 (fun vs => ∃ e : Echo, e.s.length ≤ 9223372036854775807 ∧ vs = [I e.x, I e.y, sB e.s]) := by
  refine (reads_struct Try.underlying79 (by kernel_rfl) (readsL_cons rd_int (readsL_cons rd_int (readsL_cons rd_bounds readsL_nil)))).mono ?_
  rintro vs ⟨a, b, ⟨x, rfl, _⟩, ⟨c, d, ⟨y, rfl, _⟩, ⟨e, f, ⟨l, hl, rfl⟩, rfl, rfl⟩, rfl⟩, rfl⟩
  exact ⟨⟨x, y, l⟩, hl, rfl⟩

theorem rd_echoes : Reads enc W 22 (fun vs => ∃ l : List Echo, sane l ∧ vs = [sE l]) := by
  refine (reads_slice (sz := 3) true Try.underlying22 (by kernel_rfl) (by decide) (by decide) rd_echo).mono ?_
  rintro vs ⟨xs, h1, h2, rfl⟩
  obtain ⟨l, rfl, hl⟩ := exists_list (R := fun e : Echo => e.s.length ≤ 9223372036854775807) (g := fun e : Echo => [I e.x, I e.y, sB e.s]) fun x hx => by obtain ⟨b, hb, rfl⟩ := h1 x hx; exact ⟨b, hb, rfl⟩
  refine ⟨l, ⟨by simpa using h2, hl⟩, ?_⟩
  simp [sE, wrapV, Function.comp_def, eE]

theorem rd_int3 : Reads enc W 23 (fun vs => ∃ a b c : Int, vs = [I a, I b, I c]) := by
  refine (reads_array Try.underlying23 (by kernel_rfl) (readsL_cons rd_int (readsL_cons rd_int (readsL_cons rd_int readsL_nil)))).mono ?_
  rintro vs ⟨a, b, ⟨x, rfl, _⟩, ⟨c, d, ⟨y, rfl, _⟩, ⟨e, f, ⟨z, rfl, _⟩, rfl, rfl⟩, rfl⟩, rfl⟩
  exact ⟨x, y, z, rfl⟩

end

theorem repR_bool {w : World} {φ : Nat → Nat} {b : Bool} {x : Value} (h : RepR w φ (.bool b) x) : x = .bool b := by
  cases h with
  | data r => cases r; rfl

theorem repL1 {w : World} {φ : Nat → Nat} {a : V} {x : Value} (h : RepD w φ a x) : RepL w φ [a] #[x] := ⟨rfl, fun i v y h1 h2 => by
  match i with
  | 0 => cases h1; cases h2; exact h
  | i + 1 => simp at h1⟩
theorem repL2 {w : World} {φ : Nat → Nat} {a b : V} {x y : Value} (h : RepD w φ a x) (k : RepD w φ b y) : RepL w φ [a, b] #[x, y] := ⟨rfl, fun i v y h1 h2 => by
  match i with
  | 0 => cases h1; cases h2; exact h
  | 1 => cases h1; cases h2; exact k
  | i + 2 => simp at h1⟩
theorem repL3 {w : World} {φ : Nat → Nat} {a b c : V} {x y z : Value} (h : RepD w φ a x) (k : RepD w φ b y) (m : RepD w φ c z) : RepL w φ [a, b, c] #[x, y, z] := ⟨rfl, fun i v y h1 h2 => by
  match i with
  | 0 => cases h1; cases h2; exact h
  | 1 => cases h1; cases h2; exact k
  | 2 => cases h1; cases h2; exact m
  | i + 3 => simp at h1⟩

/-- From a contract to the walk that a row asks for. -/
theorem walk_of {f : FuncId} {args : List V} {xs : Array Value} {W : World} (hc : C Try.prog f args (.bool true)) (hr : RepL W (phi W) args xs) : Calls Try.prog f xs W fun e W' => e = .returned (.bool true) ∧ Below W.heap.size W W' :=
  (hc.2 W (phi W) xs phi_top hr).mono fun e w' ⟨φ', x, he, hx, hb, _⟩ => ⟨by rw [he, repR_bool hx], hb⟩

theorem own : ownKnob Try.prog.godebug = none := by kernel_rfl
theorem laidOut : laidOutB Try.prog = true := by kernel_rfl

end Go.Proofs.Ytkifejklnpddbaa

/-! Facts on the rows: what the load's head says. -/
set_option linter.unusedVariables false
set_option linter.unusedSimpArgs false
set_option maxRecDepth 100000
namespace Go.Proofs.Ytkifejklnpddbaa
open Go.Am Go.ChangeShapes Go.WideShapes Go.ChangeAt Go.RowKit

noncomputable def headL : List Char := ([104, 97, 114, 110, 101, 115, 115, 32, 49, 57, 101, 99, 54, 55, 56, 53, 57, 53, 99, 53, 52, 102, 50, 99, 102, 53, 54, 55, 49, 48, 100, 56, 49, 48, 54, 51, 99, 48, 102, 97, 49, 99, 49, 55, 51, 99, 50, 48, 100, 53, 49, 102, 55, 52, 98, 48, 101, 56, 57, 98, 57, 101, 53, 101, 97, 99, 55, 98, 56, 49, 50, 101, 32, 99, 117, 116, 32, 97, 116, 32, 112, 97, 114, 97, 118, 97, 110, 101, 47, 112, 97, 114, 97, 118, 97, 110, 101, 108, 97, 119, 49, 48, 46, 86, 111, 108, 117, 109, 101, 84, 105, 109, 101, 115, 32, 112, 97, 114, 97, 118, 97, 110, 101, 47, 112, 97, 114, 97, 118, 97, 110, 101, 108, 97, 119, 49, 48, 46, 86, 111, 108, 117, 109, 101, 78, 97, 109, 101, 115, 32, 112, 97, 114, 97, 118, 97, 110, 101, 47, 112, 97, 114, 97, 118, 97, 110, 101, 108, 97, 119, 49, 48, 46, 86, 111, 108, 117, 109, 101, 69, 110, 99, 108, 111, 115, 101, 115, 32, 112, 97, 114, 97, 118, 97, 110, 101, 47, 112, 97, 114, 97, 118, 97, 110, 101, 108, 97, 119, 49, 48, 46, 86, 111, 108, 117, 109, 101, 82, 105, 110, 103, 115, 32, 112, 97, 114, 97, 118, 97, 110, 101, 47, 112, 97, 114, 97, 118, 97, 110, 101, 108, 97, 119, 49, 48, 46, 86, 111, 108, 117, 109, 101, 74, 111, 105, 110, 115, 32, 112, 97, 114, 97, 118, 97, 110, 101, 47, 112, 97, 114, 97, 118, 97, 110, 101, 108, 97, 119, 49, 48, 46, 86, 111, 108, 117, 109, 101, 66, 97, 99, 107, 101, 100, 32, 112, 97, 114, 97, 118, 97, 110, 101, 47, 112, 97, 114, 97, 118, 97, 110, 101, 108, 97, 119, 49, 48, 46, 86, 111, 108, 117, 109, 101, 85, 110, 114, 117, 110, 103, 32, 112, 97, 114, 97, 118, 97, 110, 101, 47, 112, 97, 114, 97, 118, 97, 110, 101, 108, 97, 119, 49, 48, 46, 86, 111, 108, 117, 109, 101, 84, 111, 112, 32, 112, 97, 114, 97, 118, 97, 110, 101, 47, 112, 97, 114, 97, 118, 97, 110, 101, 108, 97, 119, 49, 48, 46, 86, 111, 108, 117, 109, 101, 83, 109, 111, 111, 116, 104, 32, 112, 97, 114, 97, 118, 97, 110, 101, 47, 112, 97, 114, 97, 118, 97, 110, 101, 108, 97, 119, 49, 48, 46, 86, 111, 108, 117, 109, 101, 77, 105, 103, 114, 97, 116, 101, 115, 32, 112, 97, 114, 97, 118, 97, 110, 101, 47, 112, 97, 114, 97, 118, 97, 110, 101, 108, 97, 119, 49, 48, 46, 86, 111, 108, 117, 109, 101, 84, 114, 117, 116, 104, 32, 112, 97, 114, 97, 118, 97, 110, 101, 47, 112, 97, 114, 97, 118, 97, 110, 101, 108, 97, 119, 49, 48, 46, 86, 111, 108, 117, 109, 101, 83, 105, 110, 103, 108, 101, 32, 112, 97, 114, 97, 118, 97, 110, 101, 47, 112, 97, 114, 97, 118, 97, 110, 101, 108, 97, 119, 49, 48, 46, 86, 111, 108, 117, 109, 101, 76, 105, 110, 101, 97, 114, 32, 112, 97, 114, 97, 118, 97, 110, 101, 47, 112, 97, 114, 97, 118, 97, 110, 101, 108, 97, 119, 49, 48, 46, 86, 111, 108, 117, 109, 101, 80, 111, 105, 110, 116, 32, 112, 97, 114, 97, 118, 97, 110, 101, 47, 112, 97, 114, 97, 118, 97, 110, 101, 108, 97, 119, 49, 48, 46, 86, 111, 108, 117, 109, 101, 83, 101, 97, 108, 101, 100, 32, 112, 97, 114, 97, 118, 97, 110, 101, 47, 112, 97, 114, 97, 118, 97, 110, 101, 108, 97, 119, 49, 48, 46, 86, 111, 108, 117, 109, 101, 65, 103, 114, 101, 101, 115, 32, 112, 97, 114, 97, 118, 97, 110, 101, 47, 112, 97, 114, 97, 118, 97, 110, 101, 108, 97, 119, 49, 48, 46, 86, 111, 108, 117, 109, 101, 72, 111, 114, 105, 122, 111, 110, 115, 32, 112, 97, 114, 97, 118, 97, 110, 101, 47, 112, 97, 114, 97, 118, 97, 110, 101, 108, 97, 119, 49, 48, 46, 86, 111, 108, 117, 109, 101, 86, 101, 114, 105, 102, 105, 101, 115, 32, 112, 97, 114, 97, 118, 97, 110, 101, 47, 112, 97, 114, 97, 118, 97, 110, 101, 108, 97, 119, 49, 48, 46, 86, 111, 108, 117, 109, 101, 70, 97, 114, 32, 112, 97, 114, 97, 118, 97, 110, 101, 47, 112, 97, 114, 97, 118, 97, 110, 101, 108, 97, 119, 49, 48, 46, 86, 111, 108, 117, 109, 101, 87, 104, 111, 108, 101, 32, 112, 97, 114, 97, 118, 97, 110, 101, 47, 112, 97, 114, 97, 118, 97, 110, 101, 108, 97, 119, 49, 48, 46, 86, 111, 108, 117, 109, 101, 75, 110, 111, 119, 110, 32, 112, 97, 114, 97, 118, 97, 110, 101, 47, 112, 97, 114, 97, 118, 97, 110, 101, 108, 97, 119, 49, 48, 46, 86, 111, 108, 117, 109, 101, 67, 117, 116, 115, 32, 112, 97, 114, 97, 118, 97, 110, 101, 47, 112, 97, 114, 97, 118, 97, 110, 101, 108, 97, 119, 49, 48, 46, 86, 111, 108, 117, 109, 101, 70, 105, 108, 108, 101, 100] : List Nat).map Char.ofNat
theorem head_chars : Try.prog.initOrder = String.ofList (([104, 97, 114, 110, 101, 115, 115, 32, 49, 57, 101, 99, 54, 55, 56, 53, 57, 53, 99, 53, 52, 102, 50, 99, 102, 53, 54, 55, 49, 48, 100, 56, 49, 48, 54, 51, 99, 48, 102, 97, 49, 99, 49, 55, 51, 99, 50, 48, 100, 53, 49, 102, 55, 52, 98, 48, 101, 56, 57, 98, 57, 101, 53, 101, 97, 99, 55, 98, 56, 49, 50, 101, 32, 99, 117, 116, 32, 97, 116, 32, 112, 97, 114, 97, 118, 97, 110, 101, 47, 112, 97, 114, 97, 118, 97, 110, 101, 108, 97, 119, 49, 48, 46, 86, 111, 108, 117, 109, 101, 84, 105, 109, 101, 115, 32, 112, 97, 114, 97, 118, 97, 110, 101, 47, 112, 97, 114, 97, 118, 97, 110, 101, 108, 97, 119, 49, 48, 46, 86, 111, 108, 117, 109, 101, 78, 97, 109, 101, 115, 32, 112, 97, 114, 97, 118, 97, 110, 101, 47, 112, 97, 114, 97, 118, 97, 110, 101, 108, 97, 119, 49, 48, 46, 86, 111, 108, 117, 109, 101, 69, 110, 99, 108, 111, 115, 101, 115, 32, 112, 97, 114, 97, 118, 97, 110, 101, 47, 112, 97, 114, 97, 118, 97, 110, 101, 108, 97, 119, 49, 48, 46, 86, 111, 108, 117, 109, 101, 82, 105, 110, 103, 115, 32, 112, 97, 114, 97, 118, 97, 110, 101, 47, 112, 97, 114, 97, 118, 97, 110, 101, 108, 97, 119, 49, 48, 46, 86, 111, 108, 117, 109, 101, 74, 111, 105, 110, 115, 32, 112, 97, 114, 97, 118, 97, 110, 101, 47, 112, 97, 114, 97, 118, 97, 110, 101, 108, 97, 119, 49, 48, 46, 86, 111, 108, 117, 109, 101, 66, 97, 99, 107, 101, 100, 32, 112, 97, 114, 97, 118, 97, 110, 101, 47, 112, 97, 114, 97, 118, 97, 110, 101, 108, 97, 119, 49, 48, 46, 86, 111, 108, 117, 109, 101, 85, 110, 114, 117, 110, 103, 32, 112, 97, 114, 97, 118, 97, 110, 101, 47, 112, 97, 114, 97, 118, 97, 110, 101, 108, 97, 119, 49, 48, 46, 86, 111, 108, 117, 109, 101, 84, 111, 112, 32, 112, 97, 114, 97, 118, 97, 110, 101, 47, 112, 97, 114, 97, 118, 97, 110, 101, 108, 97, 119, 49, 48, 46, 86, 111, 108, 117, 109, 101, 83, 109, 111, 111, 116, 104, 32, 112, 97, 114, 97, 118, 97, 110, 101, 47, 112, 97, 114, 97, 118, 97, 110, 101, 108, 97, 119, 49, 48, 46, 86, 111, 108, 117, 109, 101, 77, 105, 103, 114, 97, 116, 101, 115, 32, 112, 97, 114, 97, 118, 97, 110, 101, 47, 112, 97, 114, 97, 118, 97, 110, 101, 108, 97, 119, 49, 48, 46, 86, 111, 108, 117, 109, 101, 84, 114, 117, 116, 104, 32, 112, 97, 114, 97, 118, 97, 110, 101, 47, 112, 97, 114, 97, 118, 97, 110, 101, 108, 97, 119, 49, 48, 46, 86, 111, 108, 117, 109, 101, 83, 105, 110, 103, 108, 101, 32, 112, 97, 114, 97, 118, 97, 110, 101, 47, 112, 97, 114, 97, 118, 97, 110, 101, 108, 97, 119, 49, 48, 46, 86, 111, 108, 117, 109, 101, 76, 105, 110, 101, 97, 114, 32, 112, 97, 114, 97, 118, 97, 110, 101, 47, 112, 97, 114, 97, 118, 97, 110, 101, 108, 97, 119, 49, 48, 46, 86, 111, 108, 117, 109, 101, 80, 111, 105, 110, 116, 32, 112, 97, 114, 97, 118, 97, 110, 101, 47, 112, 97, 114, 97, 118, 97, 110, 101, 108, 97, 119, 49, 48, 46, 86, 111, 108, 117, 109, 101, 83, 101, 97, 108, 101, 100, 32, 112, 97, 114, 97, 118, 97, 110, 101, 47, 112, 97, 114, 97, 118, 97, 110, 101, 108, 97, 119, 49, 48, 46, 86, 111, 108, 117, 109, 101, 65, 103, 114, 101, 101, 115, 32, 112, 97, 114, 97, 118, 97, 110, 101, 47, 112, 97, 114, 97, 118, 97, 110, 101, 108, 97, 119, 49, 48, 46, 86, 111, 108, 117, 109, 101, 72, 111, 114, 105, 122, 111, 110, 115, 32, 112, 97, 114, 97, 118, 97, 110, 101, 47, 112, 97, 114, 97, 118, 97, 110, 101, 108, 97, 119, 49, 48, 46, 86, 111, 108, 117, 109, 101, 86, 101, 114, 105, 102, 105, 101, 115, 32, 112, 97, 114, 97, 118, 97, 110, 101, 47, 112, 97, 114, 97, 118, 97, 110, 101, 108, 97, 119, 49, 48, 46, 86, 111, 108, 117, 109, 101, 70, 97, 114, 32, 112, 97, 114, 97, 118, 97, 110, 101, 47, 112, 97, 114, 97, 118, 97, 110, 101, 108, 97, 119, 49, 48, 46, 86, 111, 108, 117, 109, 101, 87, 104, 111, 108, 101, 32, 112, 97, 114, 97, 118, 97, 110, 101, 47, 112, 97, 114, 97, 118, 97, 110, 101, 108, 97, 119, 49, 48, 46, 86, 111, 108, 117, 109, 101, 75, 110, 111, 119, 110, 32, 112, 97, 114, 97, 118, 97, 110, 101, 47, 112, 97, 114, 97, 118, 97, 110, 101, 108, 97, 119, 49, 48, 46, 86, 111, 108, 117, 109, 101, 67, 117, 116, 115, 32, 112, 97, 114, 97, 118, 97, 110, 101, 47, 112, 97, 114, 97, 118, 97, 110, 101, 108, 97, 119, 49, 48, 46, 86, 111, 108, 117, 109, 101, 70, 105, 108, 108, 101, 100] : List Nat).map Char.ofNat) := by
  unfold Try.prog
  dsimp only
  show (_ : String) = _
  kernel_rfl
theorem head_list : Try.prog.initOrder.toList = headL := (congrArg String.toList head_chars).trans String.toList_ofList

section
variable (P : Program) (h : P.initOrder.toList = headL)
include h
theorem make_of : P.make = some .cut := by
  unfold Program.make
  rw [h]
  kernel_rfl
theorem headLifts_of : P.headLifts = [] := by
  unfold Program.headLifts
  rw [h]
  kernel_rfl
theorem lifts_of : P.liftsFinal = false := by
  unfold Program.liftsFinal
  rw [h, headLifts_of P h]
  kernel_rfl
theorem may_of (h1 : P.laysLater = false) (h2 : P.bearsReflect = false) (h3 : P.doorFits [] = true) : P.mayEnter = true := by
  unfold Program.mayEnter
  rw [h, h1, h2]
  have e : behindMainWord (wordsSigns headL) = "cut".toList :: (behindMainWord (wordsSigns headL)).tail := by kernel_rfl
  have e2 : stripLifts liftWords ("cut".toList :: (behindMainWord (wordsSigns headL)).tail) = ([], "cut".toList :: (behindMainWord (wordsSigns headL)).tail) := by kernel_rfl
  rw [e]
  dsimp only
  rw [e2, h3]
  first | rfl | (show (_ : Bool) = true; kernel_rfl)
end

theorem may : Try.prog.mayEnter = true := may_of _ head_list (by kernel_rfl) (by kernel_rfl) (by kernel_rfl)
theorem lifts : Try.prog.liftsFinal = false := lifts_of _ head_list
theorem made : Try.prog.make = some .cut := make_of _ head_list
theorem heard : Try.prog.stopsHeard = true := by kernel_rfl
theorem plain : Try.prog.plainKeys = false := by kernel_rfl
theorem rowed : mapsRowed Try.prog = true := by kernel_rfl

end Go.Proofs.Ytkifejklnpddbaa

/-! What further arguments of the laws read as. -/
set_option linter.unusedVariables false
set_option linter.unusedSimpArgs false
set_option maxRecDepth 20000
namespace Go.Proofs.Ytkifejklnpddbaa
open Go.Am Go.ChangeShapes Go.WideShapes Go.ChangeAt Go.RowKit

section
variable {H : Type} {enc : TypeId × Value → H} {W : World}

theorem rd_bool : Reads enc W 4 (fun vs => ∃ b : Bool, vs = [.bool b]) := reads_bool Try.underlying4

theorem rd_int2 : Reads enc W 30 (fun vs => ∃ a b : Int, vs = [I a, I b]) := by
  refine (reads_array Try.underlying30 (by kernel_rfl) (readsL_cons rd_int (readsL_cons rd_int readsL_nil))).mono ?_
  rintro vs ⟨a, b, ⟨x, rfl, _⟩, ⟨c, d, ⟨y, rfl, _⟩, rfl, rfl⟩, rfl⟩
  exact ⟨x, y, rfl⟩

theorem rd_ints : Reads enc W 49 (fun vs => ∃ l : List Int, l.length ≤ 9223372036854775807 ∧ vs = [intsV l]) := by
  refine (reads_slice (sz := 1) false Try.underlying49 (by kernel_rfl) (by decide) (fun _ => rfl) rd_int).mono ?_
  rintro vs ⟨xs, h1, h2, rfl⟩
  obtain ⟨l, rfl, _⟩ := exists_list (R := fun _ => True) (g := fun n : Int => [I n]) fun x hx => by obtain ⟨b, rfl, _⟩ := h1 x hx; exact ⟨b, trivial, rfl⟩
  refine ⟨l, by simpa using h2, ?_⟩
  simp [intsV, wrapV, Function.comp_def]

theorem rd_ints2 : Reads enc W 59 (fun vs => ∃ l : List (List Int), saneS l ∧ vs = [secV l]) := by
  refine (reads_slice (sz := 1) false Try.underlying59 (by kernel_rfl) (by decide) (fun _ => rfl) rd_ints).mono ?_
  rintro vs ⟨xs, h1, h2, rfl⟩
  obtain ⟨l, rfl, hl⟩ := exists_list (R := fun c : List Int => c.length ≤ 9223372036854775807) (g := fun c : List Int => [intsV c]) fun x hx => by obtain ⟨b, hb, rfl⟩ := h1 x hx; exact ⟨b, hb, rfl⟩
  refine ⟨l, ⟨by simpa using h2, hl⟩, ?_⟩
  simp [secV, wrapV, Function.comp_def]

theorem rd_places : Reads enc W 83 (fun vs => ∃ l : List (Int × Int), l.length ≤ 9223372036854775807 ∧ vs = [sB l]) := by
  refine (reads_slice (sz := 2) true Try.underlying83 (by kernel_rfl) (by decide) (by decide) rd_int2).mono ?_
  rintro vs ⟨xs, h1, h2, rfl⟩
  obtain ⟨l, rfl, _⟩ := exists_list (R := fun _ => True) (g := fun b : Int × Int => [I b.1, I b.2]) fun x hx => by obtain ⟨a, b, rfl⟩ := h1 x hx; exact ⟨(a, b), trivial, rfl⟩
  refine ⟨l, by simpa using h2, ?_⟩
  simp [sB, wrapV, Function.comp_def, eB]

theorem rd_vol : Reads enc W 55 (fun vs => ∃ v : Vol, v.v.length ≤ 9223372036854775807 ∧ vs = volC v) := by
  refine (reads_struct Try.underlying55 (by kernel_rfl) (readsL_cons rd_int3 (readsL_cons rd_int3 (readsL_cons rd_ints readsL_nil)))).mono ?_
  rintro vs ⟨a, b, ⟨x, y, z, rfl⟩, ⟨c, d, ⟨p, q, r, rfl⟩, ⟨e, f, ⟨l, hl, rfl⟩, rfl, rfl⟩, rfl⟩, rfl⟩
  exact ⟨⟨⟨x, y, z, p, q, r⟩, l⟩, hl, rfl⟩

theorem rd_box : Reads enc W 41 (fun vs => ∃ (b : Bx) (ap : Int) (sl : Int × Int), vs = [I b.x, I b.y, I b.z, I b.a, I b.b, I b.c, I ap, I sl.1, I sl.2]) := by
  refine (reads_struct Try.underlying41 (by kernel_rfl) (readsL_cons rd_int3 (readsL_cons rd_int3 (readsL_cons rd_int (readsL_cons rd_bound readsL_nil))))).mono ?_
  rintro vs ⟨a, b, ⟨x, y, z, rfl⟩, ⟨c, d, ⟨p, q, r, rfl⟩, ⟨e, f, ⟨n, rfl, _⟩, ⟨g, h, ⟨s, rfl⟩, rfl, rfl⟩, rfl⟩, rfl⟩, rfl⟩
  exact ⟨⟨x, y, z, p, q, r⟩, n, s, rfl⟩

theorem rd_truth : Reads enc W 75 (fun vs => ∃ (l : List Int) (n : Int), l.length ≤ 9223372036854775807 ∧ vs = [intsV l, I n]) := by
  refine (reads_struct Try.underlying75 (by kernel_rfl) (readsL_cons rd_ints (readsL_cons rd_int readsL_nil))).mono ?_
  rintro vs ⟨a, b, ⟨l, hl, rfl⟩, ⟨c, d, ⟨n, rfl, _⟩, rfl, rfl⟩, rfl⟩
  exact ⟨l, n, hl, rfl⟩

theorem rd_other : Reads enc W 63 (fun vs => ∃ (p : List Int) (l : List (List Int)), p.length ≤ 9223372036854775807 ∧ saneS l ∧ vs = [intsV p, secV l]) := by
  refine (reads_struct Try.underlying63 (by kernel_rfl) (readsL_cons rd_ints (readsL_cons rd_ints2 readsL_nil))).mono ?_
  rintro vs ⟨a, b, ⟨p, hp, rfl⟩, ⟨c, d, ⟨l, hl, rfl⟩, rfl, rfl⟩, rfl⟩
  exact ⟨p, l, hp, hl, rfl⟩

end

theorem repL0 {w : World} {φ : Nat → Nat} : RepL w φ [] #[] := ⟨rfl, fun i v y h1 h2 => by simp at h1⟩

end Go.Proofs.Ytkifejklnpddbaa
