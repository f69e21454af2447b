/-
  Parts of the proof, 4: the abstract machine, the compiled code, contracts of the functions, plain laws.
-/
import Derived.Test.YtffoiccokigjcaaDoorZ3
import Derived.Shelf.SlSortCmp.WholeK


/-! Contracts: regions of the plane, by their four bounds. -/
set_option linter.unusedVariables false
set_option linter.unusedSimpArgs false
set_option maxRecDepth 20000
set_option maxHeartbeats 2000000
namespace Go.Proofs.YtffoiccokigjcaaDoor
open Go.Am
attribute [local simp] cells scalar mkv splice under2 under dem dem1 eB

/-- Bounds of x, y, their sum and difference. -/
structure Fr where
  x : Int × Int
  y : Int × Int
  s : Int × Int
  d : Int × Int

def fourC (f : Fr) : List V := [I f.x.1, I f.x.2, I f.y.1, I f.y.2, I f.s.1, I f.s.2, I f.d.1, I f.d.2]
attribute [local simp] fourC

def comb (g : Int × Int → Int × Int → Int × Int) (f h : Fr) : Fr := ⟨g f.x h.x, g f.y h.y, g f.s h.s, g f.d h.d⟩
def spanB (a b : Int × Int) : Int × Int := (min a.1 b.1, max a.2 b.2)
def cutB (a b : Int × Int) : Int × Int := (max a.1 b.1, min a.2 b.2)

theorem ifMin (a b : Int) : (if b < a then b else a) = min a b := by split <;> omega
theorem ifMax (a b : Int) : (if b > a then b else a) = max a b := by split <;> omega

theorem c_span (a b : Int × Int) : C Tryd.prog F.region_span [eB a, eB b] (eB (spanB a b)) := by
  refine C_of mixed chk.region_span (by simp) fun S ok => ?_
  refine Tr.seqR rfl (by simp) (Tr.seqR rfl (by simp) (Tr.retQ rfl rfl ?_ trivial))
  simp only [packR, eB, spanB, ← ifMin, ← ifMax]
  rfl

theorem c_bounds (f : Fr) : C Tryd.prog F.region_bounds [.agg (fourC f)] (.agg (fourC f)) := by
  refine C_of mixed chk.region_bounds (by simp) fun S ok => ?_
  exact Tr.seqR rfl (by simp) (Tr.seqR rfl (by simp) (Tr.retQ rfl rfl rfl trivial))

theorem c_region (f : Fr) : C Tryd.prog F.region_four_region [.agg (fourC f)] (.agg (fourC f)) := by
  refine C_of mixed chk.region_four_region (by simp) fun S ok => ?_
  exact Tr.seqR rfl (by simp) (Tr.seqR rfl (by simp) (Tr.retQ rfl rfl rfl trivial))

theorem c_combined {op : FuncId} {g : Int × Int → Int × Int → Int × Int} (hg : ∀ a b, C Tryd.prog op [eB a, eB b] (eB (g a b))) (f h : Fr) : C Tryd.prog F.region_four_combined [.agg (fourC f), .agg (fourC h), .func (.func op) [] []] (.agg (fourC (comb g f h))) := by
  refine C_of mixed chk.region_four_combined (by simp) fun S ok => ?_
  refine Tr.seqR rfl (by simp) (Tr.seq (Tr.seqR rfl (by simp) (Tr.block ?_)))
  refine Tr.rounds 5 (TrN.succ ?_)
  refine Tr.weak (s' := { env := [(2, .func (.func op) [] []), (3, .ptr 3 0), (4, .ptr 4 0), (6, .ptr 6 0), (8, I 0)], bx := [(3, ⟨[I f.x.1, I f.x.2, I f.y.1, I f.y.2, I f.s.1, I f.s.2, I f.d.1, I f.d.2], false⟩), (4, ⟨fourC h, false⟩), (6, ⟨[I 0, I 0, I 0, I 0, I 0, I 0, I 0, I 0], false⟩)], rw := [], log := [], stp := false })
    (Wk.le (.cons rfl (.refl _) (.cons rfl (.refl _) (.cons rfl (.refl _) (.cons rfl (.refl _) (.cons rfl (VLe.i rfl) .nil))))) (.cons rfl (LLe.refl _) (.cons rfl (LLe.refl _) (.cons rfl (LLe.refl _) .nil))) .nil rfl rfl) ?_
  refine Tr.seqR rfl (by simp) (Tr.seq (Tr.condT rfl (Tr.skip (Tr.seq (Tr.block (Tr.seqR rfl (by simp) ?_))))))
  refine Tr.drawK (TraceK.run rfl (by simp) (TraceK.callv rfl rfl (hg f.x h.x) (TraceK.run rfl (by simp) (.done ⟨by kernel_rfl, by kernel_rfl, ?_⟩))))
  refine Tr.regR rfl (by simp) (TrN.succ ?_)
  refine Tr.weak (s' := { env := [(2, .func (.func op) [] []), (3, .ptr 3 0), (4, .ptr 4 0), (6, .ptr 6 0), (8, I 1)], bx := [(3, ⟨[I (g f.x h.x).1, I (g f.x h.x).2, I f.y.1, I f.y.2, I f.s.1, I f.s.2, I f.d.1, I f.d.2], false⟩), (4, ⟨fourC h, false⟩), (6, ⟨[I 0, I 0, I 0, I 0, I 0, I 0, I 0, I 0], false⟩)], rw := [], log := [], stp := false })
    (Wk.le (.cons rfl (.refl _) (.cons rfl (.refl _) (.cons rfl (.refl _) (.cons rfl (.refl _) (.cons rfl (VLe.i rfl) .nil))))) (.cons rfl (LLe.refl _) (.cons rfl (LLe.refl _) (.cons rfl (LLe.refl _) .nil))) .nil rfl rfl) ?_
  refine Tr.seqR rfl (by simp) (Tr.seq (Tr.condT rfl (Tr.skip (Tr.seq (Tr.block (Tr.seqR rfl (by simp) ?_))))))
  refine Tr.drawK (TraceK.run rfl (by simp) (TraceK.callv rfl rfl (hg f.y h.y) (TraceK.run rfl (by simp) (.done ⟨by kernel_rfl, by kernel_rfl, ?_⟩))))
  refine Tr.regR rfl (by simp) (TrN.succ ?_)
  refine Tr.weak (s' := { env := [(2, .func (.func op) [] []), (3, .ptr 3 0), (4, .ptr 4 0), (6, .ptr 6 0), (8, I 2)], bx := [(3, ⟨[I (g f.x h.x).1, I (g f.x h.x).2, I (g f.y h.y).1, I (g f.y h.y).2, I f.s.1, I f.s.2, I f.d.1, I f.d.2], false⟩), (4, ⟨fourC h, false⟩), (6, ⟨[I 0, I 0, I 0, I 0, I 0, I 0, I 0, I 0], false⟩)], rw := [], log := [], stp := false })
    (Wk.le (.cons rfl (.refl _) (.cons rfl (.refl _) (.cons rfl (.refl _) (.cons rfl (.refl _) (.cons rfl (VLe.i rfl) .nil))))) (.cons rfl (LLe.refl _) (.cons rfl (LLe.refl _) (.cons rfl (LLe.refl _) .nil))) .nil rfl rfl) ?_
  refine Tr.seqR rfl (by simp) (Tr.seq (Tr.condT rfl (Tr.skip (Tr.seq (Tr.block (Tr.seqR rfl (by simp) ?_))))))
  refine Tr.drawK (TraceK.run rfl (by simp) (TraceK.callv rfl rfl (hg f.s h.s) (TraceK.run rfl (by simp) (.done ⟨by kernel_rfl, by kernel_rfl, ?_⟩))))
  refine Tr.regR rfl (by simp) (TrN.succ ?_)
  refine Tr.weak (s' := { env := [(2, .func (.func op) [] []), (3, .ptr 3 0), (4, .ptr 4 0), (6, .ptr 6 0), (8, I 3)], bx := [(3, ⟨[I (g f.x h.x).1, I (g f.x h.x).2, I (g f.y h.y).1, I (g f.y h.y).2, I (g f.s h.s).1, I (g f.s h.s).2, I f.d.1, I f.d.2], false⟩), (4, ⟨fourC h, false⟩), (6, ⟨[I 0, I 0, I 0, I 0, I 0, I 0, I 0, I 0], false⟩)], rw := [], log := [], stp := false })
    (Wk.le (.cons rfl (.refl _) (.cons rfl (.refl _) (.cons rfl (.refl _) (.cons rfl (.refl _) (.cons rfl (VLe.i rfl) .nil))))) (.cons rfl (LLe.refl _) (.cons rfl (LLe.refl _) (.cons rfl (LLe.refl _) .nil))) .nil rfl rfl) ?_
  refine Tr.seqR rfl (by simp) (Tr.seq (Tr.condT rfl (Tr.skip (Tr.seq (Tr.block (Tr.seqR rfl (by simp) ?_))))))
  refine Tr.drawK (TraceK.run rfl (by simp) (TraceK.callv rfl rfl (hg f.d h.d) (TraceK.run rfl (by simp) (.done ⟨by kernel_rfl, by kernel_rfl, ?_⟩))))
  refine Tr.regR rfl (by simp) (TrN.succ ?_)
  refine Tr.seqR rfl (by simp) (Tr.seq (Tr.condF rfl (Tr.exit ?_)))
  exact Tr.seqR rfl (by simp) (Tr.retQ rfl rfl rfl trivial)

def ofF (p : Int × Int) : Fr := ⟨(p.1, p.1), (p.2, p.2), (w (p.1 + p.2), w (p.1 + p.2)), (w (p.1 - p.2), w (p.1 - p.2))⟩

theorem c_ofP (p : Int × Int) : C Tryd.prog F.region_of [eB p] (.agg (fourC (ofF p))) := by
  refine C_of mixed chk.region_of (by simp) fun S ok => ?_
  refine Tr.seqR rfl (by simp) (Tr.seqR rfl (by simp) (Tr.seq (Tr.seqR rfl (by simp) (Tr.block ?_))))
  refine Tr.rounds 5 (TrN.succ ?_)
  refine Tr.weak (s' := { env := [(2, .ptr 2 0), (3, .ptr 3 0), (20, .agg [I p.1, I p.2, I (w (p.1 + p.2)), I (w (p.1 - p.2))]), (21, I 0)], bx := [(2, ⟨[I 0, I 0, I 0, I 0, I 0, I 0, I 0, I 0], false⟩), (3, ⟨[I 0, I 0, I 0, I 0, I 0, I 0, I 0, I 0], false⟩)], rw := [], log := [], stp := false })
    (Wk.le (.cons rfl (.refl _) (.cons rfl (.refl _) (.cons rfl (.refl _) (.cons rfl (VLe.i rfl) .nil)))) (.cons rfl (LLe.refl _) (.cons rfl (LLe.refl _) .nil)) .nil rfl rfl) ?_
  refine Tr.seqR rfl (by simp) (Tr.seq (Tr.condT rfl (Tr.skip (Tr.seq (Tr.block (Tr.seqR rfl (by simp) (Tr.regR rfl (by simp) (Tr.regR rfl (by simp) (TrN.succ ?_)))))))))
  refine Tr.weak (s' := { env := [(2, .ptr 2 0), (3, .ptr 3 0), (20, .agg [I p.1, I p.2, I (w (p.1 + p.2)), I (w (p.1 - p.2))]), (21, I 1)], bx := [(2, ⟨[I 0, I 0, I 0, I 0, I 0, I 0, I 0, I 0], false⟩), (3, ⟨[I (p.1), I (p.1), I 0, I 0, I 0, I 0, I 0, I 0], false⟩)], rw := [], log := [], stp := false })
    (Wk.le (.cons rfl (.refl _) (.cons rfl (.refl _) (.cons rfl (.refl _) (.cons rfl (VLe.i rfl) .nil)))) (.cons rfl (LLe.refl _) (.cons rfl (LLe.refl _) .nil)) .nil rfl rfl) ?_
  refine Tr.seqR rfl (by simp) (Tr.seq (Tr.condT rfl (Tr.skip (Tr.seq (Tr.block (Tr.seqR rfl (by simp) (Tr.regR rfl (by simp) (Tr.regR rfl (by simp) (TrN.succ ?_)))))))))
  refine Tr.weak (s' := { env := [(2, .ptr 2 0), (3, .ptr 3 0), (20, .agg [I p.1, I p.2, I (w (p.1 + p.2)), I (w (p.1 - p.2))]), (21, I 2)], bx := [(2, ⟨[I 0, I 0, I 0, I 0, I 0, I 0, I 0, I 0], false⟩), (3, ⟨[I (p.1), I (p.1), I (p.2), I (p.2), I 0, I 0, I 0, I 0], false⟩)], rw := [], log := [], stp := false })
    (Wk.le (.cons rfl (.refl _) (.cons rfl (.refl _) (.cons rfl (.refl _) (.cons rfl (VLe.i rfl) .nil)))) (.cons rfl (LLe.refl _) (.cons rfl (LLe.refl _) .nil)) .nil rfl rfl) ?_
  refine Tr.seqR rfl (by simp) (Tr.seq (Tr.condT rfl (Tr.skip (Tr.seq (Tr.block (Tr.seqR rfl (by simp) (Tr.regR rfl (by simp) (Tr.regR rfl (by simp) (TrN.succ ?_)))))))))
  refine Tr.weak (s' := { env := [(2, .ptr 2 0), (3, .ptr 3 0), (20, .agg [I p.1, I p.2, I (w (p.1 + p.2)), I (w (p.1 - p.2))]), (21, I 3)], bx := [(2, ⟨[I 0, I 0, I 0, I 0, I 0, I 0, I 0, I 0], false⟩), (3, ⟨[I (p.1), I (p.1), I (p.2), I (p.2), I (w (p.1 + p.2)), I (w (p.1 + p.2)), I 0, I 0], false⟩)], rw := [], log := [], stp := false })
    (Wk.le (.cons rfl (.refl _) (.cons rfl (.refl _) (.cons rfl (.refl _) (.cons rfl (VLe.i rfl) .nil)))) (.cons rfl (LLe.refl _) (.cons rfl (LLe.refl _) .nil)) .nil rfl rfl) ?_
  refine Tr.seqR rfl (by simp) (Tr.seq (Tr.condT rfl (Tr.skip (Tr.seq (Tr.block (Tr.seqR rfl (by simp) (Tr.regR rfl (by simp) (Tr.regR rfl (by simp) (TrN.succ ?_)))))))))
  refine Tr.seqR rfl (by simp) (Tr.seq (Tr.condF rfl (Tr.exit ?_)))
  exact Tr.seqR rfl (by simp) (Tr.retQ rfl rfl rfl trivial)

/-- A number, brought into the range. -/
def intoL (l n : Int) : Int := max (-l) (min n l)

theorem c_into {l : Int} (n : Int) (hl : 0 ≤ l ∧ l ≤ 65536) : C Tryd.prog F.region_limit_into [I l, I n] (I (intoL l n)) := by
  refine C_of mixed chk.region_limit_into (by simp) fun S ok => ?_
  refine Tr.seqR rfl (by simp) (Tr.seqR rfl (by simp) (Tr.retQ rfl rfl ?_ trivial))
  have e : IntKind.wrap .i64 (0 - l) = -l := by rw [w64 (by omega) (by omega)]; omega
  simp only [packR, intoL, ← ifMin, ← ifMax, ← e]
  rfl

theorem c_fits {l : Int} {b : Int × Int} (hl : 0 ≤ l ∧ l ≤ 65536) (h1 : -l ≤ b.1) (h2 : b.1 ≤ b.2) (h3 : b.2 ≤ l) : C Tryd.prog F.region_limit_fits [I l, eB b] (.bool true) := by
  refine C_of mixed chk.region_limit_fits (by simp) fun S ok => ?_
  have e : IntKind.wrap .i64 (0 - l) = -l := by rw [w64 (by omega) (by omega)]; omega
  refine Tr.seqR rfl (by simp) (Tr.seqR rfl (by simp) (Tr.retQ rfl rfl ?_ trivial))
  rw [Int.zero_sub] at e
  simp [packR, e, h1, h2, h3]

def inPlane (p : Int × Int) : Prop := (-32768 ≤ p.1 ∧ p.1 ≤ 32768) ∧ -32768 ≤ p.2 ∧ p.2 ≤ 32768

theorem into_self {l n : Int} (h : -l ≤ n ∧ n ≤ l) : intoL l n = n := by unfold intoL; omega

theorem c_CheckPoint {p : Int × Int} (h : inPlane p) : C Tryd.prog F.region_CheckPoint [eB p] (I 0) := by
  refine C_of mixed chk.region_CheckPoint (by simp) fun S ok => ?_
  have k1 := c_into (l := 32768) p.1 (by omega)
  have k2 := c_into (l := 32768) p.2 (by omega)
  rw [into_self (by have := h.1; omega)] at k1
  rw [into_self (by have := h.2; omega)] at k2
  refine Tr.seqR rfl (by simp) (Tr.seq (Tr.seqR rfl (by simp) (Tr.block ?_)))
  refine Tr.rounds 3 (TrN.succ ?_)
  refine Tr.seqR rfl (by simp) (Tr.seq (Tr.condT rfl (Tr.skip (Tr.seq (Tr.block (Tr.seqR rfl (by simp) ?_))))))
  refine Tr.seqC rfl (by simp) (Steps.call rfl rfl k1 (Steps.fin rfl (by simp) (Tr.cond rfl rfl (fun h => ?_) (fun _ => Tr.skip (Tr.regR rfl (by simp) (TrN.succ ?_))))))
  · simp at h
  refine Tr.seqR rfl (by simp) (Tr.seq (Tr.condT rfl (Tr.skip (Tr.seq (Tr.block (Tr.seqR rfl (by simp) ?_))))))
  refine Tr.seqC rfl (by simp) (Steps.call rfl rfl k2 (Steps.fin rfl (by simp) (Tr.cond rfl rfl (fun h => ?_) (fun _ => Tr.skip (Tr.regR rfl (by simp) (TrN.succ ?_))))))
  · simp at h
  refine Tr.seqR rfl (by simp) (Tr.seq (Tr.condF rfl (Tr.exit ?_)))
  exact Tr.seqR rfl (by simp) (Tr.retX rfl rfl rfl rfl trivial)

def fitB (l : Int) (b : Int × Int) : Prop := -l ≤ b.1 ∧ b.1 ≤ b.2 ∧ b.2 ≤ l
def fitF (f : Fr) : Prop := (fitB 32768 f.x ∧ fitB 32768 f.y) ∧ fitB 65536 f.s ∧ fitB 65536 f.d

theorem c_CheckR {f : Fr} (h : fitF f) : C Tryd.prog F.region_Check [.agg (fourC f)] (I 0) := by
  refine C_of mixed chk.region_Check (by simp) fun S ok => ?_
  obtain ⟨⟨⟨x1, x2, x3⟩, y1, y2, y3⟩, ⟨s1, s2, s3⟩, d1, d2, d3⟩ := h
  refine Tr.seqR rfl (by simp) (Tr.seqR rfl (by simp) (Tr.seq (Tr.seqC rfl (by simp) (Steps.call rfl rfl (c_bounds f) (Steps.fin rfl (by simp) (Tr.block ?_))))))
  refine Tr.rounds 5 (TrN.succ ?_)
  refine Tr.weak (s' := { env := [(3, .ptr 3 0), (12, .agg (fourC f)), (13, I 0)], bx := [(3, ⟨[.func (.func F.region_limit_fits) [I 32768] [], .func (.func F.region_limit_fits) [I 32768] [], .func (.func F.region_limit_fits) [I 65536] [], .func (.func F.region_limit_fits) [I 65536] []], false⟩)], rw := [], log := [], stp := false })
    (Wk.le (.cons rfl (.refl _) (.cons rfl (.refl _) (.cons rfl (VLe.i rfl) .nil))) (.cons rfl (LLe.refl _) .nil) .nil rfl rfl) ?_
  refine Tr.seqR rfl (by simp) (Tr.seq (Tr.condT rfl (Tr.skip (Tr.seq (Tr.block (Tr.seqR rfl (by simp) (Tr.seq ?_)))))))
  refine Tr.drawK (TraceK.run rfl (by simp) (TraceK.callv rfl rfl (c_fits (l := 32768) (b := f.x) (by omega) x1 x2 x3) (TraceK.run rfl (by simp) (.done ⟨by kernel_rfl, by kernel_rfl, ?_⟩))))
  refine Tr.condF rfl (Tr.skip (Tr.regR rfl (by simp) (TrN.succ ?_)))
  refine Tr.weak (s' := { env := [(3, .ptr 3 0), (12, .agg (fourC f)), (13, I 1)], bx := [(3, ⟨[.func (.func F.region_limit_fits) [I 32768] [], .func (.func F.region_limit_fits) [I 32768] [], .func (.func F.region_limit_fits) [I 65536] [], .func (.func F.region_limit_fits) [I 65536] []], false⟩)], rw := [], log := [], stp := false })
    (Wk.le (.cons rfl (.refl _) (.cons rfl (.refl _) (.cons rfl (VLe.i rfl) .nil))) (.cons rfl (LLe.refl _) .nil) .nil rfl rfl) ?_
  refine Tr.seqR rfl (by simp) (Tr.seq (Tr.condT rfl (Tr.skip (Tr.seq (Tr.block (Tr.seqR rfl (by simp) (Tr.seq ?_)))))))
  refine Tr.drawK (TraceK.run rfl (by simp) (TraceK.callv rfl rfl (c_fits (l := 32768) (b := f.y) (by omega) y1 y2 y3) (TraceK.run rfl (by simp) (.done ⟨by kernel_rfl, by kernel_rfl, ?_⟩))))
  refine Tr.condF rfl (Tr.skip (Tr.regR rfl (by simp) (TrN.succ ?_)))
  refine Tr.weak (s' := { env := [(3, .ptr 3 0), (12, .agg (fourC f)), (13, I 2)], bx := [(3, ⟨[.func (.func F.region_limit_fits) [I 32768] [], .func (.func F.region_limit_fits) [I 32768] [], .func (.func F.region_limit_fits) [I 65536] [], .func (.func F.region_limit_fits) [I 65536] []], false⟩)], rw := [], log := [], stp := false })
    (Wk.le (.cons rfl (.refl _) (.cons rfl (.refl _) (.cons rfl (VLe.i rfl) .nil))) (.cons rfl (LLe.refl _) .nil) .nil rfl rfl) ?_
  refine Tr.seqR rfl (by simp) (Tr.seq (Tr.condT rfl (Tr.skip (Tr.seq (Tr.block (Tr.seqR rfl (by simp) (Tr.seq ?_)))))))
  refine Tr.drawK (TraceK.run rfl (by simp) (TraceK.callv rfl rfl (c_fits (l := 65536) (b := f.s) (by omega) s1 s2 s3) (TraceK.run rfl (by simp) (.done ⟨by kernel_rfl, by kernel_rfl, ?_⟩))))
  refine Tr.condF rfl (Tr.skip (Tr.regR rfl (by simp) (TrN.succ ?_)))
  refine Tr.weak (s' := { env := [(3, .ptr 3 0), (12, .agg (fourC f)), (13, I 3)], bx := [(3, ⟨[.func (.func F.region_limit_fits) [I 32768] [], .func (.func F.region_limit_fits) [I 32768] [], .func (.func F.region_limit_fits) [I 65536] [], .func (.func F.region_limit_fits) [I 65536] []], false⟩)], rw := [], log := [], stp := false })
    (Wk.le (.cons rfl (.refl _) (.cons rfl (.refl _) (.cons rfl (VLe.i rfl) .nil))) (.cons rfl (LLe.refl _) .nil) .nil rfl rfl) ?_
  refine Tr.seqR rfl (by simp) (Tr.seq (Tr.condT rfl (Tr.skip (Tr.seq (Tr.block (Tr.seqR rfl (by simp) (Tr.seq ?_)))))))
  refine Tr.drawK (TraceK.run rfl (by simp) (TraceK.callv rfl rfl (c_fits (l := 65536) (b := f.d) (by omega) d1 d2 d3) (TraceK.run rfl (by simp) (.done ⟨by kernel_rfl, by kernel_rfl, ?_⟩))))
  refine Tr.condF rfl (Tr.skip (Tr.regR rfl (by simp) (TrN.succ ?_)))
  refine Tr.seqR rfl (by simp) (Tr.seq (Tr.condF rfl (Tr.exit ?_)))
  exact Tr.seqR rfl (by simp) (Tr.retX rfl rfl rfl rfl trivial)

theorem c_done (f : Fr) : C Tryd.prog F.region_done [.agg (fourC f), I 0] (.tuple [.agg (fourC f), I 0]) := by
  refine C_of mixed chk.region_done (by simp) fun S ok => ?_
  refine Tr.seqR rfl (by simp) (Tr.seq (Tr.seqR rfl (by simp) (Tr.condF rfl (Tr.skip ?_))))
  refine Tr.seqC rfl (by simp) (Steps.call rfl rfl (c_region f) (Steps.fin rfl (by simp) (Tr.retX rfl rfl rfl rfl trivial)))

end Go.Proofs.YtffoiccokigjcaaDoor

/-! Contracts: rows of a region. -/
set_option linter.unusedVariables false
set_option linter.unusedSimpArgs false
set_option maxRecDepth 20000
set_option maxHeartbeats 2000000
namespace Go.Proofs.YtffoiccokigjcaaDoor
open Go.Am
attribute [local simp] cells scalar mkv splice under2 under dem dem1 eB fourC

def lowY (f : Fr) (x : Int) : Int := max (max f.y.1 (f.s.1 - x)) (x - f.d.2)
def highY (f : Fr) (x : Int) : Int := min (min f.y.2 (f.s.2 - x)) (x - f.d.1)

def rowsN (f : Fr) : Nat → Int → List (Int × Int × Int)
  | 0, _ => []
  | n + 1, x => if lowY f x ≤ highY f x then (x, lowY f x, highY f x) :: rowsN f n (x + 1) else rowsN f n (x + 1)
def rowsL (f : Fr) : List (Int × Int × Int) := rowsN f (f.x.2 + 1 - f.x.1).toNat f.x.1
def eRow (r : Int × Int × Int) : List V := [.agg [I r.1, I r.2.1, I r.2.2]]

/-- Bounds that are not great. -/
def midF (f : Fr) : Prop := ((-1000000 ≤ f.x.1 ∧ f.x.1 ≤ 1000000) ∧ -1000000 ≤ f.x.2 ∧ f.x.2 ≤ 1000000) ∧ ((-1000000 ≤ f.y.1 ∧ f.y.1 ≤ 1000000) ∧ -1000000 ≤ f.y.2 ∧ f.y.2 ≤ 1000000) ∧ ((-1000000 ≤ f.s.1 ∧ f.s.1 ≤ 1000000) ∧ -1000000 ≤ f.s.2 ∧ f.s.2 ≤ 1000000) ∧ (-1000000 ≤ f.d.1 ∧ f.d.1 ≤ 1000000) ∧ -1000000 ≤ f.d.2 ∧ f.d.2 ≤ 1000000

theorem c_rows (f : Fr) : C Tryd.prog F.region_four_rows [.agg (fourC f)] (.func (.func F.region_four_rows_1) [] [.vptr (fourC f) 0]) := by
  refine C_of mixed chk.region_four_rows (by simp) fun S ok => ?_
  exact Tr.seqR rfl (by simp) (Tr.seqR rfl (by simp) (Tr.retQ rfl rfl rfl trivial))

theorem c_ends (f : Fr) : C Tryd.prog F.region_four_ends [.agg (fourC f)] (.func (.func F.region_four_ends_1) [] [.vptr (fourC f) 0]) := by
  refine C_of mixed chk.region_four_ends (by simp) fun S ok => ?_
  exact Tr.seqR rfl (by simp) (Tr.seqR rfl (by simp) (Tr.retQ rfl rfl rfl trivial))

theorem i_rows {f : Fr} (hf : midF f) : Iter Tryd.prog F.region_four_rows_1 [.vptr (fourC f) 0] ((rowsL f).map eRow) := by
  refine Iter_of mixed chk.region_four_rows_1 (by simp) fun S ok => ?_
  obtain ⟨⟨⟨hx1, hx2⟩, hx3, hx4⟩, ⟨⟨hy1, hy2⟩, hy3, hy4⟩, ⟨⟨hs1, hs2⟩, hs3, hs4⟩, ⟨hd1, hd2⟩, hd3, hd4⟩ := hf
  refine Tr.seqR rfl (by simp) (Tr.block ?_)
  refine Tr.loop (α := Nat × List (List V)) (fun p s => (p.1 ≤ (f.x.2 + 1 - f.x.1).toNat ∧ p.2 ++ (rowsN f ((f.x.2 + 1 - f.x.1).toNat - p.1) (f.x.1 + p.1)).map eRow = (rowsL f).map eRow) ∧
      s = { env := [(0, .yld), (1, .vptr (fourC f) 0), (3, I (f.x.1 + p.1))], bx := [], rw := [], log := p.2, stp := false }) (fun p => (f.x.2 + 1 - f.x.1).toNat - p.1) (0, [])
    (Wk.le (.cons rfl (.refl _) (.cons rfl (.refl _) (.cons rfl (VLe.i (by simp)) .nil))) .nil .nil rfl rfl) ⟨⟨by simp, by simp [rowsL]⟩, rfl⟩ ?_
  rintro ⟨k, lg⟩ s ⟨⟨hk, hl⟩, rfl⟩
  simp only at hk hl
  refine Tr.seq (Tr.seqR rfl (by simp) (Tr.cond rfl rfl (fun h1 => Tr.skip ?_) (fun h1 => Tr.exit ?_)))
  · have h1 : f.x.1 + (k : Int) ≤ f.x.2 := by simpa using h1
    obtain ⟨x, hx⟩ : ∃ x, f.x.1 + (k : Int) = x := ⟨_, rfl⟩
    obtain ⟨n, hn⟩ : ∃ n, (f.x.2 + 1 - f.x.1).toNat - k = n + 1 := ⟨(f.x.2 + 1 - f.x.1).toNat - k - 1, by omega⟩
    have hn2 : (f.x.2 + 1 - f.x.1).toNat - (k + 1) = n := by omega
    have hx' : f.x.1 + ((k + 1 : Nat) : Int) = x + 1 := by omega
    rw [hn, hx] at hl
    rw [hx] at h1
    rw [hx]
    refine Tr.seq (Tr.block (Tr.seqR rfl (by simp) ?_))
    refine Tr.weak (s' := { env := [(0, .yld), (1, .vptr (fourC f) 0), (3, I x), (4, .ptr 4 0)], bx := [(4, ⟨[I x, I (lowY f x), I (highY f x)], false⟩)], rw := [], log := lg, stp := false })
      (Wk.le (.cons rfl (.refl _) (.cons rfl (.refl _) (.cons rfl (.refl _) (.cons rfl (.refl _) .nil)))) (.cons rfl (.cons (.refl _) (.cons (VLe.i ?_) (.cons (VLe.i ?_) .nil))) .nil) .nil rfl rfl) ?_
    · simp (disch := omega) only [cond_true, cond_false, ite_max, ite_min, w64, lowY]
    · simp (disch := omega) only [cond_true, cond_false, ite_max, ite_min, w64, highY]
    refine Tr.seqC rfl (by simp) ?_
    by_cases hh : lowY f x ≤ highY f x
    · have hp : lg ++ [eRow (x, lowY f x, highY f x)] ++ (rowsN f n (x + 1)).map eRow = (rowsL f).map eRow := by
        rw [← hl, rowsN, if_pos hh]; simp
      refine Steps.gyield (want := true) rfl rfl ?_ rfl ?_ rfl ⟨_, hp⟩ rfl (fun b => ?_)
      · show some (decide (lowY f x ≤ highY f x) == true) = some true
        simp [hh]
      · simp [hh]
      refine Steps.fin rfl (by simp) ?_
      refine Tr.cond rfl rfl (fun h2 => ?_) (fun h2 => ?_)
      · refine Tr.ret ⟨.inl ?_, [], [], [], rfl, rfl, rfl⟩
        have h2 : (bif decide (lowY f x ≤ highY f x) then !b else false) = true := h2
        have hb : b = false := by simpa [hh] using h2
        subst hb; rfl
      · have h2 : (bif decide (lowY f x ≤ highY f x) then !b else false) = false := h2
        have hb : b = true := by simpa [hh] using h2
        subst hb
        refine Tr.skip (Tr.regR rfl (by simp) ?_)
        refine ⟨(k + 1, lg ++ [eRow (x, lowY f x, highY f x)]), _, Wk.le (.cons rfl (.refl _) (.cons rfl (.refl _) (.cons rfl (VLe.i ?_) .nil))) .nil .nil rfl rfl, ⟨⟨by simp; omega, ?_⟩, rfl⟩, by simp; omega⟩
        · show IntKind.wrap .i64 (x + 1) = f.x.1 + ((k + 1 : Nat) : Int)
          rw [w64 (by omega) (by omega)]; exact hx'.symm
        · simp only; rw [hn2, hx']; exact hp
    · have hl2 : lg ++ (rowsN f n (x + 1)).map eRow = (rowsL f).map eRow := by
        rw [← hl, rowsN, if_neg hh]
      refine Steps.off (want := true) (.bool true) rfl rfl ?_ ?_
      · show some (decide (lowY f x ≤ highY f x) == true) = some false
        simp [hh]
      refine Steps.fin rfl (by simp; omega) ?_
      refine Tr.cond rfl rfl (fun h2 => ?_) (fun h2 => ?_)
      · have h2 : (bif decide (lowY f x ≤ highY f x) then !true else false) = true := h2
        simp [hh] at h2
      · refine Tr.skip (Tr.regR rfl (by simp) ?_)
        refine ⟨(k + 1, lg), _, Wk.le (.cons rfl (.refl _) (.cons rfl (.refl _) (.cons rfl (VLe.i ?_) .nil))) .nil .nil rfl rfl, ⟨⟨by simp; omega, ?_⟩, rfl⟩, by simp; omega⟩
        · show IntKind.wrap .i64 (x + 1) = f.x.1 + ((k + 1 : Nat) : Int)
          rw [w64 (by omega) (by omega)]; exact hx'.symm
        · simp only; rw [hn2, hx']; exact hl2
  · have h1 : ¬ f.x.1 + (k : Int) ≤ f.x.2 := by simpa using h1
    refine ⟨.inr ?_, [], [], [], rfl, rfl, rfl⟩
    rw [show (f.x.2 + 1 - f.x.1).toNat - k = 0 by omega] at hl
    have e : lg = (rowsL f).map eRow := by simpa [rowsN] using hl
    exact e

/-! ### The ends of rows -/
def endsR (r : Int × Int × Int) : List (Int × Int) := if r.2.1 = r.2.2 then [(r.1, r.2.1)] else [(r.1, r.2.1), (r.1, r.2.2)]
def endsL (f : Fr) : List (Int × Int) := (rowsL f).flatMap endsR
def eEnd (p : Int × Int) : List V := [eB p]

theorem plain_fr (f : Fr) : Plain [.vptr (fourC f) 0] := ⟨fun b => rfl, fun B R => rfl⟩

theorem ends_take {L : List (Int × Int × Int)} {m : Nat} {r : Int × Int × Int} (h : L[m]? = some r) : ∃ T, L.flatMap endsR = (L.take m).flatMap endsR ++ (endsR r ++ T) ∧ (L.take (m + 1)).flatMap endsR = (L.take m).flatMap endsR ++ endsR r := by
  have hm := (List.getElem?_eq_some_iff.1 h).1
  have hr : L[m] = r := (List.getElem?_eq_some_iff.1 h).2
  refine ⟨(L.drop (m + 1)).flatMap endsR, ?_, ?_⟩
  · have e : L = L.take m ++ (r :: L.drop (m + 1)) := by
      rw [← hr, ← List.drop_eq_getElem_cons hm, List.take_append_drop]
    have e2 := congrArg (List.flatMap endsR) e
    rw [List.flatMap_append, List.flatMap_cons] at e2
    exact e2
  · rw [List.take_add_one, h, List.flatMap_append]; simp

theorem i_ends {f : Fr} (hf : midF f) : Iter Tryd.prog F.region_four_ends_1 [.vptr (fourC f) 0] ((endsL f).map eEnd) := by
  refine Iter_of mixed chk.region_four_ends_1 (by simp) fun S ok => ?_
  refine Tr.seqR rfl (by simp) ?_
  refine Tr.seqC rfl (by simp) (Steps.call rfl rfl (c_rows f) (Steps.fin rfl (by simp) (Tr.block ?_)))
  refine Tr.weak (s' := { env := [(7, .func (.func F.region_four_rows_1) [] [.vptr (fourC f) 0]), (2, .ptr 2 0)], bx := [(2, ⟨[.yld], false⟩)], rw := [], log := [], stp := false })
    (Wk.le (.cons rfl (.refl _) (.cons rfl (.refl _) .nil)) (.cons rfl (LLe.refl _) .nil) .nil rfl rfl) ?_
  refine Tr.range rfl rfl (i_rows hf) rfl rfl rfl (by intro x hx; obtain ⟨b, _, rfl⟩ := List.mem_map.1 hx; rfl)
    (fun pre t => ∃ m, m ≤ (rowsL f).length ∧ pre = ((rowsL f).take m).map eRow ∧ t.bx = [(2, ⟨[.yld], false⟩)] ∧ t.rw = [] ∧ t.log = (((rowsL f).take m).flatMap endsR).map eEnd)
    (fun e t => e = .ret ∧ t.stp = true) ⟨0, by omega, rfl, rfl, rfl, rfl⟩ ?_ ?_ ?_
  · rintro a0 L0 rc0 h0 S1 S2 ok1 ok2 pre q t lp hpre ⟨m, hm, rfl, hbx, hrw, hlog⟩ henv hstp
    obtain ⟨env, bx, rw, log, stp⟩ := t
    simp only at hbx hrw hlog henv hstp
    subst hbx hrw hlog henv hstp
    have hmx : m < (rowsL f).length ∧ ∃ b, (rowsL f)[m]? = some b ∧ q = eRow b := by
      have h1 : (((rowsL f).take m).map eRow).length = m := by simp; omega
      have h2 := hpre.length_le
      simp at h2
      have hml : m < (rowsL f).length := by omega
      refine ⟨hml, _, List.getElem?_eq_getElem hml, ?_⟩
      have h3 := List.IsPrefix.getElem hpre (i := m) (by simp; omega)
      simp only [List.getElem_map] at h3
      rw [List.getElem_append_right (by omega)] at h3
      simpa using h3
    obtain ⟨hml, ⟨x, a, b⟩, hb, rfl⟩ := hmx
    obtain ⟨T, eT, eN⟩ := ends_take hb
    obtain ⟨lg, hlg⟩ : ∃ lg, (((rowsL f).take m).flatMap endsR).map eEnd = lg := ⟨_, rfl⟩
    have hp1 : List.IsPrefix (lg ++ [eEnd (x, a)]) ((endsL f).map eEnd) := by
      refine ⟨((endsR (x, a, b)).drop 1 ++ T).map eEnd, ?_⟩
      rw [← hlg]; unfold endsL; rw [eT]
      unfold endsR; split <;> simp
    rw [hlg]
    refine Tr.regR rfl (by simp) ?_
    refine Tr.block (Tr.seqD rfl (by simp) (by kernel_rfl) ?_)
    refine Tr.weak (s' := { env := [(2, .ptr 2 0), (4, .ptr 4 0), (5, .ptr 5 0)], bx := [(2, ⟨[.yld], false⟩), (4, ⟨[I x, I a], false⟩), (5, ⟨[I x, I b], false⟩)], rw := [], log := lg, stp := false })
      (Wk.le (.cons rfl (.refl _) (.cons rfl (.refl _) (.cons rfl (.refl _) .nil))) (.cons rfl (LLe.refl _) (.cons rfl (LLe.refl _) (.cons rfl (LLe.refl _) .nil))) .nil rfl rfl) ?_
    refine Tr.seqC rfl (by simp) ?_
    refine Steps.yield rfl (by simp) rfl hp1 rfl (fun c => ?_)
    cases c with
    | false =>
      refine Steps.run rfl (by simp) ?_
      refine Steps.off (want := true) (.bool true) rfl rfl ?_ (Steps.fin rfl (by simp) (Tr.condT rfl ?_))
      · rfl
      exact Tr.ret ⟨{ env := [], bx := [(2, ⟨[.yld], false⟩)], rw := [], log := _, stp := true }, Wk.le .nil (.cons rfl (LLe.refl _) .nil) .nil rfl rfl, rfl, rfl⟩
    | true =>
      refine Steps.run rfl (by simp) ?_
      by_cases hab : a = b
      · subst hab
        refine Steps.off (want := true) (.bool true) rfl rfl ?_ ?_
        · show some (((!true) == false) && ((!(x == x && (a == a && true))) == true)) = some false
          simp
        refine Steps.runN 1 rfl (by simp) (Steps.gpick rfl rfl rfl (fun _ => rfl) rfl rfl (by simp) (Steps.fin rfl (by simp) ?_))
        refine Tr.cond rfl rfl (fun h2 => ?_) (fun h2 => ?_)
        · have h2 : (bif (!true) then true else (bif (!(x == x && (a == a && true))) then !true else false)) = true := h2
          simp at h2
        refine Tr.skip ⟨{ env := [], bx := [(2, ⟨[.yld], false⟩)], rw := [], log := lg ++ [eEnd (x, a)], stp := false }, Wk.le .nil (.cons rfl (LLe.refl _) .nil) .nil rfl rfl, ⟨m + 1, by omega, ?_, rfl, rfl, ?_⟩, rfl⟩
        · rw [List.take_add_one, hb]; simp
        · rw [eN, List.map_append, hlg]
          unfold endsR; simp
      · have hp2 : List.IsPrefix (lg ++ [eEnd (x, a)] ++ [eEnd (x, b)]) ((endsL f).map eEnd) := by
          refine ⟨T.map eEnd, ?_⟩
          rw [← hlg]; unfold endsL; rw [eT]
          unfold endsR; rw [if_neg hab]; simp
        refine Steps.gyield (want := true) rfl rfl ?_ rfl ?_ rfl hp2 rfl (fun c => ?_)
        · show some (((!true) == false) && ((!(x == x && (a == b && true))) == true)) = some true
          simp [hab]
        · simp [hab]
        refine Steps.fin rfl (by simp [hab]) ?_
        refine Tr.cond rfl rfl (fun h2 => ?_) (fun h2 => ?_)
        · have h2 : (bif (!true) then true else (bif (!(x == x && (a == b && true))) then !c else false)) = true := h2
          have hc : c = false := by simpa [hab] using h2
          subst hc
          exact Tr.ret ⟨{ env := [], bx := [(2, ⟨[.yld], false⟩)], rw := [], log := _, stp := true }, Wk.le .nil (.cons rfl (LLe.refl _) .nil) .nil rfl rfl, rfl, rfl⟩
        · have h2 : (bif (!true) then true else (bif (!(x == x && (a == b && true))) then !c else false)) = false := h2
          have hc : c = true := by simpa [hab] using h2
          subst hc
          refine Tr.skip ⟨{ env := [], bx := [(2, ⟨[.yld], false⟩)], rw := [], log := lg ++ [eEnd (x, a)] ++ [eEnd (x, b)], stp := false }, Wk.le .nil (.cons rfl (LLe.refl _) .nil) .nil rfl rfl, ⟨m + 1, by omega, ?_, rfl, rfl, ?_⟩, rfl⟩
          · rw [List.take_add_one, hb]; simp
          · rw [eN, List.map_append, hlg]
            unfold endsR; rw [if_neg hab]; simp
  · rintro ⟨env, bx, rw, log, stp⟩ henv hstp ⟨m, hm, hpre, hbx, hrw, hlog⟩
    simp only at hbx hrw hlog henv hstp
    subst hbx hrw hlog henv hstp
    have hml : m = (rowsL f).length := by
      have := congrArg List.length hpre
      simp at this; omega
    subst hml
    refine ⟨.inr ?_, [], [], [], rfl, rfl, rfl⟩
    simp only [List.take_length]
    rfl
  · rintro e t _ ⟨rfl, h⟩
    exact ⟨.inl h, [], [], [], rfl, rfl, rfl⟩

end Go.Proofs.YtffoiccokigjcaaDoor

/-! Contracts: the hull of points. -/
set_option linter.unusedVariables false
set_option linter.unusedSimpArgs false
set_option maxRecDepth 20000
set_option maxHeartbeats 2000000
namespace Go.Proofs.YtffoiccokigjcaaDoor
open Go.Am
attribute [local simp] cells scalar mkv splice under2 under dem dem1 eB fourC

def hstep (a : Fr × Bool) (p : Int × Int) : Fr × Bool := (comb spanB (if a.2 then a.1 else ofF p) (ofF p), true)
def hullS (l : List (Int × Int)) : Fr × Bool := l.foldl hstep (⟨(0, 0), (0, 0), (0, 0), (0, 0)⟩, false)

theorem hull_take {l : List (Int × Int)} {m : Nat} {p : Int × Int} (h : l[m]? = some p) : hullS (l.take (m + 1)) = hstep (hullS (l.take m)) p := by
  unfold hullS; rw [List.take_add_one, h, List.foldl_append]; rfl

theorem c_hull {it : FuncId} {us : List V} {l : List (Int × Int)} (hus : Plain us) (hit : Iter Tryd.prog it us (l.map eEnd)) :
    C Tryd.prog F.region_hull [.slice 0 1 [.func (.func it) [] us]] (.tuple [.agg (fourC (hullS l).1), .bool (hullS l).2]) := by
  refine C_of mixed chk.region_hull (by simp) fun S ok => ?_
  refine Tr.seqR rfl (by simp) (Tr.seq (Tr.seqR rfl (by simp) (Tr.block ?_)))
  refine Tr.rounds 2 (TrN.succ ?_)
  refine Tr.seqR rfl (by simp) (Tr.seq (Tr.condT rfl (Tr.skip (Tr.seq (Tr.block (Tr.seqR rfl (by simp) (Tr.seqR rfl (by simp) (Tr.block ?_))))))))
  refine Tr.weak (s' := { env := [(13, .func (.func it) [] us), (2, .ptr 2 0), (3, .ptr 3 0), (7, .slice 0 1 [.func (.func it) [] us]), (8, I 1), (9, I 0)], bx := [(2, ⟨fourC (hullS []).1, false⟩), (3, ⟨[.bool (hullS []).2], false⟩)], rw := [], log := [], stp := false })
    (Wk.le (.cons rfl (.refl _) (.cons rfl (.refl _) (.cons rfl (.refl _) (.cons rfl (.refl _) (.cons rfl (VLe.i rfl) (.cons rfl (.refl _) .nil)))))) (.cons rfl (LLe.refl _) (.cons rfl (LLe.refl _) .nil)) .nil (by simp only [okRefs, List.all_cons, refs_plain hus]; rfl) rfl) ?_
  refine Tr.range rfl (hus.d _) hit rfl (by simp only [List.all_cons, refs_plain hus]; rfl) rfl (by intro x hx; obtain ⟨b, _, rfl⟩ := List.mem_map.1 hx; rfl)
    (fun pre t => ∃ m, m ≤ l.length ∧ pre = (l.take m).map eEnd ∧ t.bx = [(2, ⟨fourC (hullS (l.take m)).1, false⟩), (3, ⟨[.bool (hullS (l.take m)).2], false⟩)] ∧ t.rw = [] ∧ t.log = [])
    (fun _ _ => False) ⟨0, by omega, rfl, rfl, rfl, rfl⟩ ?_ ?_ ?_
  · rintro a0 L0 rc0 h0 S1 S2 ok1 ok2 pre q t lp hpre ⟨m, hm, rfl, hbx, hrw, hlog⟩ henv hstp
    obtain ⟨env, bx, rw, log, stp⟩ := t
    simp only at hbx hrw hlog henv hstp
    subst hbx hrw hlog henv hstp
    have hmx : m < l.length ∧ ∃ b, l[m]? = some b ∧ q = eEnd b := by
      have h1 : ((l.take m).map eEnd).length = m := by simp; omega
      have h2 := hpre.length_le
      simp at h2
      have hml : m < l.length := by omega
      refine ⟨hml, _, List.getElem?_eq_getElem hml, ?_⟩
      have h3 := List.IsPrefix.getElem hpre (i := m) (by simp; omega)
      simp only [List.getElem_map] at h3
      rw [List.getElem_append_right (by omega)] at h3
      simpa using h3
    obtain ⟨hml, p, hb, rfl⟩ := hmx
    have eH := hull_take hb
    obtain ⟨⟨f, b⟩, hH⟩ : ∃ H, hullS (l.take m) = H := ⟨_, rfl⟩
    rw [hH] at eH ⊢
    refine Tr.regR rfl (by simp) ?_
    refine Tr.weak (s' := { env := [(2, .ptr 2 0), (3, .ptr 3 0), (6, .ptr 6 0)], bx := [(2, ⟨fourC f, false⟩), (3, ⟨[.bool b], false⟩), (6, ⟨[I p.1, I p.2], false⟩)], rw := [], log := [], stp := false })
      (Wk.le (.cons rfl (.refl _) (.cons rfl (.refl _) (.cons rfl (.refl _) .nil))) (.cons rfl (LLe.refl _) (.cons rfl (LLe.refl _) (.cons rfl (LLe.refl _) .nil))) .nil rfl rfl) ?_
    refine Tr.block (Tr.meet { env := [(2, .ptr 2 0), (3, .ptr 3 0), (6, .ptr 6 0)], bx := [(2, ⟨fourC (if b then f else ofF p), false⟩), (3, ⟨[.bool true], false⟩), (6, ⟨[I p.1, I p.2], false⟩)], rw := [], log := [], stp := false } ?_ ?_)
    · cases b with
      | true =>
        refine Tr.seqR rfl (by simp) (Tr.condF rfl (Tr.skip ?_))
        exact Wk.le (.cons rfl (.refl _) (.cons rfl (.refl _) (.cons rfl (.refl _) .nil))) (.cons rfl (LLe.refl _) (.cons rfl (LLe.refl _) (.cons rfl (LLe.refl _) .nil))) .nil rfl rfl
      | false =>
        refine Tr.seqR rfl (by simp) (Tr.condT rfl ?_)
        refine Tr.reg (Steps.run rfl (by simp) (Steps.call rfl rfl (c_ofP p) (Steps.fin rfl (by simp) ?_)))
        exact Wk.le (.cons rfl (.refl _) (.cons rfl (.refl _) (.cons rfl (.refl _) .nil))) (.cons rfl (LLe.refl _) (.cons rfl (LLe.refl _) (.cons rfl (LLe.refl _) .nil))) .nil rfl rfl
    refine Tr.drawK (TraceK.run rfl (by simp) (TraceK.call rfl rfl (c_ofP p) (TraceK.call rfl rfl (c_combined c_span (if b then f else ofF p) (ofF p)) (TraceK.run rfl (by simp) (.done ⟨by kernel_rfl, by kernel_rfl, ?_⟩)))))
    refine ⟨{ env := [], bx := [(2, ⟨fourC (hullS (l.take (m + 1))).1, false⟩), (3, ⟨[.bool (hullS (l.take (m + 1))).2], false⟩)], rw := [], log := [], stp := false }, ?_, ⟨m + 1, by omega, ?_, rfl, rfl, rfl⟩, rfl⟩
    · rw [eH]
      exact Wk.le .nil (.cons rfl (LLe.refl _) (.cons rfl (LLe.refl _) .nil)) .nil rfl rfl
    · rw [List.take_add_one, hb]; simp
  · rintro ⟨env, bx, rw, log, stp⟩ henv hstp ⟨m, hm, hpre, hbx, hrw, hlog⟩
    simp only at hbx hrw hlog henv hstp
    subst hbx hrw hlog henv hstp
    have hml : m = l.length := by
      have := congrArg List.length hpre
      simp at this; omega
    subst hml
    rw [List.take_length]
    refine Tr.regR rfl (by simp) (TrN.succ ?_)
    refine Tr.seqR rfl (by simp) (Tr.seq (Tr.condF rfl (Tr.exit ?_)))
    exact Tr.seqD rfl (by simp) (by kernel_rfl) (Tr.retX rfl rfl rfl rfl trivial)
  · intro e t _ h; exact h.elim

theorem c_tight {f : Fr} (hf : midF f) (h : (hullS (endsL f)).2 = true) : C Tryd.prog F.region_four_tight [.agg (fourC f)] (.tuple [.agg (fourC (hullS (endsL f)).1), I 0]) := by
  have kh := c_hull (plain_fr f) (i_ends hf)
  rw [h] at kh
  refine C_of mixed chk.region_four_tight (by simp) fun S ok => ?_
  refine Tr.seqR rfl (by simp) (Tr.seqC rfl (by simp) (Steps.call rfl rfl (c_ends f) (Steps.run rfl (by simp) (Steps.call rfl rfl kh (Steps.fin rfl (by simp) ?_)))))
  refine Tr.seq (Tr.seqR rfl (by simp) (Tr.condF rfl (Tr.skip ?_)))
  exact Tr.seqR rfl (by simp) (Tr.retX rfl rfl rfl rfl trivial)

end Go.Proofs.YtffoiccokigjcaaDoor

/-! What a slot holds becomes data (the boxes that it leads to are shut for good). -/
set_option linter.unusedVariables false
set_option linter.unusedSimpArgs false
namespace Go.Proofs.YtffoiccokigjcaaDoor
open Go.Am

theorem wkData {E : Env} {s : St} {t : Nat} {v u : V} {ids : List Nat} (ht : get s.env t = some v) (hd : toDs s.fs.b [v] = some ([u], ids)) : Wk E s ((s.eff { v := nothing, wb := Am.freeze s.fs.b ids }).put (some t) u) := by
  intro a w h R
  obtain ⟨q1, q2, _⟩ := R.1.env t _ (by rw [fs_g]; exact ht)
  obtain ⟨h1, R1, ext, b1, g1, y1, hrep⟩ := args_data R.1 hd
  have rd : RepD w h1.φ u (a.tmps.getD t undef) := (hrep #[a.tmps.getD t undef] rfl (fun i v' x e1 e2 => by
    cases i with
    | zero => simp at e1 e2; subst e1 e2; simpa using q2
    | succ i => simp at e1)).2 0 u _ rfl rfl
  have R2 := R1.put (d := t) q1 (.data rd) (GrowV.of_data rd)
  rw [put_self (by rw [R.1.size]; exact q1)] at R2
  refine ⟨h1, ⟨?_, by rw [y1]; exact R.2⟩, y1⟩
  have e : ((s.eff { v := nothing, wb := Am.freeze s.fs.b ids }).put (some t) u).fs = (((Am.freeze s.fs.b ids).foldl (fun τ p => τ.set (.bx p.1) (.b p.2)) s.fs)).set (.slot t) (.v u) := by
    rw [fs_put, fs_eff]; rfl
  have e2 : ∀ (l : List (Nat × Box)) (s : St), (l.foldl (fun s p => s.setB p.1 p.2) s).log = s.log ∧ (l.foldl (fun s p => s.setB p.1 p.2) s).stp = s.stp := by
    intro l
    induction l with
    | nil => intro s; exact ⟨rfl, rfl⟩
    | cons p l ih => intro s; exact ih _
  have e3 := e2 (Am.freeze s.fs.b ids) s
  show Rel E.nt E.S _ _ _ a w h1
  rw [e]
  have e4 : ((s.eff { v := nothing, wb := Am.freeze s.fs.b ids }).put (some t) u).log = s.log := e3.1
  have e5 : ((s.eff { v := nothing, wb := Am.freeze s.fs.b ids }).put (some t) u).stp = s.stp := e3.2
  rw [e4, e5]
  exact R2

/-- Weakening inside a region. -/
theorem stepsWk {E : Env} {s s' : St} {i : Ins} {r : List Ins} {K : St → Prop} (h : Wk E s s') (k : Am.Steps E (i :: r) K s') : Am.Steps E (i :: r) K s := by
  refine Step1.raw fun slots ops o j ro n a w hh hc hs hi R Q next hn => ?_
  obtain ⟨h', R', hy⟩ := h a w hh R
  exact step_ok (k : Step1 E i (Am.Steps E r K) s') hc hs hi R' fun s'' a' w' h'' k R ey => hn s'' a' w' h'' k R (ey.trans hy)

end Go.Proofs.YtffoiccokigjcaaDoor

/-! Contracts: grids; the cell of two places. -/
set_option linter.unusedVariables false
set_option linter.unusedSimpArgs false
set_option maxRecDepth 20000
set_option maxHeartbeats 2000000
namespace Go.Proofs.YtffoiccokigjcaaDoor
open Go.Am
attribute [local simp] cells scalar mkv splice under2 under dem dem1 eB

def planeB (p : Int × Int) : Bool := btw p.1 (-32768) 32768 && btw p.2 (-32768) 32768

theorem into_ne {l n : Int} (h : ¬ (-l ≤ n ∧ n ≤ l)) (hl : 0 ≤ l) : intoL l n ≠ n := by unfold intoL; omega

theorem c_CheckPointF (p : Int × Int) : C Tryd.prog F.region_CheckPoint [eB p] (I (if planeB p then 0 else 10)) := by
  by_cases h : planeB p = true
  · rw [if_pos h]
    simp only [planeB, Bool.and_eq_true, btw_iff] at h
    exact c_CheckPoint (by unfold inPlane; omega)
  rw [if_neg h]
  have h : planeB p = false := by simpa using h
  refine C_of mixed chk.region_CheckPoint (by simp) fun S ok => ?_
  have k1 := c_into (l := 32768) p.1 (by omega)
  have k2 := c_into (l := 32768) p.2 (by omega)
  refine Tr.seqR rfl (by simp) (Tr.seq (Tr.seqR rfl (by simp) (Tr.block ?_)))
  refine Tr.rounds 3 (TrN.succ ?_)
  refine Tr.seqR rfl (by simp) (Tr.seq (Tr.condT rfl (Tr.skip (Tr.seq (Tr.block (Tr.seqR rfl (by simp) ?_))))))
  refine Tr.seqC rfl (by simp) (Steps.call rfl rfl k1 (Steps.fin rfl (by simp) (Tr.cond rfl rfl (fun _ => Tr.seqR rfl (by simp) (Tr.retX rfl rfl rfl rfl trivial)) (fun h1 => Tr.skip (Tr.regR rfl (by simp) (TrN.succ ?_))))))
  refine Tr.seqR rfl (by simp) (Tr.seq (Tr.condT rfl (Tr.skip (Tr.seq (Tr.block (Tr.seqR rfl (by simp) ?_))))))
  refine Tr.seqC rfl (by simp) (Steps.call rfl rfl k2 (Steps.fin rfl (by simp) (Tr.cond rfl rfl (fun _ => Tr.seqR rfl (by simp) (Tr.retX rfl rfl rfl rfl trivial)) (fun h2 => ?_))))
  exfalso
  have h1 : (intoL 32768 p.1 != p.1) = false := h1
  have h2 : (intoL 32768 p.2 != p.2) = false := h2
  simp at h1 h2
  have g1 : -32768 ≤ p.1 ∧ p.1 ≤ 32768 := by
    by_cases g : -32768 ≤ p.1 ∧ p.1 ≤ 32768
    · exact g
    · exact absurd h1 (into_ne g (by omega))
  have g2 : -32768 ≤ p.2 ∧ p.2 ≤ 32768 := by
    by_cases g : -32768 ≤ p.2 ∧ p.2 ≤ 32768
    · exact g
    · exact absurd h2 (into_ne g (by omega))
  have : planeB p = true := by simp only [planeB, Bool.and_eq_true, btw_iff]; omega
  rw [h] at this; cases this

/-! ### Grids -/
structure Gd where
  o : Int × Int
  size : Int
  a : Int
  d : Int
  cls : List (Int × Int)

def gridC (g : Gd) : List V := [I g.o.1, I g.o.2, I g.size, I g.a, I g.d, sB g.cls]
attribute [local simp] gridC sB

def clsOk : Int → List (Int × Int) → Bool
  | _, [] => true
  | last, c :: r => decide (last < c.1) && decide (c.1 ≤ c.2) && decide (c.2 ≤ 17179869184) && clsOk c.2 r

def gridOk (g : Gd) : Bool := planeB g.o && btw g.size 1 1000 && btw g.a 1 16 && btw g.d 1 16 && btw g.cls.length 1 4 && clsOk (-1) g.cls

theorem cls_drop {l : List (Int × Int)} {k : Nat} (h : k < l.length) (last : Int) : clsOk last (l.drop k) = (decide (last < l[k].1) && decide (l[k].1 ≤ l[k].2) && decide (l[k].2 ≤ 17179869184) && clsOk l[k].2 (l.drop (k + 1))) := by
  rw [List.drop_eq_getElem_cons h]; rfl

theorem c_CheckGrid {g : Gd} (hl : g.cls.length ≤ 9223372036854775807) : C Tryd.prog F.bin_CheckGrid [.agg (gridC g)] (I (if gridOk g then 0 else 70)) := by
  refine C_of mixed chk.bin_CheckGrid (by simp) fun S ok => ?_
  refine Tr.seqR rfl (by simp) ?_
  refine Tr.seq (Tr.seqC rfl (by simp) (Steps.call rfl rfl (c_CheckPointF g.o) (Steps.run rfl (by simp) ?_)))
  refine Steps.gcall rfl rfl rfl rfl (by simp) (fun _ => c_within g.size 1 1000) (Steps.run rfl (by simp) ?_)
  refine Steps.gcall rfl rfl rfl rfl (by simp) (fun _ => c_within g.a 1 16) (Steps.run rfl (by simp) ?_)
  refine Steps.gcall rfl rfl rfl rfl (by simp) (fun _ => c_within g.d 1 16) (Steps.run rfl (by simp) ?_)
  refine Steps.gcall rfl rfl rfl rfl (by simp) (fun _ => c_within ((g.cls.map eB).length : Int) 1 4) (Steps.fin rfl (by simp) ?_)
  have hlen : (((g.cls.map eB).length : Int)) = (g.cls.length : Int) := by simp
  refine Tr.cond rfl rfl (fun h1 => ?_) (fun h1 => Tr.skip ?_)
  · refine Tr.seqR rfl (by simp) (Tr.retX rfl rfl rfl ?_ trivial)
    have : gridOk g = false := by
      revert h1
      simp only [gridOk, hlen]
      cases planeB g.o <;> cases btw g.size 1 1000 <;> cases btw g.a 1 16 <;> cases btw g.d 1 16 <;> cases btw (g.cls.length : Int) 1 4 <;> first | (intro _; rfl) | (intro h; cases h)
    rw [this]; rfl
  have hok : gridOk g = clsOk (-1) g.cls := by
    revert h1
    simp only [gridOk, hlen]
    cases planeB g.o <;> cases btw g.size 1 1000 <;> cases btw g.a 1 16 <;> cases btw g.d 1 16 <;> cases btw (g.cls.length : Int) 1 4 <;> first | (intro _; rfl) | (intro h; cases h)
  rw [hok]
  refine Tr.seqR rfl (by simp) (Tr.seq (Tr.seqR rfl (by simp) (Tr.block ?_)))
  refine Tr.loop (α := Nat × Int) (fun p s => (p.1 ≤ g.cls.length ∧ clsOk (-1) g.cls = clsOk p.2 (g.cls.drop p.1)) ∧ s = { env := [(3, I p.2), (36, sB g.cls), (37, I (g.cls.length : Nat)), (38, I (p.1 : Nat))], bx := [], rw := [], log := [], stp := false }) (fun p => g.cls.length - p.1) (0, -1)
    (Wk.le (.cons rfl (.refl _) (.cons rfl (.refl _) (.cons rfl (VLe.i hlen) (.cons rfl (.refl _) .nil)))) .nil .nil rfl rfl) ⟨⟨by simp, by simp⟩, rfl⟩ ?_
  rintro ⟨k, last⟩ s ⟨⟨hk, hf⟩, rfl⟩
  simp only at hk hf
  refine Tr.seqR rfl (by simp) (Tr.seqI rfl (fun h2 => ?_) (fun h2 => ?_))
  · have h2 : k < g.cls.length := by simpa using h2
    rw [cls_drop h2] at hf
    refine Tr.skipT (Tr.seq (Tr.block (Tr.seq (Tr.reg (Steps.runN 1 rfl (by simp; omega) ?_)))))
    rw [getD_map h2]
    refine Steps.fin rfl (by simp) (Tr.seq (Tr.seqR rfl (by simp) (Tr.cond rfl rfl (fun h3 => ?_) (fun h3 => Tr.skip ?_))))
    · refine Tr.seqR rfl (by simp) (Tr.retX rfl rfl rfl ?_ trivial)
      have : clsOk (-1) g.cls = false := by
        rw [hf]
        have h3 : (bif (bif decide (g.cls[k].1 ≤ last) then true else decide (g.cls[k].1 > g.cls[k].2)) then true else decide (g.cls[k].2 > 17179869184)) = true := h3
        by_cases a1 : g.cls[k].1 ≤ last
        · rw [decide_eq_false (by omega : ¬ last < g.cls[k].1)]; rfl
        · by_cases a2 : g.cls[k].1 > g.cls[k].2
          · rw [decide_eq_false (by omega : ¬ g.cls[k].1 ≤ g.cls[k].2)]; simp
          · rw [decide_eq_false a1, decide_eq_false a2] at h3
            simp only [cond_false, decide_eq_true_eq] at h3
            rw [decide_eq_false (by omega : ¬ g.cls[k].2 ≤ 17179869184)]; simp
      rw [this]; rfl
    · have h3 : (bif (bif decide (g.cls[k].1 ≤ last) then true else decide (g.cls[k].1 > g.cls[k].2)) then true else decide (g.cls[k].2 > 17179869184)) = false := h3
      have h3' : (last < g.cls[k].1 ∧ g.cls[k].1 ≤ g.cls[k].2) ∧ g.cls[k].2 ≤ 17179869184 := by
        by_cases a1 : g.cls[k].1 ≤ last
        · rw [decide_eq_true a1] at h3; cases h3
        · by_cases a2 : g.cls[k].1 > g.cls[k].2
          · rw [decide_eq_false a1, decide_eq_true a2] at h3; cases h3
          · rw [decide_eq_false a1, decide_eq_false a2] at h3
            simp only [cond_false, decide_eq_false_iff_not] at h3
            omega
      rw [decide_eq_true h3'.1.1, decide_eq_true h3'.1.2, decide_eq_true h3'.2] at hf
      refine Tr.regR rfl (by simp) (Tr.regR rfl (by simp) ?_)
      exact ⟨(k + 1, g.cls[k].2), _, Wk.le (.cons rfl (.refl _) (.cons rfl (.refl _) (.cons rfl (.refl _) (.cons rfl (VLe.i (w64 (by omega) (by omega))) .nil)))) .nil .nil rfl rfl, ⟨⟨by simp; omega, by simpa using hf⟩, rfl⟩, by simp; omega⟩
  · have h2 : k = g.cls.length := by simp at h2; omega
    subst h2
    rw [List.drop_length] at hf
    refine Tr.exit (Tr.seqR rfl (by simp) (Tr.retX rfl rfl rfl ?_ trivial))
    rw [hf]; rfl

end Go.Proofs.YtffoiccokigjcaaDoor

/-! Contracts: the cell of two places. -/
set_option linter.unusedVariables false
set_option linter.unusedSimpArgs false
set_option maxRecDepth 20000
set_option maxHeartbeats 2000000
namespace Go.Proofs.YtffoiccokigjcaaDoor
open Go.Am
attribute [local simp] cells scalar mkv splice under2 under dem dem1 eB gridC sB

theorem floor_eq {a b : Int} (hb : 0 < b) : (if a.tmod b < 0 then a.tdiv b - 1 else a.tdiv b) = a / b := by
  have h1 := Int.mul_tdiv_add_tmod a b
  have h2 := Int.tmod_lt_of_pos a hb
  have h3 := Int.lt_tmod_of_pos a hb
  split
  · rename_i h
    refine ((Int.ediv_emod_unique hb (r := a.tmod b + b) (q := a.tdiv b - 1)).2 ⟨?_, by omega, by omega⟩).1.symm
    rw [Int.mul_sub]; omega
  · refine ((Int.ediv_emod_unique hb (r := a.tmod b) (q := a.tdiv b)).2 ⟨by omega, by omega, by omega⟩).1.symm

theorem tdiv_bd {a b : Int} (hb : 0 < b) {K : Int} (h : -K ≤ a ∧ a ≤ K) : -K ≤ a.tdiv b ∧ a.tdiv b ≤ K := by
  have h1 := Int.natAbs_tdiv_le_natAbs a b
  omega

theorem c_floor {a b : Int} (hb : 0 < b) (ha : -1000000000000 ≤ a ∧ a ≤ 1000000000000) : C Tryd.prog F.bin_floor [I a, I b] (I (a / b)) := by
  have hq := tdiv_bd hb ha
  have e := floor_eq (a := a) hb
  have ew : IntKind.wrap .i64 (a.tdiv b) = a.tdiv b := w64 (by omega) (by omega)
  refine C_of mixed chk.bin_floor (by simp) fun S ok => ?_
  refine Tr.seqR rfl (by simp) (Tr.seqR rfl (by simp; omega) ?_)
  refine Tr.seq (Tr.seqR rfl (by simp; omega) (Tr.cond rfl rfl (fun h => Tr.regR rfl (by simp) ?_) (fun h => Tr.skip ?_)))
  · have h : a.tmod b < 0 := by simpa using h
    rw [if_pos h] at e
    refine Tr.seqR rfl (by simp) (Tr.retX rfl rfl rfl ?_ trivial)
    rw [← e]
    show I (a.tdiv b - 1) = I (IntKind.wrap .i64 (IntKind.wrap .i64 (a.tdiv b) - 1))
    rw [ew, w64 (by omega) (by omega)]
  · have h : ¬ a.tmod b < 0 := by simpa using h
    rw [if_neg h] at e
    refine Tr.seqR rfl (by simp) (Tr.retX rfl rfl rfl ?_ trivial)
    rw [← e]
    show I (a.tdiv b) = I (IntKind.wrap .i64 (a.tdiv b))
    rw [ew]

/-- The class of a squared distance. -/
def clsAt (n : Int) : List (Int × Int) → Nat → Option Nat
  | [], _ => none
  | c :: r, i => if btw n c.1 c.2 then some i else clsAt n r (i + 1)

theorem clsAt_drop {l : List (Int × Int)} {k : Nat} (h : k < l.length) (n : Int) : clsAt n (l.drop k) k = if btw n l[k].1 l[k].2 then some k else clsAt n (l.drop (k + 1)) (k + 1) := by
  rw [List.drop_eq_getElem_cons h]; rfl

def colN (g : Gd) (a b : Int × Int) : Int := (a.1 + b.1 - 2 * g.o.1) / (2 * g.size)
def rowN (g : Gd) (a b : Int × Int) : Int := (a.2 + b.2 - 2 * g.o.2) / (2 * g.size)
def sqN (a b : Int × Int) : Int := (a.1 - b.1) * (a.1 - b.1) + (a.2 - b.2) * (a.2 - b.2)
def cellN (g : Gd) (a b : Int × Int) : Int × Int :=
  if btw (colN g a b) 0 (g.a - 1) && btw (rowN g a b) 0 (g.d - 1) then (match clsAt (sqN a b) g.cls 0 with | some i => (rowN g a b * g.a + colN g a b, (i : Int)) | none => (-1, -1)) else (-1, -1)

theorem gridOk_spec {g : Gd} (h : gridOk g = true) : ((-32768 ≤ g.o.1 ∧ g.o.1 ≤ 32768) ∧ -32768 ≤ g.o.2 ∧ g.o.2 ≤ 32768) ∧ (1 ≤ g.size ∧ g.size ≤ 1000) ∧ (1 ≤ g.a ∧ g.a ≤ 16) ∧ (1 ≤ g.d ∧ g.d ≤ 16) ∧ (1 ≤ g.cls.length ∧ g.cls.length ≤ 4) ∧ clsOk (-1) g.cls = true := by
  simp only [gridOk, planeB, Bool.and_eq_true, btw_iff] at h
  obtain ⟨⟨⟨⟨⟨h1, h2⟩, h3⟩, h4⟩, h5⟩, h6⟩ := h
  exact ⟨h1, h2, h3, h4, by omega, h6⟩

theorem planeB_spec {p : Int × Int} (h : planeB p = true) : (-32768 ≤ p.1 ∧ p.1 ≤ 32768) ∧ -32768 ≤ p.2 ∧ p.2 ≤ 32768 := by
  simpa only [planeB, Bool.and_eq_true, btw_iff] using h

theorem sq64 {x : Int} (h : -65536 ≤ x ∧ x ≤ 65536) : 0 ≤ x * x ∧ x * x ≤ 4294967296 := by
  have h1 : 0 ≤ x * x := by
    rcases Int.le_total 0 x with h | h
    · exact Int.mul_nonneg h h
    · have := Int.mul_nonneg (Int.neg_nonneg_of_nonpos h) (Int.neg_nonneg_of_nonpos h)
      rwa [Int.neg_mul_neg] at this
  have h2 := Int.mul_nonneg (show 0 ≤ 65536 - x by omega) (show 0 ≤ 65536 + x by omega)
  rw [Int.sub_mul, Int.mul_add, Int.mul_add, Int.mul_comm x 65536] at h2
  omega

theorem c_cell {g : Gd} (hg : gridOk g = true) {a b : Int × Int} (ha : planeB a = true) (hb : planeB b = true) : C Tryd.prog F.bin_cell [.agg (gridC g), eB a, eB b] (eB (cellN g a b)) := by
  obtain ⟨ho, hsz, hga, hgd, hcl, _⟩ := gridOk_spec hg
  have ha' := planeB_spec ha
  have hb' := planeB_spec hb
  have k1 := c_floor (a := a.1 + b.1 - 2 * g.o.1) (b := 2 * g.size) (by omega) (by omega)
  have k2 := c_floor (a := a.2 + b.2 - 2 * g.o.2) (b := 2 * g.size) (by omega) (by omega)
  have e1 : IntKind.wrap .i64 (IntKind.wrap .i64 (a.1 + b.1) - IntKind.wrap .i64 (2 * g.o.1)) = a.1 + b.1 - 2 * g.o.1 := by
    rw [w64 (n := a.1 + b.1) (by omega) (by omega), w64 (n := 2 * g.o.1) (by omega) (by omega), w64 (by omega) (by omega)]
  have e2 : IntKind.wrap .i64 (IntKind.wrap .i64 (a.2 + b.2) - IntKind.wrap .i64 (2 * g.o.2)) = a.2 + b.2 - 2 * g.o.2 := by
    rw [w64 (n := a.2 + b.2) (by omega) (by omega), w64 (n := 2 * g.o.2) (by omega) (by omega), w64 (by omega) (by omega)]
  have e3 : IntKind.wrap .i64 (2 * g.size) = 2 * g.size := w64 (by omega) (by omega)
  rw [← e1, ← e3] at k1
  rw [← e2, ← e3] at k2
  refine C_of mixed chk.bin_cell (by simp) fun S ok => ?_
  refine Tr.seqR rfl (by simp) ?_
  refine Tr.seq (Tr.drawK (TraceK.run rfl (by simp) (TraceK.call rfl rfl k1 (TraceK.run rfl (by simp) (TraceK.call rfl rfl k2 ?_)))))
  refine TraceK.run rfl (by simp) (.done ⟨by kernel_rfl, by kernel_rfl, ?_⟩)
  refine Tr.weak (s' := { env := [(3, .ptr 3 0), (4, .ptr 4 0), (5, .ptr 5 0), (6, .ptr 6 0), (7, I (colN g a b)), (8, I (rowN g a b))], bx := [(3, ⟨gridC g, false⟩), (4, ⟨[I a.1, I a.2], false⟩), (5, ⟨[I b.1, I b.2], false⟩), (6, ⟨[I 0, I 0], false⟩)], rw := [], log := [], stp := false })
    (Wk.le (.cons rfl (.refl _) (.cons rfl (.refl _) (.cons rfl (.refl _) (.cons rfl (.refl _) (.cons rfl (VLe.i ?_) (.cons rfl (VLe.i ?_) .nil)))))) (.cons rfl (LLe.refl _) (.cons rfl (LLe.refl _) (.cons rfl (LLe.refl _) (.cons rfl (LLe.refl _) .nil)))) .nil rfl rfl) ?_
  · rw [e1, e3]; rfl
  · rw [e2, e3]; rfl
  have hwa : IntKind.wrap .i64 (g.a - 1) = g.a - 1 := w64 (by omega) (by omega)
  have hwd : IntKind.wrap .i64 (g.d - 1) = g.d - 1 := w64 (by omega) (by omega)
  refine Tr.seq (Tr.seqC rfl (by simp) (Steps.call rfl rfl (c_within (colN g a b) 0 (IntKind.wrap .i64 (g.a - 1))) (Steps.run rfl (by simp) ?_)))
  refine Steps.gcall rfl rfl rfl rfl (by simp) (fun _ => c_within (rowN g a b) 0 (IntKind.wrap .i64 (g.d - 1))) (Steps.fin rfl (by simp) ?_)
  rw [hwa, hwd]
  have hnone : ∀ {s : St} {K : St → Prop} {d : Nat} {rest : List Ins}, Am.Steps (env0 Tryd.prog mixed 96 S ok) rest K (s.put (some d) (.agg [I (-1), I (-1)])) → Am.Steps (env0 Tryd.prog mixed 96 S ok) (⟨some d, .load 2 true, [.c (.rptr 0 0)], none⟩ :: rest) K s := fun h =>
    Steps.gload (g := 0) (cs := [I (-1), I (-1)]) (by simp [globalsV]) rfl (by simp) h
  refine Tr.cond rfl rfl (fun h1 => ?_) (fun h1 => Tr.skip ?_)
  · refine Tr.seq (Tr.reg (hnone (Steps.fin rfl (by simp) (Tr.retX rfl rfl rfl ?_ trivial))))
    have : (btw (colN g a b) 0 (g.a - 1) && btw (rowN g a b) 0 (g.d - 1)) = false := by
      revert h1
      cases btw (colN g a b) 0 (g.a - 1) <;> cases btw (rowN g a b) 0 (g.d - 1) <;> first | (intro _; rfl) | (intro h; cases h)
    simp [packR, cellN, this]
  have hin : (btw (colN g a b) 0 (g.a - 1) && btw (rowN g a b) 0 (g.d - 1)) = true := by
    revert h1
    cases btw (colN g a b) 0 (g.a - 1) <;> cases btw (rowN g a b) 0 (g.d - 1) <;> first | (intro _; rfl) | (intro h; cases h)
  have hin2 := hin
  simp only [Bool.and_eq_true, btw_iff] at hin2
  have s1 := sq64 (x := a.1 - b.1) (by omega)
  have s2 := sq64 (x := a.2 - b.2) (by omega)
  have w1 : IntKind.wrap .i64 (a.1 - b.1) = a.1 - b.1 := w64 (by omega) (by omega)
  have w2 : IntKind.wrap .i64 (a.2 - b.2) = a.2 - b.2 := w64 (by omega) (by omega)
  refine Tr.seqD rfl (by simp) (by kernel_rfl) ?_
  refine Tr.seq (Tr.seqR rfl (by simp) (Tr.block ?_))
  refine Tr.loop (fun (k : Nat) s => (k ≤ g.cls.length ∧ clsAt (sqN a b) g.cls 0 = clsAt (sqN a b) (g.cls.drop k) k) ∧ s = { env := [(3, .ptr 3 0), (6, .ptr 6 0), (7, I (colN g a b)), (8, I (rowN g a b)), (9, I (a.1 - b.1)), (10, I (a.2 - b.2)), (67, sB g.cls), (68, I (g.cls.length : Nat)), (69, I (k : Nat))], bx := [(3, ⟨gridC g, false⟩), (6, ⟨[I 0, I 0], false⟩)], rw := [], log := [], stp := false }) (fun k => g.cls.length - k) 0
    (Wk.le (.cons rfl (.refl _) (.cons rfl (.refl _) (.cons rfl (.refl _) (.cons rfl (.refl _) (.cons rfl (VLe.i w1) (.cons rfl (VLe.i w2) (.cons rfl (.refl _) (.cons rfl (VLe.i (by simp)) (.cons rfl (.refl _) .nil))))))))) (.cons rfl (LLe.refl _) (.cons rfl (LLe.refl _) .nil)) .nil rfl rfl) ⟨⟨by omega, by simp⟩, rfl⟩ ?_
  rintro k s ⟨⟨hk, hf⟩, rfl⟩
  refine Tr.seqR rfl (by simp) (Tr.seqI rfl (fun h2 => ?_) (fun h2 => ?_))
  · have h2 : k < g.cls.length := by simpa using h2
    rw [clsAt_drop h2] at hf
    have w3 : IntKind.wrap .i64 ((a.1 - b.1) * (a.1 - b.1)) = (a.1 - b.1) * (a.1 - b.1) := w64 (by omega) (by omega)
    have w4 : IntKind.wrap .i64 ((a.2 - b.2) * (a.2 - b.2)) = (a.2 - b.2) * (a.2 - b.2) := w64 (by omega) (by omega)
    have w5 : IntKind.wrap .i64 (IntKind.wrap .i64 ((a.1 - b.1) * (a.1 - b.1)) + IntKind.wrap .i64 ((a.2 - b.2) * (a.2 - b.2))) = sqN a b := by rw [w3, w4]; exact w64 (by omega) (by omega)
    have kw := c_within (sqN a b) g.cls[k].1 g.cls[k].2
    rw [← w5] at kw
    refine Tr.skipT (Tr.seq (Tr.block (Tr.seq (Tr.reg (Steps.runN 2 rfl (by simp; omega) ?_)))))
    rw [getD_map h2]
    refine Steps.fin rfl (by simp) (Tr.seqC rfl (by simp) (Steps.call rfl rfl kw (Steps.fin rfl (by simp) ?_)))
    rw [w5]
    refine Tr.cond rfl rfl (fun h3 => ?_) (fun h3 => Tr.skip (Tr.regR rfl (by simp) ?_))
    · have h3 : btw (sqN a b) g.cls[k].1 g.cls[k].2 = true := h3
      rw [if_pos h3] at hf
      refine Tr.seqR rfl (by simp) (Tr.retX rfl rfl rfl ?_ trivial)
      have m1 : 0 ≤ rowN g a b * g.a ∧ rowN g a b * g.a ≤ 256 := by
        refine ⟨Int.mul_nonneg (by omega) (by omega), ?_⟩
        have := Int.mul_le_mul (show rowN g a b ≤ 16 by omega) (show g.a ≤ 16 by omega) (by omega) (by omega)
        omega
      have e : IntKind.wrap .i64 (IntKind.wrap .i64 (rowN g a b * g.a) + colN g a b) = rowN g a b * g.a + colN g a b := by
        rw [w64 (n := rowN g a b * g.a) (by omega) (by omega), w64 (by omega) (by omega)]
      show eB (cellN g a b) = .agg [I (IntKind.wrap .i64 (IntKind.wrap .i64 (rowN g a b * g.a) + colN g a b)), I (k : Int)]
      rw [e]
      simp [cellN, hin, hf]
    · have h3 : btw (sqN a b) g.cls[k].1 g.cls[k].2 = false := h3
      rw [h3, if_neg (by simp)] at hf
      exact ⟨k + 1, _, Wk.le (.cons rfl (.refl _) (.cons rfl (.refl _) (.cons rfl (.refl _) (.cons rfl (.refl _) (.cons rfl (.refl _) (.cons rfl (.refl _) (.cons rfl (.refl _) (.cons rfl (.refl _) (.cons rfl (VLe.i (w64 (by omega) (by omega))) .nil))))))))) (.cons rfl (LLe.refl _) (.cons rfl (LLe.refl _) .nil)) .nil rfl rfl, ⟨⟨h2, hf⟩, rfl⟩, by omega⟩
  · have h2 : k = g.cls.length := by simp at h2; omega
    subst h2
    rw [List.drop_length] at hf
    refine Tr.exit (Tr.seq (Tr.reg (hnone (Steps.fin rfl (by simp) (Tr.retX rfl rfl rfl ?_ trivial)))))
    simp [packR, cellN, hin, hf, clsAt]

end Go.Proofs.YtffoiccokigjcaaDoor

/-! Contracts: layouts. -/
set_option linter.unusedVariables false
set_option linter.unusedSimpArgs false
set_option maxRecDepth 20000
set_option maxHeartbeats 2000000
namespace Go.Proofs.YtffoiccokigjcaaDoor
open Go.Am
attribute [local simp] cells scalar mkv splice under2 under dem dem1 eB gridC sB fourC

theorem c_Cell {g : Gd} (hl : g.cls.length ≤ 9223372036854775807) (a b : Int × Int) : C Tryd.prog F.bin_Cell [.agg (gridC g), eB a, eB b] (if gridOk g then (if planeB a && planeB b then .tuple [eB (cellN g a b), I 0] else .tuple [.agg [I 0, I 0], I 10]) else .tuple [.agg [I 0, I 0], I 70]) := by
  have kg := c_CheckGrid (g := g) hl
  refine C_of mixed chk.bin_Cell (by simp) fun S ok => ?_
  refine Tr.seqR rfl (by simp) ?_
  by_cases hg : gridOk g = true
  rotate_left
  · rw [if_neg hg] at kg
    refine Tr.seq (Tr.seqC rfl (by simp) (Steps.call rfl rfl kg (Steps.fin rfl (by simp) (Tr.seqR rfl (by simp) (Tr.condT rfl ?_)))))
    refine Tr.seqR rfl (by simp) (Tr.retX rfl rfl rfl ?_ trivial)
    rw [if_neg hg]; rfl
  rw [if_pos hg] at kg ⊢
  refine Tr.seq (Tr.seqC rfl (by simp) (Steps.call rfl rfl kg (Steps.fin rfl (by simp) (Tr.seqR rfl (by simp) (Tr.condF rfl (Tr.skip ?_))))))
  refine Tr.seq (Tr.seqC rfl (by simp) (Steps.call rfl rfl (c_CheckPointF a) (Steps.run rfl (by simp) (Steps.gcall rfl rfl rfl rfl (by simp) (fun _ => c_CheckPointF b) (Steps.fin rfl (by simp) ?_)))))
  refine Tr.cond rfl rfl (fun h1 => ?_) (fun h1 => Tr.skip ?_)
  · refine Tr.seqR rfl (by simp) (Tr.retX rfl rfl rfl ?_ trivial)
    have : (planeB a && planeB b) = false := by
      revert h1
      cases planeB a <;> cases planeB b <;> first | (intro _; rfl) | (intro h; cases h)
    rw [this]; rfl
  have hp : planeB a = true ∧ planeB b = true := by
    revert h1
    cases planeB a <;> cases planeB b <;> first | (intro _; exact ⟨rfl, rfl⟩) | (intro h; cases h)
  refine Tr.seqC rfl (by simp) (Steps.call rfl rfl (c_cell hg hp.1 hp.2) (Steps.fin rfl (by simp) (Tr.retX rfl rfl rfl ?_ trivial)))
  rw [hp.1, hp.2]; rfl

/-! ### Regions, checked -/
def fitBB (l : Int) (b : Int × Int) : Bool := decide (-l ≤ b.1) && decide (b.1 ≤ b.2) && decide (b.2 ≤ l)
def fitFB (f : Fr) : Bool := fitBB 32768 f.x && fitBB 32768 f.y && fitBB 65536 f.s && fitBB 65536 f.d

theorem fitFB_iff (f : Fr) : fitFB f = true ↔ fitF f := by
  simp only [fitFB, fitBB, Bool.and_eq_true, decide_eq_true_eq, fitF, fitB]
  omega

theorem c_fitsF {l : Int} (b : Int × Int) (hl : 0 ≤ l ∧ l ≤ 65536) : C Tryd.prog F.region_limit_fits [I l, eB b] (.bool (fitBB l b)) := by
  refine C_of mixed chk.region_limit_fits (by simp) fun S ok => ?_
  have e : IntKind.wrap .i64 (0 - l) = -l := by rw [w64 (by omega) (by omega)]; omega
  refine Tr.seqR rfl (by simp) (Tr.seqR rfl (by simp) (Tr.retQ rfl rfl ?_ trivial))
  show V.bool (fitBB l b) = .bool (bif (bif decide (b.1 ≥ IntKind.wrap .i64 (0 - l)) then decide (b.1 ≤ b.2) else false) then decide (b.2 ≤ l) else false)
  rw [e, fitBB]
  congr 1
  by_cases h1 : -l ≤ b.1 <;> by_cases h2 : b.1 ≤ b.2 <;> simp [h1, h2]

theorem c_CheckF (f : Fr) : C Tryd.prog F.region_Check [.agg (fourC f)] (I (if fitFB f then 0 else 11)) := by
  refine C_of mixed chk.region_Check (by simp) fun S ok => ?_
  refine Tr.seqR rfl (by simp) (Tr.seqR rfl (by simp) (Tr.seq (Tr.seqC rfl (by simp) (Steps.call rfl rfl (c_bounds f) (Steps.fin rfl (by simp) (Tr.block ?_))))))
  refine Tr.rounds 5 (TrN.succ ?_)
  refine Tr.weak (s' := { env := [(3, .ptr 3 0), (12, .agg (fourC f)), (13, I 0)], bx := [(3, ⟨[.func (.func F.region_limit_fits) [I 32768] [], .func (.func F.region_limit_fits) [I 32768] [], .func (.func F.region_limit_fits) [I 65536] [], .func (.func F.region_limit_fits) [I 65536] []], false⟩)], rw := [], log := [], stp := false })
    (Wk.le (.cons rfl (.refl _) (.cons rfl (.refl _) (.cons rfl (VLe.i rfl) .nil))) (.cons rfl (LLe.refl _) .nil) .nil rfl rfl) ?_
  refine Tr.seqR rfl (by simp) (Tr.seq (Tr.condT rfl (Tr.skip (Tr.seq (Tr.block (Tr.seqR rfl (by simp) (Tr.seq ?_)))))))
  refine Tr.drawK (TraceK.run rfl (by simp) (TraceK.callv rfl rfl (c_fitsF (l := 32768) f.x (by omega)) (TraceK.run rfl (by simp) (.done ⟨by kernel_rfl, by kernel_rfl, ?_⟩))))
  refine Tr.cond rfl rfl (fun h0 => Tr.seqR rfl (by simp) (Tr.retX rfl rfl rfl ?_ trivial)) (fun h0 => Tr.skip (Tr.regR rfl (by simp) (TrN.succ ?_)))
  · have h0 : fitBB 32768 f.x = false := by simpa using h0
    simp [packR, fitFB, h0]
  have h0 : fitBB 32768 f.x = true := by simpa using h0
  refine Tr.weak (s' := { env := [(3, .ptr 3 0), (12, .agg (fourC f)), (13, I 1)], bx := [(3, ⟨[.func (.func F.region_limit_fits) [I 32768] [], .func (.func F.region_limit_fits) [I 32768] [], .func (.func F.region_limit_fits) [I 65536] [], .func (.func F.region_limit_fits) [I 65536] []], false⟩)], rw := [], log := [], stp := false })
    (Wk.le (.cons rfl (.refl _) (.cons rfl (.refl _) (.cons rfl (VLe.i rfl) .nil))) (.cons rfl (LLe.refl _) .nil) .nil rfl rfl) ?_
  refine Tr.seqR rfl (by simp) (Tr.seq (Tr.condT rfl (Tr.skip (Tr.seq (Tr.block (Tr.seqR rfl (by simp) (Tr.seq ?_)))))))
  refine Tr.drawK (TraceK.run rfl (by simp) (TraceK.callv rfl rfl (c_fitsF (l := 32768) f.y (by omega)) (TraceK.run rfl (by simp) (.done ⟨by kernel_rfl, by kernel_rfl, ?_⟩))))
  refine Tr.cond rfl rfl (fun h1 => Tr.seqR rfl (by simp) (Tr.retX rfl rfl rfl ?_ trivial)) (fun h1 => Tr.skip (Tr.regR rfl (by simp) (TrN.succ ?_)))
  · have h1 : fitBB 32768 f.y = false := by simpa using h1
    simp [packR, fitFB, h1]
  have h1 : fitBB 32768 f.y = true := by simpa using h1
  refine Tr.weak (s' := { env := [(3, .ptr 3 0), (12, .agg (fourC f)), (13, I 2)], bx := [(3, ⟨[.func (.func F.region_limit_fits) [I 32768] [], .func (.func F.region_limit_fits) [I 32768] [], .func (.func F.region_limit_fits) [I 65536] [], .func (.func F.region_limit_fits) [I 65536] []], false⟩)], rw := [], log := [], stp := false })
    (Wk.le (.cons rfl (.refl _) (.cons rfl (.refl _) (.cons rfl (VLe.i rfl) .nil))) (.cons rfl (LLe.refl _) .nil) .nil rfl rfl) ?_
  refine Tr.seqR rfl (by simp) (Tr.seq (Tr.condT rfl (Tr.skip (Tr.seq (Tr.block (Tr.seqR rfl (by simp) (Tr.seq ?_)))))))
  refine Tr.drawK (TraceK.run rfl (by simp) (TraceK.callv rfl rfl (c_fitsF (l := 65536) f.s (by omega)) (TraceK.run rfl (by simp) (.done ⟨by kernel_rfl, by kernel_rfl, ?_⟩))))
  refine Tr.cond rfl rfl (fun h2 => Tr.seqR rfl (by simp) (Tr.retX rfl rfl rfl ?_ trivial)) (fun h2 => Tr.skip (Tr.regR rfl (by simp) (TrN.succ ?_)))
  · have h2 : fitBB 65536 f.s = false := by simpa using h2
    simp [packR, fitFB, h2]
  have h2 : fitBB 65536 f.s = true := by simpa using h2
  refine Tr.weak (s' := { env := [(3, .ptr 3 0), (12, .agg (fourC f)), (13, I 3)], bx := [(3, ⟨[.func (.func F.region_limit_fits) [I 32768] [], .func (.func F.region_limit_fits) [I 32768] [], .func (.func F.region_limit_fits) [I 65536] [], .func (.func F.region_limit_fits) [I 65536] []], false⟩)], rw := [], log := [], stp := false })
    (Wk.le (.cons rfl (.refl _) (.cons rfl (.refl _) (.cons rfl (VLe.i rfl) .nil))) (.cons rfl (LLe.refl _) .nil) .nil rfl rfl) ?_
  refine Tr.seqR rfl (by simp) (Tr.seq (Tr.condT rfl (Tr.skip (Tr.seq (Tr.block (Tr.seqR rfl (by simp) (Tr.seq ?_)))))))
  refine Tr.drawK (TraceK.run rfl (by simp) (TraceK.callv rfl rfl (c_fitsF (l := 65536) f.d (by omega)) (TraceK.run rfl (by simp) (.done ⟨by kernel_rfl, by kernel_rfl, ?_⟩))))
  refine Tr.cond rfl rfl (fun h3 => Tr.seqR rfl (by simp) (Tr.retX rfl rfl rfl ?_ trivial)) (fun h3 => Tr.skip (Tr.regR rfl (by simp) (TrN.succ ?_)))
  · have h3 : fitBB 65536 f.d = false := by simpa using h3
    simp [packR, fitFB, h3]
  have h3 : fitBB 65536 f.d = true := by simpa using h3
  refine Tr.seqR rfl (by simp) (Tr.seq (Tr.condF rfl (Tr.exit ?_)))
  refine Tr.seqR rfl (by simp) (Tr.retX rfl rfl rfl ?_ trivial)
  simp [packR, fitFB, h0, h1, h2, h3]

theorem mid_of {f : Fr} (h : fitFB f = true) : midF f := by
  have h := (fitFB_iff f).1 h
  obtain ⟨⟨⟨h1, h2, h3⟩, h4, h5, h6⟩, ⟨h7, h8, h9⟩, h10, h11, h12⟩ := h
  unfold midF; omega

/-! ### How many places -/
def rowM (r : Int × Int × Int) : Int := r.2.2 - r.2.1 + 1
def countN (f : Fr) : Int := ((rowsL f).map rowM).foldl (· + ·) 0

theorem rows_bd {f : Fr} (h : midF f) : ∀ (n : Nat) (x : Int) (r : Int × Int × Int), r ∈ rowsN f n x → -1000000 ≤ r.2.1 ∧ r.2.1 ≤ r.2.2 ∧ r.2.2 ≤ 1000000
  | 0, x, r, hr => by cases hr
  | n + 1, x, r, hr => by
    simp only [rowsN] at hr
    split at hr
    · rename_i h1
      rcases List.mem_cons.1 hr with rfl | hr
      · obtain ⟨_, ⟨⟨h2, h3⟩, h4, h5⟩, _⟩ := h
        refine ⟨?_, h1, ?_⟩
        · show -1000000 ≤ lowY f x
          unfold lowY; omega
        · show highY f x ≤ 1000000
          unfold highY; omega
      · exact rows_bd h n (x + 1) r hr
    · exact rows_bd h n (x + 1) r hr

theorem rowsN_len (f : Fr) : ∀ (n : Nat) (x : Int), (rowsN f n x).length ≤ n
  | 0, x => by simp [rowsN]
  | n + 1, x => by
    have := rowsN_len f n (x + 1)
    simp only [rowsN]
    split <;> simp <;> omega

theorem sum_bd : ∀ (l : List (Int × Int × Int)) (a : Int), (∀ r ∈ l, -1000000 ≤ r.2.1 ∧ r.2.1 ≤ r.2.2 ∧ r.2.2 ≤ 1000000) → a ≤ (l.map rowM).foldl (· + ·) a ∧ (l.map rowM).foldl (· + ·) a ≤ a + l.length * 2000001
  | [], a, _ => by simp
  | r :: l, a, h => by
    have h1 := h r (by simp)
    have h2 := sum_bd l (a + rowM r) (fun r hr => h r (by simp [hr]))
    simp only [List.map_cons, List.foldl_cons, List.length_cons]
    unfold rowM at h2 ⊢
    push_cast
    omega

theorem c_Count (f : Fr) : C Tryd.prog F.region_Count [.agg (fourC f)] (if fitFB f then .tuple [I (countN f), I 0] else .tuple [I 0, I 11]) := by
  have kc := c_CheckF f
  refine C_of mixed chk.region_Count (by simp) fun S ok => ?_
  refine Tr.seqR rfl (by simp) ?_
  by_cases hf : fitFB f = true
  rotate_left
  · rw [if_neg hf] at kc
    refine Tr.seq (Tr.seqC rfl (by simp) (Steps.call rfl rfl kc (Steps.fin rfl (by simp) (Tr.seqR rfl (by simp) (Tr.condT rfl ?_)))))
    refine Tr.seqR rfl (by simp) (Tr.retX rfl rfl rfl ?_ trivial)
    rw [if_neg hf]; rfl
  rw [if_pos hf] at kc ⊢
  have hm := mid_of hf
  have hlen : (rowsL f).length ≤ 2000001 := by
    have h1 := rowsN_len f (f.x.2 + 1 - f.x.1).toNat f.x.1
    obtain ⟨⟨⟨h2, h3⟩, h4, h5⟩, _⟩ := hm
    unfold rowsL; omega
  have hrb : ∀ r ∈ rowsL f, -1000000 ≤ r.2.1 ∧ r.2.1 ≤ r.2.2 ∧ r.2.2 ≤ 1000000 := fun r hr => rows_bd hm _ _ r hr
  refine Tr.seq (Tr.seqC rfl (by simp) (Steps.call rfl rfl kc (Steps.fin rfl (by simp) (Tr.seqR rfl (by simp) (Tr.condF rfl (Tr.skip ?_))))))
  refine Tr.seqR rfl (by simp) (Tr.seq (Tr.seqC rfl (by simp) (Steps.call rfl rfl (c_bounds f) (Steps.call rfl rfl (c_rows f) (Steps.fin rfl (by simp) (Tr.block ?_))))))
  refine Tr.weak (s' := { env := [(14, .func (.func F.region_four_rows_1) [] [.vptr (fourC f) 0]), (5, .ptr 5 0)], bx := [(5, ⟨[I 0], false⟩)], rw := [], log := [], stp := false })
    (Wk.le (.cons rfl (.refl _) (.cons rfl (.refl _) .nil)) (.cons rfl (LLe.refl _) .nil) .nil rfl rfl) ?_
  refine Tr.range rfl rfl (i_rows hm) rfl rfl rfl (by intro x hx; obtain ⟨b, _, rfl⟩ := List.mem_map.1 hx; rfl)
    (fun pre t => ∃ m, m ≤ (rowsL f).length ∧ pre = ((rowsL f).take m).map eRow ∧ t.bx = [(5, ⟨[I ((((rowsL f).take m).map rowM).foldl (· + ·) 0)], false⟩)] ∧ t.rw = [] ∧ t.log = [])
    (fun _ _ => False) ⟨0, by omega, rfl, rfl, rfl, rfl⟩ ?_ ?_ ?_
  · rintro a0 L0 rc0 h0 S1 S2 ok1 ok2 pre q t lp hpre ⟨m, hm', rfl, hbx, hrw, hlog⟩ henv hstp
    obtain ⟨env, bx, rw, log, stp⟩ := t
    simp only at hbx hrw hlog henv hstp
    subst hbx hrw hlog henv hstp
    have hmx : m < (rowsL f).length ∧ ∃ b, (rowsL f)[m]? = some b ∧ q = eRow b := by
      have h1 : (((rowsL f).take m).map eRow).length = m := by simp; omega
      have h2 := hpre.length_le
      simp at h2
      have hml : m < (rowsL f).length := by omega
      refine ⟨hml, _, List.getElem?_eq_getElem hml, ?_⟩
      have h3 := List.IsPrefix.getElem hpre (i := m) (by simp; omega)
      simp only [List.getElem_map] at h3
      rw [List.getElem_append_right (by omega)] at h3
      simpa using h3
    obtain ⟨hml, r, hb, rfl⟩ := hmx
    have hr := hrb r (List.mem_of_getElem? hb)
    have hs := sum_bd ((rowsL f).take m) 0 (fun r hr => hrb r (List.mem_of_mem_take hr))
    have hl2 : ((rowsL f).take m).length ≤ 2000001 := by rw [List.length_take]; omega
    have eT : ((rowsL f).take (m + 1)).map rowM = ((rowsL f).take m).map rowM ++ [rowM r] := by
      rw [List.take_add_one, hb, List.map_append]; rfl
    refine Tr.regR rfl (by simp) ?_
    refine Tr.block (Tr.regR rfl (by simp) ?_)
    refine ⟨{ env := [], bx := [(5, ⟨[I ((((rowsL f).take (m + 1)).map rowM).foldl (· + ·) 0)], false⟩)], rw := [], log := [], stp := false }, Wk.le .nil (.cons rfl (.cons (VLe.i ?_) .nil) .nil) .nil rfl rfl, ⟨m + 1, by omega, ?_, rfl, rfl, rfl⟩, rfl⟩
    · rw [eT, List.foldl_append]
      show IntKind.wrap .i64 ((((rowsL f).take m).map rowM).foldl (· + ·) 0 + IntKind.wrap .i64 (IntKind.wrap .i64 (r.2.2 - r.2.1) + 1)) = (((rowsL f).take m).map rowM).foldl (· + ·) 0 + rowM r
      unfold rowM at hs ⊢
      rw [w64 (n := r.2.2 - r.2.1) (by omega) (by omega), w64 (n := r.2.2 - r.2.1 + 1) (by omega) (by omega), w64 (by omega) (by omega)]
    · rw [List.take_add_one, hb]; simp
  · rintro ⟨env, bx, rw, log, stp⟩ henv hstp ⟨m, hm', hpre, hbx, hrw, hlog⟩
    simp only at hbx hrw hlog henv hstp
    subst hbx hrw hlog henv hstp
    have hml : m = (rowsL f).length := by
      have := congrArg List.length hpre
      simp at this; omega
    subst hml
    rw [List.take_length]
    exact Tr.seqR rfl (by simp) (Tr.retX rfl rfl rfl rfl trivial)
  · intro e t _ h; exact h.elim

end Go.Proofs.YtffoiccokigjcaaDoor

/-! Contracts: layouts, laid. -/
set_option linter.unusedVariables false
set_option linter.unusedSimpArgs false
set_option maxRecDepth 20000
set_option maxHeartbeats 2000000
namespace Go.Proofs.YtffoiccokigjcaaDoor
open Go.Am
attribute [local simp] cells scalar mkv splice under2 under dem dem1 eB gridC sB fourC

structure Ly where
  nodes : List Fr
  traces : List (Int × Int)

def eF (f : Fr) : V := .agg (fourC f)
def layC (s : Ly) : List V := [.slice 0 8 (s.nodes.map eF), .slice 0 2 (s.traces.map eB)]
attribute [local simp] eF layC
def nodeOk (f : Fr) : Bool := fitFB f && btw (countN f) 1 64
def traceOk (n : Nat) (t : Int × Int) : Bool := btw t.1 0 ((n : Int) - 1) && btw t.2 0 ((n : Int) - 1) && t.1 != t.2
def layOk (s : Ly) : Bool := decide (s.nodes.length ≤ 16) && decide (s.traces.length ≤ 64) && s.nodes.all nodeOk && s.traces.all (traceOk s.nodes.length)

theorem all_take_succ {α : Type} {p : α → Bool} {l : List α} {k : Nat} (h : k < l.length) : (l.take (k + 1)).all p = ((l.take k).all p && p l[k]) := by
  rw [List.take_add_one, List.getElem?_eq_getElem h, List.all_append]
  simp

theorem all_false {α : Type} {p : α → Bool} {l : List α} {k : Nat} (h : k < l.length) (hp : p l[k] = false) : l.all p = false := by
  rw [List.all_eq_false]
  exact ⟨_, List.getElem_mem h, by simp [hp]⟩

theorem c_CheckLayout {s : Ly} (hn : s.nodes.length ≤ 9223372036854775807) (ht : s.traces.length ≤ 9223372036854775807) : C Tryd.prog F.bin_CheckLayout [.agg (layC s)] (I (if layOk s then 0 else 71)) := by
  refine C_of mixed chk.bin_CheckLayout (by simp) fun S ok => ?_
  refine Tr.seqR rfl (by simp) (Tr.seq (Tr.seqR rfl (by simp) (Tr.cond rfl rfl (fun h1 => ?_) (fun h1 => Tr.skip ?_))))
  · refine Tr.seqR rfl (by simp) (Tr.retX rfl rfl rfl ?_ trivial)
    have h1 : (bif decide (((s.nodes.map eF).length : Int) > 16) then true else decide (((s.traces.map eB).length : Int) > 64)) = true := h1
    have : layOk s = false := by
      unfold layOk
      by_cases a1 : s.nodes.length ≤ 16
      · by_cases a2 : s.traces.length ≤ 64
        · simp at h1; omega
        · simp [a2]
      · simp [a1]
    rw [this]; rfl
  have h1 : (bif decide (((s.nodes.map eF).length : Int) > 16) then true else decide (((s.traces.map eB).length : Int) > 64)) = false := h1
  have hnl : s.nodes.length ≤ 16 ∧ s.traces.length ≤ 64 := by
    simp at h1; omega
  refine Tr.seq (Tr.seqR rfl (by simp) (Tr.block ?_))
  refine Tr.loop (fun (k : Nat) st => (k ≤ s.nodes.length ∧ (s.nodes.take k).all nodeOk = true) ∧ st = { env := [(1, .ptr 1 0), (20, .slice 0 8 (s.nodes.map eF)), (21, I (s.nodes.length : Nat)), (22, I (k : Nat))], bx := [(1, ⟨layC s, false⟩)], rw := [], log := [], stp := false }) (fun k => s.nodes.length - k) 0
    (Wk.le (.cons rfl (.refl _) (.cons rfl (.refl _) (.cons rfl (VLe.i (by simp)) (.cons rfl (.refl _) .nil)))) (.cons rfl (LLe.refl _) .nil) .nil rfl rfl) ⟨⟨by omega, by simp⟩, rfl⟩ ?_
  rintro k st ⟨⟨hk, hall⟩, rfl⟩
  refine Tr.seqR rfl (by simp) (Tr.seqI rfl (fun h2 => ?_) (fun h2 => ?_))
  · have h2 : k < s.nodes.length := by simpa using h2
    refine Tr.skipT (Tr.seq (Tr.block (Tr.seq (Tr.reg (Steps.runN 1 rfl (by simp; omega) ?_)))))
    rw [getD_map h2]
    refine Steps.fin rfl (by simp) ?_
    have kc := c_Count s.nodes[k]
    by_cases hf : fitFB s.nodes[k] = true
    · rw [if_pos hf] at kc
      refine Tr.seqC rfl (by simp) (Steps.call rfl rfl kc (Steps.fin rfl (by simp) ?_))
      refine Tr.seqC rfl (by simp) (Steps.gcall rfl rfl rfl rfl (by simp) (fun _ => c_within (countN s.nodes[k]) 1 64) (Steps.fin rfl (by simp) ?_))
      refine Tr.cond rfl rfl (fun h3 => ?_) (fun h3 => Tr.skip (Tr.regR rfl (by simp) ?_))
      · have h3 : btw (countN s.nodes[k]) 1 64 = false := by simpa using h3
        refine Tr.seqR rfl (by simp) (Tr.retX rfl rfl rfl ?_ trivial)
        have : layOk s = false := by
          unfold layOk
          rw [all_false (p := nodeOk) h2 (by simp [nodeOk, h3])]; simp
        rw [this]; rfl
      · have h3 : btw (countN s.nodes[k]) 1 64 = true := by simpa using h3
        exact ⟨k + 1, _, Wk.le (.cons rfl (.refl _) (.cons rfl (.refl _) (.cons rfl (.refl _) (.cons rfl (VLe.i (w64 (by omega) (by omega))) .nil)))) (.cons rfl (LLe.refl _) .nil) .nil rfl rfl, ⟨⟨h2, by rw [all_take_succ h2, hall]; simp [nodeOk, hf, h3]⟩, rfl⟩, by omega⟩
    · rw [if_neg hf] at kc
      refine Tr.seqC rfl (by simp) (Steps.call rfl rfl kc (Steps.fin rfl (by simp) ?_))
      refine Tr.seqC rfl (by simp) (Steps.off (want := false) (.bool true) rfl rfl rfl (Steps.fin rfl (by simp) ?_))
      refine Tr.condT rfl (Tr.seqR rfl (by simp) (Tr.retX rfl rfl rfl ?_ trivial))
      have : layOk s = false := by
        unfold layOk
        rw [all_false (p := nodeOk) h2 (by simp [nodeOk, hf])]; simp
      rw [this]; rfl
  have h2 : k = s.nodes.length := by simp at h2; omega
  subst h2
  rw [List.take_length] at hall
  refine Tr.exit (Tr.seq (Tr.seqR rfl (by simp) (Tr.block ?_)))
  refine Tr.loop (fun (k : Nat) st => (k ≤ s.traces.length ∧ (s.traces.take k).all (traceOk s.nodes.length) = true) ∧ st = { env := [(1, .ptr 1 0), (40, .slice 0 2 (s.traces.map eB)), (41, I (s.traces.length : Nat)), (42, I (k : Nat))], bx := [(1, ⟨layC s, false⟩)], rw := [], log := [], stp := false }) (fun k => s.traces.length - k) 0
    (Wk.le (.cons rfl (.refl _) (.cons rfl (.refl _) (.cons rfl (VLe.i (by simp)) (.cons rfl (.refl _) .nil)))) (.cons rfl (LLe.refl _) .nil) .nil rfl rfl) ⟨⟨by omega, by simp⟩, rfl⟩ ?_
  rintro k st ⟨⟨hk, hallT⟩, rfl⟩
  refine Tr.seqR rfl (by simp) (Tr.seqI rfl (fun h2 => ?_) (fun h2 => ?_))
  · have h2 : k < s.traces.length := by simpa using h2
    refine Tr.skipT (Tr.seq (Tr.block (Tr.seq (Tr.reg (Steps.runN 1 rfl (by simp; omega) ?_)))))
    rw [getD_map h2]
    refine Steps.fin rfl (by simp) ?_
    have hw1 : IntKind.wrap .i64 (((s.nodes.map eF).length : Int) - 1) = (s.nodes.length : Int) - 1 := by rw [List.length_map, w64 (by omega) (by omega)]
    refine Tr.seqC rfl (by simp) (Steps.call rfl rfl (c_within s.traces[k].1 0 (IntKind.wrap .i64 (((s.nodes.map eF).length : Int) - 1))) (Steps.run rfl (by simp) ?_))
    refine Steps.gcall rfl rfl rfl rfl (by simp) (fun _ => c_within s.traces[k].2 0 (IntKind.wrap .i64 (((s.nodes.map eF).length : Int) - 1))) (Steps.fin rfl (by simp) ?_)
    rw [hw1]
    have hT : traceOk s.nodes.length s.traces[k] = (btw s.traces[k].1 0 ((s.nodes.length : Int) - 1) && btw s.traces[k].2 0 ((s.nodes.length : Int) - 1) && !(s.traces[k].1 == s.traces[k].2)) := rfl
    refine Tr.cond rfl rfl (fun h3 => ?_) (fun h3 => Tr.skip (Tr.regR rfl (by simp) ?_))
    · refine Tr.seqR rfl (by simp) (Tr.retX rfl rfl rfl ?_ trivial)
      have hf : traceOk s.nodes.length s.traces[k] = false := by
        rw [hT]
        revert h3
        cases btw s.traces[k].1 0 ((s.nodes.length : Int) - 1) <;> cases btw s.traces[k].2 0 ((s.nodes.length : Int) - 1) <;> cases (s.traces[k].1 == s.traces[k].2) <;> first | (intro _; rfl) | (intro h; cases h)
      have : layOk s = false := by
        unfold layOk
        rw [all_false (p := traceOk s.nodes.length) h2 hf]; simp
      rw [this]; rfl
    · have hf : traceOk s.nodes.length s.traces[k] = true := by
        rw [hT]
        revert h3
        cases btw s.traces[k].1 0 ((s.nodes.length : Int) - 1) <;> cases btw s.traces[k].2 0 ((s.nodes.length : Int) - 1) <;> cases (s.traces[k].1 == s.traces[k].2) <;> first | (intro _; rfl) | (intro h; cases h)
      exact ⟨k + 1, _, Wk.le (.cons rfl (.refl _) (.cons rfl (.refl _) (.cons rfl (.refl _) (.cons rfl (VLe.i (w64 (by omega) (by omega))) .nil)))) (.cons rfl (LLe.refl _) .nil) .nil rfl rfl, ⟨⟨h2, by rw [all_take_succ h2, hallT, hf]; rfl⟩, rfl⟩, by omega⟩
  have h2 : k = s.traces.length := by simp at h2; omega
  subst h2
  rw [List.take_length] at hallT
  refine Tr.exit (Tr.seqR rfl (by simp) (Tr.retX rfl rfl rfl ?_ trivial))
  have : layOk s = true := by
    unfold layOk
    rw [hall, hallT, decide_eq_true hnl.1, decide_eq_true hnl.2]; rfl
  rw [this]; rfl

end Go.Proofs.YtffoiccokigjcaaDoor

/-! Contracts: the places of a region; pairs; layouts, laid. -/
set_option linter.unusedVariables false
set_option linter.unusedSimpArgs false
set_option maxRecDepth 20000
set_option maxHeartbeats 2000000
namespace Go.Proofs.YtffoiccokigjcaaDoor
open Go.Am
attribute [local simp] cells scalar mkv splice under2 under dem dem1 eB gridC sB fourC eF layC

/-! ### All places of a region -/
def ptsN (x : Int) : Nat → Int → List (Int × Int)
  | 0, _ => []
  | n + 1, y => (x, y) :: ptsN x n (y + 1)
def colP (r : Int × Int × Int) : List (Int × Int) := ptsN r.1 (r.2.2 + 1 - r.2.1).toNat r.2.1
def placesL (f : Fr) : List (Int × Int) := (rowsL f).flatMap colP
def colAt (f : Fr) (x : Int) : List (Int × Int) := ptsN x (highY f x + 1 - lowY f x).toNat (lowY f x)

theorem ptsN_len (x : Int) : ∀ (n : Nat) (y : Int), (ptsN x n y).length = n
  | 0, _ => rfl
  | n + 1, y => by simp [ptsN, ptsN_len x n]

theorem rowsN_flat (f : Fr) (n : Nat) (x : Int) : (rowsN f (n + 1) x).flatMap colP = colAt f x ++ (rowsN f n (x + 1)).flatMap colP := by
  simp only [rowsN]
  split
  · rfl
  · have : (highY f x + 1 - lowY f x).toNat = 0 := by omega
    unfold colAt
    rw [this]; rfl

theorem count_len {f : Fr} (hm : midF f) : ((placesL f).length : Int) = countN f := by
  have key : ∀ (l : List (Int × Int × Int)) (a : Int), (∀ r ∈ l, r.2.1 ≤ r.2.2) → a + ((l.flatMap colP).length : Int) = (l.map rowM).foldl (· + ·) a := by
    intro l
    induction l with
    | nil => intro a _; simp
    | cons r l ih =>
      intro a h
      have h1 := h r (by simp)
      rw [List.map_cons, List.foldl_cons, ← ih (a + rowM r) (fun r hr => h r (by simp [hr])), List.flatMap_cons, List.length_append, colP, ptsN_len]
      unfold rowM
      push_cast
      omega
  have := key (rowsL f) 0 (fun r hr => (rows_bd hm _ _ r hr).2.1)
  unfold placesL countN
  omega

theorem c_places {f : Fr} (h : nodeOk f = true) : C Tryd.prog F.bin_places [.agg (fourC f)] (.slice 0 2 ((placesL f).map eB)) := by
  simp only [nodeOk, Bool.and_eq_true, btw_iff] at h
  have hm := mid_of h.1
  have hcl := count_len hm
  have hPl : (placesL f).length ≤ 64 := by omega
  obtain ⟨⟨⟨hx1, hx2⟩, hx3, hx4⟩, ⟨⟨hy1, hy2⟩, hy3, hy4⟩, ⟨⟨hs1, hs2⟩, hs3, hs4⟩, ⟨hd1, hd2⟩, hd3, hd4⟩ := hm
  refine C_of mixed chk.bin_places (by simp) fun S ok => ?_
  refine Tr.seqR rfl (by simp) (Tr.seqR rfl (by simp) (Tr.seq (Tr.seqR rfl (by simp) (Tr.block ?_))))
  refine Tr.loop (α := Nat × List (Int × Int)) (fun p s => (p.1 ≤ (f.x.2 + 1 - f.x.1).toNat ∧ p.2 ++ (rowsN f ((f.x.2 + 1 - f.x.1).toNat - p.1) (f.x.1 + p.1)).flatMap colP = placesL f) ∧
      s = { env := [(1, .ptr 1 0), (3, .slice 54 2 (p.2.map eB)), (4, I (f.x.1 + p.1))], bx := [(1, ⟨fourC f, false⟩)], rw := [(53, p.2.length, 2, 23)], log := [], stp := false }) (fun p => (f.x.2 + 1 - f.x.1).toNat - p.1) (0, [])
    (Wk.le (.cons rfl (.refl _) (.cons rfl (.nil 54 2) (.cons rfl (VLe.i (by simp)) .nil))) (.cons rfl (LLe.refl _) .nil) (.new rfl .nil) rfl rfl) ⟨⟨by simp, by simp [placesL, rowsL]⟩, rfl⟩ ?_
  rintro ⟨k, out⟩ s ⟨⟨hk, hl⟩, rfl⟩
  simp only at hk hl
  refine Tr.seq (Tr.seqR rfl (by simp) (Tr.cond rfl rfl (fun h1 => Tr.skip ?_) (fun h1 => Tr.exit ?_)))
  · have h1 : f.x.1 + (k : Int) ≤ f.x.2 := by simpa using h1
    obtain ⟨x, hx⟩ : ∃ x, f.x.1 + (k : Int) = x := ⟨_, rfl⟩
    obtain ⟨n, hn⟩ : ∃ n, (f.x.2 + 1 - f.x.1).toNat - k = n + 1 := ⟨(f.x.2 + 1 - f.x.1).toNat - k - 1, by omega⟩
    have hn2 : (f.x.2 + 1 - f.x.1).toNat - (k + 1) = n := by omega
    have hx' : f.x.1 + ((k + 1 : Nat) : Int) = x + 1 := by omega
    rw [hn, hx, rowsN_flat] at hl
    rw [hx] at h1
    rw [hx]
    refine Tr.seq (Tr.block (Tr.seqR rfl (by simp) (Tr.block ?_)))
    obtain ⟨M, hM⟩ : ∃ M, (highY f x + 1 - lowY f x).toNat = M := ⟨_, rfl⟩
    have hcol : colAt f x = ptsN x M (lowY f x) := by unfold colAt; rw [hM]
    rw [hcol] at hl
    have hlow : -1000000 ≤ lowY f x ∧ highY f x ≤ 1000000 := by unfold lowY highY; omega
    have hlow2 : lowY f x ≤ 3000000 ∧ -3000000 ≤ highY f x := by unfold lowY highY; omega
    refine Tr.loop (α := Nat × List (Int × Int)) (fun p s => (p.1 ≤ M ∧ p.2 ++ (ptsN x (M - p.1) (lowY f x + p.1) ++ (rowsN f n (x + 1)).flatMap colP) = placesL f) ∧
        s = { env := [(1, .ptr 1 0), (3, .slice 54 2 (p.2.map eB)), (4, I (x)), (5, I (lowY f x + p.1))], bx := [(1, ⟨fourC f, false⟩)], rw := [(53, p.2.length, 2, 23)], log := [], stp := false }) (fun p => M - p.1) (0, out)
      (Wk.le (.cons rfl (.refl _) (.cons rfl (.refl _) (.cons rfl (.refl _) (.cons rfl (VLe.i ?_) .nil)))) (.cons rfl (LLe.refl _) .nil) (.cons rfl .nil) rfl rfl) ⟨⟨by simp, by simpa using hl⟩, rfl⟩ ?_
    · simp (disch := omega) only [cond_true, cond_false, ite_max, ite_min, w64]
      unfold lowY; omega
    rintro ⟨j, o2⟩ s ⟨⟨hj, hl2⟩, rfl⟩
    simp only at hj hl2
    have ho2 : o2.length ≤ 64 := by
      have := congrArg List.length hl2
      rw [List.length_append] at this; omega
    refine Tr.seq (Tr.seqN 15 rfl (by simp) ?_)
    refine stepsWk (s' := { env := [(1, .ptr 1 0), (3, .slice 54 2 (o2.map eB)), (4, I (x)), (5, I (lowY f x + j)), (30, I (lowY f x + j)), (44, I (highY f x))], bx := [(1, ⟨fourC f, false⟩)], rw := [(53, o2.length, 2, 23)], log := [], stp := false })
      (Wk.le (.cons rfl (.refl _) (.cons rfl (.refl _) (.cons rfl (.refl _) (.cons rfl (.refl _) (.cons rfl (.refl _) (.cons rfl (VLe.i ?_) .nil)))))) (.cons rfl (LLe.refl _) .nil) (.cons rfl .nil) rfl rfl) ?_
    · simp (disch := omega) only [cond_true, cond_false, ite_max, ite_min, w64, highY]
    refine Steps.fin rfl (by simp) (Tr.cond rfl rfl (fun h2 => Tr.skip ?_) (fun h2 => Tr.exit ?_))
    · have h2 : lowY f x + (j : Int) ≤ highY f x := by simpa using h2
      obtain ⟨q, hq⟩ : ∃ q, M - j = q + 1 := ⟨M - j - 1, by omega⟩
      have hq2 : M - (j + 1) = q := by omega
      have e1 : lowY f x + ((j + 1 : Nat) : Int) = lowY f x + j + 1 := by omega
      refine Tr.seq (Tr.block (Tr.regR rfl (by simp; omega) (Tr.regR rfl (by simp) ?_)))
      refine ⟨(j + 1, o2 ++ [(x, lowY f x + j)]), _, Wk.le (.cons rfl (.refl _) (.cons rfl (.of_eq (by simp)) (.cons rfl (.refl _) (.cons rfl (VLe.i ?_) .nil)))) (.cons rfl (LLe.refl _) .nil) (.cons ?_ .nil) rfl rfl, ⟨⟨by simp only; omega, ?_⟩, rfl⟩, by simp only; omega⟩
      · show IntKind.wrap .i64 (lowY f x + (j : Int) + 1) = _
        rw [w64 (by omega) (by omega)]; simp only; omega
      · show some _ = some _
        simp
      · simp only
        rw [hq2, e1, ← hl2, hq]
        simp [ptsN]
    · have h2 : ¬ lowY f x + (j : Int) ≤ highY f x := by simpa using h2
      rw [show M - j = 0 by omega] at hl2
      refine Tr.regR rfl (by simp) ?_
      refine ⟨(k + 1, o2), _, Wk.le (.cons rfl (.refl _) (.cons rfl (.refl _) (.cons rfl (VLe.i ?_) .nil))) (.cons rfl (LLe.refl _) .nil) (.cons rfl .nil) rfl rfl, ⟨⟨by simp only; omega, ?_⟩, rfl⟩, by simp only; omega⟩
      · show IntKind.wrap .i64 (x + 1) = f.x.1 + ((k + 1 : Nat) : Int)
        rw [w64 (by omega) (by omega)]; omega
      · simp only
        rw [hn2, hx']
        simpa [ptsN] using hl2
  · have h1 : ¬ f.x.1 + (k : Int) ≤ f.x.2 := by simpa using h1
    rw [show (f.x.2 + 1 - f.x.1).toNat - k = 0 by omega] at hl
    have e : out = placesL f := by simpa [rowsN] using hl
    refine Tr.seqR rfl (by simp) (Tr.retX rfl rfl rfl ?_ trivial)
    rw [← e]; rfl

end Go.Proofs.YtffoiccokigjcaaDoor

/-! Contracts: pairs; layouts, laid. -/
set_option linter.unusedVariables false
set_option linter.unusedSimpArgs false
set_option maxRecDepth 20000
set_option maxHeartbeats 2000000
namespace Go.Proofs.YtffoiccokigjcaaDoor
open Go.Am
attribute [local simp] cells scalar mkv splice under2 under dem dem1 eB gridC sB fourC eF layC

def pairsL (l m : List (Int × Int)) : List ((Int × Int) × (Int × Int)) := l.flatMap fun a => m.map fun b => (a, b)
def eP2 (p : (Int × Int) × (Int × Int)) : List V := [eB p.1, eB p.2]

theorem pairs_drop {l m : List (Int × Int)} {k : Nat} (h : k < l.length) : pairsL (l.drop k) m = (m.map fun b => (l[k], b)) ++ pairsL (l.drop (k + 1)) m := by
  rw [List.drop_eq_getElem_cons h]; rfl

theorem c_pairs (l m : List (Int × Int)) : C Tryd.prog F.bin_pairs [sB l, sB m] (.func (.func F.bin_pairs_1) [] [.vptr [sB l] 0, .vptr [sB m] 0]) := by
  refine C_of mixed chk.bin_pairs (by simp) fun S ok => ?_
  exact Tr.seqR rfl (by simp) (Tr.seqR rfl (by simp) (Tr.retQ rfl rfl rfl trivial))

theorem i_pairs {l m : List (Int × Int)} (hl : l.length ≤ 1000000) (hm : m.length ≤ 1000000) : Iter Tryd.prog F.bin_pairs_1 [.vptr [sB l] 0, .vptr [sB m] 0] ((pairsL l m).map eP2) := by
  refine Iter_of mixed chk.bin_pairs_1 (by simp) fun S ok => ?_
  refine Tr.seqR rfl (by simp) (Tr.block ?_)
  refine Tr.loop (α := Nat × List (List V)) (fun p s => (p.1 ≤ l.length ∧ p.2 ++ (pairsL (l.drop p.1) m).map eP2 = (pairsL l m).map eP2) ∧
      s = { env := [(0, .yld), (1, .vptr [sB l] 0), (2, .vptr [sB m] 0), (8, sB l), (9, I (l.length : Nat)), (10, I (p.1 : Nat))], bx := [], rw := [], log := p.2, stp := false }) (fun p => l.length - p.1) (0, [])
    (Wk.le (.cons rfl (.refl _) (.cons rfl (.refl _) (.cons rfl (.refl _) (.cons rfl (.refl _) (.cons rfl (VLe.i (by simp)) (.cons rfl (.refl _) .nil)))))) .nil .nil rfl rfl) ⟨⟨by simp, by simp⟩, rfl⟩ ?_
  rintro ⟨k, lg⟩ s ⟨⟨hk, hf⟩, rfl⟩
  simp only at hk hf
  refine Tr.seqR rfl (by simp) (Tr.seqI rfl (fun h1 => ?_) (fun h1 => ?_))
  · have h1 : k < l.length := by simpa using h1
    rw [pairs_drop h1, List.map_append, ← List.append_assoc] at hf
    have hf' : lg ++ ((m.drop 0).map fun b => eP2 (l[k], b)) ++ (pairsL (l.drop (k + 1)) m).map eP2 = (pairsL l m).map eP2 := by
      rw [List.map_map] at hf; rw [List.drop_zero]; exact hf
    refine Tr.skipT (Tr.seq (Tr.block (Tr.seq (Tr.reg (Steps.runN 1 rfl (by simp; omega) ?_)))))
    rw [getD_map h1]
    refine Steps.fin rfl (by simp) ?_
    refine Tr.seqR rfl (by simp) (Tr.block ?_)
    refine Tr.loop (α := Nat × List (List V)) (fun p s => (p.1 ≤ m.length ∧ p.2 ++ ((m.drop p.1).map fun b => eP2 (l[k], b)) ++ (pairsL (l.drop (k + 1)) m).map eP2 = (pairsL l m).map eP2) ∧
        s = { env := [(0, .yld), (1, .vptr [sB l] 0), (2, .vptr [sB m] 0), (8, sB l), (9, I (l.length : Nat)), (10, I (k : Nat)), (5, .ptr 5 0), (14, sB m), (15, I (m.length : Nat)), (16, I (p.1 : Nat))], bx := [(5, ⟨[I l[k].1, I l[k].2], false⟩)], rw := [], log := p.2, stp := false }) (fun p => m.length - p.1) (0, lg)
      (Wk.le (.cons rfl (.refl _) (.cons rfl (.refl _) (.cons rfl (.refl _) (.cons rfl (.refl _) (.cons rfl (.refl _) (.cons rfl (.refl _) (.cons rfl (.refl _) (.cons rfl (.refl _) (.cons rfl (VLe.i (by show ((m.map eB).length : Int) = (m.length : Int); rw [List.length_map])) (.cons rfl (.refl _) .nil)))))))))) (.cons rfl (LLe.refl _) .nil) .nil rfl rfl) ⟨⟨Nat.zero_le _, hf'⟩, rfl⟩ ?_
    rintro ⟨j, lg2⟩ s ⟨⟨hj, hf2⟩, rfl⟩
    simp only at hj hf2
    refine Tr.seqR rfl (by simp) (Tr.seqI rfl (fun h2 => ?_) (fun h2 => ?_))
    · have h2 : j < m.length := by simpa using h2
      have hp : lg2 ++ [eP2 (l[k], m[j])] ++ ((m.drop (j + 1)).map fun b => eP2 (l[k], b)) ++ (pairsL (l.drop (k + 1)) m).map eP2 = (pairsL l m).map eP2 := by
        rw [← hf2, List.drop_eq_getElem_cons h2, List.map_cons]
        simp only [List.append_assoc, List.cons_append, List.nil_append]
      refine Tr.skipT (Tr.seq (Tr.block (Tr.seq (Tr.reg (Steps.runN 1 rfl (by simp; omega) ?_)))))
      rw [getD_map h2]
      refine Steps.fin rfl (by simp) ?_
      refine Tr.seqC rfl (by simp) (Steps.yield rfl (by simp) rfl ⟨_, by rw [List.append_assoc] at hp; exact hp⟩ rfl (fun b => Steps.fin rfl (by simp) ?_))
      cases b with
      | false => exact Tr.condT rfl (Tr.ret ⟨.inl rfl, [], [], [], rfl, rfl, rfl⟩)
      | true =>
        refine Tr.condF rfl (Tr.skip (Tr.regR rfl (by simp) ?_))
        exact ⟨(j + 1, lg2 ++ [eP2 (l[k], m[j])]), _, Wk.le (.cons rfl (.refl _) (.cons rfl (.refl _) (.cons rfl (.refl _) (.cons rfl (.refl _) (.cons rfl (.refl _) (.cons rfl (.refl _) (.cons rfl (.refl _) (.cons rfl (.refl _) (.cons rfl (.refl _) (.cons rfl (VLe.i (w64 (by omega) (by omega))) .nil)))))))))) (.cons rfl (LLe.refl _) .nil) .nil rfl rfl, ⟨⟨by simp only; omega, hp⟩, rfl⟩, by simp only; omega⟩
    · have h2 : j = m.length := by simp at h2; omega
      subst h2
      rw [List.drop_length] at hf2
      refine Tr.exit (Tr.regR rfl (by simp) ?_)
      exact ⟨(k + 1, lg2), _, Wk.le (.cons rfl (.refl _) (.cons rfl (.refl _) (.cons rfl (.refl _) (.cons rfl (.refl _) (.cons rfl (.refl _) (.cons rfl (VLe.i (w64 (by omega) (by omega))) .nil)))))) .nil .nil rfl rfl, ⟨⟨by simp only; omega, by simpa using hf2⟩, rfl⟩, by simp only; omega⟩
  · have h1 : k = l.length := by simp at h1; omega
    subst h1
    rw [List.drop_length] at hf
    refine Tr.exit ⟨.inr ?_, [], [], [], rfl, rfl, rfl⟩
    have e : lg = (pairsL l m).map eP2 := by simpa [pairsL] using hf
    exact e

/-! ### Laid -/
structure Ld where
  g : Gd
  traces : List (Int × Int)
  places : List (List (Int × Int))

def laidC (l : Ld) : List V := gridC l.g ++ [sB l.traces, .slice 0 1 (l.places.map sB)]
def layD (g : Gd) (s : Ly) : Ld := ⟨g, s.traces, s.nodes.map placesL⟩

theorem layOk_spec {s : Ly} (h : layOk s = true) : (s.nodes.length ≤ 16 ∧ s.traces.length ≤ 64) ∧ (∀ f ∈ s.nodes, nodeOk f = true) ∧ ∀ t ∈ s.traces, traceOk s.nodes.length t = true := by
  simp only [layOk, Bool.and_eq_true, decide_eq_true_eq, List.all_eq_true] at h
  exact ⟨h.1.1, h.1.2, h.2⟩

theorem c_lay (g : Gd) {s : Ly} (h : layOk s = true) : C Tryd.prog F.bin_lay [.agg (gridC g), .agg (layC s)] (.agg (laidC (layD g s))) := by
  obtain ⟨⟨hn, ht⟩, hN, hT⟩ := layOk_spec h
  refine C_of mixed chk.bin_lay (by simp) fun S ok => ?_
  refine Tr.seqR rfl (by simp) (Tr.seqR rfl (by simp) (Tr.seq (Tr.seqR rfl (by simp) (Tr.block ?_))))
  refine Tr.loop (fun (k : Nat) st => k ≤ s.nodes.length ∧ st = { env := [(4, .ptr 4 0), (5, .ptr 5 0), (13, .slice 0 8 (s.nodes.map eF)), (14, I (s.nodes.length : Nat)), (15, I (k : Nat))], bx := [(4, ⟨[I 0, I 0, I 0, I 0, I 0, .nils, .nils, .nils], false⟩), (5, ⟨gridC g ++ [sB s.traces, .slice 25 1 (((s.nodes.take k).map placesL).map sB)], false⟩)], rw := [(24, k, 1, 98)], log := [], stp := false }) (fun k => s.nodes.length - k) 0
    (Wk.le (.cons rfl (.refl _) (.cons rfl (.refl _) (.cons rfl (.refl _) (.cons rfl (VLe.i (by simp)) (.cons rfl (.refl _) .nil))))) (.cons rfl (LLe.refl _) (.cons rfl (.cons (.refl _) (.cons (.refl _) (.cons (.refl _) (.cons (.refl _) (.cons (.refl _) (.cons (.refl _) (.cons (.refl _) (.cons (.nil 25 1) .nil)))))))) .nil)) (.new rfl .nil) rfl rfl) ⟨by omega, rfl⟩ ?_
  rintro k st ⟨hk, rfl⟩
  refine Tr.seqR rfl (by simp) (Tr.seqI rfl (fun h1 => ?_) (fun h1 => ?_))
  · have h1 : k < s.nodes.length := by simpa using h1
    have hlen : (((s.nodes.take k).map placesL).map sB).length = k := by simp; omega
    refine Tr.skipT (Tr.seq (Tr.block (Tr.seq (Tr.reg (Steps.runN 1 rfl (by simp; omega) ?_)))))
    rw [getD_map h1]
    refine Steps.fin rfl (by simp) ?_
    refine Tr.drawK (TraceK.run rfl (by simp) (TraceK.call rfl rfl (c_places (hN _ (List.getElem_mem h1))) ?_))
    refine TraceK.run rfl (by simp; omega) (.done ⟨by kernel_rfl, by kernel_rfl, ?_⟩)
    refine Tr.regR rfl (by simp) ?_
    have e : ((s.nodes.take (k + 1)).map placesL).map sB = ((s.nodes.take k).map placesL).map sB ++ [sB (placesL s.nodes[k])] := by
      rw [List.take_add_one, List.getElem?_eq_getElem h1, List.map_append, List.map_append]; rfl
    refine ⟨k + 1, _, Wk.le (.cons rfl (.refl _) (.cons rfl (.refl _) (.cons rfl (.refl _) (.cons rfl (.refl _) (.cons rfl (VLe.i (w64 (by omega) (by omega))) .nil))))) (.cons rfl (LLe.refl _) (.cons rfl (.cons (.refl _) (.cons (.refl _) (.cons (.refl _) (.cons (.refl _) (.cons (.refl _) (.cons (.refl _) (.cons (.refl _) (.cons (.of_eq ?_) .nil)))))))) .nil)) (.cons ?_ .nil) rfl rfl, ⟨h1, rfl⟩, by omega⟩
    · rw [e]; rfl
    · show some _ = some _
      simp; omega
  · have h1 : k = s.nodes.length := by simp at h1; omega
    subst h1
    rw [List.take_length]
    exact Tr.exit (Tr.seqR rfl (by simp) (Tr.retX rfl rfl rfl rfl trivial))

theorem c_begun {g : Gd} {s : Ly} (hl : g.cls.length ≤ 9223372036854775807) (hn : s.nodes.length ≤ 9223372036854775807) (ht : s.traces.length ≤ 9223372036854775807) : C Tryd.prog F.bin_begun [.agg (gridC g), .agg (layC s)]
    (if gridOk g then (if layOk s then .tuple [.agg (laidC (layD g s)), I 0] else .tuple [.agg [I 0, I 0, I 0, I 0, I 0, .nils, .nils, .nils], I 71]) else .tuple [.agg [I 0, I 0, I 0, I 0, I 0, .nils, .nils, .nils], I 70]) := by
  have kg := c_CheckGrid (g := g) hl
  have ks := c_CheckLayout (s := s) hn ht
  refine C_of mixed chk.bin_begun (by simp) fun S ok => ?_
  refine Tr.seqR rfl (by simp) ?_
  by_cases hg : gridOk g = true
  rotate_left
  · rw [if_neg hg] at kg ⊢
    refine Tr.seq (Tr.seqC rfl (by simp) (Steps.call rfl rfl kg (Steps.fin rfl (by simp) (Tr.seqR rfl (by simp) (Tr.condT rfl ?_)))))
    exact Tr.seqR rfl (by simp) (Tr.retX rfl rfl rfl rfl trivial)
  rw [if_pos hg] at kg ⊢
  refine Tr.seq (Tr.seqC rfl (by simp) (Steps.call rfl rfl kg (Steps.fin rfl (by simp) (Tr.seqR rfl (by simp) (Tr.condF rfl (Tr.skip ?_))))))
  by_cases hs : layOk s = true
  rotate_left
  · rw [if_neg hs] at ks ⊢
    refine Tr.seq (Tr.seqC rfl (by simp) (Steps.call rfl rfl ks (Steps.fin rfl (by simp) (Tr.seqR rfl (by simp) (Tr.condT rfl ?_)))))
    exact Tr.seqR rfl (by simp) (Tr.retX rfl rfl rfl rfl trivial)
  rw [if_pos hs] at ks ⊢
  refine Tr.seq (Tr.seqC rfl (by simp) (Steps.call rfl rfl ks (Steps.fin rfl (by simp) (Tr.seqR rfl (by simp) (Tr.condF rfl (Tr.skip ?_))))))
  exact Tr.seqC rfl (by simp) (Steps.call rfl rfl (c_lay g hs) (Steps.fin rfl (by simp [laidC]) (Tr.retX rfl rfl rfl rfl trivial)))

/-! ### Needs -/
def needOk (g : Gd) (l : List Int) : Bool := decide (l.length = g.cls.length) && !(l.any fun n => !btw n 0 100)

theorem c_need1 (n : Int) : C Tryd.prog F.bin_needed_1 [I n] (.bool (!btw n 0 100)) := by
  refine C_of mixed chk.bin_needed_1 (by simp) fun S ok => ?_
  exact Tr.seqR rfl (by simp) (Tr.seqC rfl (by simp) (Steps.call rfl rfl (c_within n 0 100) (Steps.fin rfl (by simp) (Tr.retX rfl rfl rfl rfl trivial))))

theorem c_needed {g : Gd} {l : List Int} (hl : l.length ≤ 9223372036854775807) : C Tryd.prog F.bin_needed [.agg (gridC g), intsV l] (.bool (needOk g l)) := by
  refine C_of mixed chk.bin_needed (by simp) fun S ok => ?_
  refine Tr.seqR rfl (by simp) ?_
  refine Tr.seqC rfl (by simp [intsV]) (Steps.gcall rfl rfl rfl rfl (by simp) (fun _ => c_containsI hl fun n _ => c_need1 n) (Steps.fin rfl (by simp) (Tr.retX rfl rfl rfl ?_ trivial)))
  show V.bool (needOk g l) = .bool (bif (((l.map I).length : Int) == ((g.cls.map eB).length : Int)) then !(l.any fun n => !btw n 0 100) else false)
  unfold needOk
  congr 1
  by_cases h : l.length = g.cls.length
  · simp [h]
  · have : ¬ ((l.length : Int) = (g.cls.length : Int)) := by omega
    simp [h, this]

def cmpN (a b : Int × Int) : Int := if a.1 ≠ b.1 then w (a.1 - b.1) else w (a.2 - b.2)

theorem c_ordered (a b : Int × Int) : C Tryd.prog F.bin_ordered [eB a, eB b] (I (cmpN a b)) := by
  refine C_of mixed chk.bin_ordered (by simp) fun S ok => ?_
  refine Tr.seqR rfl (by simp) (Tr.seq (Tr.seqR rfl (by simp) (Tr.cond rfl rfl (fun h => ?_) (fun h => Tr.skip ?_))))
  · have h : a.1 ≠ b.1 := by
      have h : (a.1 != b.1) = true := h
      simpa using h
    refine Tr.seqR rfl (by simp) (Tr.retX rfl rfl rfl ?_ trivial)
    unfold cmpN; rw [if_pos h]; rfl
  · have h : ¬ a.1 ≠ b.1 := by
      have h : (a.1 != b.1) = false := h
      simpa using h
    refine Tr.seqR rfl (by simp) (Tr.retX rfl rfl rfl ?_ trivial)
    unfold cmpN; rw [if_neg h]; rfl

end Go.Proofs.YtffoiccokigjcaaDoor

/-! Contracts: copies; infills, checked. -/
set_option linter.unusedVariables false
set_option linter.unusedSimpArgs false
set_option maxRecDepth 20000
set_option maxHeartbeats 2000000
namespace Go.Proofs.YtffoiccokigjcaaDoor
open Go.Am
attribute [local simp] cells scalar mkv splice under2 under dem dem1 eB

theorem c_CloneI {l : List Int} (hne : l ≠ []) (hl : l.length ≤ 2 ^ 24) : CO Tryd.prog F.slices_Clone_int_int [intsV l] 1 (l.map I) := by
  refine CO_of mixed chk.slices_Clone_int_int (by simp) fun S ok => ?_
  refine Tr.seqR rfl (by simp) (Tr.seq (Tr.seq (Tr.reg (Steps.runN 1 rfl (by simp) ?_))))
  refine Steps.nilS rfl fun b hb => ?_
  obtain rfl := hb (by simpa using hne)
  refine Steps.fin rfl (by simp) (Tr.condF rfl (Tr.skip (Tr.seq (Tr.reg ?_))))
  refine Steps.mkE rfl fun blk => Steps.runN 1 rfl (by simp) ?_
  refine Steps.appendE (r := 0) (sz := 1) (ys := l.map I) rfl rfl (by omega) (by simp; omega) (by simp; omega) (by simpa using hne) ?_
  refine Steps.fin rfl (by simp) (Tr.ret ?_)
  exact ⟨7, rfl, rfl, by rw [flat_ints]; exact ints_isD l⟩

theorem c_CloneI0 : C Tryd.prog F.slices_Clone_int_int [intsV []] (intsV []) := by
  refine C_of mixed chk.slices_Clone_int_int (by simp) fun S ok => ?_
  refine Tr.seqR rfl (by simp) (Tr.seq (Tr.seq (Tr.reg (Steps.runN 1 rfl (by simp) ?_))))
  refine Steps.nilS rfl fun b hb => ?_
  cases b with
  | true =>
    refine Steps.fin rfl (by simp) (Tr.condT rfl (Tr.seqR rfl (by simp) ?_))
    exact Tr.weak (s' := { env := [(2, intsV [])], bx := [], rw := [], log := [], stp := false }) (Wk.le (.cons rfl (.nil 0 1) .nil) .nil .nil rfl rfl) (Tr.retX rfl rfl rfl rfl trivial)
  | false =>
    refine Steps.fin rfl (by simp) (Tr.condF rfl (Tr.skip (Tr.seq (Tr.reg ?_))))
    refine Steps.mkE rfl fun blk => Steps.runN 1 rfl (by simp) ?_
    refine Steps.appendE0 (r := 0) (sz := 1) rfl ?_
    exact Steps.fin rfl (by simp) (Tr.retX rfl rfl rfl rfl trivial)

/-! ### Infills -/
structure Ps where
  cost : Int
  adds : List Int

structure Nf where
  lacks : List Int
  passes : List Ps

def eQ (p : Ps) : V := .agg [I p.cost, intsV p.adds]
def nfC (x : Nf) : List V := [intsV x.lacks, .slice 0 2 (x.passes.map eQ)]
attribute [local simp] eQ nfC intsV
def passOk (n : Nat) (p : Ps) : Bool := btw p.cost 1 1000 && decide (p.adds.length = n) && !(p.adds.any fun n => !btw n 0 100)
def nfOk (x : Nf) : Bool := decide (x.lacks.length ≤ 16) && decide (x.passes.length ≤ 10) && x.lacks.all (btw · 1 100) && x.passes.all (passOk x.lacks.length)

theorem c_inf1 (n : Int) : C Tryd.prog F.bin_CheckInfill_1 [I n] (.bool (!btw n 0 100)) := by
  refine C_of mixed chk.bin_CheckInfill_1 (by simp) fun S ok => ?_
  exact Tr.seqR rfl (by simp) (Tr.seqC rfl (by simp) (Steps.call rfl rfl (c_within n 0 100) (Steps.fin rfl (by simp) (Tr.retX rfl rfl rfl rfl trivial))))

theorem c_CheckInfill {x : Nf} (hx : ∀ p ∈ x.passes, p.adds.length ≤ 9223372036854775807) : C Tryd.prog F.bin_CheckInfill [.agg (nfC x)] (I (if nfOk x then 0 else 74)) := by
  refine C_of mixed chk.bin_CheckInfill (by simp) fun S ok => ?_
  refine Tr.seqR rfl (by simp) (Tr.seq (Tr.seqR rfl (by simp) (Tr.cond rfl rfl (fun h1 => ?_) (fun h1 => Tr.skip ?_))))
  · refine Tr.seqR rfl (by simp) (Tr.retX rfl rfl rfl ?_ trivial)
    have h1 : (bif decide (((x.lacks.map I).length : Int) > 16) then true else decide (((x.passes.map eQ).length : Int) > 10)) = true := h1
    have : nfOk x = false := by
      unfold nfOk
      by_cases a1 : x.lacks.length ≤ 16
      · by_cases a2 : x.passes.length ≤ 10
        · simp at h1; omega
        · simp [a2]
      · simp [a1]
    rw [this]; rfl
  have h1 : (bif decide (((x.lacks.map I).length : Int) > 16) then true else decide (((x.passes.map eQ).length : Int) > 10)) = false := h1
  have hnl : x.lacks.length ≤ 16 ∧ x.passes.length ≤ 10 := by
    simp at h1; omega
  refine Tr.seq (Tr.seqR rfl (by simp) (Tr.block ?_))
  refine Tr.loop (fun (k : Nat) st => (k ≤ x.lacks.length ∧ (x.lacks.take k).all (btw · 1 100) = true) ∧ st = { env := [(1, .ptr 1 0), (18, intsV x.lacks), (19, I (x.lacks.length : Nat)), (20, I (k : Nat))], bx := [(1, ⟨nfC x, false⟩)], rw := [], log := [], stp := false }) (fun k => x.lacks.length - k) 0
    (Wk.le (.cons rfl (.refl _) (.cons rfl (.refl _) (.cons rfl (VLe.i (by simp)) (.cons rfl (.refl _) .nil)))) (.cons rfl (LLe.refl _) .nil) .nil rfl rfl) ⟨⟨by omega, by simp⟩, rfl⟩ ?_
  rintro k st ⟨⟨hk, hall⟩, rfl⟩
  refine Tr.seqR rfl (by simp) (Tr.seqI rfl (fun h2 => ?_) (fun h2 => ?_))
  · have h2 : k < x.lacks.length := by simpa using h2
    refine Tr.skipT (Tr.seq (Tr.block (Tr.seq (Tr.reg (Steps.runN 1 rfl (by simp; omega) ?_)))))
    rw [getD_map h2]
    refine Steps.fin rfl (by simp) ?_
    refine Tr.seqC rfl (by simp) (Steps.call rfl rfl (c_within x.lacks[k] 1 100) (Steps.fin rfl (by simp) ?_))
    refine Tr.cond rfl rfl (fun h3 => ?_) (fun h3 => Tr.skip (Tr.regR rfl (by simp) ?_))
    · have h3 : btw x.lacks[k] 1 100 = false := by simpa using h3
      refine Tr.seqR rfl (by simp) (Tr.retX rfl rfl rfl ?_ trivial)
      have : nfOk x = false := by
        unfold nfOk
        rw [all_false (p := fun n => btw n 1 100) h2 h3]; simp
      rw [this]; rfl
    · have h3 : btw x.lacks[k] 1 100 = true := by simpa using h3
      exact ⟨k + 1, _, Wk.le (.cons rfl (.refl _) (.cons rfl (.refl _) (.cons rfl (.refl _) (.cons rfl (VLe.i (w64 (by omega) (by omega))) .nil)))) (.cons rfl (LLe.refl _) .nil) .nil rfl rfl, ⟨⟨h2, by rw [all_take_succ h2, hall, h3]; rfl⟩, rfl⟩, by omega⟩
  have h2 : k = x.lacks.length := by simp at h2; omega
  subst h2
  rw [List.take_length] at hall
  refine Tr.exit (Tr.seq (Tr.seqR rfl (by simp) (Tr.block ?_)))
  refine Tr.loop (fun (k : Nat) st => (k ≤ x.passes.length ∧ (x.passes.take k).all (passOk x.lacks.length) = true) ∧ st = { env := [(1, .ptr 1 0), (29, .slice 0 2 (x.passes.map eQ)), (30, I (x.passes.length : Nat)), (31, I (k : Nat))], bx := [(1, ⟨nfC x, false⟩)], rw := [], log := [], stp := false }) (fun k => x.passes.length - k) 0
    (Wk.le (.cons rfl (.refl _) (.cons rfl (.refl _) (.cons rfl (VLe.i (by simp)) (.cons rfl (.refl _) .nil)))) (.cons rfl (LLe.refl _) .nil) .nil rfl rfl) ⟨⟨by omega, by simp⟩, rfl⟩ ?_
  rintro k st ⟨⟨hk, hallT⟩, rfl⟩
  refine Tr.seqR rfl (by simp) (Tr.seqI rfl (fun h2 => ?_) (fun h2 => ?_))
  · have h2 : k < x.passes.length := by simpa using h2
    refine Tr.skipT (Tr.seq (Tr.block (Tr.seq (Tr.reg (Steps.runN 1 rfl (by simp; omega) ?_)))))
    rw [getD_map h2]
    refine Steps.fin rfl (by simp) ?_
    have hpl := hx _ (List.getElem_mem h2)
    refine Tr.seqC rfl (by simp) (Steps.call rfl rfl (c_within x.passes[k].cost 1 1000) (Steps.run rfl (by simp) ?_))
    refine Steps.gcall rfl rfl rfl rfl (by simp) (fun _ => c_containsI hpl fun n _ => c_inf1 n) (Steps.fin rfl (by simp) ?_)
    have hT : passOk x.lacks.length x.passes[k] = (btw x.passes[k].cost 1 1000 && decide (x.passes[k].adds.length = x.lacks.length) && !(x.passes[k].adds.any fun n => !btw n 0 100)) := rfl
    have hne : ((((x.passes[k].adds.map I).length : Int)) != (((x.lacks.map I).length : Int))) = !decide (x.passes[k].adds.length = x.lacks.length) := by
      by_cases h : x.passes[k].adds.length = x.lacks.length
      · simp [h]
      · have : ¬ ((x.passes[k].adds.length : Int) = (x.lacks.length : Int)) := by omega
        simp [h, this]
    refine Tr.cond rfl rfl (fun h3 => ?_) (fun h3 => Tr.skip (Tr.regR rfl (by simp) ?_))
    · refine Tr.seqR rfl (by simp) (Tr.retX rfl rfl rfl ?_ trivial)
      have hf : passOk x.lacks.length x.passes[k] = false := by
        rw [hT]
        revert h3
        simp only [hne]
        cases btw x.passes[k].cost 1 1000 <;> cases decide (x.passes[k].adds.length = x.lacks.length) <;> cases (x.passes[k].adds.any fun n => !btw n 0 100) <;> first | (intro _; rfl) | (intro h; cases h)
      have : nfOk x = false := by
        unfold nfOk
        rw [all_false (p := passOk x.lacks.length) h2 hf]; simp
      rw [this]; rfl
    · have hf : passOk x.lacks.length x.passes[k] = true := by
        rw [hT]
        revert h3
        simp only [hne]
        cases btw x.passes[k].cost 1 1000 <;> cases decide (x.passes[k].adds.length = x.lacks.length) <;> cases (x.passes[k].adds.any fun n => !btw n 0 100) <;> first | (intro _; rfl) | (intro h; cases h)
      exact ⟨k + 1, _, Wk.le (.cons rfl (.refl _) (.cons rfl (.refl _) (.cons rfl (.refl _) (.cons rfl (VLe.i (w64 (by omega) (by omega))) .nil)))) (.cons rfl (LLe.refl _) .nil) .nil rfl rfl, ⟨⟨h2, by rw [all_take_succ h2, hallT, hf]; rfl⟩, rfl⟩, by omega⟩
  have h2 : k = x.passes.length := by simp at h2; omega
  subst h2
  rw [List.take_length] at hallT
  refine Tr.exit (Tr.seqR rfl (by simp) (Tr.retX rfl rfl rfl ?_ trivial))
  have : nfOk x = true := by
    unfold nfOk
    rw [hall, hallT, decide_eq_true hnl.1, decide_eq_true hnl.2]; rfl
  rw [this]; rfl

end Go.Proofs.YtffoiccokigjcaaDoor

/-! Contracts: choices as numbers; sums; costs. -/
set_option linter.unusedVariables false
set_option linter.unusedSimpArgs false
set_option maxRecDepth 20000
set_option maxHeartbeats 2000000
namespace Go.Proofs.YtffoiccokigjcaaDoor
open Go.Am
attribute [local simp] cells scalar mkv splice under2 under dem dem1 eB eQ nfC intsV

/-! ### Bits -/
theorem bit_shr (b k : Nat) (hk : k < 64) : ((b : Int).fdiv (2 ^ (min (k : Int).toNat 64))).tmod 2 = if b.testBit k then 1 else 0 := by
  have e1 : min (k : Int).toNat 64 = k := by omega
  rw [e1, Nat.testBit_eq_decide_div_mod_eq]
  have e2 : ((2 : Int) ^ k) = ((2 ^ k : Nat) : Int) := by simp
  rw [e2]
  generalize 2 ^ k = m
  rw [Int.fdiv_eq_ediv_of_nonneg _ (Int.natCast_nonneg _), ← Int.natCast_ediv]
  generalize b / m = q
  have : ((q : Int)).tmod 2 = ((q % 2 : Nat) : Int) := by
    rw [Int.tmod_eq_emod_of_nonneg (Int.natCast_nonneg _)]; simp
  rw [this]
  have := Nat.mod_lt q (show 0 < 2 by omega)
  by_cases h : q % 2 = 1
  · simp [h]
  · have h0 : q % 2 = 0 := by omega
    simp [h0]

theorem bits_or (a b : Nat) (ha : a < 2 ^ 62) (hb : b < 2 ^ 62) : bitsV .or .i64 a b = ((a ||| b : Nat) : Int) := by
  have hlt : a ||| b < 2 ^ 62 := Nat.or_lt_two_pow ha hb
  show IntKind.wrap .i64 ((BitVec.ofInt 64 (a : Int) ||| BitVec.ofInt 64 (b : Int)).toNat : Int) = _
  have e : (BitVec.ofInt 64 (a : Int) ||| BitVec.ofInt 64 (b : Int)).toNat = a ||| b := by
    rw [BitVec.toNat_or, BitVec.ofInt_natCast, BitVec.ofInt_natCast, BitVec.toNat_ofNat, BitVec.toNat_ofNat, Nat.mod_eq_of_lt (by omega), Nat.mod_eq_of_lt (by omega)]
  rw [e, w64 (by omega) (by omega)]

theorem bits_and (a b : Nat) (ha : a < 2 ^ 62) (hb : b < 2 ^ 62) : bitsV .and .i64 a b = ((a &&& b : Nat) : Int) := by
  have hlt : a &&& b < 2 ^ 62 := Nat.lt_of_le_of_lt Nat.and_le_left ha
  show IntKind.wrap .i64 ((BitVec.ofInt 64 (a : Int) &&& BitVec.ofInt 64 (b : Int)).toNat : Int) = _
  have e : (BitVec.ofInt 64 (a : Int) &&& BitVec.ofInt 64 (b : Int)).toNat = a &&& b := by
    rw [BitVec.toNat_and, BitVec.ofInt_natCast, BitVec.ofInt_natCast, BitVec.toNat_ofNat, BitVec.toNat_ofNat, Nat.mod_eq_of_lt (by omega), Nat.mod_eq_of_lt (by omega)]
  rw [e, w64 (by omega) (by omega)]

theorem bit_shl (k : Nat) (hk : k ≤ 61) : IntKind.wrap .i64 (1 * 2 ^ (min (k : Int).toNat 64)) = ((2 ^ k : Nat) : Int) := by
  have e1 : min (k : Int).toNat 64 = k := by omega
  have h : 2 ^ k ≤ 2 ^ 61 := Nat.pow_le_pow_right (by omega) hk
  rw [e1, Int.one_mul]
  have e2 : ((2 : Int) ^ k) = ((2 ^ k : Nat) : Int) := by simp
  rw [e2]
  generalize 2 ^ k = m at h
  rw [w64 (by omega) (by omega)]

/-- A number as a choice. -/
def choiceN (b : Nat) : List Nat := (List.range 10).filter fun i => b.testBit i
def castL (l : List Nat) : List Int := l.map fun (i : Nat) => (i : Int)
def choiceL (b : Nat) : List Int := castL (choiceN b)

theorem c_choice (b : Nat) : C Tryd.prog F.bin_choice [I (b : Nat)] (intsV (choiceL b)) := by
  refine C_of mixed chk.bin_choice (by simp) fun S ok => ?_
  refine Tr.seqR rfl (by simp) (Tr.seqR rfl (by simp) (Tr.seq (Tr.seqR rfl (by simp) (Tr.block ?_))))
  refine Tr.loop (fun (k : Nat) st => k ≤ 10 ∧ st = { env := [(0, I (b : Nat)), (3, .slice 17 1 ((castL ((List.range k).filter fun i => b.testBit i)).map I)), (5, I (k : Nat))], bx := [], rw := [(16, (castL ((List.range k).filter fun i => b.testBit i)).length, 1, 3)], log := [], stp := false }) (fun k => 10 - k) 0
    (Wk.le (.cons rfl (.refl _) (.cons rfl (.nil 17 1) (.cons rfl (.refl _) .nil))) .nil (.new rfl .nil) rfl rfl) ⟨by omega, rfl⟩ ?_
  rintro k st ⟨hk, rfl⟩
  refine Tr.seqR rfl (by simp) (Tr.seqI rfl (fun h1 => ?_) (fun h1 => ?_))
  · have h1 : k < 10 := by
      have h1 : decide ((k : Int) < 10) = true := h1
      simp at h1; omega
    have hlen : (castL ((List.range k).filter fun i => b.testBit i)).length ≤ 10 := by
      have := List.length_filter_le (fun i => b.testBit i) (List.range k)
      simp [castL] at this ⊢; omega
    have e : ((List.range (k + 1)).filter fun i => b.testBit i) = ((List.range k).filter fun i => b.testBit i) ++ (if b.testBit k then [k] else []) := by
      rw [List.range_succ, List.filter_append]
      congr 1
      by_cases h : b.testBit k <;> simp [h]
    refine Tr.skipT (Tr.seq (Tr.block (Tr.seqR rfl (by simp) (Tr.seqR rfl (by simp) ?_))))
    have hb := bit_shr b k (by omega)
    refine Tr.cond rfl rfl (fun h2 => ?_) (fun h2 => Tr.skip ?_)
    · have h2 : ((((b : Int).fdiv (2 ^ (min (k : Int).toNat 64))).tmod 2) == 1) = true := h2
      have ht : b.testBit k = true := by
        rw [hb] at h2
        by_cases h : b.testBit k
        · exact h
        · simp [h] at h2
      refine Tr.regR rfl (by simp; omega) (Tr.regR rfl (by simp) ?_)
      rw [ht] at e
      refine ⟨k + 1, _, Wk.le (.cons rfl (.refl _) (.cons rfl (.of_eq ?_) (.cons rfl (VLe.i (w64 (by omega) (by omega))) .nil))) .nil (.cons ?_ .nil) rfl rfl, ⟨h1, rfl⟩, by omega⟩
      · rw [e]; simp [castL]
      · rw [e]
        show some _ = some _
        simp [castL]
    · have h2 : ((((b : Int).fdiv (2 ^ (min (k : Int).toNat 64))).tmod 2) == 1) = false := h2
      have ht : b.testBit k = false := by
        rw [hb] at h2
        by_cases h : b.testBit k
        · simp [h] at h2
        · simpa using h
      refine Tr.regR rfl (by simp) ?_
      rw [ht] at e
      refine ⟨k + 1, _, Wk.le (.cons rfl (.refl _) (.cons rfl (.of_eq ?_) (.cons rfl (VLe.i (w64 (by omega) (by omega))) .nil))) .nil (.cons ?_ .nil) rfl rfl, ⟨h1, rfl⟩, by omega⟩
      · rw [e]; simp
      · rw [e]
        show some _ = some _
        simp [castL]
  · have h1 : k = 10 := by
      have h1 : decide ((k : Int) < 10) = false := h1
      simp at h1; omega
    subst h1
    exact Tr.exit (Tr.seqR rfl (by simp) (Tr.retX rfl rfl rfl rfl trivial))

/-! ### Sums -/
def sumF (v : Int → Int) (l : List Int) : Int := (l.map v).foldl (· + ·) 0

theorem sumF_bd {v : Int → Int} {m : Int} : ∀ (l : List Int) (a : Int), (∀ n ∈ l, 0 ≤ v n ∧ v n ≤ m) → a ≤ (l.map v).foldl (· + ·) a ∧ (l.map v).foldl (· + ·) a ≤ a + l.length * m
  | [], a, _ => by simp
  | n :: l, a, h => by
    have h1 := h n (by simp)
    have h2 := sumF_bd l (a + v n) (fun r hr => h r (by simp [hr]))
    simp only [List.map_cons, List.foldl_cons, List.length_cons]
    have : ((l.length + 1 : Nat) : Int) * m = l.length * m + m := by push_cast; rw [Int.add_mul]; omega
    omega

theorem c_sum {f : FuncId} {us : List V} {v : Int → Int} {l : List Int} (hpl : Plain us) (hl : l.length ≤ 16) (hv : ∀ n ∈ l, 0 ≤ v n ∧ v n ≤ 1000) (hf : ∀ n ∈ l, C Tryd.prog f (I n :: us) (I (v n))) :
    C Tryd.prog F.bin_sum_int [intsV l, .func (.func f) [] us] (I (sumF v l)) := by
  refine C_of mixed chk.bin_sum_int (by simp) fun S ok => ?_
  refine Tr.seqR rfl (by simp) (Tr.seqR rfl (by simp) (Tr.seq (Tr.seqR rfl (by simp) (Tr.block ?_))))
  refine Tr.loop (fun (k : Nat) st => k ≤ l.length ∧ st = { env := [(1, .func (.func f) [] us), (5, I (sumF v (l.take k))), (8, intsV l), (9, I (l.length : Nat)), (10, I (k : Nat))], bx := [], rw := [], log := [], stp := false }) (fun k => l.length - k) 0
    (Wk.le (.cons rfl (.refl _) (.cons rfl (.refl _) (.cons rfl (.refl _) (.cons rfl (VLe.i (by simp)) (.cons rfl (.refl _) .nil))))) .nil .nil (by simp only [okRefs, List.all_cons, refs_plain hpl]; rfl) rfl) ⟨by omega, rfl⟩ ?_
  rintro k st ⟨hk, rfl⟩
  refine Tr.seqR rfl (by simp) (Tr.seqI rfl (fun h1 => ?_) (fun h1 => ?_))
  · have h1 : k < l.length := by simpa using h1
    refine Tr.skipT (Tr.seq (Tr.block (Tr.seq (Tr.reg (Steps.runN 1 rfl (by simp; omega) ?_)))))
    rw [getD_map h1]
    refine Steps.fin rfl (by simp) ?_
    refine Tr.reg (Steps.run rfl (by simp) (Steps.callv (us := I l[k] :: us) (ids := []) rfl ?_ (hf _ (List.getElem_mem h1)) (Steps.fin rfl (by simp) (Tr.regR rfl (by simp) ?_))))
    · show cons2 _ (toDs _ us) = _
      rw [hpl.d]; rfl
    have hb := sumF_bd (l.take k) 0 (v := v) (m := 1000) (fun n hn => hv n (List.mem_of_mem_take hn))
    have hb2 := hv _ (List.getElem_mem h1)
    have hlt : (l.take k).length = k := by simp; omega
    rw [hlt] at hb
    have e : sumF v (l.take (k + 1)) = sumF v (l.take k) + v l[k] := by
      unfold sumF
      rw [List.take_add_one, List.getElem?_eq_getElem h1, List.map_append, List.foldl_append]; rfl
    refine ⟨k + 1, _, Wk.le (.cons rfl (.refl _) (.cons rfl (VLe.i ?_) (.cons rfl (.refl _) (.cons rfl (.refl _) (.cons rfl (VLe.i (w64 (by omega) (by omega))) .nil))))) .nil .nil (by simp only [okRefs, List.all_cons, refs_plain hpl]; rfl) rfl, ⟨h1, rfl⟩, by omega⟩
    rw [e]
    unfold sumF
    exact w64 (by omega) (by omega)
  · have h1 : k = l.length := by simp at h1; omega
    subst h1
    rw [List.take_length]
    exact Tr.exit (Tr.seqR rfl (by simp) (Tr.retX rfl rfl rfl rfl trivial))

theorem plain_nil : Plain [] := ⟨fun _ => rfl, fun _ _ => rfl⟩

theorem c_covers1 (n : Int) : C Tryd.prog F.bin_covers_1 [I n] (I n) := by
  refine C_of mixed chk.bin_covers_1 (by simp) fun S ok => ?_
  exact Tr.seqR rfl (by simp) (Tr.seqR rfl (by simp) (Tr.retX rfl rfl rfl rfl trivial))

/-! ### Infills that are such -/
theorem nfOk_spec {x : Nf} (h : nfOk x = true) : (x.lacks.length ≤ 16 ∧ x.passes.length ≤ 10) ∧ (∀ n ∈ x.lacks, 1 ≤ n ∧ n ≤ 100) ∧ ∀ p ∈ x.passes, (1 ≤ p.cost ∧ p.cost ≤ 1000) ∧ p.adds.length = x.lacks.length ∧ ∀ n ∈ p.adds, 0 ≤ n ∧ n ≤ 100 := by
  simp only [nfOk, passOk, Bool.and_eq_true, decide_eq_true_eq, List.all_eq_true, btw_iff, Bool.not_eq_true', List.any_eq_false, Bool.not_eq_true, Bool.not_eq_false'] at h
  obtain ⟨⟨h1, h2⟩, h3⟩ := h
  refine ⟨h1, h2, fun p hp => ⟨(h3 p hp).1.1, (h3 p hp).1.2, fun n hn => ?_⟩⟩
  have := (h3 p hp).2 n hn
  simpa [btw_iff] using this

def p0 : Ps := ⟨0, []⟩
def costOf (x : Nf) (i : Nat) : Int := (x.passes.getD i p0).cost
def costB (x : Nf) (b : Nat) : Int := sumF (fun i => costOf x i.toNat) (choiceL b)

theorem mem_choice {b i : Nat} : i ∈ choiceN b ↔ i < 10 ∧ b.testBit i = true := by simp [choiceN]

theorem bit_lt {b i m : Nat} (h : b < 2 ^ m) (hi : b.testBit i = true) : i < m := by
  rcases Nat.lt_or_ge i m with h1 | h1
  · exact h1
  · have := Nat.testBit_lt_two_pow (i := i) (Nat.lt_of_lt_of_le h (Nat.pow_le_pow_right (by omega) h1))
    rw [hi] at this; cases this

theorem choice_lt {b : Nat} {x : Nf} (h : b < 2 ^ x.passes.length) {n : Int} (hn : n ∈ choiceL b) : ∃ i : Nat, n = (i : Nat) ∧ i < x.passes.length := by
  obtain ⟨i, hi, rfl⟩ := List.mem_map.1 hn
  exact ⟨i, rfl, bit_lt h (mem_choice.1 hi).2⟩

theorem choiceN_len (b : Nat) : (choiceN b).length ≤ 10 := by
  have := List.length_filter_le (fun i => b.testBit i) (List.range 10)
  simpa [choiceN] using this

theorem choiceL_len (b : Nat) : (choiceL b).length ≤ 10 := by
  have := choiceN_len b
  simpa [choiceL, castL] using this

theorem c_cost1 {x : Nf} {i : Nat} (hi : i < x.passes.length) : C Tryd.prog F.bin_cost_1 [I (i : Nat), .vptr (nfC x) 0] (I (costOf x i)) := by
  refine C_of mixed chk.bin_cost_1 (by simp) fun S ok => ?_
  refine Tr.seqR rfl (by simp) (Tr.seq (Tr.reg (Steps.runN 4 rfl (by simp; omega) ?_)))
  rw [getD_map hi]
  refine Steps.fin rfl (by simp) (Tr.retX rfl rfl rfl ?_ trivial)
  simp [packR, costOf, hi]

theorem plain_vptr (x : Nf) : Plain [.vptr (nfC x) 0] := ⟨fun _ => rfl, fun _ _ => rfl⟩

theorem c_cost {x : Nf} (hx : nfOk x = true) {b : Nat} (hb : b < 2 ^ x.passes.length) : C Tryd.prog F.bin_cost [.agg (nfC x), I (b : Nat)] (I (costB x b)) := by
  have hs := nfOk_spec hx
  have hC : ∀ n ∈ choiceL b, 0 ≤ costOf x n.toNat ∧ costOf x n.toNat ≤ 1000 := fun n hn => by
    obtain ⟨i, rfl, hi⟩ := choice_lt hb hn
    have := (hs.2.2 _ (List.getElem_mem hi)).1
    simp [costOf, hi]; omega
  have k := c_sum (f := F.bin_cost_1) (us := [.vptr (nfC x) 0]) (v := fun i => costOf x i.toNat) (l := choiceL b) (plain_vptr x) (by have := choiceL_len b; omega) hC fun n hn => by
    obtain ⟨i, rfl, hi⟩ := choice_lt hb hn
    exact c_cost1 hi
  refine C_of mixed chk.bin_cost (by simp) fun S ok => ?_
  refine Tr.seqR rfl (by simp) (Tr.seqC rfl (by simp) (Steps.call rfl rfl (c_choice b) (Steps.run rfl (by simp) (Steps.call rfl rfl k (Steps.fin rfl (by simp) (Tr.retX rfl rfl rfl rfl trivial))))))

end Go.Proofs.YtffoiccokigjcaaDoor

/-! Contracts: what a choice leaves; whether it covers. -/
set_option linter.unusedVariables false
set_option linter.unusedSimpArgs false
set_option maxRecDepth 20000
set_option maxHeartbeats 2000000
namespace Go.Proofs.YtffoiccokigjcaaDoor
open Go.Am
attribute [local simp] cells scalar mkv splice under2 under dem dem1 eB eQ nfC intsV

def addsOf (x : Nf) (i : Nat) : List Int := (x.passes.getD i p0).adds
def restN (c a : List Int) : List Int := List.zipWith (fun m n => max 0 (m - n)) c a
def restsL (x : Nf) (l : List Nat) : List Int := l.foldl (fun c i => restN c (addsOf x i)) x.lacks
def small (n : Nat) (c : List Int) : Prop := c.length = n ∧ ∀ m ∈ c, 0 ≤ m ∧ m ≤ 100

theorem restN_small {n : Nat} {c a : List Int} (hc : small n c) (ha : a.length = n ∧ ∀ m ∈ a, 0 ≤ m ∧ m ≤ 100) : small n (restN c a) := by
  refine ⟨by simp [restN, hc.1, ha.1], fun m hm => ?_⟩
  unfold restN at hm
  obtain ⟨i, hi, rfl⟩ := List.getElem_of_mem hm
  simp only [List.length_zipWith] at hi
  rw [List.getElem_zipWith]
  have h1 := hc.2 _ (List.getElem_mem (show i < c.length by omega))
  have h2 := ha.2 _ (List.getElem_mem (show i < a.length by omega))
  omega

theorem adds_small {x : Nf} (hx : nfOk x = true) {i : Nat} (hi : i < x.passes.length) : (addsOf x i).length = x.lacks.length ∧ ∀ m ∈ addsOf x i, 0 ≤ m ∧ m ≤ 100 := by
  have := (nfOk_spec hx).2.2 _ (List.getElem_mem hi)
  have e : addsOf x i = x.passes[i].adds := by simp [addsOf, hi]
  rw [e]; exact this.2

theorem foldl_small {x : Nf} (hx : nfOk x = true) : ∀ (l : List Nat) (c : List Int), small x.lacks.length c → (∀ i ∈ l, i < x.passes.length) → small x.lacks.length (l.foldl (fun c i => restN c (addsOf x i)) c)
  | [], c, h, _ => h
  | i :: l, c, h, hl => foldl_small hx l _ (restN_small h (adds_small hx (hl i (by simp)))) fun j hj => hl j (by simp [hj])

theorem restsL_small {x : Nf} (hx : nfOk x = true) {l : List Nat} (hl : ∀ i ∈ l, i < x.passes.length) : small x.lacks.length (restsL x l) :=
  foldl_small hx l _ ⟨rfl, fun m hm => by have := (nfOk_spec hx).2.1 m hm; omega⟩ hl

theorem choiceN_lt {b m : Nat} (h : b < 2 ^ m) : ∀ i ∈ choiceN b, i < m := fun i hi => bit_lt h (mem_choice.1 hi).2

theorem c_rests0 {x : Nf} (hx : nfOk x = true) (h0 : x.lacks = []) {b : Nat} (hb : b < 2 ^ x.passes.length) : C Tryd.prog F.bin_rests [.agg (nfC x), I (b : Nat)] (intsV []) := by
  have hcl := choiceL_len b
  refine C_of mixed chk.bin_rests (by simp) fun S ok => ?_
  have kc : C Tryd.prog F.slices_Clone_int_int [intsV x.lacks] (intsV []) := by rw [h0]; exact c_CloneI0
  refine Tr.seqR rfl (by simp) (Tr.seqC rfl (by simp) (Steps.call rfl rfl kc (Steps.fin rfl (by simp) ?_)))
  refine Tr.seq (Tr.seqC rfl (by simp) (Steps.call rfl rfl (c_choice b) (Steps.fin rfl (by simp) (Tr.block ?_))))
  refine Tr.loop (fun (k : Nat) st => k ≤ (choiceL b).length ∧ st = { env := [(2, .ptr 2 0), (5, intsV []), (14, intsV (choiceL b)), (15, I ((choiceL b).length : Nat)), (16, I (k : Nat))], bx := [(2, ⟨nfC x, false⟩)], rw := [], log := [], stp := false }) (fun k => (choiceL b).length - k) 0
    (Wk.le (.cons rfl (.refl _) (.cons rfl (.refl _) (.cons rfl (.refl _) (.cons rfl (VLe.i (by simp)) (.cons rfl (.refl _) .nil))))) (.cons rfl (LLe.refl _) .nil) .nil rfl rfl) ⟨by omega, rfl⟩ ?_
  rintro k st ⟨hk, rfl⟩
  refine Tr.seqR rfl (by simp) (Tr.seqI rfl (fun h1 => ?_) (fun h1 => ?_))
  · have h1 : k < (choiceL b).length := by simpa using h1
    obtain ⟨i, hi, hip⟩ := choice_lt hb (List.getElem_mem h1)
    refine Tr.skipT (Tr.seq (Tr.block (Tr.seq (Tr.reg (Steps.runN 1 rfl (by simp; omega) ?_)))))
    rw [getD_map h1, hi]
    refine Steps.fin rfl (by simp) (Tr.seq (Tr.reg (Steps.runN 4 rfl (by simp; omega) ?_)))
    rw [getD_map hip]
    refine Steps.fin rfl (by simp) (Tr.block ?_)
    have ha := (adds_small hx hip).1
    have e : addsOf x i = x.passes[i].adds := by simp [addsOf, hip]
    rw [e, h0] at ha
    have ha : x.passes[i].adds = [] := List.length_eq_zero_iff.1 ha
    rw [ha]
    refine Tr.rounds 1 (TrN.succ ?_)
    refine Tr.seqR rfl (by simp) (Tr.seq (Tr.condF rfl (Tr.exit ?_)))
    refine Tr.regR rfl (by simp) ?_
    exact ⟨k + 1, _, Wk.le (.cons rfl (.refl _) (.cons rfl (.refl _) (.cons rfl (.refl _) (.cons rfl (.refl _) (.cons rfl (VLe.i (w64 (by omega) (by omega))) .nil))))) (.cons rfl (LLe.refl _) .nil) .nil rfl rfl, ⟨h1, rfl⟩, by omega⟩
  · have h1 : k = (choiceL b).length := by simp at h1; omega
    subst h1
    exact Tr.exit (Tr.seqR rfl (by simp) (Tr.retX rfl rfl rfl rfl trivial))

theorem foldl_take {α β : Type} (f : β → α → β) (l : List α) (z : β) {k : Nat} (h : k < l.length) : (l.take (k + 1)).foldl f z = f ((l.take k).foldl f z) l[k] := by
  rw [List.take_add_one, List.getElem?_eq_getElem h, List.foldl_append]; rfl

theorem c_rests1 {x : Nf} (hx : nfOk x = true) (h0 : x.lacks ≠ []) {b : Nat} (hb : b < 2 ^ x.passes.length) : C Tryd.prog F.bin_rests [.agg (nfC x), I (b : Nat)] (intsV (restsL x (choiceN b))) := by
  have hcl := choiceL_len b
  have hsp := nfOk_spec hx
  have hcN : (choiceN b).length = (choiceL b).length := by simp [choiceL, castL]
  have kc := c_CloneI h0 (by omega)
  have hw := choiceN_lt hb
  refine C_of mixed chk.bin_rests (by simp) fun S ok => ?_
  refine Tr.seqR rfl (by simp) (Tr.seq (Tr.reg (Steps.run rfl (by simp) (Steps.callO rfl (fun _ => rfl) kc rfl (Steps.fin rfl (by simp) ?_)))))
  refine Tr.seq (Tr.seqC rfl (by simp) (Steps.call rfl rfl (c_choice b) (Steps.fin rfl (by simp) (Tr.block ?_))))
  have hsm : ∀ k, k ≤ (choiceN b).length → small x.lacks.length (restsL x ((choiceN b).take k)) := fun k hk => restsL_small hx fun i hi => hw i (List.mem_of_mem_take hi)
  refine Tr.loop (fun (k : Nat) st => k ≤ (choiceL b).length ∧ st = { env := [(2, .ptr 2 0), (5, .bsl 12 0 1 x.lacks.length), (14, intsV (choiceL b)), (15, I ((choiceL b).length : Nat)), (16, I (k : Nat))], bx := [(12, ⟨(restsL x ((choiceN b).take k)).map I, false⟩), (2, ⟨nfC x, false⟩)], rw := [], log := [], stp := false }) (fun k => (choiceL b).length - k) 0
    (Wk.le (.cons rfl (.refl _) (.cons rfl (.of_eq (by simp)) (.cons rfl (.refl _) (.cons rfl (VLe.i (by simp)) (.cons rfl (.refl _) .nil))))) (.cons rfl (by rw [flat_ints]; exact LLe.refl _) (.cons rfl (LLe.refl _) .nil)) .nil (okI rfl) rfl) ⟨by omega, rfl⟩ ?_
  rintro k st ⟨hk, rfl⟩
  refine Tr.seqR rfl (by simp) (Tr.seqI rfl (fun h1 => ?_) (fun h1 => ?_))
  · have h1 : k < (choiceL b).length := by simpa using h1
    have h1N : k < (choiceN b).length := by omega
    have hip := hw _ (List.getElem_mem h1N)
    have hi : (choiceL b)[k] = (((choiceN b)[k] : Nat) : Int) := by simp [choiceL, castL]
    obtain ⟨i, ei⟩ : ∃ i, (choiceN b)[k] = i := ⟨_, rfl⟩
    rw [ei] at hip hi
    refine Tr.skipT (Tr.seq (Tr.block (Tr.seq (Tr.reg (Steps.runN 1 rfl (by simp; omega) ?_)))))
    rw [getD_map h1, hi]
    refine Steps.fin rfl (by simp) (Tr.seq (Tr.reg (Steps.runN 4 rfl (by simp; omega) ?_)))
    rw [getD_map hip]
    refine Steps.fin rfl (by simp) (Tr.block ?_)
    have ha := adds_small hx hip
    have e : addsOf x i = x.passes[i].adds := by simp [addsOf, hip]
    have hst : restsL x ((choiceN b).take (k + 1)) = restN (restsL x ((choiceN b).take k)) x.passes[i].adds := by
      unfold restsL
      rw [foldl_take _ _ _ h1N, ei, e]
    have hs0 := hsm k (by omega)
    rw [e] at ha
    generalize restsL x ((choiceN b).take k) = c0 at hs0 hst
    refine Tr.loop (fun (j : Nat) st => j ≤ x.passes[i].adds.length ∧ st = { env := [(2, .ptr 2 0), (5, .bsl 12 0 1 x.lacks.length), (14, intsV (choiceL b)), (15, I ((choiceL b).length : Nat)), (16, I (k : Nat)), (25, intsV x.passes[i].adds), (26, I (x.passes[i].adds.length : Nat)), (27, I (j : Nat))], bx := [(12, ⟨((restN c0 x.passes[i].adds).take j ++ c0.drop j).map I, false⟩), (2, ⟨nfC x, false⟩)], rw := [], log := [], stp := false }) (fun j => x.passes[i].adds.length - j) 0
      (Wk.le (.cons rfl (.refl _) (.cons rfl (.refl _) (.cons rfl (.refl _) (.cons rfl (.refl _) (.cons rfl (.refl _) (.cons rfl (.refl _) (.cons rfl (VLe.i ?_) (.cons rfl (.refl _) .nil)))))))) (.cons rfl ?_ (.cons rfl (LLe.refl _) .nil)) .nil (okI rfl) rfl) ⟨by omega, rfl⟩ ?_
    · show ((x.passes[i].adds.map I).length : Int) = _
      rw [List.length_map]
    · rw [List.take_zero, List.nil_append, List.drop_zero]; exact LLe.refl _
    rintro j st ⟨hj, rfl⟩
    have hrl : (restN c0 x.passes[i].adds).length = x.passes[i].adds.length := by simp [restN, hs0.1, ha.1]
    refine Tr.seqR rfl (by simp) (Tr.seqI rfl (fun h2 => ?_) (fun h2 => ?_))
    · have h2 : j < x.passes[i].adds.length := by simpa using h2
      have hj0 : j < c0.length := by rw [hs0.1, ← ha.1]; exact h2
      have hmt : ((restN c0 x.passes[i].adds).take j).length = j := by rw [List.length_take]; omega
      have hml : ((restN c0 x.passes[i].adds).take j ++ c0.drop j).length = x.lacks.length := by rw [List.length_append, hmt, List.length_drop]; have := hs0.1; omega
      have hk0 : 0 + (j : Int).toNat * 1 = j := by omega
      have hdr : (((restN c0 x.passes[i].adds).take j ++ c0.drop j).map I).drop j = I c0[j] :: (c0.drop (j + 1)).map I := by
        rw [← List.map_drop, List.drop_append_of_le_length (by omega), List.drop_eq_nil_of_le (by omega), List.nil_append, List.drop_eq_getElem_cons hj0]; rfl
      have hv : (restN c0 x.passes[i].adds)[j]'(by omega) = max 0 (c0[j] - x.passes[i].adds[j]) := by simp [restN]
      have hb1 := hs0.2 _ (List.getElem_mem hj0)
      have hb2 := ha.2 _ (List.getElem_mem h2)
      have hnew : List.take j (((restN c0 x.passes[i].adds).take j ++ c0.drop j).map I) ++ [I (if IntKind.wrap .i64 (c0[j] - x.passes[i].adds[j]) > 0 then IntKind.wrap .i64 (c0[j] - x.passes[i].adds[j]) else 0)] ++ List.drop (j + 1) (((restN c0 x.passes[i].adds).take j ++ c0.drop j).map I) = ((restN c0 x.passes[i].adds).take (j + 1) ++ c0.drop (j + 1)).map I := by
        have e1 : (((restN c0 x.passes[i].adds).take j ++ c0.drop j).map I).drop (j + 1) = (c0.drop (j + 1)).map I := by
          have := congrArg (List.drop 1) hdr
          rw [List.drop_drop] at this
          simpa using this
        rw [ite_max, w64 (n := c0[j] - x.passes[i].adds[j]) (by omega) (by omega), e1, ← List.map_take, List.take_append_of_le_length (by omega), List.take_take, Nat.min_self, List.take_add_one, List.getElem?_eq_getElem (by omega), hv]
        simp
      refine Tr.skipT (Tr.seq (Tr.block (Tr.seq (Tr.reg (Steps.runN 2 rfl (by simp; omega) ?_)))))
      rw [getD_map h2]
      refine Steps.fin rfl (by simp) (Tr.reg (Steps.runN 5 rfl (by simp; omega) ?_))
      rw [hk0]
      refine Steps.runN 1 rfl (by simp; omega) ?_
      rw [hdr]
      refine Steps.runN 4 rfl (by simp; omega) ?_
      rw [hk0]
      refine Steps.fin rfl (by simp; omega) ?_
      refine Tr.regR rfl (by simp) ?_
      refine ⟨j + 1, _, Wk.le (.cons rfl (.refl _) (.cons rfl (.refl _) (.cons rfl (.refl _) (.cons rfl (.refl _) (.cons rfl (.refl _) (.cons rfl (.refl _) (.cons rfl (.refl _) (.cons rfl (VLe.i (w64 (by omega) (by omega))) .nil)))))))) (.cons rfl ?_ (.cons rfl (LLe.refl _) .nil)) .nil (okI rfl) rfl, ⟨h2, rfl⟩, by omega⟩
      rw [← hnew]
      exact LLe.refl _
    · have h2 : j = x.passes[i].adds.length := by simp at h2; omega
      subst h2
      have hc : c0.length = x.passes[i].adds.length := by rw [hs0.1, ha.1]
      have e1 : (restN c0 x.passes[i].adds).take x.passes[i].adds.length ++ c0.drop x.passes[i].adds.length = restN c0 x.passes[i].adds := by rw [List.take_of_length_le (by omega), List.drop_eq_nil_of_le (by omega), List.append_nil]
      rw [e1]
      refine Tr.exit (Tr.regR rfl (by simp) ?_)
      exact ⟨k + 1, _, Wk.le (.cons rfl (.refl _) (.cons rfl (.refl _) (.cons rfl (.refl _) (.cons rfl (.refl _) (.cons rfl (VLe.i (w64 (by omega) (by omega))) .nil))))) (.cons rfl (by rw [hst]; exact LLe.refl _) (.cons rfl (LLe.refl _) .nil)) .nil (okI rfl) rfl, ⟨h1, rfl⟩, by omega⟩
  · have h1 : k = (choiceL b).length := by simp at h1; omega
    subst h1
    rw [← hcN, List.take_length]
    refine Tr.exit ?_
    refine Tr.weak (s' := { env := [(5, .bsl 12 0 1 x.lacks.length)], bx := [(12, ⟨(restsL x (choiceN b)).map I, false⟩)], rw := [], log := [], stp := false }) (Wk.le (.cons rfl (.refl _) .nil) (.cons rfl (LLe.refl _) .nil) .nil (okI rfl) rfl) ?_
    have hs0 := restsL_small hx hw
    refine Tr.weak (Wk.bsl (t := 5) rfl rfl (by rw [← hs0.1]; exact holds_ints _)) ?_
    exact (Tr.seqR rfl (by simp) (Tr.retX rfl rfl rfl rfl trivial))

theorem c_rests {x : Nf} (hx : nfOk x = true) {b : Nat} (hb : b < 2 ^ x.passes.length) : C Tryd.prog F.bin_rests [.agg (nfC x), I (b : Nat)] (intsV (restsL x (choiceN b))) := by
  by_cases h0 : x.lacks = []
  · have h := c_rests0 hx h0 hb
    have hs0 := (restsL_small hx (choiceN_lt hb)).1
    rw [h0] at hs0
    rw [List.length_eq_zero_iff.1 hs0]
    exact h
  · exact c_rests1 hx h0 hb

def coversB (x : Nf) (b : Nat) : Bool := decide (sumF id (restsL x (choiceN b)) = 0)

theorem c_covers {x : Nf} (hx : nfOk x = true) {b : Nat} (hb : b < 2 ^ x.passes.length) : C Tryd.prog F.bin_covers [.agg (nfC x), I (b : Nat)] (.bool (coversB x b)) := by
  have hs0 := restsL_small hx (choiceN_lt hb)
  have hn := (nfOk_spec hx).1.1
  have k := c_sum (f := F.bin_covers_1) (us := []) (v := id) (l := restsL x (choiceN b)) plain_nil (by rw [hs0.1]; exact hn) (fun n h => by have := hs0.2 n h; simp only [id]; omega) fun n _ => c_covers1 n
  refine C_of mixed chk.bin_covers (by simp) fun S ok => ?_
  refine Tr.seqR rfl (by simp) (Tr.seqC rfl (by simp) (Steps.call rfl rfl (c_rests hx hb) (Steps.run rfl (by simp) (Steps.call rfl rfl k (Steps.fin rfl (by simp) (Tr.retX rfl rfl rfl ?_ trivial))))))
  show V.bool (coversB x b) = .bool (sumF id (restsL x (choiceN b)) == 0)
  unfold coversB
  by_cases h : sumF id (restsL x (choiceN b)) = 0
  · rw [h]; rfl
  · simp [h]

end Go.Proofs.YtffoiccokigjcaaDoor

/-! Contracts: lists compared; the best choice. -/
set_option linter.unusedVariables false
set_option linter.unusedSimpArgs false
set_option maxRecDepth 40000
set_option maxHeartbeats 4000000
namespace Go.Proofs.YtffoiccokigjcaaDoor
open Go.Am
attribute [local simp] cells scalar mkv splice under2 under dem dem1 eB eQ nfC intsV

theorem c_isNaN (n : Int) : C Tryd.prog F.cmp_isNaN_int [I n] (.bool false) := by
  refine C_of mixed chk.cmp_isNaN_int (by simp) fun S ok => ?_
  refine Tr.seqR rfl (by simp) (Tr.seqR rfl (by simp) (Tr.retX rfl rfl rfl ?_ trivial))
  show V.bool false = .bool (n != n)
  simp

def cmpI (a b : Int) : Int := if a < b then -1 else if a > b then 1 else 0

theorem c_Cmp (a b : Int) : C Tryd.prog F.cmp_Compare_int [I a, I b] (I (cmpI a b)) := by
  refine C_of mixed chk.cmp_Compare_int (by simp) fun S ok => ?_
  refine Tr.seqR rfl (by simp) (Tr.seqC rfl (by simp) (Steps.call rfl rfl (c_isNaN a) (Steps.fin rfl (by simp) ?_)))
  refine Tr.seqC rfl (by simp) (Steps.call rfl rfl (c_isNaN b) (Steps.fin rfl (by simp) ?_))
  refine Tr.seq (Tr.seqR rfl (by simp) (Tr.condF rfl (Tr.skip ?_)))
  refine Tr.seq (Tr.seqR rfl (by simp) (Tr.condF rfl (Tr.skip ?_)))
  refine Tr.seq (Tr.seqR rfl (by simp) (Tr.cond rfl rfl (fun h => ?_) (fun h => Tr.skip ?_)))
  · have h : a < b := by
      have h : decide (a < b) = true := h
      simpa using h
    exact Tr.seqR rfl (by simp) (Tr.retX rfl rfl rfl (by unfold cmpI; rw [if_pos h]; rfl) trivial)
  have h : ¬ a < b := by
    have h : decide (a < b) = false := h
    simpa using h
  refine Tr.seq (Tr.seqR rfl (by simp) (Tr.cond rfl rfl (fun h2 => ?_) (fun h2 => Tr.skip ?_)))
  · have h2 : a > b := by
      have h2 : decide (a > b) = true := h2
      simpa using h2
    exact Tr.seqR rfl (by simp) (Tr.retX rfl rfl rfl (by unfold cmpI; rw [if_neg h, if_pos h2]; rfl) trivial)
  have h2 : ¬ a > b := by
    have h2 : decide (a > b) = false := h2
    simpa using h2
  exact Tr.seqR rfl (by simp) (Tr.retX rfl rfl rfl (by unfold cmpI; rw [if_neg h, if_neg h2]; rfl) trivial)

def cmpL : List Int → List Int → Int
  | [], [] => 0
  | [], _ :: _ => -1
  | _ :: _, [] => 1
  | a :: l, b :: m => if cmpI a b ≠ 0 then cmpI a b else cmpL l m

theorem c_CompareL {l m : List Int} (hl : l.length ≤ 1000000) : C Tryd.prog F.slices_Compare_int_int [intsV l, intsV m] (I (cmpL l m)) := by
  refine C_of mixed chk.slices_Compare_int_int (by simp) fun S ok => ?_
  refine Tr.seqR rfl (by simp) (Tr.seq (Tr.seqR rfl (by simp) (Tr.block ?_)))
  refine Tr.loop (fun (k : Nat) st => (k ≤ l.length ∧ k ≤ m.length ∧ cmpL l m = cmpL (l.drop k) (m.drop k)) ∧ st = { env := [(0, intsV l), (1, intsV m), (9, intsV l), (10, I (l.length : Nat)), (11, I (k : Nat))], bx := [], rw := [], log := [], stp := false }) (fun k => l.length - k) 0
    (Wk.le (.cons rfl (.refl _) (.cons rfl (.refl _) (.cons rfl (.refl _) (.cons rfl (VLe.i (by simp)) (.cons rfl (.refl _) .nil))))) .nil .nil rfl rfl) ⟨⟨by omega, by omega, by simp⟩, rfl⟩ ?_
  rintro k st ⟨⟨hk, hkm, he⟩, rfl⟩
  refine Tr.seqR rfl (by simp) (Tr.seqI rfl (fun h1 => ?_) (fun h1 => ?_))
  · have h1 : k < l.length := by simpa using h1
    refine Tr.skipT (Tr.seq (Tr.block (Tr.seq (Tr.reg (Steps.runN 2 rfl (by simp; omega) ?_)))))
    rw [getD_map h1]
    refine Steps.fin rfl (by simp) (Tr.seq (Tr.seqR rfl (by simp) (Tr.cond rfl rfl (fun h2 => ?_) (fun h2 => Tr.skip ?_))))
    · have h2 : k = m.length := by
        have h2 : decide ((k : Int) ≥ ((m.map I).length : Int)) = true := h2
        simp at h2; omega
      refine Tr.seqR rfl (by simp) (Tr.retX rfl rfl rfl ?_ trivial)
      rw [he, h2, List.drop_length, List.drop_eq_getElem_cons (by omega)]; rfl
    have h2 : k < m.length := by
      have h2 : decide ((k : Int) ≥ ((m.map I).length : Int)) = false := h2
      simp at h2; omega
    refine Tr.seq (Tr.reg (Steps.runN 3 rfl (by simp; omega) ?_))
    rw [getD_map h2]
    refine Steps.fin rfl (by simp) (Tr.seqC rfl (by simp) (Steps.call rfl rfl (c_Cmp l[k] m[k]) (Steps.fin rfl (by simp) ?_)))
    have hd : cmpL l m = if cmpI l[k] m[k] ≠ 0 then cmpI l[k] m[k] else cmpL (l.drop (k + 1)) (m.drop (k + 1)) := by
      rw [he, List.drop_eq_getElem_cons h1, List.drop_eq_getElem_cons h2]; rfl
    refine Tr.seqR rfl (by simp) (Tr.cond rfl rfl (fun h3 => ?_) (fun h3 => Tr.skip (Tr.regR rfl (by simp) ?_)))
    · have h3 : cmpI l[k] m[k] ≠ 0 := by
        have h3 : (cmpI l[k] m[k] != 0) = true := h3
        simpa using h3
      rw [if_pos h3] at hd
      exact Tr.seqR rfl (by simp) (Tr.retX rfl rfl rfl (by rw [hd]; rfl) trivial)
    · have h3 : ¬ cmpI l[k] m[k] ≠ 0 := by
        have h3 : (cmpI l[k] m[k] != 0) = false := h3
        simpa using h3
      rw [if_neg h3] at hd
      exact ⟨k + 1, _, Wk.le (.cons rfl (.refl _) (.cons rfl (.refl _) (.cons rfl (.refl _) (.cons rfl (.refl _) (.cons rfl (VLe.i (w64 (by omega) (by omega))) .nil))))) .nil .nil rfl rfl, ⟨⟨h1, h2, hd⟩, rfl⟩, by omega⟩
  · have h1 : k = l.length := by simp at h1; omega
    subst h1
    rw [List.drop_length] at he
    refine Tr.exit (Tr.seq (Tr.seqR rfl (by simp) (Tr.cond rfl rfl (fun h2 => ?_) (fun h2 => Tr.skip ?_))))
    · have h2 : l.length < m.length := by
        have h2 : decide (((l.map I).length : Int) < ((m.map I).length : Int)) = true := h2
        simpa using h2
      refine Tr.seqR rfl (by simp) (Tr.retX rfl rfl rfl ?_ trivial)
      rw [he, List.drop_eq_getElem_cons h2]; rfl
    · have h2 : m.length = l.length := by
        have h2 : decide (((l.map I).length : Int) < ((m.map I).length : Int)) = false := h2
        simp at h2; omega
      refine Tr.seqR rfl (by simp) (Tr.retX rfl rfl rfl ?_ trivial)
      rw [he, ← h2, List.drop_length]; rfl

/-! ### The best choice -/
def better (x : Nf) (b o : Nat) : Bool :=
  if costB x b ≠ costB x o then decide (costB x b < costB x o)
  else if (choiceL b).length ≠ (choiceL o).length then decide ((choiceL b).length < (choiceL o).length)
  else decide (cmpL (choiceL b) (choiceL o) < 0)
def skips (x : Nf) (wo b : Nat) : Bool := decide (b &&& wo ≠ 0) || !coversB x b
def bestStep (x : Nf) (wo : Nat) (p : Nat × Bool) (b : Nat) : Nat × Bool := if skips x wo b then p else if !p.2 then (b, true) else if better x b p.1 then (b, true) else p
def bestN (x : Nf) (wo : Nat) : Nat × Bool := (List.range (2 ^ x.passes.length)).foldl (bestStep x wo) (0, false)

theorem drop_ints {L : List Int} {k : Nat} (h : k < L.length) {v : Int} (hv : L[k] = v) : (L.map I).drop k = I v :: (L.map I).drop (k + 1) := by
  rw [List.drop_eq_getElem_cons (by simpa using h)]; simp [hv]

theorem splice_ints {L : List Int} {k : Nat} (h : k < L.length) (v : Int) : splice (L.map I) k [I v] = (L.set k v).map I := by
  unfold splice
  rw [List.set_eq_take_append_cons_drop, if_pos h]
  simp

theorem costB_bd {x : Nf} (hx : nfOk x = true) {b : Nat} (hb : b < 2 ^ x.passes.length) : 0 ≤ costB x b ∧ costB x b ≤ 10000 := by
  have h := sumF_bd (v := fun i => costOf x i.toNat) (m := 1000) (choiceL b) 0 (fun n hn => by
    obtain ⟨i, rfl, hi⟩ := choice_lt hb hn
    have := ((nfOk_spec hx).2.2 _ (List.getElem_mem hi)).1
    simp [costOf, hi]; omega)
  have hl := choiceL_len b
  unfold costB sumF
  omega

theorem c_best {x : Nf} (hx : nfOk x = true) {wo : Nat} (hwo : wo < 2 ^ 62) : C Tryd.prog F.bin_best [.agg (nfC x), I (wo : Nat)] (.tuple [I ((bestN x wo).1 : Nat), .bool (bestN x wo).2]) := by
  have hm := (nfOk_spec hx).1.2
  have hm2 : 2 ^ x.passes.length ≤ 1024 := Nat.pow_le_pow_right (n := 2) (by omega) hm
  refine C_of mixed chk.bin_best (by simp) fun S ok => ?_
  refine Tr.seqR rfl (by simp) (Tr.seqR rfl (by simp) (Tr.seqR rfl (by simp) (Tr.seq (Tr.seqR rfl (by simp) (Tr.block ?_)))))
  refine Tr.loop (α := Nat × List Int) (fun p st => (p.1 ≤ 2 ^ x.passes.length ∧ p.2.length = 1024 ∧ (((List.range p.1).foldl (bestStep x wo) (0, false)).2 = true → ((List.range p.1).foldl (bestStep x wo) (0, false)).1 < p.1 ∧ p.2[((List.range p.1).foldl (bestStep x wo) (0, false)).1]? = some (costB x ((List.range p.1).foldl (bestStep x wo) (0, false)).1))) ∧
      st = { env := [(1, I (wo : Nat)), (2, .ptr 2 0), (6, .ptr 6 0), (7, I (((List.range p.1).foldl (bestStep x wo) (0, false)).1 : Nat)), (8, .bool ((List.range p.1).foldl (bestStep x wo) (0, false)).2), (15, I ((2 ^ x.passes.length : Nat) : Int)), (16, I (p.1 : Nat))], bx := [(6, ⟨p.2.map I, false⟩), (2, ⟨nfC x, false⟩)], rw := [], log := [], stp := false }) (fun p => 2 ^ x.passes.length - p.1) (0, List.replicate 1024 0)
    (Wk.le (.cons rfl (.refl _) (.cons rfl (.refl _) (.cons rfl (.refl _) (.cons rfl (.refl _) (.cons rfl (.refl _) (.cons rfl (VLe.i ?_) (.cons rfl (.refl _) .nil))))))) (.cons rfl ?_ (.cons rfl (LLe.refl _) .nil)) .nil (okI rfl) rfl) ⟨⟨Nat.zero_le _, by simp, fun h => by cases h⟩, rfl⟩ ?_
  · show IntKind.wrap .i64 (1 * 2 ^ (min ((x.passes.map eQ).length : Int).toNat 64)) = _
    rw [List.length_map]
    exact bit_shl _ (by omega)
  · rw [List.map_replicate]; exact LLe.refl _
  rintro ⟨b, L⟩ st ⟨⟨hk, hL, hout⟩, rfl⟩
  simp only at hk hL hout
  obtain ⟨⟨o, so⟩, hos⟩ : ∃ p, (List.range b).foldl (bestStep x wo) (0, false) = p := ⟨_, rfl⟩
  rw [hos] at hout
  simp only at hout
  refine Tr.seqR rfl (by simp) (Tr.seqI rfl (fun h1 => ?_) (fun h1 => ?_))
  rotate_left
  · have h1 : b = 2 ^ x.passes.length := by
      have h1 : decide ((b : Int) < ((2 ^ x.passes.length : Nat) : Int)) = false := h1
      rw [decide_eq_false_iff_not, Int.ofNat_lt] at h1; omega
    subst h1
    refine Tr.exit (Tr.seqR rfl (by simp) (Tr.retX rfl rfl rfl ?_ trivial))
    rfl
  have h1 : b < 2 ^ x.passes.length := by
    have h1 : decide ((b : Int) < ((2 ^ x.passes.length : Nat) : Int)) = true := h1
    rw [decide_eq_true_eq, Int.ofNat_lt] at h1; exact h1
  have hb62 : b < 2 ^ 62 := by omega
  have hfold : (List.range (b + 1)).foldl (bestStep x wo) (0, false) = bestStep x wo (o, so) b := by
    rw [List.range_succ, List.foldl_append, hos]; rfl
  obtain ⟨p', hp'⟩ : ∃ p', bestStep x wo (o, so) b = p' := ⟨_, rfl⟩
  obtain ⟨L', hL'⟩ : ∃ L', (if skips x wo b then L else L.set b (costB x b)) = L' := ⟨_, rfl⟩
  have hfin : L'.length = 1024 ∧ (p'.2 = true → p'.1 < b + 1 ∧ L'[p'.1]? = some (costB x p'.1)) := by
    subst hp' hL'
    unfold bestStep
    by_cases hs : skips x wo b = true
    · rw [if_pos hs, if_pos hs]
      exact ⟨hL, fun h => by have := hout h; exact ⟨by simp only; omega, this.2⟩⟩
    · rw [if_neg hs, if_neg hs]
      have hbs : (L.set b (costB x b))[b]? = some (costB x b) := by rw [List.getElem?_set_self (by omega)]
      refine ⟨by rw [List.length_set]; exact hL, fun h => ?_⟩
      cases so with
      | false => exact ⟨by simp, by simpa using hbs⟩
      | true =>
        simp only [Bool.not_true, Bool.false_eq_true, if_false] at h ⊢
        by_cases hbt : better x b o = true
        · rw [if_pos hbt]; exact ⟨by simp only; omega, hbs⟩
        · rw [if_neg hbt]
          have h2 := hout rfl
          exact ⟨by simp only; omega, by rw [List.getElem?_set_ne (by omega)]; exact h2.2⟩
  rw [hos]
  refine Tr.skipT (Tr.meet { env := [(1, I (wo : Nat)), (2, .ptr 2 0), (6, .ptr 6 0), (7, I (p'.1 : Nat)), (8, .bool p'.2), (15, I ((2 ^ x.passes.length : Nat) : Int)), (16, I (b : Nat))], bx := [(6, ⟨L'.map I, false⟩), (2, ⟨nfC x, false⟩)], rw := [], log := [], stp := false } (Tr.block ?_) (Tr.regR rfl (by simp) ?_))
  rotate_left
  · refine ⟨(b + 1, L'), _, Wk.le (.cons rfl (.refl _) (.cons rfl (.refl _) (.cons rfl (.refl _) (.cons rfl (.of_eq (by rw [hfold, hp'])) (.cons rfl (.of_eq (by rw [hfold, hp'])) (.cons rfl (.refl _) (.cons rfl (VLe.i (w64 (by omega) (by omega))) .nil))))))) (.cons rfl (LLe.refl _) (.cons rfl (LLe.refl _) .nil)) .nil (okI rfl) rfl, ⟨⟨h1, hfin.1, ?_⟩, rfl⟩, by simp only; omega⟩
    simp only [hfold, hp']; exact hfin.2
  refine Tr.seqR rfl (by simp) (Tr.seq (Tr.seqC rfl (by simp) (Steps.gcall rfl rfl rfl rfl (by simp) (fun _ => c_covers hx h1) (Steps.fin rfl (by simp) ?_))))
  have hsk : (bif (bitsV .and .i64 (b : Int) (wo : Int) != 0) then true else !(coversB x b)) = skips x wo b := by
    rw [bits_and _ _ hb62 hwo]
    unfold skips
    by_cases h : b &&& wo = 0
    · simp [h]
    · simp [h]
  refine Tr.cond rfl rfl (fun h2 => ?_) (fun h2 => Tr.skip ?_)
  · have h2 : (bif (bitsV .and .i64 (b : Int) (wo : Int) != 0) then true else !(coversB x b)) = true := h2
    rw [hsk] at h2
    have e1 : p' = (o, so) := by rw [← hp']; unfold bestStep; rw [if_pos h2]
    have e2 : L' = L := by rw [← hL', if_pos h2]
    subst e1 e2
    exact Tr.exit (Wk.le (.cons rfl (.refl _) (.cons rfl (.refl _) (.cons rfl (.refl _) (.cons rfl (.refl _) (.cons rfl (.refl _) (.cons rfl (.refl _) (.cons rfl (.refl _) .nil))))))) (.cons rfl (LLe.refl _) (.cons rfl (LLe.refl _) .nil)) .nil (okI rfl) rfl)
  have h2 : (bif (bitsV .and .i64 (b : Int) (wo : Int) != 0) then true else !(coversB x b)) = false := h2
  rw [hsk] at h2
  have e2 : L' = L.set b (costB x b) := by rw [← hL', if_neg (by simp [h2])]
  have e1 : p' = if !so then (b, true) else if better x b o then (b, true) else (o, so) := by rw [← hp']; unfold bestStep; rw [if_neg (by simp [h2])]
  have hbL : b < L.length := by omega
  have hk0 : 0 + (b : Int).toNat * 1 = b := by omega
  refine Tr.seq (Tr.reg (Steps.run rfl (by simp) (Steps.call rfl rfl (c_cost hx h1) (Steps.runN 1 rfl (by simp; omega) ?_))))
  rw [hk0]
  refine Steps.fin rfl (by simp; omega) ?_
  have hin : b < L'.length := by rw [e2, List.length_set]; omega
  refine Tr.weak (s' := { env := [(1, I (wo : Nat)), (2, .ptr 2 0), (6, .ptr 6 0), (7, I (o : Nat)), (8, .bool so), (9, I (b : Nat)), (15, I ((2 ^ x.passes.length : Nat) : Int)), (16, I (b : Nat))], bx := [(6, ⟨L'.map I, false⟩), (2, ⟨nfC x, false⟩)], rw := [], log := [], stp := false })
    (Wk.le (.cons rfl (.refl _) (.cons rfl (.refl _) (.cons rfl (.refl _) (.cons rfl (.refl _) (.cons rfl (.refl _) (.cons rfl (.refl _) (.cons rfl (.refl _) (.cons rfl (.refl _) .nil)))))))) (.cons rfl (by rw [e2, ← splice_ints hbL]; exact LLe.refl _) (.cons rfl (LLe.refl _) .nil)) .nil (okI rfl) rfl) ?_
  refine Tr.seq (Tr.seqR rfl (by simp) (Tr.cond rfl rfl (fun h3 => ?_) (fun h3 => Tr.skip ?_)))
  · have h3 : (!so) = true := h3
    rw [if_pos h3] at e1
    subst e1
    refine Tr.seqR rfl (by simp) (Tr.exit ?_)
    exact Wk.le (.cons rfl (.refl _) (.cons rfl (.refl _) (.cons rfl (.refl _) (.cons rfl (.refl _) (.cons rfl (.refl _) (.cons rfl (.refl _) (.cons rfl (.refl _) .nil))))))) (.cons rfl (LLe.refl _) (.cons rfl (LLe.refl _) .nil)) .nil (okI rfl) rfl
  have h3 : (!so) = false := h3
  obtain rfl : so = true := by simpa using h3
  have h4 := hout rfl
  have hoL : o < L'.length := by omega
  have hvb : L'[b] = costB x b := by simp [e2]
  have hvo : L'[o] = costB x o := by
    have h5 := h4.2
    rw [List.getElem?_eq_getElem (by omega)] at h5
    simp only [e2]
    rw [List.getElem_set_ne (by omega)]
    simpa using h5
  have e1 : p' = if better x b o then (b, true) else (o, true) := by rw [e1]; rfl
  have yes : better x b o = true → p' = (b, true) := fun h => by rw [e1, if_pos h]
  have no : better x b o = false → p' = (o, true) := fun h => by rw [e1, if_neg (by simp [h])]
  refine Tr.seqC rfl (by simp) (Steps.call rfl rfl (c_choice b) (Steps.run rfl (by simp) (Steps.call rfl rfl (c_choice o) (Steps.fin rfl (by simp) (Tr.block ?_)))))
  have ho0 : 0 + (o : Int).toNat * 1 = o := by omega
  refine Tr.seq (Tr.drawK (TraceK.runN 2 rfl (by simp; omega) ?_))
  rw [hk0]
  refine TraceK.runN 1 rfl (by simp; omega) ?_
  rw [drop_ints hin hvb]
  refine TraceK.runN 2 rfl (by simp; omega) ?_
  rw [ho0]
  refine TraceK.runN 1 rfl (by simp; omega) ?_
  rw [drop_ints hoL hvo]
  refine TraceK.run rfl (by simp) (.done ⟨by kernel_rfl, by kernel_rfl, ?_⟩)
  refine Tr.cond rfl rfl (fun h5 => ?_) (fun h5 => ?_)
  · have h5 : (costB x b != costB x o) = true := h5
    have h5 : costB x b ≠ costB x o := by simpa using h5
    have hbt : better x b o = decide (costB x b < costB x o) := by unfold better; rw [if_pos h5]
    refine Tr.seq (Tr.drawK (TraceK.runN 2 rfl (by simp; omega) ?_))
    rw [hk0]
    refine TraceK.runN 1 rfl (by simp; omega) ?_
    rw [drop_ints hin hvb]
    refine TraceK.runN 2 rfl (by simp; omega) ?_
    rw [ho0]
    refine TraceK.runN 1 rfl (by simp; omega) ?_
    rw [drop_ints hoL hvo]
    refine TraceK.run rfl (by simp) (.done ⟨by kernel_rfl, by kernel_rfl, ?_⟩)
    refine Tr.cond rfl rfl (fun h6 => ?_) (fun h6 => Tr.skip ?_)
    · have h6 : decide (costB x b < costB x o) = true := h6
      rw [yes (by rw [hbt, h6])]
      refine Tr.regR rfl (by simp) ?_
      exact Wk.le (.cons rfl (.refl _) (.cons rfl (.refl _) (.cons rfl (.refl _) (.cons rfl (.refl _) (.cons rfl (.refl _) (.cons rfl (.refl _) (.cons rfl (.refl _) .nil))))))) (.cons rfl (LLe.refl _) (.cons rfl (LLe.refl _) .nil)) .nil (okI rfl) rfl
    · have h6 : decide (costB x b < costB x o) = false := h6
      rw [no (by rw [hbt, h6])]
      exact Wk.le (.cons rfl (.refl _) (.cons rfl (.refl _) (.cons rfl (.refl _) (.cons rfl (.refl _) (.cons rfl (.refl _) (.cons rfl (.refl _) (.cons rfl (.refl _) .nil))))))) (.cons rfl (LLe.refl _) (.cons rfl (LLe.refl _) .nil)) .nil (okI rfl) rfl
  have h5 : (costB x b != costB x o) = false := h5
  have h5 : ¬ costB x b ≠ costB x o := by simpa using h5
  have hlens : ∀ c : Nat, (((choiceL c).map I).length : Int) = ((choiceL c).length : Int) := fun c => by rw [List.length_map]
  refine Tr.seqR rfl (by simp) (Tr.cond rfl rfl (fun h6 => ?_) (fun h6 => ?_))
  · have h6 : ((((choiceL b).map I).length : Int) != (((choiceL o).map I).length : Int)) = true := h6
    have h6 : (choiceL b).length ≠ (choiceL o).length := by
      rw [hlens, hlens] at h6
      intro h; rw [h] at h6; simp at h6
    have hbt : better x b o = decide ((choiceL b).length < (choiceL o).length) := by unfold better; rw [if_neg h5, if_pos h6]
    refine Tr.seqR rfl (by simp) (Tr.cond rfl rfl (fun h7 => ?_) (fun h7 => Tr.skip ?_))
    · have h7 : decide ((((choiceL b).map I).length : Int) < (((choiceL o).map I).length : Int)) = true := h7
      rw [hlens, hlens, decide_eq_true_eq, Int.ofNat_lt] at h7
      rw [yes (by rw [hbt, decide_eq_true h7])]
      refine Tr.regR rfl (by simp) ?_
      exact Wk.le (.cons rfl (.refl _) (.cons rfl (.refl _) (.cons rfl (.refl _) (.cons rfl (.refl _) (.cons rfl (.refl _) (.cons rfl (.refl _) (.cons rfl (.refl _) .nil))))))) (.cons rfl (LLe.refl _) (.cons rfl (LLe.refl _) .nil)) .nil (okI rfl) rfl
    · have h7 : decide ((((choiceL b).map I).length : Int) < (((choiceL o).map I).length : Int)) = false := h7
      rw [hlens, hlens, decide_eq_false_iff_not, Int.ofNat_lt] at h7
      rw [no (by rw [hbt, decide_eq_false h7])]
      exact Wk.le (.cons rfl (.refl _) (.cons rfl (.refl _) (.cons rfl (.refl _) (.cons rfl (.refl _) (.cons rfl (.refl _) (.cons rfl (.refl _) (.cons rfl (.refl _) .nil))))))) (.cons rfl (LLe.refl _) (.cons rfl (LLe.refl _) .nil)) .nil (okI rfl) rfl
  have h6 : ((((choiceL b).map I).length : Int) != (((choiceL o).map I).length : Int)) = false := h6
  have h6 : ¬ (choiceL b).length ≠ (choiceL o).length := by
    rw [hlens, hlens] at h6
    simp at h6; omega
  have hbt : better x b o = decide (cmpL (choiceL b) (choiceL o) < 0) := by unfold better; rw [if_neg h5, if_neg h6]
  refine Tr.seqC rfl (by simp) (Steps.call rfl rfl (c_CompareL (by have := choiceL_len b; omega)) (Steps.fin rfl (by simp) ?_))
  refine Tr.cond rfl rfl (fun h7 => ?_) (fun h7 => Tr.skip ?_)
  · have h7 : decide (cmpL (choiceL b) (choiceL o) < 0) = true := h7
    rw [yes (by rw [hbt, h7])]
    refine Tr.regR rfl (by simp) ?_
    exact Wk.le (.cons rfl (.refl _) (.cons rfl (.refl _) (.cons rfl (.refl _) (.cons rfl (.refl _) (.cons rfl (.refl _) (.cons rfl (.refl _) (.cons rfl (.refl _) .nil))))))) (.cons rfl (LLe.refl _) (.cons rfl (LLe.refl _) .nil)) .nil (okI rfl) rfl
  · have h7 : decide (cmpL (choiceL b) (choiceL o) < 0) = false := h7
    rw [no (by rw [hbt, h7])]
    exact Wk.le (.cons rfl (.refl _) (.cons rfl (.refl _) (.cons rfl (.refl _) (.cons rfl (.refl _) (.cons rfl (.refl _) (.cons rfl (.refl _) (.cons rfl (.refl _) .nil))))))) (.cons rfl (LLe.refl _) (.cons rfl (LLe.refl _) .nil)) .nil (okI rfl) rfl

theorem bestN_lt (x : Nf) (wo : Nat) : (bestN x wo).1 < 2 ^ x.passes.length := by
  have key : ∀ n, (((List.range n).foldl (bestStep x wo) (0, false)).1 < n ∨ ((List.range n).foldl (bestStep x wo) (0, false)).1 = 0) := by
    intro n
    induction n with
    | zero => exact .inr rfl
    | succ n ih =>
      rw [List.range_succ, List.foldl_append]
      simp only [List.foldl_cons, List.foldl_nil]
      generalize (List.range n).foldl (bestStep x wo) (0, false) = p at ih ⊢
      unfold bestStep
      split
      · omega
      · split
        · exact .inl (by simp only; omega)
        · split
          · exact .inl (by simp only; omega)
          · omega
  have h := key (2 ^ x.passes.length)
  have hp : 0 < 2 ^ x.passes.length := Nat.two_pow_pos _
  unfold bestN
  omega

/-- What Best returns. -/
def BestR (x : Nf) : V := if nfOk x then (if (bestN x 0).2 then .tuple [intsV (choiceL (bestN x 0).1), I (costB x (bestN x 0).1), I 0] else .tuple [intsV [], I 0, I 4]) else .tuple [intsV [], I 0, I 74]

theorem c_Best {x : Nf} (hx : ∀ p ∈ x.passes, p.adds.length ≤ 9223372036854775807) : C Tryd.prog F.bin_Best [.agg (nfC x)] (BestR x) := by
  have kc := c_CheckInfill hx
  unfold BestR
  refine C_of mixed chk.bin_Best (by simp) fun S ok => ?_
  refine Tr.seqR rfl (by simp) ?_
  by_cases hk : nfOk x = true
  rotate_left
  · rw [if_neg hk] at kc ⊢
    refine Tr.seq (Tr.seqC rfl (by simp) (Steps.call rfl rfl kc (Steps.fin rfl (by simp) (Tr.seqR rfl (by simp) (Tr.condT rfl (Tr.seqR rfl (by simp) ?_))))))
    exact Tr.weak (s' := { env := [(2, intsV []), (3, I 0), (4, I 74)], bx := [], rw := [], log := [], stp := false }) (Wk.le (.cons rfl (.nil 0 1) (.cons rfl (.refl _) (.cons rfl (.refl _) .nil))) .nil .nil rfl rfl) (Tr.retX rfl rfl rfl rfl trivial)
  rw [if_pos hk] at kc ⊢
  refine Tr.seq (Tr.seqC rfl (by simp) (Steps.call rfl rfl kc (Steps.fin rfl (by simp) (Tr.seqR rfl (by simp) (Tr.condF rfl (Tr.skip ?_))))))
  have kb := c_best (wo := 0) hk (by omega)
  have hlt := bestN_lt x 0
  obtain ⟨⟨o, so⟩, hos⟩ : ∃ p, bestN x 0 = p := ⟨_, rfl⟩
  rw [hos] at kb hlt ⊢
  refine Tr.seqC rfl (by simp) (Steps.call rfl rfl kb (Steps.fin rfl (by simp) ?_))
  refine Tr.seq (Tr.seqR rfl (by simp) (Tr.cond rfl rfl (fun h => ?_) (fun h => Tr.skip ?_)))
  · have h : (!so) = true := h
    obtain rfl : so = false := by simpa using h
    refine Tr.seqR rfl (by simp) ?_
    exact Tr.weak (s' := { env := [(2, intsV []), (3, I 0), (4, I 4)], bx := [], rw := [], log := [], stp := false }) (Wk.le (.cons rfl (.nil 0 1) (.cons rfl (.refl _) (.cons rfl (.refl _) .nil))) .nil .nil rfl rfl) (Tr.retX rfl rfl rfl rfl trivial)
  · have h : (!so) = false := h
    obtain rfl : so = true := by simpa using h
    refine Tr.seq (Tr.drawK (TraceK.run rfl (by simp) (TraceK.call rfl rfl (c_choice o) (TraceK.run rfl (by simp) (TraceK.call rfl rfl (c_cost hk hlt) (TraceK.run rfl (by simp) (.done ⟨by kernel_rfl, by kernel_rfl, ?_⟩)))))))
    exact Tr.retX rfl rfl rfl rfl trivial

/-- What Without returns. -/
def WithoutR (x : Nf) (p : Int) : V := if nfOk x then (if btw p 0 ((x.passes.length : Int) - 1) then (if (bestN x (2 ^ p.toNat)).2 then .tuple [I (costB x (bestN x (2 ^ p.toNat)).1 - costB x (bestN x 0).1), I 0] else .tuple [I 0, I 4]) else .tuple [I 0, I 75]) else .tuple [I 0, I 74]

theorem c_Without {x : Nf} (hx : ∀ p ∈ x.passes, p.adds.length ≤ 9223372036854775807) (p : Int) : C Tryd.prog F.bin_Without [.agg (nfC x), I p] (WithoutR x p) := by
  have kc := c_CheckInfill hx
  unfold WithoutR
  refine C_of mixed chk.bin_Without (by simp) fun S ok => ?_
  refine Tr.seqR rfl (by simp) ?_
  by_cases hk : nfOk x = true
  rotate_left
  · rw [if_neg hk] at kc ⊢
    refine Tr.seq (Tr.seqC rfl (by simp) (Steps.call rfl rfl kc (Steps.fin rfl (by simp) (Tr.seqR rfl (by simp) (Tr.condT rfl (Tr.seqR rfl (by simp) ?_))))))
    exact Tr.retX rfl rfl rfl rfl trivial
  rw [if_pos hk] at kc ⊢
  have hm := (nfOk_spec hk).1.2
  refine Tr.seq (Tr.seqC rfl (by simp) (Steps.call rfl rfl kc (Steps.fin rfl (by simp) (Tr.seqR rfl (by simp) (Tr.condF rfl (Tr.skip ?_))))))
  have kw := c_within p 0 (IntKind.wrap .i64 (((x.passes.map eQ).length : Int) - 1))
  have hw1 : IntKind.wrap .i64 (((x.passes.map eQ).length : Int) - 1) = (x.passes.length : Int) - 1 := by rw [List.length_map, w64 (by omega) (by omega)]
  refine Tr.seq (Tr.seqC rfl (by simp) (Steps.call rfl rfl kw (Steps.fin rfl (by simp) (Tr.cond rfl rfl (fun h => ?_) (fun h => Tr.skip ?_)))))
  · have h : (!btw p 0 (IntKind.wrap .i64 (((x.passes.map eQ).length : Int) - 1))) = true := h
    rw [hw1] at h
    rw [if_neg (by simpa using h)]
    exact Tr.seqR rfl (by simp) (Tr.retX rfl rfl rfl rfl trivial)
  have h : (!btw p 0 (IntKind.wrap .i64 (((x.passes.map eQ).length : Int) - 1))) = false := h
  rw [hw1] at h
  have h : btw p 0 ((x.passes.length : Int) - 1) = true := by simpa using h
  rw [if_pos h]
  rw [btw_iff] at h
  obtain ⟨q, rfl⟩ : ∃ q : Nat, p = (q : Int) := ⟨p.toNat, by omega⟩
  have hq : q < 10 := by omega
  have e2 : ((q : Int)).toNat = q := by omega
  rw [e2]
  have hqp : 2 ^ q ≤ 2 ^ 10 := Nat.pow_le_pow_right (by omega) (by omega)
  have kb := c_best (wo := 2 ^ q) hk (by omega)
  have kb0 := c_best (wo := 0) hk (by omega)
  have hlt := bestN_lt x (2 ^ q)
  have hlt0 := bestN_lt x 0
  obtain ⟨⟨o, so⟩, hos⟩ : ∃ p, bestN x (2 ^ q) = p := ⟨_, rfl⟩
  obtain ⟨⟨o0, so0⟩, hos0⟩ : ∃ p, bestN x 0 = p := ⟨_, rfl⟩
  rw [hos] at kb hlt ⊢
  rw [hos0] at kb0 hlt0 ⊢
  have hsh := bit_shl q (by omega)
  rw [← hsh] at kb
  refine Tr.seq (Tr.drawK (TraceK.run rfl (by simp) ?_))
  refine TraceK.call rfl rfl kb (TraceK.run rfl (by simp) (.done ⟨by kernel_rfl, by kernel_rfl, ?_⟩))
  refine Tr.seq (Tr.seqR rfl (by simp) (Tr.cond rfl rfl (fun h => ?_) (fun h => Tr.skip ?_)))
  · have h : (!so) = true := h
    obtain rfl : so = false := by simpa using h
    exact Tr.seqR rfl (by simp) (Tr.retX rfl rfl rfl rfl trivial)
  · have h : (!so) = false := h
    obtain rfl : so = true := by simpa using h
    refine Tr.seqC rfl (by simp) (Steps.call rfl rfl kb0 (Steps.fin rfl (by simp) ?_))
    refine Tr.seq (Tr.drawK (TraceK.run rfl (by simp) (TraceK.call rfl rfl (c_cost hk hlt) (TraceK.run rfl (by simp) (TraceK.call rfl rfl (c_cost hk hlt0) (TraceK.run rfl (by simp) (.done ⟨by kernel_rfl, by kernel_rfl, ?_⟩)))))))
    have b1 : 0 ≤ costB x o ∧ costB x o ≤ 10000 := costB_bd hk hlt
    have b2 : 0 ≤ costB x o0 ∧ costB x o0 ≤ 10000 := costB_bd hk hlt0
    refine Tr.retX rfl rfl rfl ?_ trivial
    show V.tuple [I (costB x o - costB x o0), I 0] = .tuple [I (IntKind.wrap .i64 (costB x o - costB x o0)), I 0]
    rw [w64 (by omega) (by omega)]

end Go.Proofs.YtffoiccokigjcaaDoor

/-! Contracts: the bound of a leaf. -/
set_option linter.unusedVariables false
set_option linter.unusedSimpArgs false
set_option maxRecDepth 40000
set_option maxHeartbeats 4000000
namespace Go.Proofs.YtffoiccokigjcaaDoor
open Go.Am
attribute [local simp] cells scalar mkv splice under2 under dem dem1 eB eQ nfC intsV

def dotL (a b : List Int) (z : Int) : Int := (List.zipWith (· * ·) a b).foldl (· + ·) z
def minL (a b : List Int) : List Int := List.zipWith min a b
def gainN (x : Nf) (pr R : List Int) (i : Nat) : Int := dotL pr (minL (addsOf x i) R) (-costOf x i)
def leafStep (x : Nf) (pr R : List Int) (d : Nat) (n : Int) (i : Nat) : Int := if d.testBit i then n else n - max 0 (gainN x pr R i)
def leafN (x : Nf) (pr : List Int) (c d : Nat) : Int := (List.range x.passes.length).foldl (leafStep x pr (restsL x (choiceN c)) d) (dotL pr (restsL x (choiceN c)) (costB x c))

theorem dot_bd : ∀ (a b : List Int) (z : Int), (∀ m ∈ a, 0 ≤ m ∧ m ≤ 1000000) → (∀ m ∈ b, 0 ≤ m ∧ m ≤ 100) → z ≤ dotL a b z ∧ dotL a b z ≤ z + a.length * 100000000
  | [], b, z, _, _ => by simp [dotL]
  | m :: a, [], z, h1, _ => by
    have : (0 : Int) ≤ ((m :: a).length : Int) * 100000000 := by omega
    simp only [dotL, List.zipWith_nil_right, List.foldl_nil]; omega
  | m :: a, n :: b, z, h1, h2 => by
    have hm := h1 m (by simp)
    have hn := h2 n (by simp)
    have ih := dot_bd a b (z + m * n) (fun p hp => h1 p (by simp [hp])) (fun p hp => h2 p (by simp [hp]))
    have e : dotL (m :: a) (n :: b) z = dotL a b (z + m * n) := rfl
    have q1 : 0 ≤ m * n := Int.mul_nonneg hm.1 hn.1
    have q2 : m * n ≤ 1000000 * 100 := Int.mul_le_mul hm.2 hn.2 hn.1 (by omega)
    rw [e, List.length_cons]
    push_cast
    omega

theorem dot_take (a b : List Int) (z : Int) {k : Nat} (ha : k < a.length) (hb : k < b.length) : dotL (a.take (k + 1)) (b.take (k + 1)) z = dotL (a.take k) (b.take k) z + a[k] * b[k] := by
  unfold dotL
  rw [← List.take_zipWith, ← List.take_zipWith, foldl_take _ _ _ (by simp; omega)]
  simp

theorem minL_small {n : Nat} {a R : List Int} (ha : a.length = n ∧ ∀ m ∈ a, 0 ≤ m ∧ m ≤ 100) (hR : small n R) : small n (minL a R) := by
  refine ⟨by simp [minL, hR.1, ha.1], fun m hm => ?_⟩
  unfold minL at hm
  obtain ⟨i, hi, rfl⟩ := List.getElem_of_mem hm
  simp only [List.length_zipWith] at hi
  rw [List.getElem_zipWith]
  have h1 := hR.2 _ (List.getElem_mem (show i < R.length by omega))
  have h2 := ha.2 _ (List.getElem_mem (show i < a.length by omega))
  omega

theorem gain_bd {x : Nf} (hx : nfOk x = true) {pr R : List Int} (hp : ∀ m ∈ pr, 0 ≤ m ∧ m ≤ 1000000) (hl : pr.length = x.lacks.length) (hR : small x.lacks.length R) {i : Nat} (hi : i < x.passes.length) : -1000 ≤ gainN x pr R i ∧ gainN x pr R i ≤ 1600000000 := by
  have h := dot_bd pr (minL (addsOf x i) R) (-costOf x i) hp (minL_small (adds_small hx hi) hR).2
  have hn := (nfOk_spec hx).1.1
  have hc := ((nfOk_spec hx).2.2 _ (List.getElem_mem hi)).1
  have e : costOf x i = x.passes[i].cost := by simp [costOf, hi]
  unfold gainN
  rw [e] at h ⊢
  omega

theorem leaf_bd {x : Nf} (hx : nfOk x = true) {pr R : List Int} (hp : ∀ m ∈ pr, 0 ≤ m ∧ m ≤ 1000000) (hl : pr.length = x.lacks.length) (hR : small x.lacks.length R) (d : Nat) (z : Int) : ∀ n, n ≤ x.passes.length → z - n * 1600000000 ≤ (List.range n).foldl (leafStep x pr R d) z ∧ (List.range n).foldl (leafStep x pr R d) z ≤ z
  | 0, _ => by simp
  | n + 1, h => by
    have ih := leaf_bd hx hp hl hR d z n (by omega)
    have hg := gain_bd hx hp hl hR (show n < x.passes.length by omega)
    rw [List.range_succ, List.foldl_append]
    simp only [List.foldl_cons, List.foldl_nil]
    generalize (List.range n).foldl (leafStep x pr R d) z = s at ih ⊢
    unfold leafStep
    push_cast
    split <;> omega

theorem c_leaf {x : Nf} (hx : nfOk x = true) {pr : List Int} (hp : ∀ m ∈ pr, 0 ≤ m ∧ m ≤ 1000000) (hl : pr.length = x.lacks.length) {c d : Nat} (hc : c < 2 ^ x.passes.length) :
    C Tryd.prog F.bin_leaf [.agg (nfC x), intsV pr, I (c : Nat), I (d : Nat)] (I (leafN x pr c d)) := by
  have hm := (nfOk_spec hx).1
  have hR := restsL_small hx (choiceN_lt hc)
  have hcb := costB_bd hx hc
  unfold leafN
  have kr := c_rests hx hc
  obtain ⟨R, eR⟩ : ∃ R, restsL x (choiceN c) = R := ⟨_, rfl⟩
  rw [eR] at kr hR ⊢
  refine C_of mixed chk.bin_leaf (by simp) fun S ok => ?_
  refine Tr.seqR rfl (by simp) (Tr.seqC rfl (by simp) (Steps.call rfl rfl kr (Steps.fin rfl (by simp) ?_)))
  refine Tr.seqC rfl (by simp) (Steps.call rfl rfl (c_cost hx hc) (Steps.fin rfl (by simp) ?_))
  refine Tr.seq (Tr.seqR rfl (by simp) (Tr.block ?_))
  refine Tr.loop (fun (k : Nat) st => k ≤ pr.length ∧ st = { env := [(1, intsV pr), (3, I (d : Nat)), (4, .ptr 4 0), (9, intsV R), (10, I (dotL (pr.take k) (R.take k) (costB x c))), (24, intsV pr), (25, I (pr.length : Nat)), (26, I (k : Nat))], bx := [(4, ⟨nfC x, false⟩)], rw := [], log := [], stp := false }) (fun k => pr.length - k) 0
    (Wk.le (.cons rfl (.refl _) (.cons rfl (.refl _) (.cons rfl (.refl _) (.cons rfl (.refl _) (.cons rfl (.refl _) (.cons rfl (.refl _) (.cons rfl (VLe.i (by simp)) (.cons rfl (.refl _) .nil)))))))) (.cons rfl (LLe.refl _) .nil) .nil rfl rfl) ⟨by omega, rfl⟩ ?_
  rintro k st ⟨hk, rfl⟩
  have hdb : ∀ k, k ≤ pr.length → 0 ≤ dotL (pr.take k) (R.take k) (costB x c) ∧ dotL (pr.take k) (R.take k) (costB x c) ≤ 1700000000 := fun k hk => by
    have := dot_bd (pr.take k) (R.take k) (costB x c) (fun m hm => hp m (List.mem_of_mem_take hm)) (fun m hm => hR.2 m (List.mem_of_mem_take hm))
    have e : (pr.take k).length = k := by rw [List.length_take]; omega
    rw [e] at this
    omega
  refine Tr.seqR rfl (by simp) (Tr.seqI rfl (fun h1 => ?_) (fun h1 => ?_))
  · have h1 : k < pr.length := by simpa using h1
    have h1R : k < R.length := by rw [hR.1, ← hl]; exact h1
    refine Tr.skipT (Tr.seq (Tr.block (Tr.seq (Tr.reg (Steps.runN 2 rfl (by simp; omega) ?_)))))
    rw [getD_map h1]
    refine Steps.fin rfl (by simp) (Tr.reg (Steps.runN 5 rfl (by simp; omega) ?_))
    rw [getD_map h1R]
    refine Steps.fin rfl (by simp) (Tr.regR rfl (by simp) ?_)
    have b1 := hp _ (List.getElem_mem h1)
    have b2 := hR.2 _ (List.getElem_mem h1R)
    have q1 : 0 ≤ pr[k] * R[k] := Int.mul_nonneg b1.1 b2.1
    have q2 : pr[k] * R[k] ≤ 1000000 * 100 := Int.mul_le_mul b1.2 b2.2 b2.1 (by omega)
    have b3 := hdb k (by omega)
    refine ⟨k + 1, _, Wk.le (.cons rfl (.refl _) (.cons rfl (.refl _) (.cons rfl (.refl _) (.cons rfl (.refl _) (.cons rfl (VLe.i ?_) (.cons rfl (.refl _) (.cons rfl (.refl _) (.cons rfl (VLe.i (w64 (by omega) (by omega))) .nil)))))))) (.cons rfl (LLe.refl _) .nil) .nil rfl rfl, ⟨h1, rfl⟩, by omega⟩
    rw [dot_take _ _ _ h1 h1R]
    show IntKind.wrap .i64 (dotL (pr.take k) (R.take k) (costB x c) + IntKind.wrap .i64 (pr[k] * R[k])) = _
    rw [w64 (n := pr[k] * R[k]) (by omega) (by omega), w64 (by omega) (by omega)]
  have h1 : k = pr.length := by simp at h1; omega
  subst h1
  rw [List.take_length, List.take_of_length_le (show R.length ≤ pr.length by rw [hR.1, ← hl]; omega)]
  have hz : 0 ≤ dotL pr R (costB x c) ∧ dotL pr R (costB x c) ≤ 1700000000 := by
    have := hdb pr.length (by omega)
    rwa [List.take_length, List.take_of_length_le (show R.length ≤ pr.length by rw [hR.1, ← hl]; omega)] at this
  generalize dotL pr R (costB x c) = z at hz ⊢
  refine Tr.exit (Tr.seq (Tr.seqR rfl (by simp) (Tr.block ?_)))
  refine Tr.loop (fun (i : Nat) st => i ≤ x.passes.length ∧ st = { env := [(1, intsV pr), (3, I (d : Nat)), (4, .ptr 4 0), (9, intsV R), (10, I ((List.range i).foldl (leafStep x pr R d) z)), (41, .slice 0 2 (x.passes.map eQ)), (42, I (x.passes.length : Nat)), (43, I (i : Nat))], bx := [(4, ⟨nfC x, false⟩)], rw := [], log := [], stp := false }) (fun i => x.passes.length - i) 0
    (Wk.le (.cons rfl (.refl _) (.cons rfl (.refl _) (.cons rfl (.refl _) (.cons rfl (.refl _) (.cons rfl (.refl _) (.cons rfl (.refl _) (.cons rfl (VLe.i (by simp)) (.cons rfl (.refl _) .nil)))))))) (.cons rfl (LLe.refl _) .nil) .nil rfl rfl) ⟨by omega, rfl⟩ ?_
  rintro i st ⟨hi, rfl⟩
  have hlb := leaf_bd hx hp hl hR d z i hi
  have hst : (List.range (i + 1)).foldl (leafStep x pr R d) z = leafStep x pr R d ((List.range i).foldl (leafStep x pr R d) z) i := by
    rw [List.range_succ, List.foldl_append]; rfl
  generalize hs0 : (List.range i).foldl (leafStep x pr R d) z = s0 at hlb hst ⊢
  refine Tr.seqR rfl (by simp) (Tr.seqI rfl (fun h2 => ?_) (fun h2 => ?_))
  rotate_left
  · have h2 : i = x.passes.length := by simp at h2; omega
    subst h2
    exact Tr.exit (Tr.seqR rfl (by simp) (Tr.retX rfl rfl rfl (by rw [hs0]; rfl) trivial))
  have h2 : i < x.passes.length := by simpa using h2
  have hbit := bit_shr d i (by omega)
  refine Tr.skipT (Tr.meet { env := [(1, intsV pr), (3, I (d : Nat)), (4, .ptr 4 0), (9, intsV R), (10, I (leafStep x pr R d s0 i)), (41, .slice 0 2 (x.passes.map eQ)), (42, I (x.passes.length : Nat)), (43, I (i : Nat))], bx := [(4, ⟨nfC x, false⟩)], rw := [], log := [], stp := false } (Tr.block ?_) (Tr.regR rfl (by simp) ?_))
  rotate_left
  · exact ⟨i + 1, _, Wk.le (.cons rfl (.refl _) (.cons rfl (.refl _) (.cons rfl (.refl _) (.cons rfl (.refl _) (.cons rfl (.of_eq (by rw [hst])) (.cons rfl (.refl _) (.cons rfl (.refl _) (.cons rfl (VLe.i (w64 (by omega) (by omega))) .nil)))))))) (.cons rfl (LLe.refl _) .nil) .nil rfl rfl, ⟨h2, rfl⟩, by omega⟩
  refine Tr.seq (Tr.reg (Steps.runN 2 rfl (by simp; omega) ?_))
  rw [getD_map h2]
  refine Steps.fin rfl (by simp) ?_
  have ha := adds_small hx h2
  have ea : addsOf x i = x.passes[i].adds := by simp [addsOf, h2]
  have ec : costOf x i = x.passes[i].cost := by simp [costOf, h2]
  have hco := ((nfOk_spec hx).2.2 _ (List.getElem_mem h2)).1
  refine Tr.seq (Tr.seqR rfl (by simp) (Tr.cond rfl rfl (fun h3 => ?_) (fun h3 => Tr.skip ?_)))
  · have h3 : ((((d : Int).fdiv (2 ^ (min (i : Int).toNat 64))).tmod 2) == 1) = true := h3
    rw [hbit] at h3
    have hd : d.testBit i = true := by
      by_cases h : d.testBit i = true
      · exact h
      · rw [if_neg h] at h3; cases h3
    have e : leafStep x pr R d s0 i = s0 := by unfold leafStep; rw [if_pos hd]
    rw [e]
    exact Tr.exit (Wk.le (.cons rfl (.refl _) (.cons rfl (.refl _) (.cons rfl (.refl _) (.cons rfl (.refl _) (.cons rfl (.refl _) (.cons rfl (.refl _) (.cons rfl (.refl _) (.cons rfl (.refl _) .nil)))))))) (.cons rfl (LLe.refl _) .nil) .nil rfl rfl)
  have h3 : ((((d : Int).fdiv (2 ^ (min (i : Int).toNat 64))).tmod 2) == 1) = false := h3
  rw [hbit] at h3
  have hd : ¬ d.testBit i = true := by
    intro h
    rw [if_pos h] at h3; cases h3
  have e : leafStep x pr R d s0 i = s0 - max 0 (gainN x pr R i) := by unfold leafStep; rw [if_neg hd]
  have hgb := gain_bd hx hp hl hR h2
  rw [e]
  refine Tr.seqR rfl (by simp) ?_
  rw [ea] at ha
  have hml := minL_small ha hR
  have hge : gainN x pr R i = dotL pr (minL x.passes[i].adds R) (-x.passes[i].cost) := by unfold gainN; rw [ea, ec]
  refine Tr.seq (Tr.seqR rfl (by simp) (Tr.block ?_))
  refine Tr.loop (fun (k : Nat) st => k ≤ x.passes[i].adds.length ∧ st = { env := [(1, intsV pr), (3, I (d : Nat)), (4, .ptr 4 0), (9, intsV R), (10, I s0), (15, I (dotL (pr.take k) ((minL x.passes[i].adds R).take k) (-x.passes[i].cost))), (41, .slice 0 2 (x.passes.map eQ)), (42, I (x.passes.length : Nat)), (43, I (i : Nat)), (57, intsV x.passes[i].adds), (58, I (x.passes[i].adds.length : Nat)), (59, I (k : Nat))], bx := [(4, ⟨nfC x, false⟩)], rw := [], log := [], stp := false }) (fun k => x.passes[i].adds.length - k) 0
    (Wk.le (.cons rfl (.refl _) (.cons rfl (.refl _) (.cons rfl (.refl _) (.cons rfl (.refl _) (.cons rfl (.refl _) (.cons rfl (VLe.i ?_) (.cons rfl (.refl _) (.cons rfl (.refl _) (.cons rfl (.refl _) (.cons rfl (.refl _) (.cons rfl (VLe.i ?_) (.cons rfl (.refl _) .nil)))))))))))) (.cons rfl (LLe.refl _) .nil) .nil rfl rfl) ⟨by omega, rfl⟩ ?_
  · show IntKind.wrap .i64 (0 - x.passes[i].cost) = _
    rw [w64 (by omega) (by omega)]
    simp [dotL]
  · show ((x.passes[i].adds.map I).length : Int) = _
    rw [List.length_map]
  rintro k st ⟨hk, rfl⟩
  have hdb2 : ∀ k, k ≤ pr.length → -1000 ≤ dotL (pr.take k) ((minL x.passes[i].adds R).take k) (-x.passes[i].cost) ∧ dotL (pr.take k) ((minL x.passes[i].adds R).take k) (-x.passes[i].cost) ≤ 1700000000 := fun k hk => by
    have := dot_bd (pr.take k) ((minL x.passes[i].adds R).take k) (-x.passes[i].cost) (fun m hm => hp m (List.mem_of_mem_take hm)) (fun m hm => hml.2 m (List.mem_of_mem_take hm))
    have e : (pr.take k).length = k := by rw [List.length_take]; omega
    rw [e] at this
    omega
  have hal : x.passes[i].adds.length = pr.length := by rw [ha.1, hl]
  refine Tr.seqR rfl (by simp) (Tr.seqI rfl (fun h4 => ?_) (fun h4 => ?_))
  · have h4 : k < x.passes[i].adds.length := by simpa using h4
    have h4p : k < pr.length := by omega
    have h4R : k < R.length := by rw [hR.1, ← hl]; omega
    have h4m : k < (minL x.passes[i].adds R).length := by rw [hml.1, ← hl]; omega
    refine Tr.skipT (Tr.seq (Tr.block (Tr.seq (Tr.reg (Steps.runN 2 rfl (by simp; omega) ?_)))))
    rw [getD_map h4]
    refine Steps.fin rfl (by simp) (Tr.drawK (TraceK.runN 4 rfl (by simp; omega) ?_))
    rw [getD_map h4p]
    refine TraceK.runN 5 rfl (by simp; omega) ?_
    rw [getD_map h4R]
    refine TraceK.run rfl (by simp) (.done ⟨by kernel_rfl, by kernel_rfl, ?_⟩)
    refine Tr.regR rfl (by simp) ?_
    have b1 := hp _ (List.getElem_mem h4p)
    have b2 := hml.2 _ (List.getElem_mem h4m)
    have q1 : 0 ≤ pr[k] * (minL x.passes[i].adds R)[k] := Int.mul_nonneg b1.1 b2.1
    have q2 : pr[k] * (minL x.passes[i].adds R)[k] ≤ 1000000 * 100 := Int.mul_le_mul b1.2 b2.2 b2.1 (by omega)
    have b3 := hdb2 k (by omega)
    refine ⟨k + 1, _, Wk.le (.cons rfl (.refl _) (.cons rfl (.refl _) (.cons rfl (.refl _) (.cons rfl (.refl _) (.cons rfl (.refl _) (.cons rfl (VLe.i ?_) (.cons rfl (.refl _) (.cons rfl (.refl _) (.cons rfl (.refl _) (.cons rfl (.refl _) (.cons rfl (.refl _) (.cons rfl (VLe.i (w64 (by omega) (by omega))) .nil)))))))))))) (.cons rfl (LLe.refl _) .nil) .nil rfl rfl, ⟨h4, rfl⟩, by omega⟩
    rw [dot_take _ _ _ h4p h4m]
    have em : (minL x.passes[i].adds R)[k] = min x.passes[i].adds[k] R[k] := by simp [minL]
    show IntKind.wrap .i64 (dotL (pr.take k) ((minL x.passes[i].adds R).take k) (-x.passes[i].cost) + IntKind.wrap .i64 (pr[k] * (if R[k] < x.passes[i].adds[k] then R[k] else x.passes[i].adds[k]))) = _
    rw [ite_min, ← em, w64 (n := pr[k] * _) (by omega) (by omega), w64 (by omega) (by omega)]
  have h4 : k = x.passes[i].adds.length := by simp at h4; omega
  subst h4
  have hge2 : dotL (pr.take x.passes[i].adds.length) ((minL x.passes[i].adds R).take x.passes[i].adds.length) (-x.passes[i].cost) = gainN x pr R i := by
    rw [hge, List.take_of_length_le (by omega), List.take_of_length_le (by rw [hml.1, ha.1]; omega)]
  rw [hge2]
  refine Tr.exit (Tr.regR rfl (by simp) ?_)
  refine Wk.le (.cons rfl (.refl _) (.cons rfl (.refl _) (.cons rfl (.refl _) (.cons rfl (.refl _) (.cons rfl (VLe.i ?_) (.cons rfl (.refl _) (.cons rfl (.refl _) (.cons rfl (.refl _) .nil)))))))) (.cons rfl (LLe.refl _) .nil) .nil rfl rfl
  show IntKind.wrap .i64 (s0 - (if gainN x pr R i > 0 then gainN x pr R i else 0)) = _
  rw [ite_max, w64 (by omega) (by omega)]

end Go.Proofs.YtffoiccokigjcaaDoor

/-! Contracts: the bound of a proof. -/
set_option linter.unusedVariables false
set_option linter.unusedSimpArgs false
set_option maxRecDepth 40000
set_option maxHeartbeats 4000000
namespace Go.Proofs.YtffoiccokigjcaaDoor
open Go.Am
attribute [local simp] cells scalar mkv splice under2 under dem dem1 eB eQ nfC intsV

structure Ct where
  split : Int
  prices : List Int

def eC (c : Ct) : V := .agg [I c.split, intsV c.prices]
def cutsV (p : List Ct) : V := .slice 0 2 (p.map eC)
attribute [local simp] eC cutsV

structure Rd where
  ok : Bool
  at_ : Nat
  some : Bool
  least : Int

def pricesOk (x : Nf) (l : List Int) : Bool := decide (l.length = x.lacks.length) && l.all (btw · 0 1000000)
def splitOk (x : Nf) (k : Ct) (d : Nat) : Bool := btw k.split 0 ((x.passes.length : Int) - 1) && !d.testBit k.split.toNat && decide (k.prices.length = 0)

def readN (x : Nf) (pf : List Ct) : Nat → Nat → Nat → Rd → Rd
  | 0, _, _, s => { s with ok := false }
  | n + 1, c, d, s =>
    if h : s.ok = true ∧ s.at_ < pf.length then
      let k := pf[s.at_]
      let s1 := { s with at_ := s.at_ + 1 }
      if k.split ≠ -1 then
        if splitOk x k d then readN x pf n c (d ||| 2 ^ k.split.toNat) (readN x pf n (c ||| 2 ^ k.split.toNat) (d ||| 2 ^ k.split.toNat) { s1 with ok := true })
        else { s1 with ok := false }
      else if pricesOk x k.prices then
        (if (!s.some || decide (leafN x k.prices c d < s.least)) then { s1 with ok := true, least := leafN x k.prices c d, some := true } else { s1 with ok := true })
      else { s1 with ok := false }
    else { s with ok := false }

theorem readN_at (x : Nf) (pf : List Ct) : ∀ (n c d : Nat) (s : Rd), s.at_ ≤ pf.length → s.at_ ≤ (readN x pf n c d s).at_ ∧ (readN x pf n c d s).at_ ≤ pf.length
  | 0, c, d, s, h => ⟨Nat.le_refl _, h⟩
  | n + 1, c, d, s, h => by
    simp only [readN]
    split
    · rename_i h1
      split
      · split
        · have i1 := readN_at x pf n (c ||| 2 ^ (pf[s.at_]'h1.2).split.toNat) (d ||| 2 ^ (pf[s.at_]'h1.2).split.toNat) { s with at_ := s.at_ + 1, ok := true } (by simp only; omega)
          have i2 := readN_at x pf n c (d ||| 2 ^ (pf[s.at_]'h1.2).split.toNat) (readN x pf n (c ||| 2 ^ (pf[s.at_]'h1.2).split.toNat) (d ||| 2 ^ (pf[s.at_]'h1.2).split.toNat) { s with at_ := s.at_ + 1, ok := true }) i1.2
          simp only at i1
          exact ⟨by omega, i2.2⟩
        · exact ⟨by simp only; omega, by simp only; omega⟩
      · split
        · split
          · exact ⟨by simp only; omega, by simp only; omega⟩
          · exact ⟨by simp only; omega, by simp only; omega⟩
        · exact ⟨by simp only; omega, by simp only; omega⟩
    · exact ⟨Nat.le_refl _, h⟩

/-- The variables of the reading. -/
def rdA (b9 b10 b8 b7 : Nat) (s : Rd) : Arena := [(b10, .cells [I (s.at_ : Nat)]), (b9, .cells [.bool s.ok]), (b8, .cells [.bool s.some]), (b7, .cells [I s.least])]
def readV (x : Nf) (pf : List Ct) (b9 b10 b11 b8 b7 : Nat) : V := .func (.func F.bin_Bound_1) [] [.rptr b9 0, .rptr b10 0, .vptr [cutsV pf] 0, .vptr (nfC x) 0, .rptr b11 0, .rptr b8 0, .rptr b7 0]

theorem setA_at {b9 b10 b8 b7 : Nat} (hn : [b10, b9, b8, b7].Nodup) (s : Rd) (n : Nat) : setA (rdA b9 b10 b8 b7 s) b10 (.cells [I (n : Nat)]) = rdA b9 b10 b8 b7 { s with at_ := n } := by
  simp only [List.nodup_cons, List.mem_cons, List.not_mem_nil, or_false, not_or] at hn
  obtain ⟨⟨h1, h2, h3⟩, ⟨h4, h5⟩, h6, _⟩ := hn
  simp [setA, rdA, h1, h2, h3, h4, h5, h6, Ne.symm h1, Ne.symm h2, Ne.symm h3, Ne.symm h4, Ne.symm h5, Ne.symm h6]

theorem setA_ok {b9 b10 b8 b7 : Nat} (hn : [b10, b9, b8, b7].Nodup) (s : Rd) (n : Bool) : setA (rdA b9 b10 b8 b7 s) b9 (.cells [.bool n]) = rdA b9 b10 b8 b7 { s with ok := n } := by
  simp only [List.nodup_cons, List.mem_cons, List.not_mem_nil, or_false, not_or] at hn
  obtain ⟨⟨h1, h2, h3⟩, ⟨h4, h5⟩, h6, _⟩ := hn
  simp [setA, rdA, h1, h2, h3, h4, h5, h6, Ne.symm h1, Ne.symm h2, Ne.symm h3, Ne.symm h4, Ne.symm h5, Ne.symm h6]

theorem setA_some {b9 b10 b8 b7 : Nat} (hn : [b10, b9, b8, b7].Nodup) (s : Rd) (n : Bool) : setA (rdA b9 b10 b8 b7 s) b8 (.cells [.bool n]) = rdA b9 b10 b8 b7 { s with some := n } := by
  simp only [List.nodup_cons, List.mem_cons, List.not_mem_nil, or_false, not_or] at hn
  obtain ⟨⟨h1, h2, h3⟩, ⟨h4, h5⟩, h6, _⟩ := hn
  simp [setA, rdA, h1, h2, h3, h4, h5, h6, Ne.symm h1, Ne.symm h2, Ne.symm h3, Ne.symm h4, Ne.symm h5, Ne.symm h6]

theorem setA_least {b9 b10 b8 b7 : Nat} (hn : [b10, b9, b8, b7].Nodup) (s : Rd) (n : Int) : setA (rdA b9 b10 b8 b7 s) b7 (.cells [I n]) = rdA b9 b10 b8 b7 { s with least := n } := by
  simp only [List.nodup_cons, List.mem_cons, List.not_mem_nil, or_false, not_or] at hn
  obtain ⟨⟨h1, h2, h3⟩, ⟨h4, h5⟩, h6, _⟩ := hn
  simp [setA, rdA, h1, h2, h3, h4, h5, h6, Ne.symm h1, Ne.symm h2, Ne.symm h3, Ne.symm h4, Ne.symm h5, Ne.symm h6]

section
variable {E : Env} {S1 : Sur} {l0 : List (List V)} {s0 : Bool} {b9 b10 b8 b7 : Nat} {K : St → Prop} {s : St} {rest : List Ins} {x y : X} {d : Nat} {r : Rd}

theorem ld_ok (hA : InA E S1 l0 s0) (hl : s.log = encA (rdA b9 b10 b8 b7 r)) (hx : evXs s.env [x] = some [.rptr b9 0]) (hk : Go.Am.Steps E rest K (s.put (some d) (.bool r.ok))) : Go.Am.Steps E (⟨some d, .load 1 false, [x], none⟩ :: rest) K s :=
  Steps.aload (blk := b9) (off := 0) (cs := [.bool r.ok]) hA hx hl (by simp [rdA]) rfl hk
theorem ld_at (hA : InA E S1 l0 s0) (hl : s.log = encA (rdA b9 b10 b8 b7 r)) (hx : evXs s.env [x] = some [.rptr b10 0]) (hk : Go.Am.Steps E rest K (s.put (some d) (I (r.at_ : Nat)))) : Go.Am.Steps E (⟨some d, .load 1 false, [x], none⟩ :: rest) K s :=
  Steps.aload (blk := b10) (off := 0) (cs := [I (r.at_ : Nat)]) hA hx hl (by simp [rdA]) rfl hk
theorem ld_some (hA : InA E S1 l0 s0) (hl : s.log = encA (rdA b9 b10 b8 b7 r)) (hx : evXs s.env [x] = some [.rptr b8 0]) (hk : Go.Am.Steps E rest K (s.put (some d) (.bool r.some))) : Go.Am.Steps E (⟨some d, .load 1 false, [x], none⟩ :: rest) K s :=
  Steps.aload (blk := b8) (off := 0) (cs := [.bool r.some]) hA hx hl (by simp [rdA]) rfl hk
theorem ld_least (hA : InA E S1 l0 s0) (hl : s.log = encA (rdA b9 b10 b8 b7 r)) (hx : evXs s.env [x] = some [.rptr b7 0]) (hk : Go.Am.Steps E rest K (s.put (some d) (I r.least))) : Go.Am.Steps E (⟨some d, .load 1 false, [x], none⟩ :: rest) K s :=
  Steps.aload (blk := b7) (off := 0) (cs := [I r.least]) hA hx hl (by simp [rdA]) rfl hk
theorem gld_at {t : Nat} {want : Bool} {gv : V} (hA : InA E S1 l0 s0) (hl : s.log = encA (rdA b9 b10 b8 b7 r)) (hgv : get s.env t = some gv) (hgb : guardOf want gv = some true) (hx : evXs s.env [x] = some [.rptr b10 0]) (hk : Go.Am.Steps E rest K (s.put (some d) (.cond true (I (r.at_ : Nat))))) : Go.Am.Steps E (⟨some d, .load 1 false, [x], some (t, want)⟩ :: rest) K s :=
  Steps.gaload (blk := b10) (off := 0) (cs := [I (r.at_ : Nat)]) hA hgv hgb hx hl (by simp [rdA]) rfl hk
theorem gld_least {t : Nat} {want : Bool} {gv : V} (hA : InA E S1 l0 s0) (hl : s.log = encA (rdA b9 b10 b8 b7 r)) (hgv : get s.env t = some gv) (hgb : guardOf want gv = some true) (hx : evXs s.env [x] = some [.rptr b7 0]) (hk : Go.Am.Steps E rest K (s.put (some d) (.cond true (I r.least)))) : Go.Am.Steps E (⟨some d, .load 1 false, [x], some (t, want)⟩ :: rest) K s :=
  Steps.gaload (blk := b7) (off := 0) (cs := [I r.least]) hA hgv hgb hx hl (by simp [rdA]) rfl hk
theorem st_ok (hn : [b10, b9, b8, b7].Nodup) (hA : InA E S1 l0 s0) (hl : s.log = encA (rdA b9 b10 b8 b7 r)) {v : Bool} (hx : evXs s.env [x, y] = some [.rptr b9 0, .bool v]) (hk : Go.Am.Steps E rest K { s with log := encA (rdA b9 b10 b8 b7 { r with ok := v }) }) : Go.Am.Steps E (⟨none, .store 1, [x, y], none⟩ :: rest) K s :=
  Steps.astore (blk := b9) (off := 0) (cs := [.bool r.ok]) hA hx hl (by simp [rdA]) (by simp) rfl rfl (by rw [← setA_ok hn] at hk; exact hk)
theorem st_at (hn : [b10, b9, b8, b7].Nodup) (hA : InA E S1 l0 s0) (hl : s.log = encA (rdA b9 b10 b8 b7 r)) {v : Int} {n : Nat} (hv : v = (n : Int)) (hx : evXs s.env [x, y] = some [.rptr b10 0, I v]) (hk : Go.Am.Steps E rest K { s with log := encA (rdA b9 b10 b8 b7 { r with at_ := n }) }) : Go.Am.Steps E (⟨none, .store 1, [x, y], none⟩ :: rest) K s := by
  subst hv
  exact Steps.astore (blk := b10) (off := 0) (cs := [I (r.at_ : Nat)]) hA hx hl (by simp [rdA]) (by simp) rfl rfl (by rw [← setA_at hn] at hk; exact hk)
theorem st_some (hn : [b10, b9, b8, b7].Nodup) (hA : InA E S1 l0 s0) (hl : s.log = encA (rdA b9 b10 b8 b7 r)) {v : Bool} (hx : evXs s.env [x, y] = some [.rptr b8 0, .bool v]) (hk : Go.Am.Steps E rest K { s with log := encA (rdA b9 b10 b8 b7 { r with some := v }) }) : Go.Am.Steps E (⟨none, .store 1, [x, y], none⟩ :: rest) K s :=
  Steps.astore (blk := b8) (off := 0) (cs := [.bool r.some]) hA hx hl (by simp [rdA]) (by simp) rfl rfl (by rw [← setA_some hn] at hk; exact hk)
theorem st_least (hn : [b10, b9, b8, b7].Nodup) (hA : InA E S1 l0 s0) (hl : s.log = encA (rdA b9 b10 b8 b7 r)) {v : Int} (hx : evXs s.env [x, y] = some [.rptr b7 0, I v]) (hk : Go.Am.Steps E rest K { s with log := encA (rdA b9 b10 b8 b7 { r with least := v }) }) : Go.Am.Steps E (⟨none, .store 1, [x, y], none⟩ :: rest) K s :=
  Steps.astore (blk := b7) (off := 0) (cs := [I r.least]) hA hx hl (by simp [rdA]) (by simp) rfl rfl (by rw [← setA_least hn] at hk; exact hk)
end

theorem c_stop {x : Nf} {pf : List Ct} (hpf : pf.length ≤ 2048) {b9 b10 b11 b8 b7 : Nat} (hn : [b10, b9, b8, b7].Nodup) (c d : Nat) (s : Rd) (hs : ¬ (s.ok = true ∧ s.at_ < pf.length)) :
    CA Tryd.prog F.bin_Bound_1 (rdA b9 b10 b8 b7 s) [(b11, [readV x pf b9 b10 b11 b8 b7])] [I (c : Nat), I (d : Nat), .rptr b9 0, .rptr b10 0, .vptr [cutsV pf] 0, .vptr (nfC x) 0, .rptr b11 0, .rptr b8 0, .rptr b7 0] (.tuple []) (rdA b9 b10 b8 b7 { s with ok := false }) := by
  refine CA_of mixed chk.bin_Bound_1 (by simp) fun S ok S1 hA hK => ?_
  refine Tr.scope (Tr.seq (Tr.seq (Tr.reg ?_)))
  refine ld_ok (r := s) hA rfl rfl ?_
  by_cases hok : s.ok = true
  · have hat : pf.length ≤ s.at_ := by
      rcases Nat.lt_or_ge s.at_ pf.length with h | h
      · exact absurd ⟨hok, h⟩ hs
      · exact h
    rw [hok]
    refine Steps.run rfl (by simp) (gld_at (r := s) hA rfl rfl rfl rfl (Steps.fin rfl (by simp) (Tr.cond rfl rfl (fun h => ?_) (fun h => ?_))))
    · refine Tr.seq (Tr.reg (st_ok hn (r := s) (v := false) hA rfl rfl ?_))
      exact Steps.fin rfl (by simp) (Tr.retX rfl rfl rfl rfl rfl)
    · exfalso
      have h : (decide ((s.at_ : Int) ≥ ((pf.map eC).length : Int))) = false := h
      simp at h; omega
  · have hok : s.ok = false := by simpa using hok
    rw [hok]
    refine Steps.run rfl (by simp) (Steps.off (want := false) (I 0) rfl rfl rfl (Steps.fin rfl (by simp) (Tr.condT rfl ?_)))
    refine Tr.seq (Tr.reg (st_ok hn (r := s) (v := false) hA rfl rfl ?_))
    exact Steps.fin rfl (by simp) (Tr.retX rfl rfl rfl rfl rfl)

theorem pricesOk_spec {x : Nf} {l : List Int} (h : pricesOk x l = true) : l.length = x.lacks.length ∧ ∀ m ∈ l, 0 ≤ m ∧ m ≤ 1000000 := by
  simp only [pricesOk, Bool.and_eq_true, decide_eq_true_eq, List.all_eq_true, btw_iff] at h
  exact h

theorem c_read {x : Nf} (hx : nfOk x = true) {pf : List Ct} (hpf : pf.length ≤ 2048) (hpl : ∀ k ∈ pf, k.prices.length ≤ 9223372036854775807) {b9 b10 b11 b8 b7 : Nat} (hn : [b10, b9, b8, b7].Nodup) (h11 : b11 ∉ [b10, b9, b8, b7]) : ∀ (n c d : Nat) (s : Rd), c < 2 ^ x.passes.length → d < 2 ^ x.passes.length → s.at_ ≤ pf.length → pf.length - s.at_ ≤ n →
    CA Tryd.prog F.bin_Bound_1 (rdA b9 b10 b8 b7 s) [(b11, [readV x pf b9 b10 b11 b8 b7])] [I (c : Nat), I (d : Nat), .rptr b9 0, .rptr b10 0, .vptr [cutsV pf] 0, .vptr (nfC x) 0, .rptr b11 0, .rptr b8 0, .rptr b7 0] (.tuple []) (rdA b9 b10 b8 b7 (readN x pf n c d s)) := by
  have hm := (nfOk_spec hx).1.2
  have hm2 : 2 ^ x.passes.length ≤ 1024 := Nat.pow_le_pow_right (n := 2) (by omega) hm
  intro n
  induction n with
  | zero =>
    intro c d s hc hd ha hl
    exact c_stop hpf hn c d s (by omega)
  | succ n ih =>
    intro c d s hc hd ha hl
    by_cases hs : s.ok = true ∧ s.at_ < pf.length
    rotate_left
    · have := c_stop (x := x) (b11 := b11) hpf hn c d s hs
      simp only [readN, dif_neg hs]
      exact this
    simp only [readN, dif_pos hs]
    obtain ⟨hok, hat⟩ := hs
    obtain ⟨k, ek⟩ : ∃ k, pf[s.at_] = k := ⟨_, rfl⟩
    have hpk : k.prices.length ≤ 9223372036854775807 := hpl k (ek ▸ List.getElem_mem hat)
    rw [ek]
    refine CA_of mixed chk.bin_Bound_1 (by simp) fun S ok S1 hA hK => ?_
    refine Tr.scope (Tr.seq (Tr.seq (Tr.reg ?_)))
    refine ld_ok (r := s) hA rfl rfl ?_
    rw [hok]
    refine Steps.run rfl (by simp) (gld_at (r := s) hA rfl rfl rfl rfl (Steps.fin rfl (by simp) (Tr.cond rfl rfl (fun h => ?_) (fun h => Tr.skip ?_))))
    · exfalso
      have h : (decide ((s.at_ : Int) ≥ ((pf.map eC).length : Int))) = true := h
      simp at h; omega
    refine Tr.seq (Tr.reg (Steps.run rfl (by simp) (ld_at (r := s) hA rfl rfl (Steps.runN 1 rfl (by simp; omega) ?_))))
    rw [getD_map hat, ek]
    refine Steps.fin rfl (by simp) ?_
    refine Tr.seq (Tr.reg (ld_at (r := s) hA rfl rfl (Steps.run rfl (by simp) ?_)))
    refine st_at hn (r := s) (n := s.at_ + 1) hA rfl (w64 (n := (s.at_ : Int) + 1) (by omega) (by omega)) rfl ?_
    refine Steps.fin rfl (by simp) ?_
    obtain ⟨s1, hs1⟩ : ∃ s1 : Rd, { s with at_ := s.at_ + 1 } = s1 := ⟨_, rfl⟩
    rw [hs1]
    have e1 : s1.at_ = s.at_ + 1 := by rw [← hs1]
    have e2 : s1.some = s.some := by rw [← hs1]
    have e3 : s1.least = s.least := by rw [← hs1]
    rw [← e1, ← e2, ← e3]
    refine Tr.weak (s' := { env := [(0, I (c : Nat)), (1, I (d : Nat)), (2, .rptr b9 0), (3, .rptr b10 0), (4, .vptr [cutsV pf] 0), (5, .vptr (nfC x) 0), (6, .rptr b11 0), (7, .rptr b8 0), (8, .rptr b7 0), (11, .ptr 11 0)], bx := [(11, ⟨[I k.split, intsV k.prices], false⟩)], rw := [], log := encA (rdA b9 b10 b8 b7 s1), stp := false })
      (Wk.le (.cons rfl (.refl _) (.cons rfl (.refl _) (.cons rfl (.refl _) (.cons rfl (.refl _) (.cons rfl (.refl _) (.cons rfl (.refl _) (.cons rfl (.refl _) (.cons rfl (.refl _) (.cons rfl (.refl _) (.cons rfl (.refl _) .nil)))))))))) (.cons rfl (LLe.refl _) .nil) .nil rfl rfl) ?_
    refine Tr.seq (Tr.seqR rfl (by simp) (Tr.cond rfl rfl (fun hsp => ?_) (fun hsp => Tr.skip ?_)))
    · have hsp : (k.split != -1) = true := hsp
      have hsp : k.split ≠ -1 := by simpa using hsp
      rw [if_pos hsp]
      have hw1 : IntKind.wrap .i64 (((x.passes.map eQ).length : Int) - 1) = (x.passes.length : Int) - 1 := by rw [List.length_map, w64 (by omega) (by omega)]
      have kw := c_within k.split 0 (IntKind.wrap .i64 (((x.passes.map eQ).length : Int) - 1))
      rw [hw1] at kw
      have kw' : C Tryd.prog F.bin_within [I k.split, I 0, I (IntKind.wrap .i64 (((x.passes.map eQ).length : Int) - 1))] (.bool (btw k.split 0 ((x.passes.length : Int) - 1))) := by rw [hw1]; exact kw
      by_cases hw : btw k.split 0 ((x.passes.length : Int) - 1) = true
      rotate_left
      · have hw : btw k.split 0 ((x.passes.length : Int) - 1) = false := by simpa using hw
        rw [hw] at kw'
        have : splitOk x k d = false := by simp [splitOk, hw]
        rw [if_neg (by simp [this])]
        refine Tr.seq (Tr.seq (Tr.reg (Steps.run rfl (by simp) (Steps.call rfl rfl kw' (Steps.run rfl (by simp) ?_)))))
        refine st_ok hn (r := s1) (v := false) hA rfl rfl (Steps.fin rfl (by simp) ?_)
        refine Tr.seq (Tr.reg (ld_ok (r := { s1 with ok := false }) hA rfl rfl (Steps.fin rfl (by simp) (Tr.condF rfl (Tr.skip ?_)))))
        exact Tr.retX rfl rfl rfl rfl rfl
      rw [hw] at kw'
      rw [btw_iff] at hw
      obtain ⟨i, hi⟩ : ∃ i : Nat, k.split = (i : Int) := ⟨k.split.toNat, by omega⟩
      have hi' : k.split.toNat = i := by omega
      have him : i < x.passes.length := by omega
      have hbit := bit_shr d i (by omega)
      have hso : splitOk x k d = (!d.testBit i && decide (k.prices.length = 0)) := by
        unfold splitOk
        rw [(btw_iff _ _ _).2 hw, hi']; rfl
      have hval : (bif (((((d : Int).fdiv (2 ^ (min (k.split).toNat 64))).tmod 2) == 0)) then (((k.prices.map I).length : Int) == 0) else false) = splitOk x k d := by
        rw [hso, hi, hbit, List.length_map]
        by_cases h : d.testBit i = true
        · simp [h]
        · by_cases h5 : k.prices.length = 0
          · rw [h5]; simp [h]
          · have h6 : k.prices ≠ [] := fun h6 => h5 (by rw [h6]; rfl)
            simp [h, h6]
      refine Tr.seq (Tr.seq (Tr.reg (Steps.run rfl (by simp) (Steps.call rfl rfl kw' (Steps.run rfl (by simp; omega) ?_)))))
      refine st_ok hn (r := s1) (v := splitOk x k d) hA rfl ?_ (Steps.fin rfl (by simp) ?_)
      · rw [← hval]; rfl
      refine Tr.seq (Tr.reg (ld_ok (r := { s1 with ok := splitOk x k d }) hA rfl rfl (Steps.fin rfl (by simp) (Tr.cond rfl rfl (fun h3 => ?_) (fun h3 => Tr.skip ?_)))))
      rotate_left
      · have h3 : splitOk x k d = false := h3
        rw [if_neg (by simp [h3]), h3]
        exact Tr.retX rfl rfl rfl rfl rfl
      have h3 : splitOk x k d = true := h3
      rw [if_pos h3, h3, hi']
      have hp : 2 ^ i < 2 ^ x.passes.length := Nat.pow_lt_pow_right (by omega) him
      have hc2 : c ||| 2 ^ i < 2 ^ x.passes.length := Nat.or_lt_two_pow hc hp
      have hd2 : d ||| 2 ^ i < 2 ^ x.passes.length := Nat.or_lt_two_pow hd hp
      have hsh := bit_shl i (by omega)
      have hor : ∀ e : Nat, e < 2 ^ x.passes.length → bitsV .or .i64 (e : Int) (IntKind.wrap .i64 (1 * 2 ^ (min (k.split).toNat 64))) = ((e ||| 2 ^ i : Nat) : Int) := fun e he => by
        rw [hi, hsh]
        exact bits_or e (2 ^ i) (by omega) (by omega)
      have k1 := ih (c ||| 2 ^ i) (d ||| 2 ^ i) { s1 with ok := true } hc2 hd2 (by simp only; omega) (by simp only; omega)
      have hat2 := readN_at x pf n (c ||| 2 ^ i) (d ||| 2 ^ i) { s1 with ok := true } (by simp only; omega)
      simp only at hat2
      obtain ⟨s2, es2⟩ : ∃ s2, readN x pf n (c ||| 2 ^ i) (d ||| 2 ^ i) { s1 with ok := true } = s2 := ⟨_, rfl⟩
      rw [es2] at k1 hat2 ⊢
      have k2 := ih c (d ||| 2 ^ i) s2 hc hd2 hat2.2 (by omega)
      refine Tr.seq (Tr.drawK (TraceK.kload hK (cs := [readV x pf b9 b10 b11 b8 b7]) rfl (by simp) rfl (TraceK.runN 10 rfl (by simp; omega) ?_)))
      have hkd : ∀ r : Rd, ∀ p ∈ [(b11, [readV x pf b9 b10 b11 b8 b7])], p.1 ∉ (rdA b9 b10 b8 b7 r).map (·.1) := fun r p hp => by
        obtain rfl := List.mem_singleton.1 hp
        exact h11
      rw [← hor c hc, ← hor d hd] at k1
      refine .done ⟨by kernel_rfl, by kernel_rfl, ?_⟩
      refine Steps.callvA (F := []) hA rfl rfl rfl k1 (.inr ⟨hK, hkd _⟩) (Steps.fin rfl (by simp) ?_)
      rw [← hor d hd] at k2
      refine Tr.drawK (TraceK.kload hK (cs := [readV x pf b9 b10 b11 b8 b7]) rfl (by simp) rfl (TraceK.runN 6 rfl (by simp; omega) (.done ⟨by kernel_rfl, by kernel_rfl, ?_⟩)))
      refine Steps.callvA (F := []) hA rfl rfl rfl k2 (.inr ⟨hK, hkd _⟩) (Steps.fin rfl (by simp) ?_)
      exact Tr.retX rfl rfl rfl rfl rfl
    have hsp : (k.split != -1) = false := hsp
    have hsp : ¬ k.split ≠ -1 := by simpa using hsp
    rw [if_neg hsp]
    have hlen : ((((k.prices.map I).length : Int)) == (((x.lacks.map I).length : Int))) = decide (k.prices.length = x.lacks.length) := by
      rw [List.length_map, List.length_map]
      by_cases h : k.prices.length = x.lacks.length
      · rw [h]; simp
      · have : ¬ ((k.prices.length : Int) = (x.lacks.length : Int)) := by omega
        simp [h, this]
    refine Tr.seq (Tr.reg (Steps.run rfl (by simp) ?_))
    have hlen0 : ((((k.prices.map I).length : Int)) == (((x.lacks.map I).length : Int))) = (decide (k.prices.length = x.lacks.length) && (k.prices.take 0).all (btw · 0 1000000)) := by rw [hlen]; simp
    refine st_ok hn (r := s1) (v := decide (k.prices.length = x.lacks.length) && (k.prices.take 0).all (btw · 0 1000000)) hA rfl ?_ (Steps.fin rfl (by simp) ?_)
    · rw [← hlen0]; rfl
    refine Tr.seq (Tr.label ?_)
    refine Tr.meet { env := [(0, I (c : Nat)), (1, I (d : Nat)), (2, .rptr b9 0), (5, .vptr (nfC x) 0), (7, .rptr b8 0), (8, .rptr b7 0), (11, .ptr 11 0)], bx := [(11, ⟨[I k.split, intsV k.prices], false⟩)], rw := [], log := encA (rdA b9 b10 b8 b7 { s1 with ok := pricesOk x k.prices }), stp := false } (Tr.seqR rfl (by simp) (Tr.block ?_)) ?_
    · refine Tr.loop (fun (j : Nat) st => (j ≤ k.prices.length) ∧ st = { env := [(0, I (c : Nat)), (1, I (d : Nat)), (2, .rptr b9 0), (5, .vptr (nfC x) 0), (7, .rptr b8 0), (8, .rptr b7 0), (11, .ptr 11 0), (82, intsV k.prices), (83, I (k.prices.length : Nat)), (84, I (j : Nat))], bx := [(11, ⟨[I k.split, intsV k.prices], false⟩)], rw := [], log := encA (rdA b9 b10 b8 b7 { s1 with ok := decide (k.prices.length = x.lacks.length) && (k.prices.take j).all (btw · 0 1000000) }), stp := false }) (fun j => k.prices.length - j) 0
        (Wk.le (.cons rfl (.refl _) (.cons rfl (.refl _) (.cons rfl (.refl _) (.cons rfl (.refl _) (.cons rfl (.refl _) (.cons rfl (.refl _) (.cons rfl (.refl _) (.cons rfl (.refl _) (.cons rfl (VLe.i ?_) (.cons rfl (.refl _) .nil)))))))))) (.cons rfl (LLe.refl _) .nil) .nil rfl rfl) ⟨Nat.zero_le _, rfl⟩ ?_
      · show ((k.prices.map I).length : Int) = _
        rw [List.length_map]
      rintro j st ⟨hj, rfl⟩
      refine Tr.seqR rfl (by simp) (Tr.seqI rfl (fun h1 => ?_) (fun h1 => ?_))
      rotate_left
      · have h1 : j = k.prices.length := by simp at h1; omega
        subst h1
        rw [List.take_length]
        exact Tr.exit (Wk.le (.cons rfl (.refl _) (.cons rfl (.refl _) (.cons rfl (.refl _) (.cons rfl (.refl _) (.cons rfl (.refl _) (.cons rfl (.refl _) (.cons rfl (.refl _) .nil))))))) (.cons rfl (LLe.refl _) .nil) .nil rfl rfl)
      have h1 : j < k.prices.length := by simpa using h1
      have hnx : (decide (k.prices.length = x.lacks.length) && (k.prices.take (j + 1)).all (btw · 0 1000000)) = ((decide (k.prices.length = x.lacks.length) && (k.prices.take j).all (btw · 0 1000000)) && btw k.prices[j] 0 1000000) := by
        rw [all_take_succ h1, Bool.and_assoc]
      have hfa : (decide (k.prices.length = x.lacks.length) && (k.prices.take (j + 1)).all (btw · 0 1000000)) = false → pricesOk x k.prices = false := fun h => by
        unfold pricesOk
        rw [Bool.and_eq_false_iff] at h ⊢
        rcases h with h | h
        · exact .inl h
        · refine .inr ?_
          rw [List.all_eq_false] at h ⊢
          obtain ⟨m, hm, h⟩ := h
          exact ⟨m, List.mem_of_mem_take hm, h⟩
      generalize hB0 : (decide (k.prices.length = x.lacks.length) && (k.prices.take j).all (btw · 0 1000000)) = B0 at hnx ⊢
      refine Tr.skipT (Tr.seq (Tr.block (Tr.seq (Tr.reg (Steps.runN 1 rfl (by simp; omega) ?_)))))
      rw [getD_map h1]
      refine Steps.fin rfl (by simp) (Tr.seq (Tr.reg (ld_ok (r := { s1 with ok := B0 }) hA rfl rfl (Steps.run rfl (by simp) ?_))))
      refine Steps.gcall rfl rfl rfl rfl (by simp) (fun _ => c_within k.prices[j] 0 1000000) ?_
      refine Steps.runN 1 rfl (by cases B0 <;> simp) ?_
      refine st_ok hn (r := { s1 with ok := B0 }) (v := B0 && btw k.prices[j] 0 1000000) hA rfl ?_ (Steps.fin rfl (by simp) ?_)
      · show some [V.rptr b9 0, .bool (bif B0 then btw k.prices[j] 0 1000000 else false)] = _
        cases B0 <;> rfl
      rw [← hnx]
      refine Tr.seq (Tr.reg (ld_ok (r := { s1 with ok := _ }) hA rfl rfl (Steps.fin rfl (by simp) (Tr.cond rfl rfl (fun h2 => ?_) (fun h2 => Tr.skip ?_)))))
      · have h2 : (!(decide (k.prices.length = x.lacks.length) && (k.prices.take (j + 1)).all (btw · 0 1000000))) = true := h2
        have h2 : (decide (k.prices.length = x.lacks.length) && (k.prices.take (j + 1)).all (btw · 0 1000000)) = false := by
          revert h2
          generalize (decide (k.prices.length = x.lacks.length) && (k.prices.take (j + 1)).all (btw · 0 1000000)) = B
          cases B <;> simp
        rw [h2, hfa h2]
        exact Tr.exit (Wk.le (.cons rfl (.refl _) (.cons rfl (.refl _) (.cons rfl (.refl _) (.cons rfl (.refl _) (.cons rfl (.refl _) (.cons rfl (.refl _) (.cons rfl (.refl _) .nil))))))) (.cons rfl (LLe.refl _) .nil) .nil rfl rfl)
      · refine Tr.regR rfl (by simp) ?_
        exact ⟨j + 1, _, Wk.le (.cons rfl (.refl _) (.cons rfl (.refl _) (.cons rfl (.refl _) (.cons rfl (.refl _) (.cons rfl (.refl _) (.cons rfl (.refl _) (.cons rfl (.refl _) (.cons rfl (.refl _) (.cons rfl (.refl _) (.cons rfl (VLe.i (w64 (by omega) (by omega))) .nil)))))))))) (.cons rfl (LLe.refl _) .nil) .nil rfl rfl, ⟨h1, rfl⟩, by omega⟩
    refine Tr.seq (Tr.reg (ld_ok (r := { s1 with ok := pricesOk x k.prices }) hA rfl rfl (Steps.fin rfl (by simp) (Tr.cond rfl rfl (fun h2 => ?_) (fun h2 => Tr.skip ?_)))))
    rotate_left
    · have h2 : pricesOk x k.prices = false := h2
      rw [if_neg (by simp [h2]), h2]
      exact ⟨rfl, [], [], [], rfl, rfl, rfl⟩
    have h2 : pricesOk x k.prices = true := h2
    rw [if_pos h2, h2]
    obtain ⟨hp1, hp2⟩ := pricesOk_spec h2
    refine Tr.seq (Tr.reg (Steps.run rfl (by simp) (Steps.call rfl rfl (c_leaf hx hp2 hp1 hc) (Steps.fin rfl (by simp) ?_))))
    refine Tr.seq (Tr.reg (ld_some (r := { s1 with ok := true }) hA rfl rfl ?_))
    have e5 : ({ s1 with ok := true } : Rd).some = s1.some := rfl
    rw [e5]
    cases hsm : s1.some with
    | true =>
      refine Steps.run rfl (by simp) ?_
      refine gld_least (r := { s1 with ok := true, some := true }) hA rfl rfl rfl rfl ?_
      refine Steps.fin rfl (by simp) (Tr.cond rfl rfl (fun h3 => ?_) (fun h3 => Tr.skip ?_))
      · have h3 : decide (leafN x k.prices c d < s1.least) = true := h3
        rw [if_pos (by rw [h3]; rfl)]
        refine Tr.reg (Steps.run rfl (by simp) ?_)
        refine st_least hn (r := { s1 with ok := true, some := true }) (v := leafN x k.prices c d) hA rfl rfl ?_
        refine st_some hn (r := { s1 with ok := true, some := true, least := leafN x k.prices c d }) (v := true) hA rfl rfl (Steps.fin rfl (by simp) ?_)
        exact ⟨rfl, [], [], [], rfl, rfl, rfl⟩
      · have h3 : decide (leafN x k.prices c d < s1.least) = false := h3
        rw [if_neg (by rw [h3]; simp)]
        refine ⟨?_, [], [], [], rfl, rfl, rfl⟩
        rfl
    | false =>
      refine Steps.run rfl (by simp) (Steps.off (want := false) (I 0) rfl rfl rfl ?_)
      refine Steps.fin rfl (by simp) (Tr.condT rfl ?_)
      rw [if_pos (by simp)]
      refine Tr.reg (Steps.run rfl (by simp) ?_)
      refine st_least hn (r := { s1 with ok := true, some := false }) (v := leafN x k.prices c d) hA rfl rfl ?_
      refine st_some hn (r := { s1 with ok := true, some := false, least := leafN x k.prices c d }) (v := true) hA rfl rfl (Steps.fin rfl (by simp) ?_)
      exact ⟨rfl, [], [], [], rfl, rfl, rfl⟩

end Go.Proofs.YtffoiccokigjcaaDoor

/-! Contracts: Bound. -/
set_option linter.unusedVariables false
set_option linter.unusedSimpArgs false
set_option maxRecDepth 40000
set_option maxHeartbeats 4000000
namespace Go.Proofs.YtffoiccokigjcaaDoor
open Go.Am
attribute [local simp] cells scalar mkv splice under2 under dem dem1 eB eQ nfC intsV eC cutsV

def boundN (x : Nf) (pf : List Ct) : Rd := readN x pf pf.length 0 0 ⟨true, 0, false, 0⟩
def BoundR (x : Nf) (pf : List Ct) : V := if nfOk x then (if pf.length ≤ 2048 then (if (boundN x pf).ok && decide ((boundN x pf).at_ = pf.length) then .tuple [I (boundN x pf).least, I 0] else .tuple [I 0, I 76]) else .tuple [I 0, I 76]) else .tuple [I 0, I 74]

theorem setA_head {A : Arena} {b : Nat} (h : b ∉ A.map (·.1)) (o o' : Ob) : setA ((b, o) :: A) b o' = (b, o') :: A := by
  unfold setA
  rw [List.map_cons, if_pos rfl]
  congr 1
  conv => rhs; rw [← List.map_id A]
  refine List.map_congr_left fun p hp => ?_
  rw [if_neg (fun e => h (List.mem_map.2 ⟨p, hp, e⟩))]; rfl

theorem c_Bound {x : Nf} (hx : ∀ p ∈ x.passes, p.adds.length ≤ 9223372036854775807) {pf : List Ct} (hpl : ∀ k ∈ pf, k.prices.length ≤ 9223372036854775807) : C Tryd.prog F.bin_Bound [.agg (nfC x), cutsV pf] (BoundR x pf) := by
  have kc := c_CheckInfill hx
  unfold BoundR
  refine C_of mixed chk.bin_Bound (by simp) fun S ok => ?_
  refine Tr.seqR rfl (by simp) ?_
  by_cases hk : nfOk x = true
  rotate_left
  · rw [if_neg hk] at kc ⊢
    refine Tr.seq (Tr.seqC rfl (by simp) (Steps.call rfl rfl kc (Steps.fin rfl (by simp) (Tr.seqR rfl (by simp) (Tr.condT rfl (Tr.seqR rfl (by simp) ?_))))))
    exact Tr.retX rfl rfl rfl rfl trivial
  rw [if_pos hk] at kc ⊢
  refine Tr.seq (Tr.seqC rfl (by simp) (Steps.call rfl rfl kc (Steps.fin rfl (by simp) (Tr.seqR rfl (by simp) (Tr.condF rfl (Tr.skip ?_))))))
  refine Tr.seq (Tr.seqR rfl (by simp) (Tr.cond rfl rfl (fun h => ?_) (fun h => Tr.skip ?_)))
  · have h : decide (((pf.map eC).length : Int) > 2048) = true := h
    have h : ¬ pf.length ≤ 2048 := by simp at h; omega
    rw [if_neg h]
    exact Tr.seqR rfl (by simp) (Tr.retX rfl rfl rfl rfl trivial)
  have h : decide (((pf.map eC).length : Int) > 2048) = false := h
  have hp : pf.length ≤ 2048 := by simp at h; omega
  rw [if_pos hp]
  refine Tr.weak (s' := { env := [(2, .ptr 2 0), (3, .ptr 3 0)], bx := [(2, ⟨nfC x, false⟩), (3, ⟨[cutsV pf], false⟩)], rw := [], log := [], stp := false }) (Wk.le (.cons rfl (.refl _) (.cons rfl (.refl _) .nil)) (.cons rfl (LLe.refl _) (.cons rfl (LLe.refl _) .nil)) .nil rfl rfl) ?_
  refine Tr.weak (wkData (t := 2) (u := .vptr (nfC x) 0) (ids := [2]) rfl rfl) ?_
  refine Tr.weak (wkData (t := 3) (u := .vptr [cutsV pf] 0) (ids := [3]) rfl rfl) ?_
  refine Tr.weak (s' := { env := [(2, .vptr (nfC x) 0), (3, .vptr [cutsV pf] 0)], bx := [], rw := [], log := [], stp := false }) (Wk.le (.cons rfl (.refl _) (.cons rfl (.refl _) .nil)) .nil .nil rfl rfl) ?_
  refine Tr.arena rfl rfl ?_
  have hA := InA.main (E := env0 Tryd.prog mixed 32 S ok) [] false
  refine Tr.seq (Tr.reg ?_)
  refine Steps.aalloc hA rfl fun b7 n7 => ?_
  refine Steps.aalloc hA rfl fun b8 n8 => ?_
  refine Steps.aalloc hA rfl fun b9 n9 => ?_
  refine Steps.aalloc hA rfl fun b10 n10 => ?_
  have hn : [b10, b9, b8, b7].Nodup := by
    simp only [List.map_cons, List.map_nil, List.mem_cons, List.not_mem_nil, or_false, not_or] at n7 n8 n9 n10
    simp only [List.nodup_cons, List.mem_cons, List.not_mem_nil, or_false, not_or]
    exact ⟨⟨n10.1, n10.2.1, n10.2.2⟩, ⟨n9.1, n9.2⟩, n8, fun h => h, List.nodup_nil⟩
  refine st_least hn (r := ⟨false, 0, false, 0⟩) (v := 0) hA rfl rfl ?_
  refine st_some hn (r := ⟨false, 0, false, 0⟩) (v := false) hA rfl rfl ?_
  refine st_ok hn (r := ⟨false, 0, false, 0⟩) (v := true) hA rfl rfl ?_
  refine st_at hn (r := ⟨true, 0, false, 0⟩) (v := 0) (n := 0) hA rfl rfl rfl (Steps.fin rfl (by simp) ?_)
  refine Tr.seq (Tr.reg (Steps.aalloc hA rfl fun b11 n11 => Steps.fin rfl (by simp) ?_))
  have h11 : b11 ∉ [b10, b9, b8, b7] := n11
  have ka := c_read hk hp hpl (b11 := b11) hn h11 pf.length 0 0 ⟨true, 0, false, 0⟩ (Nat.two_pow_pos _) (Nat.two_pow_pos _) (Nat.zero_le _) (by simp)
  refine Tr.seq (Tr.reg (Steps.run rfl (by simp) ?_))
  refine Steps.astoreD (blk := b11) (off := 0) (cs := [.nilf]) (v := readV x pf b9 b10 b11 b8 b7) hA rfl rfl (by simp) (by simp) rfl rfl ?_
  rw [setA_head h11]
  refine Steps.fin rfl (by simp) ?_
  refine Tr.seq (Tr.reg (Steps.aload (blk := b11) (off := 0) (cs := [readV x pf b9 b10 b11 b8 b7]) hA rfl rfl (by simp) rfl ?_))
  refine Steps.callvA (F := [(b11, .cells [readV x pf b9 b10 b11 b8 b7])]) hA rfl rfl rfl ka (.inl (by simp)) (Steps.fin rfl (by simp) ?_)
  have hr : boundN x pf = readN x pf pf.length 0 0 ⟨true, 0, false, 0⟩ := rfl
  rw [← hr]
  generalize boundN x pf = r
  obtain ⟨rok, rat, rsome, rleast⟩ := r
  refine Tr.seq (Tr.seq (Tr.reg (Steps.aload (blk := b9) (off := 0) (cs := [.bool rok]) hA rfl rfl (by simp [rdA]) rfl ?_)))
  cases rok with
  | false =>
    rw [if_neg (by simp)]
    refine Steps.run rfl (by simp) (Steps.off (want := false) (I 0) rfl rfl rfl (Steps.fin rfl (by simp) (Tr.condT rfl ?_)))
    refine Tr.seqR rfl (by simp) ?_
    exact Tr.ret ⟨trivial, _, _, _, resVs_ok rfl, rfl, rfl⟩
  | true =>
    refine Steps.run rfl (by simp) (Steps.gaload (blk := b10) (off := 0) (cs := [I (rat : Nat)]) hA rfl rfl rfl rfl (by simp [rdA]) rfl (Steps.fin rfl (by simp) (Tr.cond rfl rfl (fun h => ?_) (fun h => Tr.skip ?_))))
    · have h : ((rat : Int) != ((pf.map eC).length : Int)) = true := h
      have hne : rat ≠ pf.length := by
        rintro rfl
        simp at h
      rw [if_neg (by simp [hne])]
      refine Tr.seqR rfl (by simp) ?_
      exact Tr.ret ⟨trivial, _, _, _, resVs_ok rfl, rfl, rfl⟩
    · have h : ((rat : Int) != ((pf.map eC).length : Int)) = false := h
      have he : rat = pf.length := by simp at h; omega
      rw [if_pos (by simp [he])]
      refine Tr.seq (Tr.reg (Steps.aload (blk := b7) (off := 0) (cs := [I rleast]) hA rfl rfl (by simp [rdA]) rfl (Steps.fin rfl (by simp) ?_)))
      exact Tr.ret ⟨trivial, _, _, _, resVs_ok rfl, rfl, rfl⟩

end Go.Proofs.YtffoiccokigjcaaDoor

/-! Contracts: a fold as a text. -/
set_option linter.unusedVariables false
set_option linter.unusedSimpArgs false
set_option maxRecDepth 40000
set_option maxHeartbeats 4000000
namespace Go.Proofs.YtffoiccokigjcaaDoor
open Go.Am
attribute [local simp] cells scalar mkv splice under2 under dem dem1 eB gridC sB intsV

def foldV (f : List (List Int)) : V := .slice 0 1 (f.map intsV)
attribute [local simp] foldV
def rowOk (g : Gd) (l : List Int) : Bool := decide (l.length = g.cls.length) && !(l.any fun n => decide (n < 0))
def mapOk (g : Gd) (f : List (List Int)) : Bool := decide ((f.length : Int) = g.a * g.d) && f.all (rowOk g)
def charB (n : Int) : UInt8 := if n = 0 then 46 else if n ≤ 9 then UInt8.ofNat (48 + n).toNat else 43
def at2 (f : List (List Int)) (i k : Nat) : Int := (f.getD i []).getD k 0
def rowB (g : Gd) (f : List (List Int)) (k r : Nat) : List UInt8 := (List.range g.a.toNat).map fun c => charB (at2 f (r * g.a.toNat + c) k)
def mapB (g : Gd) (f : List (List Int)) (k : Nat) : List UInt8 := (List.range g.d.toNat).flatMap fun i => rowB g f k (g.d.toNat - 1 - i) ++ [10]

theorem c_Map1 (n : Int) : C Tryd.prog F.bin_Map_1 [I n] (.bool (decide (n < 0))) := by
  refine C_of mixed chk.bin_Map_1 (by simp) fun S ok => ?_
  exact Tr.seqR rfl (by simp) (Tr.seqR rfl (by simp) (Tr.retX rfl rfl rfl rfl trivial))

def MapR (g : Gd) (f : List (List Int)) (k : Int) : V :=
  if gridOk g then (if mapOk g f then (if btw k 0 ((g.cls.length : Int) - 1) then .tuple [.str ⟨(mapB g f k.toNat).toArray⟩, I 0] else .tuple [.str ⟨#[]⟩, I 72]) else .tuple [.str ⟨#[]⟩, I 73]) else .tuple [.str ⟨#[]⟩, I 70]

theorem gridOk_sp {g : Gd} (h : gridOk g = true) : planeB g.o = true ∧ (1 ≤ g.size ∧ g.size ≤ 1000) ∧ (1 ≤ g.a ∧ g.a ≤ 16) ∧ (1 ≤ g.d ∧ g.d ≤ 16) ∧ (1 ≤ g.cls.length ∧ g.cls.length ≤ 4) ∧ clsOk (-1) g.cls = true := by
  simp only [gridOk, Bool.and_eq_true, btw_iff] at h
  obtain ⟨⟨⟨⟨⟨h1, h2⟩, h3⟩, h4⟩, h5⟩, h6⟩ := h
  exact ⟨h1, h2, h3, h4, by omega, h6⟩

theorem c_Map {g : Gd} (hl : g.cls.length ≤ 9223372036854775807) {f : List (List Int)} (hf : ∀ l ∈ f, l.length ≤ 9223372036854775807) (hf2 : f.length ≤ 9223372036854775807) (k : Int) : C Tryd.prog F.bin_Map [.agg (gridC g), foldV f, I k] (MapR g f k) := by
  have kg := c_CheckGrid (g := g) hl
  unfold MapR
  refine C_of mixed chk.bin_Map (by simp) fun S ok => ?_
  refine Tr.seqR rfl (by simp) ?_
  by_cases hg : gridOk g = true
  rotate_left
  · rw [if_neg hg] at kg ⊢
    refine Tr.seq (Tr.seqC rfl (by simp) (Steps.call rfl rfl kg (Steps.fin rfl (by simp) (Tr.seqR rfl (by simp) (Tr.condT rfl (Tr.seqR rfl (by simp) ?_))))))
    exact Tr.retX rfl rfl rfl rfl trivial
  rw [if_pos hg] at kg ⊢
  obtain ⟨_, _, ha, hd, hc, _⟩ := gridOk_sp hg
  have had : 0 ≤ g.a * g.d ∧ g.a * g.d ≤ 256 := ⟨Int.mul_nonneg (by omega) (by omega), by have := Int.mul_le_mul ha.2 hd.2 (by omega) (by omega); omega⟩
  refine Tr.seq (Tr.seqC rfl (by simp) (Steps.call rfl rfl kg (Steps.fin rfl (by simp) (Tr.seqR rfl (by simp) (Tr.condF rfl (Tr.skip ?_))))))
  refine Tr.seqR rfl (by simp) ?_
  have hok0 : (((f.map intsV).length : Int) == IntKind.wrap .i64 (g.a * g.d)) = decide ((f.length : Int) = g.a * g.d) := by
    rw [List.length_map, w64 (by omega) (by omega)]
    by_cases h : (f.length : Int) = g.a * g.d
    · rw [h]; simp
    · simp [h]
  refine Tr.seq (Tr.seqR rfl (by simp) (Tr.block ?_))
  refine Tr.loop (fun (j : Nat) st => j ≤ f.length ∧ st = { env := [(1, foldV f), (2, I k), (3, .ptr 3 0), (9, .bool (decide ((f.length : Int) = g.a * g.d) && (f.take j).all (rowOk g))), (29, foldV f), (30, I (f.length : Nat)), (31, I (j : Nat))], bx := [(3, ⟨gridC g, false⟩)], rw := [], log := [], stp := false }) (fun j => f.length - j) 0
    (Wk.le (.cons rfl (.refl _) (.cons rfl (.refl _) (.cons rfl (.refl _) (.cons rfl (.of_eq ?_) (.cons rfl (.refl _) (.cons rfl (VLe.i (by simp)) (.cons rfl (.refl _) .nil))))))) (.cons rfl (LLe.refl _) .nil) .nil rfl rfl) ⟨Nat.zero_le _, rfl⟩ ?_
  · rw [List.take_zero, List.all_nil, Bool.and_true, ← hok0]
  rintro j st ⟨hj, rfl⟩
  refine Tr.seqR rfl (by simp) (Tr.seqI rfl (fun h1 => ?_) (fun h1 => ?_))
  · have h1 : j < f.length := by simpa using h1
    have hnx : (decide ((f.length : Int) = g.a * g.d) && (f.take (j + 1)).all (rowOk g)) = ((decide ((f.length : Int) = g.a * g.d) && (f.take j).all (rowOk g)) && rowOk g f[j]) := by
      rw [all_take_succ h1, Bool.and_assoc]
    generalize (decide ((f.length : Int) = g.a * g.d) && (f.take j).all (rowOk g)) = B0 at hnx ⊢
    refine Tr.skipT (Tr.seq (Tr.block (Tr.seq (Tr.reg (Steps.runN 1 rfl (by simp; omega) ?_)))))
    rw [getD_map h1]
    refine Steps.fin rfl (by simp) (Tr.reg (Steps.run rfl (by simp) ?_))
    refine Steps.gcall rfl rfl rfl rfl (by simp) (fun _ => c_containsI (hf _ (List.getElem_mem h1)) fun n _ => c_Map1 n) ?_
    refine Steps.fin rfl (by simp) (Tr.regR rfl (by simp) ?_)
    refine ⟨j + 1, _, Wk.le (.cons rfl (.refl _) (.cons rfl (.refl _) (.cons rfl (.refl _) (.cons rfl (.of_eq ?_) (.cons rfl (.refl _) (.cons rfl (.refl _) (.cons rfl (VLe.i (w64 (by omega) (by omega))) .nil))))))) (.cons rfl (LLe.refl _) .nil) .nil rfl rfl, ⟨h1, rfl⟩, by omega⟩
    rw [hnx]
    have e1 : (((f[j].map I).length : Int) == ((g.cls.map eB).length : Int)) = decide (f[j].length = g.cls.length) := by
      rw [List.length_map, List.length_map]
      by_cases h : f[j].length = g.cls.length
      · rw [h]; simp
      · have : ¬ ((f[j].length : Int) = (g.cls.length : Int)) := by omega
        simp [h, this]
    show V.bool (bif (bif B0 then (((f[j].map I).length : Int) == ((g.cls.map eB).length : Int)) else false) then !(f[j].any fun n => decide (n < 0)) else false) = _
    rw [e1]
    unfold rowOk
    cases B0 <;> cases decide (f[j].length = g.cls.length) <;> rfl
  have h1 : j = f.length := by simp at h1; omega
  subst h1
  rw [List.take_length]
  have hmo : (decide ((f.length : Int) = g.a * g.d) && f.all (rowOk g)) = mapOk g f := rfl
  rw [hmo]
  refine Tr.exit (Tr.seq (Tr.seqR rfl (by simp) (Tr.cond rfl rfl (fun h2 => ?_) (fun h2 => Tr.skip ?_))))
  · have h2 : (!mapOk g f) = true := h2
    rw [if_neg (by simpa using h2)]
    exact Tr.seqR rfl (by simp) (Tr.retX rfl rfl rfl rfl trivial)
  have h2 : (!mapOk g f) = false := h2
  have h2 : mapOk g f = true := by simpa using h2
  rw [if_pos h2]
  have kw := c_within k 0 (IntKind.wrap .i64 (((g.cls.map eB).length : Int) - 1))
  have hw1 : IntKind.wrap .i64 (((g.cls.map eB).length : Int) - 1) = (g.cls.length : Int) - 1 := by rw [List.length_map, w64 (by omega) (by omega)]
  refine Tr.seq (Tr.seqC rfl (by simp) (Steps.call rfl rfl kw (Steps.fin rfl (by simp) (Tr.cond rfl rfl (fun h3 => ?_) (fun h3 => Tr.skip ?_)))))
  · have h3 : (!btw k 0 (IntKind.wrap .i64 (((g.cls.map eB).length : Int) - 1))) = true := h3
    rw [hw1] at h3
    rw [if_neg (by simpa using h3)]
    exact Tr.seqR rfl (by simp) (Tr.retX rfl rfl rfl rfl trivial)
  have h3 : (!btw k 0 (IntKind.wrap .i64 (((g.cls.map eB).length : Int) - 1))) = false := h3
  rw [hw1] at h3
  have h3 : btw k 0 ((g.cls.length : Int) - 1) = true := by simpa using h3
  rw [if_pos h3]
  rw [btw_iff] at h3
  obtain ⟨q, rfl⟩ : ∃ q : Nat, k = (q : Int) := ⟨k.toNat, by omega⟩
  have eq2 : ((q : Int)).toNat = q := by omega
  rw [eq2]
  have hqc : q < g.cls.length := by omega
  simp only [mapOk, rowOk, Bool.and_eq_true, decide_eq_true_eq, List.all_eq_true, Bool.not_eq_true', List.any_eq_false, decide_eq_false_iff_not, Bool.not_eq_true, Int.not_lt] at h2
  obtain ⟨hfl, hrow⟩ := h2
  obtain ⟨na, hna⟩ : ∃ n : Nat, g.a = (n : Int) := ⟨g.a.toNat, by omega⟩
  obtain ⟨nd, hnd⟩ : ∃ n : Nat, g.d = (n : Int) := ⟨g.d.toNat, by omega⟩
  have ena : g.a.toNat = na := by omega
  have end' : g.d.toNat = nd := by omega
  have hfl2 : f.length = na * nd := by rw [hna, hnd] at hfl; exact_mod_cast hfl
  refine Tr.seqR rfl (by simp) (Tr.seq (Tr.seqR rfl (by simp) (Tr.block ?_)))
  have hlenB : ∀ j, j ≤ nd → ((List.range j).flatMap fun i => rowB g f q (g.d.toNat - 1 - i) ++ [10]).length = j * (na + 1) := fun j _ => by
    induction j with
    | zero => simp
    | succ j ih => rw [List.range_succ, List.flatMap_append, List.length_append, ih (by omega)]; simp [rowB, ena, Nat.add_mul]
  refine Tr.loop (fun (j : Nat) st => j ≤ nd ∧ st = { env := [(1, foldV f), (2, I (q : Nat)), (3, .ptr 3 0), (12, .slice 92 1 (((List.range j).flatMap fun i => rowB g f q (g.d.toNat - 1 - i) ++ [10]).map byteV)), (13, I ((nd : Int) - 1 - j))], bx := [(3, ⟨gridC g, false⟩)], rw := [(91, ((List.range j).flatMap fun i => rowB g f q (g.d.toNat - 1 - i) ++ [10]).length, 1, 5)], log := [], stp := false }) (fun j => nd - j) 0
    (Wk.le (.cons rfl (.refl _) (.cons rfl (.refl _) (.cons rfl (.refl _) (.cons rfl (.nil 92 1) (.cons rfl (VLe.i ?_) .nil))))) (.cons rfl (LLe.refl _) .nil) (.new rfl .nil) rfl rfl) ⟨Nat.zero_le _, rfl⟩ ?_
  · show IntKind.wrap .i64 (g.d - 1) = _
    rw [w64 (by omega) (by omega), hnd]; simp
  rintro j st ⟨hj, rfl⟩
  have hlj := hlenB j hj
  have hsz : j * (na + 1) ≤ 1000 := by
    have : j * (na + 1) ≤ 16 * 17 := Nat.mul_le_mul (by omega) (by omega)
    omega
  have hnx : ((List.range (j + 1)).flatMap fun i => rowB g f q (g.d.toNat - 1 - i) ++ [10]) = ((List.range j).flatMap fun i => rowB g f q (g.d.toNat - 1 - i) ++ [10]) ++ (rowB g f q (g.d.toNat - 1 - j) ++ [10]) := by
    rw [List.range_succ, List.flatMap_append]; simp
  generalize hpre : ((List.range j).flatMap fun i => rowB g f q (g.d.toNat - 1 - i) ++ [10]) = pre at hlj hnx ⊢
  refine Tr.seq (Tr.seqR rfl (by simp) (Tr.cond rfl rfl (fun h4 => Tr.skip ?_) (fun h4 => Tr.exit ?_)))
  rotate_left
  · have h4 : decide ((nd : Int) - 1 - j ≥ 0) = false := h4
    have h4 : j = nd := by simp at h4; omega
    subst h4
    have hm : mapB g f q = pre := by unfold mapB; rw [← hpre, end']
    rw [hm]
    refine Tr.seq (Tr.reg (Steps.run rfl (by simp) ?_))
    refine Steps.toStr (E := env0 Tryd.prog mixed 107 S ok) (t := 106) (u := 9) (e := 5) (r := 92) (bs := pre) (by kernel_rfl) (by kernel_rfl) (by kernel_rfl) rfl ?_
    exact Steps.fin rfl (by simp) (Tr.retX rfl rfl rfl rfl trivial)
  have h4 : decide ((nd : Int) - 1 - j ≥ 0) = true := h4
  have h4 : j < nd := by simp at h4; omega
  obtain ⟨rr, hrr⟩ : ∃ rr : Nat, rr = nd - 1 - j := ⟨_, rfl⟩
  have hrI : (nd : Int) - 1 - j = (rr : Int) := by omega
  rw [end', ← hrr] at hnx
  rw [hrI]
  refine Tr.seq (Tr.block (Tr.seq (Tr.seqR rfl (by simp) (Tr.block ?_))))
  refine Tr.loop (fun (c : Nat) st => c ≤ na ∧ st = { env := [(1, foldV f), (2, I (q : Nat)), (3, .ptr 3 0), (12, .slice 92 1 ((pre ++ (rowB g f q rr).take c).map byteV)), (13, I (rr : Nat)), (67, I (na : Nat)), (68, I (c : Nat))], bx := [(3, ⟨gridC g, false⟩)], rw := [(91, (pre ++ (rowB g f q rr).take c).length, 1, 5)], log := [], stp := false }) (fun c => na - c) 0
    (Wk.le (.cons rfl (.refl _) (.cons rfl (.refl _) (.cons rfl (.refl _) (.cons rfl (.of_eq ?_) (.cons rfl (.refl _) (.cons rfl (VLe.i hna) (.cons rfl (.refl _) .nil))))))) (.cons rfl (LLe.refl _) .nil) (.cons ?_ .nil) rfl rfl) ⟨Nat.zero_le _, rfl⟩ ?_
  · simp
  · show some _ = some _
    simp
  rintro c st ⟨hc4, rfl⟩
  have hrl : (rowB g f q rr).length = na := by simp [rowB, ena]
  refine Tr.seqR rfl (by simp) (Tr.seqI rfl (fun h5 => ?_) (fun h5 => ?_))
  rotate_left
  · have h5 : c = na := by
      have h5 : decide ((c : Int) < (na : Int)) = false := h5
      simp at h5; omega
    subst h5
    rw [List.take_of_length_le (by omega)]
    refine Tr.exit (Tr.regR rfl (by simp; omega) (Tr.regR rfl (by simp) ?_))
    refine ⟨j + 1, _, Wk.le (.cons rfl (.refl _) (.cons rfl (.refl _) (.cons rfl (.refl _) (.cons rfl (.of_eq ?_) (.cons rfl (VLe.i ?_) .nil))))) (.cons rfl (LLe.refl _) .nil) (.cons ?_ .nil) rfl rfl, ⟨h4, rfl⟩, by omega⟩
    · rw [end', hnx]
      simp [byteV]
    · show IntKind.wrap .i64 ((rr : Int) - 1) = _
      rw [w64 (by omega) (by omega)]; omega
    · show some _ = some _
      rw [end', hnx]
      simp
      omega
  have h5 : c < na := by
    have h5 : decide ((c : Int) < (na : Int)) = true := h5
    simpa using h5
  have hix : rr * na + c < f.length := by
    rw [hfl2]
    have : rr * na + na ≤ na * nd := by
      have : (rr + 1) * na ≤ nd * na := Nat.mul_le_mul_right _ (by omega)
      rw [Nat.mul_comm na nd, ← Nat.succ_mul]; exact this
    omega
  have hbig : rr * na + c ≤ 256 := by
    have h6 : f.length ≤ 256 := by omega
    omega
  have hidx : IntKind.wrap .i64 (IntKind.wrap .i64 ((rr : Int) * g.a) + c) = ((rr * na + c : Nat) : Int) := by
    have e1 : (rr : Int) * g.a = ((rr * na : Nat) : Int) := by rw [hna]; push_cast; rfl
    rw [e1, w64 (n := ((rr * na : Nat) : Int)) (by omega) (by omega), w64 (by omega) (by omega)]; push_cast; rfl
  have hql : q < f[rr * na + c].length := by
    have := (hrow _ (List.getElem_mem hix)).1
    omega
  have hv0 := (hrow _ (List.getElem_mem hix)).2 _ (List.getElem_mem hql)
  have hat : at2 f (rr * na + c) q = f[rr * na + c][q] := by simp [at2, hix, hql]
  have hch : (rowB g f q rr)[c]'(by omega) = charB f[rr * na + c][q] := by simp [rowB, ena, hat]
  have hst : pre ++ (rowB g f q rr).take (c + 1) = (pre ++ (rowB g f q rr).take c) ++ [charB f[rr * na + c][q]] := by
    rw [List.take_add_one, List.getElem?_eq_getElem (by omega), hch]; simp
  have hpl : (pre ++ (rowB g f q rr).take c).length ≤ 1100 := by
    rw [List.length_append, List.length_take]; omega
  generalize pre ++ (rowB g f q rr).take c = P at hst hpl ⊢
  obtain ⟨v, hv⟩ : ∃ v, f[rr * na + c][q] = v := ⟨_, rfl⟩
  refine Tr.skipT (Tr.meet { env := [(1, foldV f), (2, I (q : Nat)), (3, .ptr 3 0), (12, .slice 92 1 ((P ++ [charB v]).map byteV)), (13, I (rr : Nat)), (67, I (na : Nat)), (68, I (c : Nat))], bx := [(3, ⟨gridC g, false⟩)], rw := [(91, (P ++ [charB v]).length, 1, 5)], log := [], stp := false } (Tr.block (Tr.seqR rfl (by simp) ?_)) (Tr.regR rfl (by simp) ?_))
  rotate_left
  · refine ⟨c + 1, _, Wk.le (.cons rfl (.refl _) (.cons rfl (.refl _) (.cons rfl (.refl _) (.cons rfl (.of_eq (by rw [hst, hv])) (.cons rfl (.refl _) (.cons rfl (.refl _) (.cons rfl (VLe.i (w64 (by omega) (by omega))) .nil))))))) (.cons rfl (LLe.refl _) .nil) (.cons (by rw [hst, hv]; rfl) .nil) rfl rfl, ⟨h5, rfl⟩, by omega⟩
  have hcv : ∀ z : Int, P.length + 1 ≤ 2 ^ 47 → (charB v).toNat = z → (P ++ [charB v]).map byteV = P.map byteV ++ [.int .u8 z] := fun z _ h => by
    rw [List.map_append]
    congr 1
    show [V.int .u8 ((charB v).toNat : Int)] = _
    rw [h]
  refine Tr.seq (Tr.reg (Steps.runN 8 rfl (by simp [hidx]; omega) ?_))
  rw [hidx, getD_map hix]
  refine Steps.runN 3 rfl (by simp; omega) ?_
  rw [getD_map hql, hv]
  refine Steps.fin rfl (by simp) (Tr.block ?_)
  rw [hv] at hv0
  refine Tr.seqR rfl (by simp) (Tr.cond rfl rfl (fun h6 => ?_) (fun h6 => ?_))
  · have h6 : (v == 0) = true := h6
    have h6 : v = 0 := by simpa using h6
    refine Tr.regR rfl (by simp; omega) ?_
    refine Wk.le (.cons rfl (.refl _) (.cons rfl (.refl _) (.cons rfl (.refl _) (.cons rfl (.of_eq ?_) (.cons rfl (.refl _) (.cons rfl (.refl _) (.cons rfl (.refl _) .nil))))))) (.cons rfl (LLe.refl _) .nil) (.cons ?_ .nil) rfl rfl
    · rw [hcv 46 (by omega) (by rw [h6]; rfl)]
    · show some _ = some _
      simp
  have h6 : (v == 0) = false := h6
  have h6 : v ≠ 0 := by simpa using h6
  refine Tr.seqR rfl (by simp) (Tr.cond rfl rfl (fun h7 => ?_) (fun h7 => ?_))
  · have h7 : decide (v ≤ 9) = true := h7
    have h7 : v ≤ 9 := by simpa using h7
    refine Tr.regR rfl (by simp; omega) ?_
    refine Wk.le (.cons rfl (.refl _) (.cons rfl (.refl _) (.cons rfl (.refl _) (.cons rfl (.of_eq ?_) (.cons rfl (.refl _) (.cons rfl (.refl _) (.cons rfl (.refl _) .nil))))))) (.cons rfl (LLe.refl _) .nil) (.cons ?_ .nil) rfl rfl
    · rw [hcv (IntKind.wrap .u8 (IntKind.wrap .i64 (48 + v))) (by omega) (by
        have h8 : v = 1 ∨ v = 2 ∨ v = 3 ∨ v = 4 ∨ v = 5 ∨ v = 6 ∨ v = 7 ∨ v = 8 ∨ v = 9 := by omega
        rcases h8 with rfl | rfl | rfl | rfl | rfl | rfl | rfl | rfl | rfl <;> rfl)]
    · show some _ = some _
      simp
  · have h7 : decide (v ≤ 9) = false := h7
    have h7 : ¬ v ≤ 9 := by simpa using h7
    refine Tr.regR rfl (by simp; omega) ?_
    refine Wk.le (.cons rfl (.refl _) (.cons rfl (.refl _) (.cons rfl (.refl _) (.cons rfl (.of_eq ?_) (.cons rfl (.refl _) (.cons rfl (.refl _) (.cons rfl (.refl _) .nil))))))) (.cons rfl (LLe.refl _) .nil) (.cons ?_ .nil) rfl rfl
    · rw [hcv 43 (by omega) (by unfold charB; rw [if_neg h6, if_neg h7]; rfl)]
    · show some _ = some _
      simp

end Go.Proofs.YtffoiccokigjcaaDoor

/-! The sort of cells: the kit's contract of slices.SortFunc, laid at this program (the laying is printed by wip/tools/lay_sort.sh); what it is to compare two cells. -/
set_option linter.unusedVariables false
set_option linter.unusedSimpArgs false
set_option maxRecDepth 100000
set_option maxHeartbeats 4000000
namespace Go.Proofs.YtffoiccokigjcaaDoor
open Go.Shelf Go.Proofs Go.RowKit Go.Lib Go.Sort

def Tryd.sortCell_ren : Go.Shelf.Ren := ⟨fun | 6 => 85 | 15 => 103 | 14 => 102 | 28 => 120 | 29 => 121 | 20 => 112 | 21 => 113 | 22 => 114 | 23 => 115 | 24 => 116 | 25 => 117 | 26 => 118 | 27 => 119 | 46 => 126 | 47 => 127 | 48 => 128 | 49 => 129 | 50 => 130 | 57 => 135 | n => n, fun | 22 => 49 | 24 => 36 | 25 => 150 | 3 => 3 | 39 => 172 | 0 => 0 | 53 => 188 | 55 => 190 | 4 => 4 | 46 => 182 | 45 => 181 | 50 => 122 | 5 => 5 | 9 => 9 | 66 => 196 | 70 => 200 | 76 => 206 | 77 => 207 | n => n, fun | n => n⟩
theorem Tryd.sortCell : Go.Proofs.SlLaysF0.n6 Tryd.prog Tryd.sortCell_ren := {
  mixed := by kernel_rfl,
  f6 := ⟨Tryd.f85.name, by decide, Tryd.func85.trans (congrArg some (by kernel_rfl))⟩,
  f14 := ⟨Tryd.f102.name, by decide, Tryd.func102.trans (congrArg some (by kernel_rfl))⟩,
  f15 := Tryd.func103.trans (congrArg some (by kernel_rfl)),
  f20 := ⟨Tryd.f112.name, by decide, Tryd.func112.trans (congrArg some (by kernel_rfl))⟩,
  f21 := ⟨Tryd.f113.name, by decide, Tryd.func113.trans (congrArg some (by kernel_rfl))⟩,
  f22 := ⟨Tryd.f114.name, by decide, Tryd.func114.trans (congrArg some (by kernel_rfl))⟩,
  f23 := ⟨Tryd.f115.name, by decide, Tryd.func115.trans (congrArg some (by kernel_rfl))⟩,
  f24 := ⟨Tryd.f116.name, by decide, Tryd.func116.trans (congrArg some (by kernel_rfl))⟩,
  f25 := ⟨Tryd.f117.name, by decide, Tryd.func117.trans (congrArg some (by kernel_rfl))⟩,
  f26 := ⟨Tryd.f118.name, by decide, Tryd.func118.trans (congrArg some (by kernel_rfl))⟩,
  f27 := ⟨Tryd.f119.name, by decide, Tryd.func119.trans (congrArg some (by kernel_rfl))⟩,
  f28 := Tryd.func120.trans (congrArg some (by kernel_rfl)),
  f29 := Tryd.func121.trans (congrArg some (by kernel_rfl)),
  f46 := ⟨Tryd.f126.name, by decide, Tryd.func126.trans (congrArg some (by kernel_rfl))⟩,
  f47 := Tryd.func127.trans (congrArg some (by kernel_rfl)),
  f48 := Tryd.func128.trans (congrArg some (by kernel_rfl)),
  f49 := ⟨Tryd.f129.name, by decide, Tryd.func129.trans (congrArg some (by kernel_rfl))⟩,
  f50 := ⟨Tryd.f130.name, by decide, Tryd.func130.trans (congrArg some (by kernel_rfl))⟩,
  f57 := ⟨Tryd.f135.name, by decide, Tryd.func135.trans (congrArg some (by kernel_rfl))⟩,
  t0 := Tryd.underlying0,
  a0 := Tryd.isAgg0,
  z0 := Tryd.sizeOf0,
  v0 := Tryd.zeroValue0,
  t3 := Tryd.underlying3,
  a3 := Tryd.isAgg3,
  z3 := Tryd.sizeOf3,
  v3 := Tryd.zeroValue3,
  t4 := Tryd.underlying4,
  a4 := Tryd.isAgg4,
  z4 := Tryd.sizeOf4,
  v4 := Tryd.zeroValue4,
  t5 := Tryd.underlying5,
  a5 := Tryd.isAgg5,
  z5 := Tryd.sizeOf5,
  v5 := Tryd.zeroValue5,
  t9 := Tryd.underlying9,
  a9 := Tryd.isAgg9,
  z9 := Tryd.sizeOf9,
  v9 := Tryd.zeroValue9,
  t22 := Tryd.underlying49,
  a22 := Tryd.isAgg49,
  z22 := Tryd.sizeOf49,
  v22 := Tryd.zeroValue49,
  t25 := Tryd.underlying150,
  a25 := Tryd.isAgg150,
  z25 := Tryd.sizeOf150,
  v25 := Tryd.zeroValue150,
  t39 := Tryd.underlying172,
  a39 := Tryd.isAgg172,
  z39 := Tryd.sizeOf172,
  v39 := Tryd.zeroValue172,
  t45 := Tryd.underlying181,
  a45 := Tryd.isAgg181,
  z45 := Tryd.sizeOf181,
  v45 := Tryd.zeroValue181,
  t46 := Tryd.underlying182,
  a46 := Tryd.isAgg182,
  z46 := Tryd.sizeOf182,
  v46 := Tryd.zeroValue182,
  t50 := Tryd.underlying122,
  a50 := Tryd.isAgg122,
  z50 := Tryd.sizeOf122,
  v50 := Tryd.zeroValue122,
  t53 := Tryd.underlying188,
  a53 := Tryd.isAgg188,
  z53 := Tryd.sizeOf188,
  v53 := Tryd.zeroValue188,
  t55 := Tryd.underlying190,
  a55 := Tryd.isAgg190,
  z55 := Tryd.sizeOf190,
  v55 := Tryd.zeroValue190,
  t66 := Tryd.underlying196,
  a66 := Tryd.isAgg196,
  z66 := Tryd.sizeOf196,
  v66 := Tryd.zeroValue196,
  t70 := Tryd.underlying200,
  a70 := Tryd.isAgg200,
  z70 := Tryd.sizeOf200,
  v70 := Tryd.zeroValue200,
  t76 := Tryd.underlying206,
  a76 := Tryd.isAgg206,
  z76 := Tryd.sizeOf206,
  v76 := Tryd.zeroValue206,
  t77 := Tryd.underlying207,
  a77 := Tryd.isAgg207,
  z77 := Tryd.sizeOf207,
  v77 := Tryd.zeroValue207 }

/-- Cells, as they occur: bins from -1 to 1022, classes from -1 to 14. -/
abbrev SC := Fin 1024 × Fin 16
def scB (x : SC) : Int × Int := ((x.1.val : Int) - 1, (x.2.val : Int) - 1)
def encSC (x : SC) : List Value := [.int .i64 (scB x).1, .int .i64 (scB x).2]
def cfSC (x y : SC) : Int := if (scB x).1 ≠ (scB y).1 then (scB x).1 - (scB y).1 else (scB x).2 - (scB y).2

theorem swoSC : Go.Sort.SWO (ltOf cfSC) where
  irrefl x := by unfold ltOf cfSC; simp
  trans x y z h1 h2 := by
    unfold ltOf cfSC at *
    simp only [decide_eq_true_eq, ne_eq, ite_not] at *
    split at h1 <;> split at h2 <;> split <;> omega
  ntrans x y z h1 h2 := by
    unfold ltOf cfSC at *
    simp only [decide_eq_false_iff_not, ne_eq, ite_not] at *
    split at h1 <;> split at h2 <;> split <;> omega

theorem ordered_walk (x y : SC) (W : World) : Calls Tryd.prog 86 #[.agg #[.int .i64 (scB x).1, .int .i64 (scB x).2], .agg #[.int .i64 (scB y).1, .int .i64 (scB y).2]] W fun e w' => e = .returned (.int .i64 (cfSC x y)) ∧ ∃ q os', w' = grow (W.drewN q) os' := by
  have b1 : -1 ≤ (scB x).1 ∧ (scB x).1 ≤ 1022 := by unfold scB; omega
  have b2 : -1 ≤ (scB x).2 ∧ (scB x).2 ≤ 14 := by unfold scB; omega
  have b3 : -1 ≤ (scB y).1 ∧ (scB y).1 ≤ 1022 := by unfold scB; omega
  have b4 : -1 ≤ (scB y).2 ∧ (scB y).2 ≤ 14 := by unfold scB; omega
  unfold cfSC
  generalize (scB x).1 = a at *
  generalize (scB x).2 = b at *
  generalize (scB y).1 = c at *
  generalize (scB y).2 = d at *
  by_cases h : a ≠ c
  · rw [if_pos h]
    go_enter Tryd.func86, Tryd.ntmps86
    go_wp2
    all_goals (try (go_ret; exact ⟨rfl, 0, _, by rw [alloc_eq_grow, alloc_eq_grow, grow_grow]; rfl⟩))
    all_goals (rename_i h2; exfalso; simp at h2; exact h h2)
  · rw [if_neg h]
    have h : a = c := by simpa using h
    subst h
    go_enter Tryd.func86, Tryd.ntmps86
    go_wp2
    all_goals (try (go_ret; exact ⟨rfl, 0, _, by rw [alloc_eq_grow, alloc_eq_grow, grow_grow]; rfl⟩))
    all_goals (rename_i h2; exfalso; simp at h2)

theorem cmpLays (blk off size : Nat) (w : World) : CmpLays Tryd.prog 86 #[] encSC 2 cfSC blk off size w :=
  fun _ _ _ _ x y => ordered_walk x y _

/-- The sort of a row of cells. -/
theorem sort_cells (blk off cap : Nat) (d : Array SC) (w : World) (hH : HoldsK encSC 2 w blk off d) (hblk : blk < w.heap.size) (hsz : d.size < 4611686018427387904) :
    Calls Tryd.prog 85 #[.slice (some ⟨blk, off, none⟩) d.size cap, .func (.func 86) #[] #[]] w fun e w' => e = .returned (.tuple #[]) ∧ ∃ d' n os, PermIn 0 d.size d d' ∧ SortedIn (ltOf cfSC) 0 d.size d' ∧ w' = sortWorldK encSC 2 w blk off n d' os := by
  have eg : ∀ args w, (callFunc 86 args).run Tryd.prog w = .ok (.enter 86 args) w := enters_of Tryd.func86 (by kernel_rfl) rfl
  have hcon := AnyQ.slices_SortFunc Tryd.sortCell 2 Tryd.isAgg36 Tryd.sizeOf36 encSC (fun _ => rfl) (fun x v hv => by simp [encSC] at hv; rcases hv with rfl | rfl <;> rfl) cfSC swoSC 86 #[] blk off cap d w eg (cmpLays blk off d.size w) hH hblk hsz
  exact hcon

end Go.Proofs.YtffoiccokigjcaaDoor

/-! The sort of cells, over an arena. -/
set_option linter.unusedVariables false
set_option linter.unusedSimpArgs false
set_option maxRecDepth 40000
set_option maxHeartbeats 4000000
namespace Go.Proofs.YtffoiccokigjcaaDoor
open Go.Am

def befC (a b : Int × Int) : Prop := a.1 < b.1 ∨ (a.1 = b.1 ∧ a.2 < b.2)
def cellB (c : Int × Int) : Prop := (-1 ≤ c.1 ∧ c.1 ≤ 1022) ∧ -1 ≤ c.2 ∧ c.2 ≤ 14

theorem befC_irrefl {a : Int × Int} (h : befC a a) : False := by unfold befC at h; omega
theorem befC_trans {a b c : Int × Int} (h : befC a b) (k : befC b c) : befC a c := by unfold befC at *; omega

/-- Two lists in strict order that hold the same are the same. -/
theorem sorted_unique : ∀ (l m : List (Int × Int)), l.Pairwise befC → m.Pairwise befC → (∀ x, x ∈ l ↔ x ∈ m) → l = m
  | [], [], _, _, _ => rfl
  | [], b :: m, _, _, h => absurd ((h b).2 (by simp)) (by simp)
  | a :: l, [], _, _, h => absurd ((h a).1 (by simp)) (by simp)
  | a :: l, b :: m, hl, hm, h => by
    rw [List.pairwise_cons] at hl hm
    have hab : a = b := by
      rcases List.mem_cons.1 ((h a).1 (by simp)) with e | h1
      · exact e
      rcases List.mem_cons.1 ((h b).2 (by simp)) with e | h2
      · exact e.symm
      exact absurd (befC_trans (hl.1 b h2) (hm.1 a h1)) (fun h => befC_irrefl h)
    subst hab
    congr 1
    refine sorted_unique l m hl.2 hm.2 fun x => ?_
    have hx := h x
    simp only [List.mem_cons] at hx
    constructor
    · intro h1
      rcases hx.1 (.inr h1) with e | h2
      · exact absurd (hl.1 x h1) (fun h => befC_irrefl (e ▸ h))
      · exact h2
    · intro h1
      rcases hx.2 (.inr h1) with e | h2
      · exact absurd (hm.1 x h1) (fun h => befC_irrefl (e ▸ h))
      · exact h2

def toSC (c : Int × Int) : SC := (⟨(c.1 + 1).toNat % 1024, by omega⟩, ⟨(c.2 + 1).toNat % 16, by omega⟩)

theorem scB_to {c : Int × Int} (h : cellB c) : scB (toSC c) = c := by
  unfold cellB at h
  unfold scB toSC
  refine Prod.ext ?_ ?_ <;> simp only <;> omega

theorem flat_eB : ∀ (xs : List (Int × Int)), (xs.map eB).flatMap cells = xs.flatMap fun c => [I c.1, I c.2]
  | [] => rfl
  | x :: xs => by rw [List.map_cons, List.flatMap_cons, flat_eB xs]; rfl

theorem flat_at : ∀ (xs : List (Int × Int)) (j : Nat) (h : j / 2 < xs.length), ((xs.map eB).flatMap cells)[j]? = some (I (if j % 2 = 0 then xs[j / 2].1 else xs[j / 2].2))
  | [], j, h => by simp at h
  | x :: xs, 0, h => rfl
  | x :: xs, 1, h => rfl
  | x :: xs, j + 2, h => by
    have hj : j / 2 < xs.length := by simp at h; omega
    have ih := flat_at xs j hj
    have e1 : ((x :: xs).map eB).flatMap cells = I x.1 :: I x.2 :: (xs.map eB).flatMap cells := rfl
    have e2 : (j + 2) / 2 = j / 2 + 1 := by omega
    have e3 : (j + 2) % 2 = j % 2 := by omega
    rw [e1]
    simp only [List.getElem?_cons_succ, e3]
    rw [ih]
    congr 3
    · congr 1; simp [e2]
    · congr 1; simp [e2]

theorem flat_eB_len (xs : List (Int × Int)) : ((xs.map eB).flatMap cells).length = xs.length * 2 := by
  induction xs with
  | nil => rfl
  | cons x xs ih => rw [List.map_cons, List.flatMap_cons, List.length_append, ih, List.length_cons]; simp [eB, cells]; omega

open Go.Sort in
theorem ca_sort {blk cap : Nat} {xs ys : List (Int × Int)} {cs : List V} (hcs : cs.take (xs.length * 2) = (xs.map eB).flatMap cells) (hlen : xs.length * 2 ≤ cs.length) (hsm : xs.length ≤ 100000) (hb : ∀ c ∈ xs, cellB c) (hnd : xs.Nodup) (hp : ∀ x, x ∈ ys ↔ x ∈ xs) (hs : ys.Pairwise befC) :
    CA Tryd.prog F.slices_SortFunc_api_Cell_api_Cell [(blk, .cells cs)] [] [.sref blk 0 xs.length cap, .func (.func F.bin_ordered) [] []] (.tuple []) [(blk, .cells ((ys.map eB).flatMap cells ++ cs.drop (xs.length * 2)))] := by
  refine ⟨by kernel_rfl, fun w φ vals htop hgl hA hK hKA hrep => ?_⟩
  obtain ⟨hl, hr⟩ := hrep
  obtain ⟨vals⟩ := vals
  match vals, hl with
  | [v1, v2], _ =>
  have r1 : v1 = .slice (some ⟨blk, 0, none⟩) xs.length cap := by
    have := hr 0 _ v1 rfl rfl
    cases this; rfl
  have r2 : v2 = .func (.func F.bin_ordered) #[] #[] := by
    have := hr 1 _ v2 rfl rfl
    cases this with
    | func fn first cap f c h1 h2 _ _ =>
      have e1 : f = #[] := Array.eq_empty_of_size_eq_zero (by simpa using h1.symm)
      have e2 : c = #[] := Array.eq_empty_of_size_eq_zero (by simpa using h2.symm)
      rw [e1, e2]
  subst r1 r2
  obtain ⟨vs, et, w1, w2, w3⟩ := hA.ok (blk, .cells cs) (by simp)
  have hblk := hA.lt (blk, .cells cs) (by simp)
  simp only at hblk
  obtain ⟨d, hd⟩ : ∃ d : Array SC, d = (xs.map toSC).toArray := ⟨_, rfl⟩
  have hds : d.size = xs.length := by rw [hd]; simp
  have hdget : ∀ i (hi : i < xs.length), scB d[i]! = xs[i] := fun i hi => by
    have : d[i]! = toSC xs[i] := by rw [hd]; simp [hi]
    rw [this, scB_to (hb _ (List.getElem_mem hi))]
  have valat : ∀ j, j < xs.length * 2 → vs[j]? = some (.int .i64 (if j % 2 = 0 then (scB d[j / 2]!).1 else (scB d[j / 2]!).2)) := fun j hj => by
    have hj2 : j / 2 < xs.length := by omega
    have hc : cs[j]? = some (I (if j % 2 = 0 then xs[j / 2].1 else xs[j / 2].2)) := by
      rw [← flat_at xs j hj2, ← hcs, List.getElem?_take_of_lt hj]
    have hjs : j < vs.size := by omega
    have := (w3 j _ _ hc (Array.getElem?_eq_getElem hjs)).1
    have hv : vs[j] = .int .i64 (if j % 2 = 0 then xs[j / 2].1 else xs[j / 2].2) := by
      generalize vs[j] = z at this
      cases this; rfl
    rw [Array.getElem?_eq_getElem hjs, hv, hdget _ hj2]
  have hH : HoldsK encSC 2 w blk 0 d := fun j hj => by
    rw [size_flatK, hds] at hj
    have hj2 : j / 2 < xs.length := by omega
    refine ⟨?_, ?_⟩
    · rw [get_flatK _ _ _ _ (by rw [hds]; exact hj), Nat.zero_add, cell_of_row w blk j vs et (0, 0) w1, valat j hj]
      unfold encSC
      by_cases h : j % 2 = 0
      · rw [if_pos h, h]; rfl
      · have h1 : j % 2 = 1 := by omega
        rw [if_neg h, h1]; rfl
    · simp [World.frozen?, w1]
  have hcall := sort_cells blk 0 cap d w hH hblk (by omega)
  rw [hds] at hcall
  refine hcall.mono ?_
  rintro e w' ⟨rfl, d', n, os, hperm, hsort, rfl⟩
  obtain ⟨hps, _, hpp⟩ := hperm
  have hd's : d'.size = xs.length := by rw [hps, hds]
  have hpp : d'.toList.Perm d.toList := by
    have e1 : d'.extract 0 xs.length = d' := by rw [← hd's]; simp
    have e2 : d.extract 0 xs.length = d := by rw [← hds]; simp
    rw [e1, e2] at hpp
    exact hpp
  have hxs : d.toList.map scB = xs := by
    rw [hd]
    simp only [List.map_map]
    conv => rhs; rw [← List.map_id xs]
    exact List.map_congr_left fun c hc => scB_to (hb c hc)
  have hzp : (d'.toList.map scB).Perm xs := by
    have := hpp.map scB
    rwa [hxs] at this
  have hzl : (d'.toList.map scB).length = xs.length := hzp.length_eq
  have hzn : (d'.toList.map scB).Nodup := hzp.nodup_iff.2 hnd
  have hzs : (d'.toList.map scB).Pairwise befC := by
    rw [List.pairwise_iff_getElem]
    intro i j hi hj hij
    simp only [List.length_map, Array.length_toList] at hi hj
    have h1 := hsort i j (Nat.zero_le _) hij (by omega)
    have h2 : (d'.toList.map scB)[i]'(by simpa using hi) ≠ (d'.toList.map scB)[j]'(by simpa using hj) := (List.pairwise_iff_getElem.1 hzn) i j (by simpa using hi) (by simpa using hj) hij
    have e1 : (d'.toList.map scB)[i]'(by simpa using hi) = scB d'[i]! := by simp [hi]
    have e2 : (d'.toList.map scB)[j]'(by simpa using hj) = scB d'[j]! := by simp [hj]
    rw [e1, e2] at h2 ⊢
    unfold ltOf cfSC at h1
    generalize scB d'[i]! = a at h1 h2 ⊢
    generalize scB d'[j]! = b at h1 h2 ⊢
    simp only [decide_eq_false_iff_not, ne_eq, ite_not] at h1
    unfold befC
    by_cases h3 : a.1 = b.1
    · have h4 : a.2 ≠ b.2 := fun h4 => h2 (Prod.ext h3 h4)
      rw [if_pos h3.symm] at h1
      omega
    · rw [if_neg (fun h => h3 h.symm)] at h1
      omega
  have hys : d'.toList.map scB = ys := sorted_unique _ _ hzs hs fun x => by rw [hzp.mem_iff, hp x]
  have hyl : ys.length = xs.length := by rw [← hys, hzl]
  have hyget : ∀ i (hi : i < ys.length), scB d'[i]! = ys[i] := fun i hi => by
    have h1 : i < d'.size := by omega
    have : (d'.toList.map scB)[i]? = some ys[i] := by rw [hys]; simp
    rw [List.getElem?_map] at this
    simp [h1] at this
    rw [← this]; simp [h1]
  obtain ⟨w', hw'⟩ : ∃ w', sortWorldK encSC 2 w blk 0 n d' os = w' := ⟨_, rfl⟩
  rw [hw']
  have hheap : w'.heap = (w.heap.modify blk (onCells (putCells id 0 (flatK encSC 2 d')))) ++ os := by rw [← hw']; rfl
  have hsz : w'.heap.size = w.heap.size + os.size := by rw [hheap]; simp
  have hold : ∀ b, b < w.heap.size → b ≠ blk → w'.heap[b]? = w.heap[b]? := fun b h1 h2 => by
    rw [hheap, Array.getElem?_append_left (by simpa using h1), Array.getElem?_modify, if_neg (fun e => h2 e.symm)]
  have hnew : w'.heap[blk]? = some (.cells (putCells id 0 (flatK encSC 2 d') vs) et (0, 0)) := by
    rw [hheap, Array.getElem?_append_left (by simpa using hblk), Array.getElem?_modify, if_pos rfl, w1]; rfl
  have ext : Ext w φ w' φ := fun b o ho => by
    have h1 : b < w.heap.size := by
      rcases Nat.lt_or_ge b w.heap.size with h1 | h1
      · exact h1
      · rw [htop b h1] at ho; omega
    have h2 : b ≠ blk := fun e => by
      have := hA.z (blk, .cells cs) (by simp)
      simp only at this
      rw [e, this] at ho; omega
    exact ⟨ho, World.cell?_of_block (hold b h1 h2), mapAt_of_block (hold b h1 h2)⟩
  refine ⟨φ, .tuple #[], rfl, .tuple [] #[] rfl (fun i v x h => by simp at h), ⟨by simp, fun p hp' => ?_, fun _ _ h => h, fun p hp' => ?_, fun p hp' => ?_⟩, ⟨ext, fun b h1 h2 => ⟨hold b h1 fun e => h2 (by simp [e]), rfl⟩, by omega, by rw [← hw']; rfl, by rw [← hw']; rfl, by rw [← hw']; rfl, fun b hb' => .inl (by simpa using hb'), fun b hb' => htop b (by omega)⟩⟩
  · obtain rfl := List.mem_singleton.1 hp'
    refine ⟨_, et, hnew, ?_, fun j v x hv hx => ?_⟩
    · have e1 : (putCells id 0 (flatK encSC 2 d') vs).size = vs.size := by simp [putCells]
      rw [e1, w2, List.length_append, flat_eB_len, hyl, List.length_drop]; omega
    · rw [List.getElem?_append, flat_eB_len, hyl] at hv
      unfold putCells at hx
      rw [Array.getElem?_mapIdx] at hx
      simp only [Nat.zero_le, true_and, Nat.zero_add, Nat.sub_zero, size_flatK, hd's, id] at hx
      by_cases hj : j < xs.length * 2
      · rw [if_pos hj] at hv
        have hj2 : j / 2 < ys.length := by omega
        rw [flat_at ys j hj2] at hv
        have hjs : j < vs.size := by omega
        rw [Array.getElem?_eq_getElem hjs] at hx
        simp only [Option.map_some, if_pos hj, Option.some.injEq] at hx hv
        rw [get_flatK _ _ _ _ (by rw [hd's]; exact hj)] at hx
        subst hv hx
        unfold encSC
        rw [hyget _ hj2]
        by_cases h : j % 2 = 0
        · rw [if_pos h, h]; exact ⟨.int _ _, rfl⟩
        · have h1 : j % 2 = 1 := by omega
          rw [if_neg h, h1]; exact ⟨.int _ _, rfl⟩
      · rw [if_neg hj, List.getElem?_drop] at hv
        have e : xs.length * 2 + (j - xs.length * 2) = j := by omega
        rw [e] at hv
        cases hvj : vs[j]? with
        | none => rw [hvj] at hx; simp at hx
        | some z =>
          rw [hvj] at hx
          simp only [Option.map_some, if_neg hj, Option.some.injEq] at hx
          subst hx
          have := w3 j v z hv hvj
          exact ⟨this.1.mono ext, this.2⟩
  · obtain rfl := List.mem_singleton.1 hp'
    simp only; omega
  · obtain rfl := List.mem_singleton.1 hp'
    exact hA.z (blk, .cells cs) (by simp)

end Go.Proofs.YtffoiccokigjcaaDoor

/-! Contracts: what a trace may hit. -/
set_option linter.unusedVariables false
set_option linter.unusedSimpArgs false
set_option maxRecDepth 40000
set_option maxHeartbeats 4000000
namespace Go.Proofs.YtffoiccokigjcaaDoor
open Go.Am
attribute [local simp] cells scalar mkv splice under2 under dem dem1 eB gridC sB laidC

/-! ### Cells in order, each once -/
def insC (c : Int × Int) : List (Int × Int) → List (Int × Int)
  | [] => [c]
  | x :: r => if c = x then x :: r else if c.1 < x.1 ∨ (c.1 = x.1 ∧ c.2 < x.2) then c :: x :: r else x :: insC c r

theorem mem_insC {c x : Int × Int} : ∀ (l : List (Int × Int)), x ∈ insC c l ↔ x = c ∨ x ∈ l
  | [] => by simp [insC]
  | y :: r => by
    simp only [insC]
    split
    · rename_i h; subst h; simp
    · split
      · simp
      · simp only [List.mem_cons, mem_insC r]
        constructor
        · rintro (h | h | h)
          · exact .inr (.inl h)
          · exact .inl h
          · exact .inr (.inr h)
        · rintro (h | h | h)
          · exact .inr (.inl h)
          · exact .inl h
          · exact .inr (.inr h)

theorem sorted_insC {c : Int × Int} : ∀ (l : List (Int × Int)), l.Pairwise befC → (insC c l).Pairwise befC
  | [], _ => by simp [insC]
  | y :: r, h => by
    rw [List.pairwise_cons] at h
    simp only [insC]
    split
    · exact List.pairwise_cons.2 h
    · rename_i hne
      split
      · rename_i hb
        refine List.pairwise_cons.2 ⟨fun z hz => ?_, List.pairwise_cons.2 h⟩
        rcases List.mem_cons.1 hz with rfl | hz
        · exact hb
        · exact befC_trans hb (h.1 z hz)
      · rename_i hb
        refine List.pairwise_cons.2 ⟨fun z hz => ?_, sorted_insC r h.2⟩
        rcases (mem_insC r).1 hz with rfl | hz
        · have hne' : z.1 ≠ y.1 ∨ z.2 ≠ y.2 := by
            rcases Int.lt_or_le z.1 y.1 with h1 | h1
            · exact .inl (by omega)
            · by_cases h2 : z.1 = y.1
              · exact .inr fun h3 => hne (Prod.ext h2 h3)
              · exact .inl h2
          unfold befC; omega
        · exact h.1 z hz

def hitsOf (l : List (Int × Int)) : List (Int × Int) := l.foldl (fun acc c => insC c acc) []

theorem hits_fold : ∀ (l acc : List (Int × Int)), acc.Pairwise befC → (l.foldl (fun acc c => insC c acc) acc).Pairwise befC ∧ ∀ x, x ∈ l.foldl (fun acc c => insC c acc) acc ↔ x ∈ acc ∨ x ∈ l
  | [], acc, h => ⟨h, fun x => by simp⟩
  | c :: l, acc, h => by
    have ih := hits_fold l (insC c acc) (sorted_insC acc h)
    refine ⟨ih.1, fun x => ?_⟩
    simp only [List.foldl_cons]
    rw [ih.2 x, mem_insC]
    simp only [List.mem_cons]
    constructor
    · rintro ((h | h) | h)
      · exact .inr (.inl h)
      · exact .inl h
      · exact .inr (.inr h)
    · rintro (h | h | h)
      · exact .inl (.inr h)
      · exact .inl (.inl h)
      · exact .inr h

theorem hitsOf_sorted (l : List (Int × Int)) : (hitsOf l).Pairwise befC := (hits_fold l [] List.Pairwise.nil).1
theorem mem_hitsOf {l : List (Int × Int)} {x : Int × Int} : x ∈ hitsOf l ↔ x ∈ l := by
  have := (hits_fold l [] List.Pairwise.nil).2 x
  unfold hitsOf
  rw [this]; simp

def cellP (g : Gd) (p : (Int × Int) × (Int × Int)) : Int × Int := cellN g p.1 p.2
def hitsL (g : Gd) (l m : List (Int × Int)) : List (Int × Int) := hitsOf ((pairsL l m).map (cellP g))

theorem clsAt_bd {n : Int} : ∀ (l : List (Int × Int)) (k i : Nat), clsAt n l k = some i → k ≤ i ∧ i < k + l.length
  | [], k, i, h => by simp [clsAt] at h
  | c :: r, k, i, h => by
    simp only [clsAt] at h
    split at h
    · cases h; simp
    · have := clsAt_bd r (k + 1) i h
      simp; omega

theorem cell_bd {g : Gd} (hg : gridOk g = true) (a b : Int × Int) : cellB (cellN g a b) := by
  obtain ⟨_, _, ha, hd, hc, _⟩ := gridOk_spec hg
  unfold cellN
  split
  · rename_i h
    rw [Bool.and_eq_true, btw_iff, btw_iff] at h
    split
    · rename_i i hi
      have := clsAt_bd _ _ _ hi
      have m1 : 0 ≤ rowN g a b * g.a := Int.mul_nonneg (by omega) (by omega)
      have m2 : rowN g a b * g.a ≤ 15 * 16 := Int.mul_le_mul (by omega) (by omega) (by omega) (by omega)
      unfold cellB; simp only; omega
    · unfold cellB; simp only; omega
  · unfold cellB; simp only; omega

theorem pairs_len (l m : List (Int × Int)) : (pairsL l m).length = l.length * m.length := by
  induction l with
  | nil => simp [pairsL]
  | cons a l ih =>
    have e : pairsL (a :: l) m = (m.map fun b => (a, b)) ++ pairsL l m := rfl
    rw [e, List.length_append, ih]; simp [Nat.add_mul]; omega

theorem mem_pairs {l m : List (Int × Int)} {p : (Int × Int) × (Int × Int)} : p ∈ pairsL l m ↔ p.1 ∈ l ∧ p.2 ∈ m := by
  unfold pairsL
  simp only [List.mem_flatMap, List.mem_map]
  constructor
  · rintro ⟨a, ha, b, hb, rfl⟩; exact ⟨ha, hb⟩
  · rintro ⟨h1, h2⟩; exact ⟨p.1, h1, p.2, h2, rfl⟩

end Go.Proofs.YtffoiccokigjcaaDoor

/-! Contracts: hits. -/
set_option linter.unusedVariables false
set_option linter.unusedSimpArgs false
set_option maxRecDepth 40000
set_option maxHeartbeats 4000000
namespace Go.Proofs.YtffoiccokigjcaaDoor
open Go.Am
attribute [local simp] cells scalar mkv splice under2 under dem dem1 eB gridC sB laidC

/-- A layout on a grid, whose places are such. -/
structure LdOk (L : Ld) : Prop where
  g : gridOk L.g = true
  n : L.places.length ≤ 16
  t : L.traces.length ≤ 64
  p : ∀ l ∈ L.places, (1 ≤ l.length ∧ l.length ≤ 64) ∧ ∀ q ∈ l, planeB q = true
  tr : ∀ t ∈ L.traces, ∃ i j : Nat, t = ((i : Int), (j : Int)) ∧ i < L.places.length ∧ j < L.places.length

def pl (L : Ld) (i : Int) : List (Int × Int) := L.places.getD i.toNat []
def hitsT (L : Ld) (t : Nat) : List (Int × Int) := hitsL L.g (pl L (L.traces.getD t (0, 0)).1) (pl L (L.traces.getD t (0, 0)).2)

theorem inner_InA {E : Env} {S0 S2 : Sur} {l0 : List (List V)} {s0 : Bool} {cc : LC} (hA : InA E S0 l0 s0) (h : SurIn E.S S2) : InA (E.inner cc S2 h.ok) S0 l0 s0 := ⟨h.sub.trans hA.sub, hA.ok⟩

theorem key_eq {l : List MapEntry} (h : l.Pairwise fun x y => x.key ≠ y.key) {x y : MapEntry} (hx : x ∈ l) (hy : y ∈ l) (e : x.key = y.key) : x = y := by
  induction l with
  | nil => cases hx
  | cons a l ih =>
    rw [List.pairwise_cons] at h
    rcases List.mem_cons.1 hx with h1 | h1 <;> rcases List.mem_cons.1 hy with h2 | h2
    · rw [h1, h2]
    · rw [h1] at e; exact absurd e (h.1 _ h2)
    · rw [h2] at e; exact absurd e.symm (h.1 _ h1)
    · exact ih h.2 h1 h2

theorem born_eq {l : List MapEntry} (h : l.Pairwise fun x y => x.born ≠ y.born) {x y : MapEntry} (hx : x ∈ l) (hy : y ∈ l) (e : x.born = y.born) : x = y := by
  induction l with
  | nil => cases hx
  | cons a l ih =>
    rw [List.pairwise_cons] at h
    rcases List.mem_cons.1 hx with h1 | h1 <;> rcases List.mem_cons.1 hy with h2 | h2
    · rw [h1, h2]
    · rw [h1] at e; exact absurd e (h.1 _ h2)
    · rw [h2] at e; exact absurd e.symm (h.1 _ h1)
    · exact ih h.2 h1 h2

theorem vlen (es : Array MapEntry) (vis : List MapEntry) {n : Nat} (h : es.size ≤ n) (hs : ∀ e ∈ vis, e ∈ es.toList) (hn : (vis.map (·.key)).Nodup) (hb : n ≤ 4096) : vis.length ≤ 4096 := by
  have hv : vis.Nodup := by
    unfold List.Nodup at hn ⊢
    rw [List.pairwise_map] at hn
    exact hn.imp fun hne e => hne (by rw [e])
  have h2 : vis.length ≤ es.toList.length := hv.length_le_of_subset fun x hx => hs x hx
  have h3 : es.toList.length = es.size := by simp
  omega

theorem setA_one (b : Nat) (o o' : Ob) : setA [(b, o)] b o' = [(b, o')] := by simp [setA]

theorem c_hits {L : Ld} (hL : LdOk L) {t : Nat} (ht : t < L.traces.length) : C Tryd.prog F.bin_laid_hits [.agg (laidC L), I (t : Nat)] (sB (hitsT L t)) := by
  obtain ⟨i, j, hij, hi, hj⟩ := hL.tr _ (List.getElem_mem ht)
  have hT : hitsT L t = hitsL L.g L.places[i] L.places[j] := by
    unfold hitsT pl
    have e : L.traces.getD t (0, 0) = ((i : Int), (j : Int)) := by simp [ht, hij]
    rw [e]
    simp [hi, hj]
  rw [hT]
  have hpi := hL.p _ (List.getElem_mem hi)
  have hpj := hL.p _ (List.getElem_mem hj)
  obtain ⟨l, el⟩ : ∃ l, L.places[i] = l := ⟨_, rfl⟩
  obtain ⟨m, em⟩ : ∃ m, L.places[j] = m := ⟨_, rfl⟩
  rw [el] at hpi ⊢
  rw [em] at hpj ⊢
  have hpl : (pairsL l m).length ≤ 4096 := by
    rw [pairs_len]
    have : l.length * m.length ≤ 64 * 64 := Nat.mul_le_mul hpi.1.2 hpj.1.2
    omega
  refine C_of mixed chk.bin_laid_hits (by simp) fun S ok => ?_
  refine Tr.arena rfl rfl ?_
  have hA := InA.main (E := env0 Tryd.prog mixed 51 S ok) [] false
  refine Tr.seqR rfl (by simp) (Tr.seq (Tr.reg ?_))
  refine Steps.mkset hA rfl fun mb _ => Steps.fin rfl (by simp) ?_
  refine Tr.seq (Tr.reg (Steps.runN 4 rfl (by simp; omega) ?_))
  rw [getD_map ht, hij]
  refine Steps.fin rfl (by simp) ?_
  refine Tr.seq (Tr.seq (Tr.drawK (TraceK.runN 5 rfl (by simp; omega) ?_)))
  rw [getD_map hi, el]
  refine TraceK.runN 6 rfl (by simp; omega) ?_
  rw [getD_map hj, em]
  refine TraceK.run rfl (by simp) (TraceK.call rfl rfl (c_pairs l m) (TraceK.run rfl (by simp) (.done ⟨by kernel_rfl, by kernel_rfl, ?_⟩)))
  refine Tr.block ?_
  refine Tr.weak (s' := { env := [(2, .ptr 2 0), (5, .ptr 5 0), (29, .func (.func F.bin_pairs_1) [] [.vptr [sB l] 0, .vptr [sB m] 0])], bx := [(2, ⟨laidC L, false⟩), (5, ⟨[.rmap mb], false⟩)], rw := [], log := encA [(mb, .raw (.map #[] 0))], stp := false })
    (Wk.le (.cons rfl (.refl _) (.cons rfl (.refl _) (.cons rfl (.refl _) .nil))) (.cons rfl (LLe.refl _) (.cons rfl (LLe.refl _) .nil)) .nil rfl rfl) ?_
  refine Tr.range rfl rfl (i_pairs (l := l) (m := m) (by omega) (by omega)) rfl rfl rfl (by intro x hx; obtain ⟨b, _, rfl⟩ := List.mem_map.1 hx; rfl)
    (fun pre t => ∃ k es clock, k ≤ (pairsL l m).length ∧ pre = ((pairsL l m).take k).map eP2 ∧ SetIs es clock (((pairsL l m).take k).map (cellP L.g)) ∧ es.size ≤ k ∧ t.bx = [(2, ⟨laidC L, false⟩), (5, ⟨[.rmap mb], false⟩)] ∧ t.rw = [] ∧ t.log = encA [(mb, .raw (.map es clock))])
    (fun _ _ => False) ⟨0, #[], 0, by omega, rfl, SetIs.made, by simp, rfl, rfl, rfl⟩ ?_ ?_ ?_
  · rintro a0 L0 rc0 h0 S1 S2 ok1 ok2 pre q t lp hpre ⟨k, es, clock, hk, rfl, hS, hes, hbx, hrw, hlog⟩ henv hstp
    obtain ⟨env, bx, rw, log, stp⟩ := t
    simp only at hbx hrw hlog henv hstp
    subst hbx hrw hlog henv hstp
    have hmx : k < (pairsL l m).length ∧ ∃ b, (pairsL l m)[k]? = some b ∧ q = eP2 b := by
      have h1 : (((pairsL l m).take k).map eP2).length = k := by simp; omega
      have h2 := hpre.length_le
      simp at h2
      have hml : k < (pairsL l m).length := by omega
      refine ⟨hml, _, List.getElem?_eq_getElem hml, ?_⟩
      have h3 := List.IsPrefix.getElem hpre (i := k) (by simp; omega)
      simp only [List.getElem_map] at h3
      rw [List.getElem_append_right (by omega)] at h3
      simpa using h3
    obtain ⟨hkl, p, hp, rfl⟩ := hmx
    have hpm := mem_pairs.1 (List.mem_of_getElem? hp)
    have kc := c_cell hL.g (hpi.2 _ hpm.1) (hpj.2 _ hpm.2)
    have hcb := cell_bd hL.g p.1 p.2
    refine Tr.seqR rfl (by simp) (Tr.regR rfl (by simp) ?_)
    refine Tr.block (Tr.drawK (TraceK.run rfl (by simp) (TraceK.call rfl rfl kc (.done ⟨by kernel_rfl, by kernel_rfl, ?_⟩))))
    refine Steps.setput (A := [(mb, .raw (.map es clock))]) (k := cellN L.g p.1 p.2) (inner_InA hA ok2) rfl rfl (by simp) hS ?_ (by omega) fun es' clock' hS' hsz => ?_
    · unfold cellB at hcb; unfold inI; omega
    rw [setA_one]
    refine Steps.fin rfl (by simp) ?_
    have eT : ((pairsL l m).take (k + 1)).map (cellP L.g) = ((pairsL l m).take k).map (cellP L.g) ++ [cellN L.g p.1 p.2] := by
      rw [List.take_add_one, hp, List.map_append]; rfl
    refine ⟨{ env := [], bx := [(2, ⟨laidC L, false⟩), (5, ⟨[.rmap mb], false⟩)], rw := [], log := encA [(mb, .raw (.map es' clock'))], stp := false }, Wk.le .nil (.cons rfl (LLe.refl _) (.cons rfl (LLe.refl _) .nil)) .nil rfl rfl, ⟨k + 1, es', clock', by omega, ?_, by rw [eT]; exact hS', by omega, rfl, rfl, rfl⟩, rfl⟩
    rw [List.take_add_one, hp]; simp
  · rintro ⟨env, bx, rw, log, stp⟩ henv hstp ⟨k, es, clock, hk, hpre, hS, hes, hbx, hrw, hlog⟩
    simp only at hbx hrw hlog henv hstp
    subst hbx hrw hlog henv hstp
    have hml : k = (pairsL l m).length := by
      have := congrArg List.length hpre
      simp at this; omega
    subst hml
    rw [List.take_length] at hS
    refine Tr.seqR rfl (by simp) ?_
    refine Tr.seq (Tr.seq (Tr.reg (Steps.run rfl (by simp) ?_)))
    refine Steps.mrange (A := [(mb, .raw (.map es clock))]) (mb := mb) (es := es) (clock := clock) hA rfl rfl (by simp) fun ib hib => Steps.fin rfl (by simp) (Tr.block ?_)
    have hmi : mb ≠ ib := fun e => hib (by simp [e])
    refine Tr.loop (α := List MapEntry × List (Int × Int) × Array Nat × Nat × V × Arena) (fun p st => (p.1.map (·.key) = p.2.1.map keyV ∧ p.2.2.1.toList = p.1.map (·.born) ∧ (∀ e ∈ p.1, e ∈ es.toList) ∧ (p.1.map (·.key)).Nodup ∧ (∀ c ∈ p.2.1, c ∈ (pairsL l m).map (cellP L.g)) ∧ p.1.length ≤ 4096 ∧
        (mb, Ob.raw (.map es clock)) ∈ p.2.2.2.2.2 ∧ (ib, Ob.raw (.mapIter (some mb) clock p.2.2.1 p.2.2.2.1)) ∈ p.2.2.2.2.2 ∧ clock ≤ p.2.2.2.1 ∧ OwnS p.2.2.2.2.2 2 (p.2.1.map eB) p.2.2.2.2.1 ∧ offS p.2.2.2.2.1 mb ∧ offS p.2.2.2.2.1 ib) ∧
        st = { env := [(9, p.2.2.2.2.1), (39, .rptr ib 0)], bx := [], rw := [], log := encA p.2.2.2.2.2, stp := false }) (fun p => (leftOf es p.2.2.1).size) ([], [], #[], clock, .nils, [(ib, .raw (.mapIter (some mb) clock #[] clock)), (mb, .raw (.map es clock))])
      (Wk.le (.cons rfl (.refl _) (.cons rfl (.refl _) .nil)) .nil .nil rfl rfl) ⟨⟨rfl, rfl, by simp, by simp, by simp, by simp, by simp, by simp, Nat.le_refl _, .inl ⟨rfl, rfl⟩, fun _ _ _ _ h => (by cases h), fun _ _ _ _ h => (by cases h)⟩, rfl⟩ ?_
    rintro ⟨vis, out, seen, c0, v, A⟩ st ⟨⟨i1, i2, i3, i4, i5, i6, i7, i8, i9, i10, i11, i12⟩, rfl⟩
    simp only at i1 i2 i3 i4 i5 i6 i7 i8 i9 i10 i11 i12
    have hlen : vis.length = out.length := by have := congrArg List.length i1; simpa using this
    refine Tr.seq (Tr.reg ?_)
    refine Steps.mnext (A := A) (ib := ib) (mb := mb) (since := clock) (c0 := c0) (seen := seen) (es := es) (clock := clock) hA rfl rfl i8 i7 hS (fun e he => hS.st.1 e he) i9 (fun hz => ?_) (fun e he k hk hkey hval => ?_)
    · refine Steps.fin rfl (by simp) (Tr.seq (Tr.condF rfl (Tr.exit ?_)))
      have hall : ∀ x ∈ es.toList, x ∈ vis := fun x hx => by
        have h1 := all_seen es seen hz x hx
        rw [← Array.contains_toList, i2] at h1
        have h1 : x.born ∈ vis.map (·.born) := by simpa using h1
        obtain ⟨y, hy, ey⟩ := List.mem_map.1 h1
        have h2 := hS.st.2.1
        unfold List.Nodup at h2
        rw [List.pairwise_map] at h2
        exact born_eq h2 (i3 y hy) hx ey ▸ hy
      have hout : ∀ x, x ∈ out ↔ x ∈ (pairsL l m).map (cellP L.g) := fun x => by
        refine ⟨i5 x, fun hx => ?_⟩
        obtain ⟨_, e, he, ek⟩ := hS.all x hx
        have h1 : e.key ∈ vis.map (·.key) := List.mem_map.2 ⟨e, hall e he, rfl⟩
        rw [i1, ek] at h1
        obtain ⟨c, hc, ec⟩ := List.mem_map.1 h1
        exact keyV_inj ec ▸ hc
      have hnd : out.Nodup := by
        rw [i1] at i4
        unfold List.Nodup at i4 ⊢
        rw [List.pairwise_map] at i4
        exact i4.imp fun hne e => hne (by rw [e])
      have hne : out ≠ [] := fun e => by
        have h1 : 0 < (pairsL l m).length := by rw [pairs_len]; exact Nat.mul_pos (by omega) (by omega)
        have h2 := (hout (cellP L.g (pairsL l m)[0])).2 (List.mem_map.2 ⟨_, List.getElem_mem h1, rfl⟩)
        rw [e] at h2; cases h2
      obtain ⟨blk, cap, cs, rfl, hm2, hm3, hm4, hm5⟩ : ∃ (blk cap : Nat) (cs : List V), v = .sref blk 0 out.length cap ∧ (blk, Ob.cells cs) ∈ A ∧ cs.length = cap * 2 ∧ out.length ≤ cap ∧ cs.take (out.length * 2) = (out.map eB).flatMap cells := by
        rcases i10 with ⟨h, _⟩ | ⟨blk, cap, cs, h1, h2, h3, h4, h5⟩
        · simp at h; exact absurd h hne
        · rw [List.length_map] at h1 h4 h5
          exact ⟨blk, cap, cs, h1, h2, h3, h4, h5⟩
      have hcb : ∀ c ∈ out, cellB c := fun c hc => by
        obtain ⟨p, _, rfl⟩ := List.mem_map.1 (i5 c hc)
        exact cell_bd hL.g p.1 p.2
      have hcsl : out.length * 2 ≤ cs.length := by rw [hm3]; exact Nat.mul_le_mul_right _ hm4
      have hys : ∀ x, x ∈ hitsL L.g l m ↔ x ∈ out := fun x => by unfold hitsL; rw [mem_hitsOf, hout x]
      have hsort := ca_sort (blk := blk) (cap := cap) (xs := out) (ys := hitsL L.g l m) (cs := cs) hm5 hcsl (by omega) hcb hnd hys (hitsOf_sorted _)
      have hyl : (hitsL L.g l m).length = out.length := by
        have n1 : (hitsL L.g l m).Nodup := by
          unfold List.Nodup hitsL
          exact (hitsOf_sorted _).imp fun {a b} h (e : a = b) => befC_irrefl (by rw [e] at h; exact h)
        exact Nat.le_antisymm (n1.length_le_of_subset fun x hx => (hys x).1 hx) (hnd.length_le_of_subset fun x hx => (hys x).2 hx)
      refine Tr.weak (s' := { env := [(9, .sref blk 0 out.length cap)], bx := [], rw := [], log := encA A, stp := false }) (Wk.le (.cons rfl (.refl _) .nil) .nil .nil rfl rfl) ?_
      refine Tr.weak (Wk.keep hA (B := [(blk, .cells cs)]) rfl (by simpa using hm2) (by simp)) ?_
      refine Tr.seq (Tr.reg (Steps.run rfl (by simp) ?_))
      refine Steps.callA (F := []) hA rfl rfl rfl hsort (.inl (by simp)) (Steps.fin rfl (by simp) ?_)
      refine Tr.seqR rfl (by simp) ?_
      refine Tr.weak (s' := { env := [(4, .sref blk 0 ((hitsL L.g l m).map eB).length cap)], bx := [], rw := [], log := encA [(blk, .cells (((hitsL L.g l m).map eB).flatMap cells ++ cs.drop (out.length * 2)))], stp := false }) (Wk.le (.cons rfl (.of_eq ?_) .nil) .nil .nil rfl rfl) ?_
      · rw [List.length_map, hyl]
      refine Tr.weak (Wk.close hA (t := 4) (sz := 2) rfl rfl (by simp; rfl) (by omega) (by rw [List.length_map, hyl]; exact hm4) (fun x hx => by obtain ⟨c, _, rfl⟩ := List.mem_map.1 hx; rfl) ?_) ?_
      · rw [List.length_map, ← flat_eB_len, List.take_left]
      exact Tr.ret ⟨trivial, _, _, _, resVs_ok rfl, rfl, rfl⟩
    · refine Steps.fin rfl (by simp) (Tr.seq (Tr.condT rfl (Tr.skip (Tr.block (Tr.seq (Tr.reg ?_))))))
      have heL := mem_left he
      refine Steps.mentry (A := setA A ib (.raw (.mapIter (some mb) clock (seen.push e.born) clock))) (ib := ib) (mb := mb) (since := clock) (seen := seen) (es := es) (clock := clock) (e := e) (k := k) hA rfl rfl (mem_setA_self i8) (mem_setA_ne i7 hmi) hS.st heL.1 hkey hval (Steps.fin rfl (by simp) (Tr.reg (Steps.runN 3 rfl (by simp) ?_)))
      have hol : (out.map eB).length ≤ 4096 := by rw [List.length_map]; omega
      have hO : OwnS (setA A ib (.raw (.mapIter (some mb) clock (seen.push e.born) clock))) 2 (out.map eB) v := by
        rcases i10 with h | ⟨blk, cap, cs, h1, h2, h3⟩
        · exact .inl h
        · exact .inr ⟨blk, cap, cs, h1, mem_setA_ne h2 (fun e => i12 _ _ _ _ h1 e.symm), h3⟩
      refine Steps.appendOwn (A := setA A ib (.raw (.mapIter (some mb) clock (seen.push e.born) clock))) (v := v) (xs := out.map eB) (ys := [eB k]) (zs := [I 0, I 0]) hA rfl rfl hO (by kernel_rfl) (by omega) (by simp only [List.length_cons, List.length_nil]; omega) (by simp only [List.length_cons, List.length_nil]; omega) (by simp) fun v' A' hO' hkeep => ?_
      refine Steps.fin rfl (by simp) ?_
      have hnew : e ∉ vis := fun hm => by
        have h1 : e.born ∈ seen.toList := by rw [i2]; exact List.mem_map.2 ⟨e, hm, rfl⟩
        have h2 := heL.2
        rw [← Array.contains_toList] at h2
        simp at h2
        exact h2 (by simpa using h1)
      have hknew : e.key ∉ vis.map (·.key) := fun hm => by
        obtain ⟨x, hx, ex⟩ := List.mem_map.1 hm
        exact hnew (key_eq hS.nd heL.1 (i3 x hx) ex.symm ▸ hx)
      refine ⟨(vis ++ [e], out ++ [k], seen.push e.born, clock, v', A'), _, Wk.le (.cons rfl (.refl _) (.cons rfl (.refl _) .nil)) .nil .nil (by simp only [okRefs, List.all_cons, ownS_refs hO']; rfl) rfl, ⟨⟨?_, ?_, ?_, ?_, ?_, ?_, ?_, ?_, Nat.le_refl _, ?_, ?_, ?_⟩, rfl⟩, ?_⟩
      · rw [List.map_append, List.map_append, i1]
        simp [hkey]
      · rw [Array.toList_push, i2, List.map_append]; rfl
      · intro x hx
        rcases List.mem_append.1 hx with hx | hx
        · exact i3 x hx
        · obtain rfl := List.mem_singleton.1 hx; exact heL.1
      · rw [List.map_append, List.nodup_append]
        refine ⟨i4, by simp, fun x hx y hy e' => ?_⟩
        obtain rfl := List.mem_singleton.1 hy
        subst e'; exact hknew hx
      · intro c hc
        rcases List.mem_append.1 hc with hc | hc
        · exact i5 c hc
        · obtain rfl := List.mem_singleton.1 hc; exact hk
      · exact vlen es (vis ++ [e]) hes (fun x hx => by
          rcases List.mem_append.1 hx with hx | hx
          · exact i3 x hx
          · obtain rfl := List.mem_singleton.1 hx; exact heL.1) (by
          rw [List.map_append, List.nodup_append]
          refine ⟨i4, by simp, fun x hx y hy e' => ?_⟩
          obtain rfl := List.mem_singleton.1 hy
          subst e'; exact hknew hx) hpl
      · exact (hkeep _ (mem_setA_ne i7 hmi) i11).1
      · exact (hkeep _ (mem_setA_self i8) i12).1
      · rw [List.map_append]; exact hO'
      · exact (hkeep _ (mem_setA_ne i7 hmi) i11).2
      · exact (hkeep _ (mem_setA_self (o := .raw (.mapIter (some mb) clock (seen.push e.born) clock)) i8) i12).2
      · exact left_shrinks es seen e he
  · intro e t _ h; exact h.elim

end Go.Proofs.YtffoiccokigjcaaDoor
