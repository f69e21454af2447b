/-
  Parts of the proof, 6: the abstract machine, the compiled code, contracts of the functions, plain laws.
-/
import Derived.Test.YtdejdblopmfjfaaGreatDoorZ5
import Derived.Test.YtdejdblopmfjfaaGreatDoorRows
import Derived.WalkKit
import Derived.ProofKit
import Derived.OpenShut
import Derived.ShutString
import Derived.ChangeOld
import Derived.Below
import Derived.Test.YtdejdblopmfjfaaGreatDoorTie
import Derived.LaidMore
import Derived.LaidOnce
import Derived.Lay
import Derived.ChangeSame


/-! Contracts: Pick, chosen, stood. -/
set_option linter.unusedVariables false
set_option linter.unusedSimpArgs false
set_option maxRecDepth 40000
set_option maxHeartbeats 4000000
namespace Go.Proofs.YtdejdblopmfjfaaGreatDoor
open Go.Am
attribute [local simp] cells scalar mkv splice under2 under dem dem1 eB fourC intsV sB eF
def pickI (l : List Int) (i : Int) : Int := l.getD (restI i l.length).toNat 0

theorem c_Pick (l : List Int) (i : Int) (hl : l.length ≤ 9223372036854775807) : C Tryz.prog F.ref00_Pick [intsV l, I i] (I (pickI l i)) := by
  refine C_of mixed chk.ref00_Pick (by simp) fun S ok => ?_
  refine Tr.seqR rfl (by simp) (Tr.seq (Tr.seqR rfl (by simp [intsV]) (Tr.cond rfl rfl (fun h1 => Tr.seqR rfl (by simp) (Tr.retX rfl rfl rfl ?_ trivial)) (fun h1 => Tr.skip ?_))))
  · have h1 : l = [] := by simpa using h1
    subst h1; rfl
  have h1 : l ≠ [] := by simpa using h1
  have h0 : 0 < l.length := List.length_pos_iff.2 h1
  have hb := restI_bd (n := i) (m := l.length) (by omega)
  obtain ⟨q, hq⟩ : ∃ q : Nat, restI i l.length = (q : Int) := ⟨(restI i l.length).toNat, by omega⟩
  have hql : q < l.length := by omega
  have hc : C Tryz.prog F.ref00_Rest [I i, I ((l.map I).length : Int)] (I (q : Int)) := by
    rw [List.length_map]; exact hq ▸ c_Rest i l.length (by omega)
  refine Tr.seqC rfl (by simp [intsV]) (Steps.call rfl rfl hc (Steps.runN 1 rfl (by simp [intsV]; omega) ?_))
  rw [getD_map hql]
  refine Steps.fin rfl (by simp) (Tr.retX rfl rfl rfl ?_ trivial)
  simp [packR, pickI, hq, List.getElem?_eq_getElem hql]

/-! ### A place that numbers choose -/
def chX (f : Fr) (a : Int) : Int := (tightF f).x.1 + restI a ((tightF f).x.2 - (tightF f).x.1 + 1)
def chosenN (f : Fr) (a b : Int) : Int × Int := (chX f a, lowY (tightF f) (chX f a) + restI b (highY (tightF f) (chX f a) - lowY (tightF f) (chX f a) + 1))

theorem lowY_le {f : Fr} {x y : Int} : lowY f x ≤ y ↔ f.y.1 ≤ y ∧ f.s.1 - x ≤ y ∧ x - f.d.2 ≤ y := by unfold lowY; omega
theorem le_highY {f : Fr} {x y : Int} : y ≤ highY f x ↔ y ≤ f.y.2 ∧ y ≤ f.s.2 - x ∧ y ≤ x - f.d.1 := by unfold highY; omega

theorem tight_bd {f : Fr} (h : nodeOk f = true) : ((-32768 ≤ (tightF f).x.1 ∧ (tightF f).x.1 ≤ (tightF f).x.2 ∧ (tightF f).x.2 ≤ 32768) ∧ (-32768 ≤ (tightF f).y.1 ∧ (tightF f).y.2 ≤ 32768) ∧ (-65536 ≤ (tightF f).s.1 ∧ (tightF f).s.2 ≤ 65536) ∧ -65536 ≤ (tightF f).d.1 ∧ (tightF f).d.2 ≤ 65536) ∧
    ((tightF f).y.1 ≤ 32768 ∧ -32768 ≤ (tightF f).y.2) ∧ ((tightF f).s.1 ≤ 65536 ∧ -65536 ≤ (tightF f).s.2) ∧ (tightF f).d.1 ≤ 65536 ∧ -65536 ≤ (tightF f).d.2 := by
  have H := (tight_ok h).2
  have pl : ∀ p ∈ endsL f, (-32768 ≤ p.1 ∧ p.1 ≤ 32768) ∧ -32768 ≤ p.2 ∧ p.2 ≤ 32768 := fun p hp => by
    have := node_plane h (ends_places hp)
    simpa only [planeB, Bool.and_eq_true, btw_iff] using this
  obtain ⟨p1, m1, e1⟩ := H.a1; obtain ⟨p2, m2, e2⟩ := H.a2; obtain ⟨p3, m3, e3⟩ := H.b1; obtain ⟨p4, m4, e4⟩ := H.b2
  obtain ⟨p5, m5, e5⟩ := H.c1; obtain ⟨p6, m6, e6⟩ := H.c2; obtain ⟨p7, m7, e7⟩ := H.d1; obtain ⟨p8, m8, e8⟩ := H.d2
  have k1 := pl _ m1; have k2 := pl _ m2; have k3 := pl _ m3; have k4 := pl _ m4; have k5 := pl _ m5; have k6 := pl _ m6; have k7 := pl _ m7; have k8 := pl _ m8
  have k9 := H.i _ m1
  refine ⟨⟨⟨?_, ?_, ?_⟩, ⟨?_, ?_⟩, ⟨?_, ?_⟩, ?_, ?_⟩, ⟨?_, ?_⟩, ⟨?_, ?_⟩, ?_, ?_⟩ <;> omega

/-- No column between is empty. -/
theorem tight_col {f : Fr} (h : nodeOk f = true) {x : Int} (h1 : (tightF f).x.1 ≤ x) (h2 : x ≤ (tightF f).x.2) : lowY (tightF f) x ≤ highY (tightF f) x := by
  have H := (tight_ok h).2
  obtain ⟨p1, m1, e1⟩ := H.a1; obtain ⟨p2, m2, e2⟩ := H.a2
  have i1 := H.i _ m1; have i2 := H.i _ m2
  rw [lowY_le, le_highY, le_highY, le_highY]
  refine ⟨⟨?_, ?_, ?_⟩, ⟨?_, ?_, ?_⟩, ⟨?_, ?_, ?_⟩⟩ <;> omega

theorem tight_sub {f : Fr} (h : nodeOk f = true) {q : Int × Int} (h1 : (tightF f).x.1 ≤ q.1) (h2 : q.1 ≤ (tightF f).x.2) (h3 : lowY (tightF f) q.1 ≤ q.2) (h4 : q.2 ≤ highY (tightF f) q.1) : q ∈ placesL f := by
  have H := (tight_ok h).2
  have pl : ∀ p ∈ endsL f, (f.x.1 ≤ p.1 ∧ p.1 ≤ f.x.2) ∧ (f.y.1 ≤ p.2 ∧ f.s.1 - p.1 ≤ p.2 ∧ p.1 - f.d.2 ≤ p.2) ∧ p.2 ≤ f.y.2 ∧ p.2 ≤ f.s.2 - p.1 ∧ p.2 ≤ p.1 - f.d.1 := fun p hp => by
    have := mem_placesL.1 (ends_places hp)
    rw [lowY_le, le_highY] at this; exact this
  obtain ⟨p1, m1, e1⟩ := H.a1; obtain ⟨p2, m2, e2⟩ := H.a2; obtain ⟨p3, m3, e3⟩ := H.b1; obtain ⟨p4, m4, e4⟩ := H.b2
  obtain ⟨p5, m5, e5⟩ := H.c1; obtain ⟨p6, m6, e6⟩ := H.c2; obtain ⟨p7, m7, e7⟩ := H.d1; obtain ⟨p8, m8, e8⟩ := H.d2
  have k1 := pl _ m1; have k2 := pl _ m2; have k3 := pl _ m3; have k4 := pl _ m4; have k5 := pl _ m5; have k6 := pl _ m6; have k7 := pl _ m7; have k8 := pl _ m8
  rw [lowY_le] at h3
  rw [le_highY] at h4
  rw [mem_placesL, lowY_le, le_highY]
  refine ⟨⟨?_, ?_⟩, ⟨?_, ?_, ?_⟩, ⟨?_, ?_, ?_⟩⟩
  · clear k2 k3 k4 k5 k6 k7 k8; omega
  · clear k1 k3 k4 k5 k6 k7 k8; omega
  · clear k1 k2 k4 k5 k6 k7 k8; omega
  · clear k1 k2 k3 k4 k6 k7 k8; omega
  · clear k1 k2 k3 k4 k5 k6 k7; omega
  · clear k1 k2 k3 k5 k6 k7 k8; omega
  · clear k1 k2 k3 k4 k5 k7 k8; omega
  · clear k1 k2 k3 k4 k5 k6 k8; omega

theorem chX_in {f : Fr} (h : nodeOk f = true) (a : Int) : (tightF f).x.1 ≤ chX f a ∧ chX f a ≤ (tightF f).x.2 := by
  have hb := (tight_bd h).1.1
  have := restI_bd (n := a) (m := (tightF f).x.2 - (tightF f).x.1 + 1) (by omega)
  unfold chX; omega

theorem chosen_in {f : Fr} (h : nodeOk f = true) (a b : Int) : chosenN f a b ∈ placesL f := by
  obtain ⟨x1, x2⟩ := chX_in h a
  have hc := tight_col h x1 x2
  have := restI_bd (n := b) (m := highY (tightF f) (chX f a) - lowY (tightF f) (chX f a) + 1) (by omega)
  exact tight_sub h x1 x2 (by simp only [chosenN]; omega) (by simp only [chosenN]; omega)

theorem c_chosen {f : Fr} (h : nodeOk f = true) (a b : Int) : C Tryz.prog F.law07_chosen [.agg (fourC f), I a, I b] (.tuple [eB (chosenN f a b), .bool true]) := by
  obtain ⟨⟨⟨t1, t2, t3⟩, ⟨t4, t5⟩, ⟨t6, t7⟩, t8, t9⟩, ⟨u1, u2⟩, ⟨u3, u4⟩, u5, u6⟩ := tight_bd h
  obtain ⟨x1, x2⟩ := chX_in h a
  have hc := tight_col h x1 x2
  have kt := c_Tight h
  obtain ⟨T, hT⟩ : ∃ T, tightF f = T := ⟨_, rfl⟩
  have hch : chosenN f a b = (chX f a, lowY T (chX f a) + restI b (highY T (chX f a) - lowY T (chX f a) + 1)) := by unfold chosenN; rw [hT]
  have hxx : chX f a = T.x.1 + restI a (T.x.2 - T.x.1 + 1) := by unfold chX; rw [hT]
  rw [hch]
  rw [hT] at kt t1 t2 t3 t4 t5 t6 t7 t8 t9 u1 u2 u3 u4 u5 u6 x1 x2 hc
  have hr1 := restI_bd (n := a) (m := T.x.2 - T.x.1 + 1) (by omega)
  have k1 : C Tryz.prog F.ref00_Rest [I a, I (IntKind.wrap .i64 (IntKind.wrap .i64 (T.x.2 - T.x.1) + 1))] (I (restI a (T.x.2 - T.x.1 + 1))) := by
    rw [w64 (n := T.x.2 - T.x.1) (by omega) (by omega), w64 (by omega) (by omega)]; exact c_Rest _ _ (by omega)
  obtain ⟨x, hx⟩ : ∃ x, chX f a = x := ⟨_, rfl⟩
  rw [hx] at hxx x1 x2 hc ⊢
  have hbl : -200000 ≤ lowY T x ∧ highY T x ≤ 200000 := by
    have l1 : T.y.1 ≤ lowY T x := (lowY_le.1 (Int.le_refl _)).1
    have l2 : highY T x ≤ T.y.2 := (le_highY.1 (Int.le_refl _)).1
    omega
  have hr2 := restI_bd (n := b) (m := highY T x - lowY T x + 1) (by omega)
  have k2 : C Tryz.prog F.ref00_Rest [I b, I (IntKind.wrap .i64 (IntKind.wrap .i64 (highY T x - lowY T x) + 1))] (I (restI b (highY T x - lowY T x + 1))) := by
    rw [w64 (n := highY T x - lowY T x) (by omega) (by omega), w64 (by omega) (by omega)]; exact c_Rest _ _ (by omega)
  refine C_of mixed chk.law07_chosen (by simp) fun S ok => ?_
  refine Tr.seqR rfl (by simp) (Tr.seqC rfl (by simp) (Steps.call rfl rfl kt (Steps.fin rfl (by simp) ?_)))
  refine Tr.seq (Tr.seqR rfl (by simp) (Tr.condF rfl (Tr.skip ?_)))
  refine Tr.seq (Tr.drawK (TraceK.run rfl (by simp) (TraceK.call rfl rfl k1 (TraceK.run rfl (by simp) (.done ⟨by kernel_rfl, by kernel_rfl, ?_⟩)))))
  rw [show IntKind.wrap .i64 (T.x.1 + restI a (T.x.2 - T.x.1 + 1)) = x by rw [w64 (by omega) (by omega)]; exact hxx.symm]
  refine Tr.seq (Tr.drawK (TraceK.run rfl (by simp) (.done ⟨by kernel_rfl, by kernel_rfl, ?_⟩)))
  refine Tr.weak (s' := { env := [(2, I b), (6, .ptr 6 0), (10, I x), (11, I (lowY T x)), (12, I (highY T x))], bx := [(6, ⟨[I 0, I 0], false⟩)], rw := [], log := [], stp := false })
    (Wk.le (.cons rfl (.refl _) (.cons rfl (.refl _) (.cons rfl (.refl _) (.cons rfl (VLe.i ?_) (.cons rfl (VLe.i ?_) .nil))))) (.cons rfl (LLe.refl _) .nil) .nil rfl rfl) ?_
  · show (bif true then (if IntKind.wrap .i64 (x - T.d.2) > (bif true then (if IntKind.wrap .i64 (T.s.1 - x) > T.y.1 then IntKind.wrap .i64 (T.s.1 - x) else T.y.1) else _) then IntKind.wrap .i64 (x - T.d.2) else (bif true then (if IntKind.wrap .i64 (T.s.1 - x) > T.y.1 then IntKind.wrap .i64 (T.s.1 - x) else T.y.1) else _)) else _) = lowY T x
    simp only [cond_true]
    rw [w64 (n := x - T.d.2) (by omega) (by omega), w64 (n := T.s.1 - x) (by omega) (by omega), ifMax, ifMax]; rfl
  · show (bif false then _ else (if IntKind.wrap .i64 (x - T.d.1) < (bif false then _ else (if IntKind.wrap .i64 (T.s.2 - x) < T.y.2 then IntKind.wrap .i64 (T.s.2 - x) else T.y.2)) then IntKind.wrap .i64 (x - T.d.1) else (bif false then _ else (if IntKind.wrap .i64 (T.s.2 - x) < T.y.2 then IntKind.wrap .i64 (T.s.2 - x) else T.y.2)))) = highY T x
    simp only [cond_false]
    rw [w64 (n := x - T.d.1) (by omega) (by omega), w64 (n := T.s.2 - x) (by omega) (by omega), ifMin, ifMin]; rfl
  refine Tr.seqC rfl (by simp) (Steps.call rfl rfl k2 (Steps.fin rfl (by simp) (Tr.retX rfl rfl rfl ?_ trivial)))
  show V.tuple [.agg [I x, I (lowY T x + restI b (highY T x - lowY T x + 1))], .bool true] = .tuple [.agg [I x, I (IntKind.wrap .i64 (lowY T x + restI b (highY T x - lowY T x + 1)))], .bool (decide (lowY T x ≤ highY T x))]
  rw [w64 (by omega) (by omega), decide_eq_true hc]

def stoodL (bits : List Int) (l : List Fr) : List (Int × Int) := (List.range l.length).map fun (i : Nat) => chosenN (l.getD i ⟨(0, 0), (0, 0), (0, 0), (0, 0)⟩) (pickI bits (2 * (i : Int))) (pickI bits (2 * (i : Int) + 1))

theorem stood_get {bits : List Int} {l : List Fr} {i : Nat} (h : i < l.length) : (stoodL bits l)[i]? = some (chosenN l[i] (pickI bits (2 * (i : Int))) (pickI bits (2 * (i : Int) + 1))) := by
  unfold stoodL
  rw [List.getElem?_map, List.getElem?_range h]
  simp [h]

theorem stood_len (bits : List Int) (l : List Fr) : (stoodL bits l).length = l.length := by simp [stoodL]

theorem c_stood {l : List Fr} (hl : l.length ≤ 16) (hn : ∀ f ∈ l, nodeOk f = true) {bits : List Int} (hb : bits.length ≤ 9223372036854775807) : C Tryz.prog F.law07_stood [.slice 0 8 (l.map eF), intsV bits] (.tuple [sB (stoodL bits l), .bool true]) := by
  refine C_of mixed chk.law07_stood (by simp) fun S ok => ?_
  refine Tr.seqR rfl (by simp) (Tr.seqR rfl (by simp) (Tr.seq (Tr.seqR rfl (by simp) (Tr.block ?_))))
  refine Tr.loop (fun (k : Nat) st => k ≤ l.length ∧ st = { env := [(0, .slice 0 8 (l.map eF)), (1, intsV bits), (6, .slice 39 2 (((stoodL bits l).take k).map eB)), (7, I (k : Nat))], bx := [], rw := [(38, k, 2, 23)], log := [], stp := false }) (fun k => l.length - k) 0
    (Wk.le (.cons rfl (.refl _) (.cons rfl (.refl _) (.cons rfl (.nil 39 2) (.cons rfl (.refl _) .nil)))) .nil (.new rfl .nil) rfl rfl) ⟨by omega, rfl⟩ ?_
  rintro k st ⟨hk, rfl⟩
  refine Tr.seq (Tr.seqR rfl (by simp) (Tr.cond rfl rfl (fun h1 => Tr.skip ?_) (fun h1 => Tr.exit ?_)))
  · have h1 : k < l.length := by simpa using h1
    have q1 : C Tryz.prog F.ref00_Pick [intsV bits, I (IntKind.wrap .i64 (2 * (k : Int)))] (I (pickI bits (2 * (k : Int)))) := by rw [w64 (by omega) (by omega)]; exact c_Pick _ _ hb
    have q2 : C Tryz.prog F.ref00_Pick [intsV bits, I (IntKind.wrap .i64 (IntKind.wrap .i64 (2 * (k : Int)) + 1))] (I (pickI bits (2 * (k : Int) + 1))) := by rw [w64 (n := 2 * (k : Int)) (by omega) (by omega), w64 (by omega) (by omega)]; exact c_Pick _ _ hb
    have q3 := c_chosen (hn _ (List.getElem_mem h1)) (pickI bits (2 * (k : Int))) (pickI bits (2 * (k : Int) + 1))
    have hg := stood_get (bits := bits) h1
    obtain ⟨p, hp⟩ : ∃ p, chosenN l[k] (pickI bits (2 * (k : Int))) (pickI bits (2 * (k : Int) + 1)) = p := ⟨_, rfl⟩
    rw [hp] at q3 hg
    refine Tr.seq (Tr.block (Tr.seq (Tr.drawK (TraceK.runN 3 rfl (by simp; omega) ?_))))
    rw [getD_map h1]
    refine TraceK.run rfl (by simp) (TraceK.call rfl rfl q1 (TraceK.run rfl (by simp) (TraceK.call rfl rfl q2 ?_)))
    refine TraceK.call rfl rfl q3 (TraceK.run rfl (by simp) (.done ⟨by kernel_rfl, by kernel_rfl, ?_⟩))
    refine Tr.seq (Tr.seqR rfl (by simp) (Tr.condF rfl (Tr.skip ?_)))
    have hsl := stood_len bits l
    refine Tr.regR rfl (by simp; omega) (Tr.regR rfl (by simp) ?_)
    refine ⟨k + 1, _, Wk.le (.cons rfl (.refl _) (.cons rfl (.refl _) (.cons rfl (.of_eq ?_) (.cons rfl (VLe.i (w64 (by omega) (by omega))) .nil)))) .nil (.cons ?_ .nil) rfl rfl, ⟨h1, rfl⟩, by omega⟩
    · rw [List.take_add_one, hg, List.map_append]; rfl
    · show some _ = some _
      have := stood_len bits l
      simp; omega
  · have h1 : k = l.length := by simp at h1; omega
    subst h1
    rw [List.take_of_length_le (by rw [stood_len]; omega)]
    exact Tr.seqR rfl (by simp) (Tr.retX rfl rfl rfl rfl trivial)

end Go.Proofs.YtdejdblopmfjfaaGreatDoor


/-! Plain: the specification's hull of a region that is a node's; what lies in it. -/
set_option linter.unusedVariables false
set_option linter.unusedSimpArgs false
set_option maxRecDepth 40000
set_option maxHeartbeats 4000000
namespace Go.Proofs.YtdejdblopmfjfaaGreatDoor
open Go.Am

def ends2 (r : Int × Int × Int) : List (Int × Int) := [(r.1, r.2.1), (r.1, r.2.2)]
def ends2L (f : Fr) : List (Int × Int) := (rowsL f).flatMap ends2
def HS (a : Fr × Bool) (l : List (Int × Int)) : Prop := (a.2 = false ∧ l = []) ∨ (a.2 = true ∧ HullOk a.1 l)

theorem hs_add {a : Fr × Bool} {l : List (Int × Int)} {p : Int × Int} (h : HS a l) : HS (addS a p) (l ++ [p]) := by
  obtain ⟨T, b⟩ := a
  rcases h with ⟨h1, rfl⟩ | ⟨h1, ih⟩
  · have h1 : b = false := h1
    subst h1
    refine .inr ⟨rfl, ?_⟩
    have e : (addS (T, false) p).1 = ofFP p := by simp [addS, withF, withB, ofFP]
    rw [e]
    refine ⟨?_, ?_, ?_, ?_, ?_, ?_, ?_, ?_, ?_⟩
    · intro q hq
      have hq : q = p := by simpa using hq
      subst hq
      simp [ofFP]
    all_goals exact ⟨p, by simp, rfl⟩
  · have h1 : b = true := h1
    subst h1
    have ih : HullOk T l := ih
    refine .inr ⟨rfl, ?_⟩
    have eT : (addS (T, true) p).1 = ⟨(min T.x.1 p.1, max T.x.2 p.1), (min T.y.1 p.2, max T.y.2 p.2), (min T.s.1 (p.1 + p.2), max T.s.2 (p.1 + p.2)), (min T.d.1 (p.1 - p.2), max T.d.2 (p.1 - p.2))⟩ := rfl
    rw [eT]
    refine ⟨?_, (attain (f := fun q => q.1) ih.a1).1, (attain (f := fun q => q.1) ih.a2).2, (attain (f := fun q => q.2) ih.b1).1, (attain (f := fun q => q.2) ih.b2).2, (attain (f := fun q => q.1 + q.2) ih.c1).1, (attain (f := fun q => q.1 + q.2) ih.c2).2, (attain (f := fun q => q.1 - q.2) ih.d1).1, (attain (f := fun q => q.1 - q.2) ih.d2).2⟩
    intro q hq
    simp only
    rcases List.mem_append.1 hq with hq | hq
    · have := ih.i q hq
      omega
    · rw [List.mem_singleton.1 hq]
      omega

theorem hs_fill (r : Fr) : ∀ (n : Nat) (x : Int) (a : Fr × Bool) (l : List (Int × Int)), HS a l → HS (fillS r n x a) (l ++ (rowsN r n x).flatMap ends2)
  | 0, x, a, l, h => by simpa [fillS, rowsN] using h
  | n + 1, x, a, l, h => by
    unfold fillS rowsN
    split
    · have := hs_fill r n (x + 1) _ _ (hs_add (p := (x, highY r x)) (hs_add (p := (x, lowY r x)) h))
      simpa [ends2] using this
    · exact hs_fill r n (x + 1) _ _ h

theorem ends2_mem {f : Fr} {p : Int × Int} (hp : p ∈ ends2L f) : p ∈ placesL f := by
  obtain ⟨r, hr, hp⟩ := List.mem_flatMap.1 hp
  obtain ⟨h1, h2, h3, h4⟩ := rows_mem _ _ hr
  rw [mem_placesL]
  rcases List.mem_cons.1 hp with rfl | hp
  · exact ⟨⟨by simp only; omega, by simp only; omega⟩, by simp only; omega, by simp only; omega⟩
  · rw [List.mem_singleton.1 hp]
    exact ⟨⟨by simp only; omega, by simp only; omega⟩, by simp only; omega, by simp only; omega⟩

theorem row_in {f : Fr} : ∀ (n : Nat) (x y : Int), x ≤ y → y < x + n → lowY f y ≤ highY f y → (y, lowY f y, highY f y) ∈ rowsN f n x
  | 0, x, y, h1, h2, _ => by simp at h2; omega
  | n + 1, x, y, h1, h2, h3 => by
    push_cast at h2
    unfold rowsN
    by_cases e : x = y
    · subst e; rw [if_pos h3]; exact List.mem_cons_self
    · have := row_in n (x + 1) y (by omega) (by omega) h3
      split
      · exact List.mem_cons_of_mem _ this
      · exact this

theorem ends2_in {f : Fr} {q : Int × Int} (hq : q ∈ placesL f) : (q.1, lowY f q.1) ∈ ends2L f ∧ (q.1, highY f q.1) ∈ ends2L f := by
  obtain ⟨⟨h1, h2⟩, h3, h4⟩ := mem_placesL.1 hq
  have hr := row_in (f := f) (f.x.2 + 1 - f.x.1).toNat f.x.1 q.1 h1 (by omega) (by omega)
  exact ⟨List.mem_flatMap.2 ⟨_, hr, by simp [ends2]⟩, List.mem_flatMap.2 ⟨_, hr, by simp [ends2]⟩⟩

theorem places_ne {f : Fr} (h : nodeOk f = true) : placesL f ≠ [] := by
  simp only [nodeOk, Bool.and_eq_true, btw_iff] at h
  have hc := count_len (mid_of h.1)
  intro e
  rw [e] at hc
  simp at hc; omega

theorem hull01_ok {f : Fr} (h : nodeOk f = true) : (hull01 f).2 = true ∧ HullOk (hull01 f).1 (ends2L f) := by
  have hs := hs_fill f (f.x.2 + 1 - f.x.1).toNat f.x.1 (f0, false) [] (.inl ⟨rfl, rfl⟩)
  have e : fillS f (f.x.2 + 1 - f.x.1).toNat f.x.1 (f0, false) = hull01 f := rfl
  rw [e, List.nil_append] at hs
  have e2 : (rowsN f (f.x.2 + 1 - f.x.1).toNat f.x.1).flatMap ends2 = ends2L f := rfl
  rw [e2] at hs
  rcases hs with ⟨_, h2⟩ | h2
  · exfalso
    obtain ⟨q, hq⟩ := List.exists_mem_of_ne_nil _ (places_ne h)
    have := (ends2_in hq).1
    rw [h2] at this
    cases this
  · exact h2

theorem hull01_pl {f : Fr} (h : nodeOk f = true) : ((-32768 ≤ (hull01 f).1.x.1 ∧ (hull01 f).1.x.1 ≤ (hull01 f).1.x.2 ∧ (hull01 f).1.x.2 ≤ 32768) ∧ (-32768 ≤ (hull01 f).1.y.1 ∧ (hull01 f).1.y.1 ≤ (hull01 f).1.y.2 ∧ (hull01 f).1.y.2 ≤ 32768)) ∧ fitFB (hull01 f).1 = true := by
  have H := (hull01_ok h).2
  have pl : ∀ p ∈ ends2L f, (-32768 ≤ p.1 ∧ p.1 ≤ 32768) ∧ -32768 ≤ p.2 ∧ p.2 ≤ 32768 := fun p hp => by
    have := node_plane h (ends2_mem hp)
    simpa only [planeB, Bool.and_eq_true, btw_iff] using this
  generalize (hull01 f).1 = T at H ⊢
  obtain ⟨p1, m1, e1⟩ := H.a1; obtain ⟨p2, m2, e2⟩ := H.a2; obtain ⟨p3, m3, e3⟩ := H.b1; obtain ⟨p4, m4, e4⟩ := H.b2
  obtain ⟨p5, m5, e5⟩ := H.c1; obtain ⟨p6, m6, e6⟩ := H.c2; obtain ⟨p7, m7, e7⟩ := H.d1; obtain ⟨p8, m8, e8⟩ := H.d2
  have k1 := pl _ m1; have k2 := pl _ m2; have k3 := pl _ m3; have k4 := pl _ m4; have k5 := pl _ m5; have k6 := pl _ m6; have k7 := pl _ m7; have k8 := pl _ m8
  have k9 := H.i _ m1
  refine ⟨⟨⟨?_, ?_, ?_⟩, ⟨?_, ?_, ?_⟩⟩, ?_⟩
  · omega
  · omega
  · omega
  · omega
  · omega
  · omega
  · rw [fitFB_iff]
    unfold fitF fitB
    refine ⟨⟨⟨?_, ?_, ?_⟩, ⟨?_, ?_, ?_⟩⟩, ⟨?_, ?_, ?_⟩, ⟨?_, ?_, ?_⟩⟩ <;> omega

/-- What lies in the hull is what lies in the region. -/
theorem lies_places {f : Fr} (h : nodeOk f = true) (q : Int × Int) : liesB (hull01 f).1 q = true ↔ q ∈ placesL f := by
  have H := (hull01_ok h).2
  have pl : ∀ p ∈ ends2L f, (f.x.1 ≤ p.1 ∧ p.1 ≤ f.x.2) ∧ (f.y.1 ≤ p.2 ∧ f.s.1 - p.1 ≤ p.2 ∧ p.1 - f.d.2 ≤ p.2) ∧ p.2 ≤ f.y.2 ∧ p.2 ≤ f.s.2 - p.1 ∧ p.2 ≤ p.1 - f.d.1 := fun p hp => by
    have := mem_placesL.1 (ends2_mem hp)
    rw [lowY_le, le_highY] at this; exact this
  have hin := fun (hq : q ∈ placesL f) => ends2_in hq
  generalize (hull01 f).1 = T at H ⊢
  unfold liesB
  simp only [Bool.and_eq_true, btw_iff]
  constructor
  · rintro ⟨⟨⟨⟨h1, h2⟩, h3, h4⟩, h5, h6⟩, h7, h8⟩
    obtain ⟨p1, m1, e1⟩ := H.a1; obtain ⟨p2, m2, e2⟩ := H.a2; obtain ⟨p3, m3, e3⟩ := H.b1; obtain ⟨p4, m4, e4⟩ := H.b2
    obtain ⟨p5, m5, e5⟩ := H.c1; obtain ⟨p6, m6, e6⟩ := H.c2; obtain ⟨p7, m7, e7⟩ := H.d1; obtain ⟨p8, m8, e8⟩ := H.d2
    have k1 := pl _ m1; have k2 := pl _ m2; have k3 := pl _ m3; have k4 := pl _ m4; have k5 := pl _ m5; have k6 := pl _ m6; have k7 := pl _ m7; have k8 := pl _ m8
    rw [mem_placesL, lowY_le, le_highY]
    clear hin pl H m1 m2 m3 m4 m5 m6 m7 m8
    refine ⟨⟨?_, ?_⟩, ⟨?_, ?_, ?_⟩, ⟨?_, ?_, ?_⟩⟩
    · clear k2 k3 k4 k5 k6 k7 k8; omega
    · clear k1 k3 k4 k5 k6 k7 k8; omega
    · clear k1 k2 k4 k5 k6 k7 k8; omega
    · clear k1 k2 k3 k4 k6 k7 k8; omega
    · clear k1 k2 k3 k4 k5 k6 k7; omega
    · clear k1 k2 k3 k5 k6 k7 k8; omega
    · clear k1 k2 k3 k4 k5 k7 k8; omega
    · clear k1 k2 k3 k4 k5 k6 k8; omega
  · intro hq
    obtain ⟨m1, m2⟩ := hin hq
    have i1 := H.i _ m1
    have i2 := H.i _ m2
    have hm := (mem_placesL.1 hq).2
    simp only at i1 i2
    omega

/-! ### All points of a box that lie in the hull -/
def colF (T : Fr) (x : Int) : Nat → Int → List (Int × Int)
  | 0, _ => []
  | n + 1, y => (if liesB T (x, y) then [(x, y)] else []) ++ colF T x n (y + 1)
def boxF (T : Fr) (m : Nat) : Nat → Int → List (Int × Int)
  | 0, _ => []
  | n + 1, x => colF T x m T.y.1 ++ boxF T m n (x + 1)
def boxL (T : Fr) : List (Int × Int) := boxF T (T.y.2 + 1 - T.y.1).toNat (T.x.2 + 1 - T.x.1).toNat T.x.1

theorem mem_colF {T : Fr} {x : Int} {q : Int × Int} : ∀ (n : Nat) (y : Int), q ∈ colF T x n y ↔ (q.1 = x ∧ y ≤ q.2 ∧ q.2 < y + n) ∧ liesB T q = true
  | 0, y => by simp [colF]; omega
  | n + 1, y => by
    rw [colF, List.mem_append, mem_colF n (y + 1)]
    push_cast
    constructor
    · rintro (h | ⟨⟨h1, h2, h3⟩, h4⟩)
      · split at h
        · rename_i hl
          obtain rfl := List.mem_singleton.1 h
          exact ⟨⟨rfl, by simp, by simp only; omega⟩, hl⟩
        · cases h
      · exact ⟨⟨h1, by omega, by omega⟩, h4⟩
    · rintro ⟨⟨h1, h2, h3⟩, h4⟩
      by_cases e : q.2 = y
      · obtain rfl : q = (x, y) := Prod.ext h1 e
        exact .inl (by rw [if_pos h4]; exact List.mem_singleton.2 rfl)
      · exact .inr ⟨⟨h1, by omega, by omega⟩, h4⟩

theorem mem_boxF {T : Fr} {m : Nat} {q : Int × Int} : ∀ (n : Nat) (x : Int), q ∈ boxF T m n x ↔ ((x ≤ q.1 ∧ q.1 < x + n) ∧ T.y.1 ≤ q.2 ∧ q.2 < T.y.1 + m) ∧ liesB T q = true
  | 0, x => by simp [boxF]; omega
  | n + 1, x => by
    rw [boxF, List.mem_append, mem_boxF n (x + 1), mem_colF]
    push_cast
    constructor
    · rintro (⟨⟨h1, h2⟩, h3⟩ | ⟨⟨⟨h1, h2⟩, h3⟩, h4⟩)
      · exact ⟨⟨⟨by omega, by omega⟩, h2⟩, h3⟩
      · exact ⟨⟨⟨by omega, by omega⟩, h3⟩, h4⟩
    · rintro ⟨⟨⟨h1, h2⟩, h3⟩, h4⟩
      by_cases e : q.1 = x
      · exact .inl ⟨⟨e, h3⟩, h4⟩
      · exact .inr ⟨⟨⟨by omega, by omega⟩, h3⟩, h4⟩

theorem colF_sorted (T : Fr) (x : Int) : ∀ (n : Nat) (y : Int), (colF T x n y).Pairwise befC
  | 0, y => List.Pairwise.nil
  | n + 1, y => by
    rw [colF, List.pairwise_append]
    refine ⟨?_, colF_sorted T x n (y + 1), fun a ha b hb => ?_⟩
    · split
      · simp
      · exact List.Pairwise.nil
    · split at ha
      · obtain rfl := List.mem_singleton.1 ha
        have := (mem_colF _ _).1 hb
        unfold befC
        simp only
        omega
      · cases ha

theorem boxF_sorted (T : Fr) (m : Nat) : ∀ (n : Nat) (x : Int), (boxF T m n x).Pairwise befC
  | 0, x => List.Pairwise.nil
  | n + 1, x => by
    rw [boxF, List.pairwise_append]
    refine ⟨colF_sorted _ _ _ _, boxF_sorted T m n (x + 1), fun a ha b hb => ?_⟩
    have h1 := (mem_colF _ _).1 ha
    have h2 := (mem_boxF _ _).1 hb
    unfold befC
    omega

theorem ptsN_sorted (x : Int) : ∀ (n : Nat) (y : Int), (ptsN x n y).Pairwise befC
  | 0, y => List.Pairwise.nil
  | n + 1, y => by
    rw [ptsN, List.pairwise_cons]
    refine ⟨fun b hb => ?_, ptsN_sorted x n (y + 1)⟩
    have := (mem_ptsN _ _).1 hb
    unfold befC
    simp only
    omega

theorem rowsF_sorted (f : Fr) : ∀ (n : Nat) (x : Int), ((rowsN f n x).flatMap colP).Pairwise befC
  | 0, x => List.Pairwise.nil
  | n + 1, x => by
    rw [rowsN_flat, List.pairwise_append]
    refine ⟨ptsN_sorted _ _ _, rowsF_sorted f n (x + 1), fun a ha b hb => ?_⟩
    have h1 := (mem_ptsN _ _).1 ha
    have h2 := (mem_rowsN _ _).1 hb
    unfold befC
    omega

theorem places_sorted (f : Fr) : (placesL f).Pairwise befC := rowsF_sorted f _ _

theorem boxL_places {f : Fr} (h : nodeOk f = true) : boxL (hull01 f).1 = placesL f := by
  refine sorted_unique _ _ (boxF_sorted _ _ _ _) (places_sorted f) fun q => ?_
  rw [← lies_places h q]
  unfold boxL
  rw [mem_boxF]
  constructor
  · exact fun hq => hq.2
  · intro hq
    refine ⟨?_, hq⟩
    unfold liesB at hq
    simp only [Bool.and_eq_true, btw_iff] at hq
    omega

end Go.Proofs.YtdejdblopmfjfaaGreatDoor


/-! Contracts of the specification: places, hits, Hits. -/
set_option linter.unusedVariables false
set_option linter.unusedSimpArgs false
set_option maxRecDepth 40000
set_option maxHeartbeats 4000000
namespace Go.Proofs.YtdejdblopmfjfaaGreatDoor
open Go.Am
attribute [local simp] cells scalar mkv splice under2 under dem dem1 eB gridC sB fourC layC eF
theorem c_places07 {f : Fr} (h : nodeOk f = true) : C Tryz.prog F.ref07_places [.agg (fourC f)] (sB (placesL f)) := by
  have hn2 := h
  simp only [nodeOk, Bool.and_eq_true, btw_iff] at hn2
  have hcl := count_len (mid_of hn2.1)
  have hPl : (placesL f).length ≤ 64 := by omega
  have kt := c_Tight01 hn2.1 (hull01_ok h).1
  have hb := boxL_places h
  obtain ⟨⟨⟨hx1, hx2, hx3⟩, hy1, hy2, hy3⟩, hfit⟩ := hull01_pl h
  obtain ⟨T, hT⟩ : ∃ T, (hull01 f).1 = T := ⟨_, rfl⟩
  rw [hT] at kt hb hx1 hx2 hx3 hy1 hy2 hy3 hfit
  obtain ⟨N, hN⟩ : ∃ N, (T.x.2 + 1 - T.x.1).toNat = N := ⟨_, rfl⟩
  obtain ⟨m, hm⟩ : ∃ m, (T.y.2 + 1 - T.y.1).toNat = m := ⟨_, rfl⟩
  unfold boxL at hb
  rw [hm, hN] at hb
  refine C_of mixed chk.ref07_places (by simp) fun S ok => ?_
  refine Tr.seqR rfl (by simp) (Tr.seqR rfl (by simp) ?_)
  refine Tr.seqC rfl (by simp) (Steps.call rfl rfl kt (Steps.fin rfl (by simp) ?_))
  refine Tr.seq (Tr.seqR rfl (by simp) (Tr.block ?_))
  refine Tr.loop (α := Nat × List (Int × Int)) (fun p st => (p.1 ≤ N ∧ p.2 ++ boxF T m (N - p.1) (T.x.1 + p.1) = placesL f) ∧ st = { env := [(3, .slice 54 2 (p.2.map eB)), (4, .ptr 4 0), (6, I (T.x.1 + p.1))], bx := [(4, ⟨fourC T, false⟩)], rw := [(53, p.2.length, 2, 23)], log := [], stp := false }) (fun p => N - p.1) (0, [])
    (Wk.le (.cons rfl (.nil 54 2) (.cons rfl (.refl _) (.cons rfl (VLe.i (by simp)) .nil))) (.cons rfl (LLe.refl _) .nil) (.new rfl .nil) rfl rfl) ⟨⟨by simp, by simpa using hb⟩, rfl⟩ ?_
  rintro ⟨k, out⟩ st ⟨⟨hk, ho⟩, rfl⟩
  simp only at hk ho
  obtain ⟨x, hx⟩ : ∃ x, T.x.1 + (k : Int) = x := ⟨_, rfl⟩
  rw [hx] at ho ⊢
  refine Tr.seq (Tr.seqR rfl (by simp) (Tr.cond rfl rfl (fun h1 => Tr.skip ?_) (fun h1 => Tr.exit ?_)))
  rotate_left
  · have h1 : ¬ x ≤ T.x.2 := by simpa using h1
    rw [show N - k = 0 by omega] at ho
    have e : out = placesL f := by simpa [boxF] using ho
    refine Tr.seqR rfl (by simp) (Tr.weak (s' := { env := [(2, sB out)], bx := [], rw := [], log := [], stp := false }) (Wk.le (.cons rfl (.dem _ _ _) .nil) .nil .nil rfl rfl) (Tr.retX rfl rfl rfl ?_ trivial))
    rw [← e]; rfl
  have h1 : x ≤ T.x.2 := by simpa using h1
  obtain ⟨n, hn⟩ : ∃ n, N - k = n + 1 := ⟨N - k - 1, by omega⟩
  have hn2' : N - (k + 1) = n := by omega
  rw [hn, boxF] at ho
  refine Tr.seq (Tr.block (Tr.seqR rfl (by simp) (Tr.block ?_)))
  refine Tr.loop (α := Nat × List (Int × Int)) (fun p st => (p.1 ≤ m ∧ p.2 ++ (colF T x (m - p.1) (T.y.1 + p.1) ++ boxF T m n (x + 1)) = placesL f) ∧ st = { env := [(3, .slice 54 2 (p.2.map eB)), (4, .ptr 4 0), (6, I x), (7, I (T.y.1 + p.1))], bx := [(4, ⟨fourC T, false⟩)], rw := [(53, p.2.length, 2, 23)], log := [], stp := false }) (fun p => m - p.1) (0, out)
    (Wk.le (.cons rfl (.refl _) (.cons rfl (.refl _) (.cons rfl (.refl _) (.cons rfl (VLe.i (by simp)) .nil)))) (.cons rfl (LLe.refl _) .nil) (.cons rfl .nil) rfl rfl) ⟨⟨by simp, by simpa using ho⟩, rfl⟩ ?_
  rintro ⟨j, o2⟩ st ⟨⟨hj, ho2⟩, rfl⟩
  simp only at hj ho2
  obtain ⟨y, hy⟩ : ∃ y, T.y.1 + (j : Int) = y := ⟨_, rfl⟩
  rw [hy] at ho2 ⊢
  refine Tr.seq (Tr.seqR rfl (by simp) (Tr.cond rfl rfl (fun h2 => Tr.skip ?_) (fun h2 => Tr.exit ?_)))
  rotate_left
  · have h2 : ¬ y ≤ T.y.2 := by simpa using h2
    rw [show m - j = 0 by omega] at ho2
    refine Tr.regR rfl (by simp) ?_
    refine ⟨(k + 1, o2), _, Wk.le (.cons rfl (.refl _) (.cons rfl (.refl _) (.cons rfl (VLe.i ?_) .nil))) (.cons rfl (LLe.refl _) .nil) (.cons rfl .nil) rfl rfl, ⟨⟨by simp only; omega, ?_⟩, rfl⟩, by simp only; omega⟩
    · show IntKind.wrap .i64 (x + 1) = T.x.1 + ((k + 1 : Nat) : Int)
      rw [w64 (by omega) (by omega)]; omega
    · simp only
      rw [hn2', show T.x.1 + ((k + 1 : Nat) : Int) = x + 1 by omega]
      simpa [colF] using ho2
  have h2 : y ≤ T.y.2 := by simpa using h2
  obtain ⟨q, hq⟩ : ∃ q, m - j = q + 1 := ⟨m - j - 1, by omega⟩
  have hq2 : m - (j + 1) = q := by omega
  have e1 : T.y.1 + ((j + 1 : Nat) : Int) = y + 1 := by omega
  rw [hq, colF] at ho2
  have hpl : planeB (x, y) = true := by
    unfold planeB
    simp only [Bool.and_eq_true, btw_iff]
    omega
  have kh := c_Has01 hfit hpl
  have ho64 : o2.length ≤ 64 := by
    have := congrArg List.length ho2
    simp only [List.length_append] at this
    omega
  obtain ⟨b, hb1⟩ : ∃ b, liesB T (x, y) = b := ⟨_, rfl⟩
  rw [hb1] at kh ho2
  refine Tr.meet { env := [(3, .slice 54 2 ((o2 ++ if b then [(x, y)] else []).map eB)), (4, .ptr 4 0), (6, I x), (7, I y)], bx := [(4, ⟨fourC T, false⟩)], rw := [(53, (o2 ++ if b then [(x, y)] else []).length, 2, 23)], log := [], stp := false } (Tr.block ?_) (Tr.regR rfl (by simp) ?_)
  rotate_left
  · refine ⟨(j + 1, o2 ++ if b then [(x, y)] else []), _, Wk.le (.cons rfl (.refl _) (.cons rfl (.refl _) (.cons rfl (.refl _) (.cons rfl (VLe.i ?_) .nil)))) (.cons rfl (LLe.refl _) .nil) (.cons rfl .nil) rfl rfl, ⟨⟨by simp only; omega, ?_⟩, rfl⟩, by simp only; omega⟩
    · show IntKind.wrap .i64 (y + 1) = T.y.1 + ((j + 1 : Nat) : Int)
      rw [w64 (by omega) (by omega)]; omega
    · simp only
      rw [hq2, e1]
      simpa using ho2
  refine Tr.seqR rfl (by simp) ?_
  refine Tr.seqC rfl (by simp) (Steps.call rfl rfl kh (Steps.fin rfl (by simp) ?_))
  refine Tr.seqR rfl (by simp) ?_
  cases b with
  | true =>
    refine Tr.condT rfl (Tr.regR rfl (by simp; omega) ?_)
    refine Wk.le (.cons rfl (.of_eq ?_) (.cons rfl (.refl _) (.cons rfl (.refl _) (.cons rfl (.refl _) .nil)))) (.cons rfl (LLe.refl _) .nil) (.cons ?_ .nil) rfl rfl
    · simp
    · show some _ = some _
      simp
  | false =>
    refine Tr.condF rfl (Tr.skip ?_)
    refine Wk.le (.cons rfl (.of_eq ?_) (.cons rfl (.refl _) (.cons rfl (.refl _) (.cons rfl (.refl _) .nil)))) (.cons rfl (LLe.refl _) .nil) (.cons ?_ .nil) rfl rfl
    · simp
    · show some _ = some _
      simp

/-! ### Cells in order -/
def befB (a b : Int × Int) : Bool := decide (a.1 < b.1) || (decide (a.1 = b.1) && decide (a.2 < b.2))

theorem c_before07 (a b : Int × Int) : C Tryz.prog F.ref07_before [eB a, eB b] (.bool (befB a b)) := by
  refine C_of mixed chk.ref07_before (by simp) fun S ok => ?_
  refine Tr.seqR rfl (by simp) (Tr.seq (Tr.reg (Steps.runN 17 rfl (by simp) (Steps.gpick rfl rfl rfl (fun _ => rfl) rfl rfl (by simp; intro h; exact ⟨fun e => ⟨h, e⟩, h⟩) (Steps.fin rfl (by simp) (Tr.retX rfl rfl rfl ?_ trivial))))))
  · unfold befB
    show V.bool _ = V.bool (bif decide (a.1 < b.1) then true else (bif (a.1 == b.1) then decide (a.2 < b.2) else false))
    have e0 : (a.1 == b.1) = decide (a.1 = b.1) := by
      by_cases h : a.1 = b.1
      · rw [h]; simp
      · simp [h]
    rw [e0]
    cases decide (a.1 < b.1) <;> cases decide (a.1 = b.1) <;> rfl

theorem insC_take (c : Int × Int) : ∀ (l : List (Int × Int)) (k : Nat), k ≤ l.length → (∀ x ∈ l.take k, befB x c = true) → insC c l = l.take k ++ insC c (l.drop k)
  | l, 0, _, _ => by simp
  | [], k + 1, h, _ => by simp at h
  | x :: l, k + 1, h, hb => by
    have hx : befB x c = true := hb x (by simp)
    have ih := insC_take c l k (by simpa using h) fun y hy => hb y (by simp [hy])
    have hx2 : x.1 < c.1 ∨ (x.1 = c.1 ∧ x.2 < c.2) := by simpa [befB] using hx
    have e : insC c (x :: l) = x :: insC c l := by
      simp only [insC]
      have hne : ¬ c = x := by rintro rfl; omega
      rw [if_neg hne, if_neg (by omega)]
    rw [e, ih]; simp

theorem insC_here {c : Int × Int} {l : List (Int × Int)} {k : Nat} (hk : k < l.length) (h : befB l[k] c = false) : insC c (l.drop k) = if l[k] = c then l.drop k else c :: l.drop k := by
  rw [List.drop_eq_getElem_cons hk]
  simp only [insC]
  have h2 : ¬ (l[k].1 < c.1 ∨ (l[k].1 = c.1 ∧ l[k].2 < c.2)) := by
    intro h3
    have : befB l[k] c = true := by simpa [befB] using h3
    rw [this] at h; cases h
  by_cases e : c = l[k]
  · rw [if_pos e, if_pos e.symm]
  · have e' : ¬ l[k] = c := fun h => e h.symm
    rw [if_neg e, if_neg e']
    have h4 : c.1 < l[k].1 ∨ (c.1 = l[k].1 ∧ c.2 < l[k].2) := by
      have hne : c.1 ≠ l[k].1 ∨ c.2 ≠ l[k].2 := by
        by_cases h1 : c.1 = l[k].1
        · exact .inr fun h2 => e (Prod.ext h1 h2)
        · exact .inl h1
      omega
    rw [if_pos h4]

theorem insC_end (c : Int × Int) : ∀ l : List (Int × Int), ∃ n, n ≤ l.length ∧ (∀ x ∈ l.take n, befB x c = true) ∧ ∀ h : n < l.length, befB l[n] c = false
  | [] => ⟨0, Nat.le_refl _, by simp, fun h => by simp at h⟩
  | x :: l => by
    cases hx : befB x c with
    | false => exact ⟨0, Nat.zero_le _, by simp, fun h => hx⟩
    | true =>
      obtain ⟨n, h1, h2, h3⟩ := insC_end c l
      refine ⟨n + 1, by simpa using h1, fun y hy => ?_, fun h => h3 (by simpa using h)⟩
      rw [List.take_succ_cons] at hy
      rcases List.mem_cons.1 hy with rfl | hy
      · exact hx
      · exact h2 y hy

theorem c_with07 {l : List (Int × Int)} (hl : l.length ≤ 100000) (c : Int × Int) : C Tryz.prog F.ref07_with [sB l, eB c] (sB (insC c l)) := by
  obtain ⟨n, hn, hbf, hend⟩ := insC_end c l
  have hins := insC_take c l n hn hbf
  refine C_of mixed chk.ref07_with (by simp) fun S ok => ?_
  refine Tr.seqR rfl (by simp) (Tr.seqR rfl (by simp) ?_)
  refine Tr.meet { env := [(0, sB l), (3, .ptr 3 0), (5, I (n : Nat))], bx := [(3, ⟨[I c.1, I c.2], false⟩)], rw := [], log := [], stp := false } (Tr.block ?_) ?_
  · refine Tr.loop (fun (k : Nat) st => k ≤ n ∧ st = { env := [(0, sB l), (3, .ptr 3 0), (5, I (k : Nat))], bx := [(3, ⟨[I c.1, I c.2], false⟩)], rw := [], log := [], stp := false }) (fun k => n - k) 0
      (Wk.le (.cons rfl (.refl _) (.cons rfl (.refl _) (.cons rfl (.refl _) .nil))) (.cons rfl (LLe.refl _) .nil) .nil rfl rfl) ⟨by omega, rfl⟩ ?_
    rintro k st ⟨hk, rfl⟩
    rcases Nat.lt_or_ge k l.length with h1 | h1
    · have kb := c_before07 l[k] c
      obtain ⟨b, hb⟩ : ∃ b, befB l[k] c = b := ⟨_, rfl⟩
      rw [hb] at kb
      refine Tr.seq (Tr.seq (Tr.drawK (TraceK.runN 8 rfl (by simp <;> omega) ?_)))
      rw [getD_map h1]
      refine TraceK.run rfl (by simp <;> omega) (TraceK.gcall rfl rfl rfl rfl (by simp <;> omega) (fun _ => kb) (TraceK.run rfl (by simp) (.done ⟨by kernel_rfl, by kernel_rfl, ?_⟩)))
      have hc : (bif decide (((k : Nat) : Int) < ((l.map eB).length : Int)) then b else false) = b := by
        rw [decide_eq_true (by simp <;> omega)]; rfl
      cases b with
      | true =>
        have hkn : k < n := by
          rcases Nat.lt_or_ge k n with h | h
          · exact h
          · have : k = n := by omega
            subst this
            rw [hend h1] at hb; cases hb
        refine Tr.condT (by show some (V.bool _) = _; rw [hc]) (Tr.skip (Tr.block (Tr.regR rfl (by simp) ?_)))
        exact ⟨k + 1, _, Wk.le (.cons rfl (.refl _) (.cons rfl (.refl _) (.cons rfl (VLe.i (w64 (by omega) (by omega))) .nil))) (.cons rfl (LLe.refl _) .nil) .nil rfl rfl, ⟨hkn, rfl⟩, by omega⟩
      | false =>
        have hkn : k = n := by
          rcases Nat.lt_or_ge k n with h | h
          · have := hbf l[k] (by rw [List.mem_take_iff_getElem]; exact ⟨k, by omega, rfl⟩)
            rw [this] at hb; cases hb
          · omega
        subst hkn
        refine Tr.condF (by show some (V.bool _) = _; rw [hc]) (Tr.exit ?_)
        exact Wk.le (.cons rfl (.refl _) (.cons rfl (.refl _) (.cons rfl (.refl _) .nil))) (.cons rfl (LLe.refl _) .nil) .nil rfl rfl
    · have hk' : k = n := by omega
      subst hk'
      have hlt : decide (((k : Nat) : Int) < ((l.map eB).length : Int)) = false := by simp; omega
      refine Tr.seq (Tr.seq (Tr.drawK (TraceK.runN 10 rfl ?_ (.done ⟨by kernel_rfl, by kernel_rfl, Steps.off (want := true) (.bool true) rfl rfl (congrArg (fun b => some (b == true)) hlt) (Steps.fin rfl ?_ ?_)⟩))))
      · simp <;> omega
      · simp <;> omega
      refine Tr.condF (by show some (V.bool (bif decide (((k : Nat) : Int) < ((l.map eB).length : Int)) then true else false)) = _; rw [hlt]; rfl) (Tr.exit ?_)
      exact Wk.le (.cons rfl (.refl _) (.cons rfl (.refl _) (.cons rfl (.refl _) .nil))) (.cons rfl (LLe.refl _) .nil) .nil rfl rfl
  have fin : insC c (l.drop n) = c :: l.drop n → ∀ env, get env 0 = some (sB l) → get env 3 = some (.ptr 3 0) → get env 5 = some (I (n : Nat)) → Tr (env0 Tryz.prog mixed 47 S ok) none
      (.seq (.reg [⟨some 6, .mov, [.c .nils], none⟩]) (.seq (.draw [0, 0, 0, 6, 15, 0, 32, 127, 255] [⟨(some 34), .mov, [.t 6], none⟩,
     ⟨(some 35), .mov, [.t 0], none⟩,
     ⟨(some 36), .mov, [.t 5], none⟩,
     ⟨(some 37), .slx 2 false true, [.t 35, .t 36], none⟩,
     ⟨(some 38), .append 2 16 39, [.t 34, .t 37], none⟩,
     ⟨(some 39), .load 2 true, [.t 3], none⟩,
     ⟨(some 40), .mkslice 2 39, [.t 39], none⟩,
     ⟨(some 41), .append 2 16 39, [.t 38, .t 40], none⟩,
     ⟨(some 6), .mov, [.t 41], none⟩])
   (.seq (.reg [⟨(some 42), .mov, [.t 6], none⟩,
     ⟨(some 43), .mov, [.t 0], none⟩,
     ⟨(some 44), .mov, [.t 5], none⟩,
     ⟨(some 45), .slx 2 true false, [.t 43, .t 44], none⟩,
     ⟨(some 46), .append 2 16 39, [.t 42, .t 45], none⟩,
     ⟨(some 4), .mov, [.t 46], none⟩])
   .ret))) (qRet Tryz.prog [.tmp 4] (sB (insC c l)) fun _ => True) { env := env, bx := [(3, ⟨[I c.1, I c.2], false⟩)], rw := [], log := [], stp := false } := by
    intro hZ env g0 g3 g5
    have hA : insC c l = l.take n ++ c :: l.drop n := by rw [hins, hZ]
    refine Tr.weak (s' := { env := [(0, sB l), (3, .ptr 3 0), (5, I (n : Nat))], bx := [(3, ⟨[I c.1, I c.2], false⟩)], rw := [], log := [], stp := false }) (Wk.le (.cons g0 (.refl _) (.cons g3 (.refl _) (.cons g5 (.refl _) .nil))) (.cons rfl (LLe.refl _) .nil) .nil rfl rfl) ?_
    refine Tr.seqR rfl (by simp) ?_
    refine Tr.seq (Tr.drawK (TraceK.runN 4 rfl ?_ ?_))
    · simp <;> omega
    rw [show ((l.map eB).drop (0 : Int).toNat).take (((n : Nat) : Int).toNat - (0 : Int).toNat) = (l.take n).map eB by simp [List.map_take]]
    refine TraceK.run rfl (by simp <;> omega) (.done ⟨by kernel_rfl, by kernel_rfl, ?_⟩)
    refine Tr.seqN 4 rfl ?_ ?_
    · simp <;> omega
    rw [show ((l.map eB).drop ((n : Nat) : Int).toNat).take (((l.map eB).length : Int).toNat - ((n : Nat) : Int).toNat) = (l.drop n).map eB by
      rw [Int.toNat_natCast, Int.toNat_natCast, List.map_drop, List.take_of_length_le (by simp)]]
    refine Steps.run rfl (by simp <;> omega) ?_
    refine Tr.weak (s' := { env := [(4, sB (insC c l))], bx := [], rw := [], log := [], stp := false }) ?_ (Tr.retX rfl rfl rfl rfl trivial)
    have e : (l.take n).map eB ++ [eB c] ++ (l.drop n).map eB = (insC c l).map eB := by rw [hA]; simp
    exact Wk.le (.cons rfl (by show VLe (V.slice 39 2 ((l.take n).map eB ++ [eB c] ++ (l.drop n).map eB)) _; rw [e]; exact .dem _ _ _) .nil) .nil .nil rfl rfl
  rcases Nat.lt_or_ge n l.length with h1 | h1
  · have hz := insC_here h1 (hend h1)
    refine Tr.seq (Tr.seq (Tr.drawK (TraceK.runN 8 rfl (by simp <;> omega) ?_)))
    rw [getD_map h1]
    refine TraceK.run rfl (by simp <;> omega) (.done ⟨by kernel_rfl, by kernel_rfl, ?_⟩)
    have hc : (bif decide (((n : Nat) : Int) < ((l.map eB).length : Int)) then ((l[n].1 == c.1) && ((l[n].2 == c.2) && true)) else false) = decide (l[n] = c) := by
      rw [decide_eq_true (by simp <;> omega)]
      by_cases h : l[n] = c
      · rw [h]; simp
      · rw [decide_eq_false h, cond_true]
        by_cases h2 : l[n].1 = c.1
        · have h3 : l[n].2 ≠ c.2 := fun h3 => h (Prod.ext h2 h3)
          simp [h3]
        · simp [h2]
    by_cases h : l[n] = c
    · rw [if_pos h] at hz
      have hA : insC c l = l := by rw [hins, hz, List.take_append_drop]
      refine Tr.condT (congrArg (fun b => some (V.bool b)) (hc.trans (decide_eq_true h))) ?_
      refine Tr.seqR rfl (by simp) (Tr.retX rfl rfl rfl ?_ trivial)
      rw [hA]; rfl
    · rw [if_neg h] at hz
      refine Tr.condF (congrArg (fun b => some (V.bool b)) (hc.trans (decide_eq_false h))) (Tr.skip ?_)
      exact fin hz _ rfl rfl rfl
  · have hz : insC c (l.drop n) = c :: l.drop n := by rw [List.drop_eq_nil_of_le h1]; rfl
    have hlt : decide (((n : Nat) : Int) < ((l.map eB).length : Int)) = false := by simp; omega
    refine Tr.seq (Tr.seq (Tr.drawK (TraceK.runN 10 rfl ?_ (.done ⟨by kernel_rfl, by kernel_rfl, Steps.off (want := true) (.bool true) rfl rfl (congrArg (fun b => some (b == true)) hlt) (Steps.fin rfl ?_ ?_)⟩))))
    · simp <;> omega
    · simp <;> omega
    refine Tr.condF (by show some (V.bool (bif decide (((n : Nat) : Int) < ((l.map eB).length : Int)) then true else false)) = _; rw [hlt]; rfl) (Tr.skip ?_)
    exact fin hz _ rfl rfl rfl

end Go.Proofs.YtdejdblopmfjfaaGreatDoor


/-! Contracts of the specification: hits, Hits. -/
set_option linter.unusedVariables false
set_option linter.unusedSimpArgs false
set_option maxRecDepth 40000
set_option maxHeartbeats 4000000
namespace Go.Proofs.YtdejdblopmfjfaaGreatDoor
open Go.Am
attribute [local simp] cells scalar mkv splice under2 under dem dem1 eB gridC sB fourC layC eF
def insF (acc : List (Int × Int)) (c : Int × Int) : List (Int × Int) := insC c acc

theorem insC_len (c : Int × Int) : ∀ l : List (Int × Int), (insC c l).length ≤ l.length + 1
  | [] => by simp [insC]
  | x :: l => by
    have := insC_len c l
    simp only [insC]
    split
    · simp
    · split
      · simp
      · simp only [List.length_cons]; omega

theorem c_hits07 {g : Gd} (hg : gridOk g = true) {l m : List (Int × Int)} (hl : l.length ≤ 64 ∧ ∀ q ∈ l, planeB q = true) (hm : m.length ≤ 64 ∧ ∀ q ∈ m, planeB q = true) :
    C Tryz.prog F.ref07_hits [.agg (gridC g), sB l, sB m] (sB (hitsL g l m)) := by
  refine C_of mixed chk.ref07_hits (by simp) fun S ok => ?_
  refine Tr.seqR rfl (by simp) (Tr.seqR rfl (by simp) (Tr.seq (Tr.seqR rfl (by simp) (Tr.block ?_))))
  obtain ⟨H, hH⟩ : ∃ H, hitsL g l m = H := ⟨_, rfl⟩
  have h0 : ((pairsL (l.drop 0) m).map (cellP g)).foldl insF [] = H := by rw [← hH]; rfl
  rw [hH]
  refine Tr.loop (α := Nat × List (Int × Int)) (fun p st => (p.1 ≤ l.length ∧ p.2.length ≤ p.1 * 64 ∧ ((pairsL (l.drop p.1) m).map (cellP g)).foldl insF p.2 = H) ∧ st = { env := [(1, sB l), (2, sB m), (3, .ptr 3 0), (7, sB p.2), (8, I (p.1 : Nat))], bx := [(3, ⟨gridC g, false⟩)], rw := [], log := [], stp := false }) (fun p => l.length - p.1) (0, [])
    (Wk.le (.cons rfl (.refl _) (.cons rfl (.refl _) (.cons rfl (.refl _) (.cons rfl (.nil 0 2) (.cons rfl (.refl _) .nil))))) (.cons rfl (LLe.refl _) .nil) .nil rfl rfl) ⟨⟨by simp, by simp, h0⟩, rfl⟩ ?_
  rintro ⟨i, out⟩ st ⟨⟨hi, ho, hf⟩, rfl⟩
  simp only at hi ho hf
  refine Tr.seq (Tr.seqR rfl (by simp) (Tr.cond rfl rfl (fun h1 => Tr.skip ?_) (fun h1 => Tr.exit ?_)))
  rotate_left
  · have h1 : i = l.length := by simp at h1; omega
    subst h1
    rw [List.drop_length] at hf
    have hf : out = H := by simpa [pairsL] using hf
    rw [← hf]
    exact Tr.seqR rfl (by simp) (Tr.retX rfl rfl rfl rfl trivial)
  have h1 : i < l.length := by simpa using h1
  have hpi := hl.2 _ (List.getElem_mem h1)
  rw [pairs_drop h1, List.map_append, List.foldl_append] at hf
  refine Tr.seq (Tr.block (Tr.seqR rfl (by simp) (Tr.block ?_)))
  refine Tr.loop (α := Nat × List (Int × Int)) (fun p st => (p.1 ≤ m.length ∧ p.2.length ≤ i * 64 + p.1 ∧ ((pairsL (l.drop (i + 1)) m).map (cellP g)).foldl insF ((((m.drop p.1).map fun b => (l[i], b)).map (cellP g)).foldl insF p.2) = H) ∧ st = { env := [(1, sB l), (2, sB m), (3, .ptr 3 0), (7, sB p.2), (8, I (i : Nat)), (9, I (p.1 : Nat))], bx := [(3, ⟨gridC g, false⟩)], rw := [], log := [], stp := false }) (fun p => m.length - p.1) (0, out)
    (Wk.le (.cons rfl (.refl _) (.cons rfl (.refl _) (.cons rfl (.refl _) (.cons rfl (.refl _) (.cons rfl (.refl _) (.cons rfl (.refl _) .nil)))))) (.cons rfl (LLe.refl _) .nil) .nil rfl rfl) ⟨⟨by simp, by simpa using ho, by simpa using hf⟩, rfl⟩ ?_
  rintro ⟨k, o2⟩ st ⟨⟨hk, ho2, hf2⟩, rfl⟩
  simp only at hk ho2 hf2
  refine Tr.seq (Tr.seqR rfl (by simp) (Tr.cond rfl rfl (fun h2 => Tr.skip ?_) (fun h2 => Tr.exit ?_)))
  rotate_left
  · have h2 : k = m.length := by simp at h2; omega
    subst h2
    rw [List.drop_length] at hf2
    refine Tr.regR rfl (by simp) ?_
    exact ⟨(i + 1, o2), _, Wk.le (.cons rfl (.refl _) (.cons rfl (.refl _) (.cons rfl (.refl _) (.cons rfl (.refl _) (.cons rfl (VLe.i (w64 (by omega) (by omega))) .nil))))) (.cons rfl (LLe.refl _) .nil) .nil rfl rfl, ⟨⟨by simp only; omega, by simp only; omega, by simpa using hf2⟩, rfl⟩, by simp only; omega⟩
  have h2 : k < m.length := by simpa using h2
  have hpk := hm.2 _ (List.getElem_mem h2)
  have kc := c_cell07 hg hpi hpk
  have kw := c_with07 (l := o2) (by omega) (cellN g l[i] m[k])
  have hil := insC_len (cellN g l[i] m[k]) o2
  rw [List.drop_eq_getElem_cons h2, List.map_cons, List.map_cons, List.foldl_cons] at hf2
  refine Tr.seq (Tr.block (Tr.drawK (TraceK.runN 5 rfl (by simp; omega) ?_)))
  rw [getD_map h1]
  refine TraceK.runN 4 rfl (by simp; omega) ?_
  rw [getD_map h2]
  refine TraceK.run rfl (by simp) (TraceK.call rfl rfl kc (TraceK.call rfl rfl kw (TraceK.run rfl (by simp) (.done ⟨by kernel_rfl, by kernel_rfl, ?_⟩))))
  refine Tr.regR rfl (by simp) ?_
  exact ⟨(k + 1, insC (cellN g l[i] m[k]) o2), _, Wk.le (.cons rfl (.refl _) (.cons rfl (.refl _) (.cons rfl (.refl _) (.cons rfl (.refl _) (.cons rfl (.refl _) (.cons rfl (VLe.i (w64 (by omega) (by omega))) .nil)))))) (.cons rfl (LLe.refl _) .nil) .nil rfl rfl, ⟨⟨h2, by simp only; omega, hf2⟩, rfl⟩, by simp only; omega⟩

theorem c_Hits07 {g : Gd} {s : Ly} (hl : g.cls.length ≤ 9223372036854775807) (hn : s.nodes.length ≤ 9223372036854775807) (ht : s.traces.length ≤ 9223372036854775807) (t : Int) : C Tryz.prog F.ref07_Hits [.agg (gridC g), .agg (layC s), I t] (HitsR g s t) := by
  have kb := c_both07 (g := g) (s := s) hl hn ht
  unfold bothE at kb
  unfold HitsR
  refine C_of mixed chk.ref07_Hits (by simp) fun S ok => ?_
  refine Tr.seqR rfl (by simp) ?_
  by_cases hg : gridOk g = true
  rotate_left
  · rw [if_neg hg] at kb ⊢
    refine Tr.seq (Tr.seqC rfl (by simp) (Steps.call rfl rfl kb (Steps.fin rfl (by simp) (Tr.seqR rfl (by simp) (Tr.condT rfl (Tr.seqR rfl (by simp) ?_))))))
    refine Tr.weak (s' := { env := [(6, .slice 0 2 []), (7, I 70)], bx := [], rw := [], log := [], stp := false }) (Wk.le (.cons rfl (.nil 0 2) (.cons rfl (.refl _) .nil)) .nil .nil rfl rfl) ?_
    exact Tr.retX rfl rfl rfl rfl trivial
  rw [if_pos hg] at kb ⊢
  by_cases hs : layOk s = true
  rotate_left
  · rw [if_neg hs] at kb ⊢
    refine Tr.seq (Tr.seqC rfl (by simp) (Steps.call rfl rfl kb (Steps.fin rfl (by simp) (Tr.seqR rfl (by simp) (Tr.condT rfl (Tr.seqR rfl (by simp) ?_))))))
    refine Tr.weak (s' := { env := [(6, .slice 0 2 []), (7, I 71)], bx := [], rw := [], log := [], stp := false }) (Wk.le (.cons rfl (.nil 0 2) (.cons rfl (.refl _) .nil)) .nil .nil rfl rfl) ?_
    exact Tr.retX rfl rfl rfl rfl trivial
  rw [if_pos hs] at kb ⊢
  have hL := lay_ok hg hs
  obtain ⟨⟨hn16, hts⟩, hN, hT⟩ := layOk_spec hs
  have hw : IntKind.wrap .i64 (((s.traces.map eB).length : Int) - 1) = (s.traces.length : Int) - 1 := by rw [List.length_map, w64 (by omega) (by omega)]
  refine Tr.seq (Tr.seqC rfl (by simp) (Steps.call rfl rfl kb (Steps.fin rfl (by simp) (Tr.seqR rfl (by simp) (Tr.condF rfl (Tr.skip ?_))))))
  refine Tr.seq (Tr.seqC rfl (by simp) (Steps.call rfl rfl (c_between t 0 (IntKind.wrap .i64 (((s.traces.map eB).length : Int) - 1))) (Steps.fin rfl (by simp) ?_)))
  rw [hw]
  refine Tr.cond rfl rfl (fun h1 => Tr.seqR rfl (by simp) ?_) (fun h1 => Tr.skip ?_)
  · have h1 : btw t 0 ((s.traces.length : Int) - 1) = false := by simpa using h1
    refine Tr.weak (s' := { env := [(6, .slice 0 2 []), (7, I 72)], bx := [], rw := [], log := [], stp := false }) (Wk.le (.cons rfl (.nil 0 2) (.cons rfl (.refl _) .nil)) .nil .nil rfl rfl) ?_
    refine Tr.retX rfl rfl rfl ?_ trivial
    rw [h1]; rfl
  have h1 : btw t 0 ((s.traces.length : Int) - 1) = true := by simpa using h1
  rw [h1, if_pos rfl]
  rw [btw_iff] at h1
  obtain ⟨n, rfl⟩ : ∃ n : Nat, t = n := ⟨t.toNat, by omega⟩
  rw [Int.toNat_natCast]
  have hnt : n < s.traces.length := by omega
  obtain ⟨i, j, hij, hi, hj⟩ := hL.tr s.traces[n] (List.getElem_mem hnt)
  have hi : i < s.nodes.length := by simpa [layD] using hi
  have hj : j < s.nodes.length := by simpa [layD] using hj
  have hni := hN _ (List.getElem_mem hi)
  have hnj := hN _ (List.getElem_mem hj)
  have hpi := hL.p (placesL s.nodes[i]) (List.mem_map.2 ⟨_, List.getElem_mem hi, rfl⟩)
  have hpj := hL.p (placesL s.nodes[j]) (List.mem_map.2 ⟨_, List.getElem_mem hj, rfl⟩)
  have hHT : hitsT (layD g s) n = hitsL g (placesL s.nodes[i]) (placesL s.nodes[j]) := by
    unfold hitsT pl
    have e : (layD g s).traces.getD n (0, 0) = ((i : Int), (j : Int)) := by
      show s.traces.getD n (0, 0) = _
      simp [hnt, hij]
    rw [e]
    simp [layD, hi, hj]
  rw [hHT]
  have kh := c_hits07 hg (l := placesL s.nodes[i]) (m := placesL s.nodes[j]) ⟨hpi.1.2, hpi.2⟩ ⟨hpj.1.2, hpj.2⟩
  refine Tr.seqN 4 rfl (by simp; omega) ?_
  rw [getD_map hnt, hij]
  refine Steps.fin rfl (by simp) ?_
  refine Tr.seq (Tr.drawK (TraceK.runN 6 rfl (by simp; omega) ?_))
  rw [getD_map hi]
  refine TraceK.run rfl (by simp) (TraceK.call rfl rfl (c_places07 hni) (TraceK.runN 5 rfl (by simp; omega) ?_))
  rw [getD_map hj]
  refine TraceK.run rfl (by simp) (TraceK.call rfl rfl (c_places07 hnj) (TraceK.call rfl rfl kh (TraceK.run rfl (by simp) (.done ⟨by kernel_rfl, by kernel_rfl, ?_⟩))))
  exact Tr.retX rfl rfl rfl rfl trivial

end Go.Proofs.YtdejdblopmfjfaaGreatDoor


/-! From the reading of a row's arguments to values. -/
set_option linter.unusedVariables false
set_option linter.unusedSimpArgs false
set_option maxRecDepth 20000
namespace Go.Proofs.YtdejdblopmfjfaaGreatDoor
open Go.Am Go.ChangeShapes Go.WideShapes Go.ChangeAt Go.RowKit

/-- Everything that was there is stable. -/
def phi (W : World) : Nat → Nat := fun b => match W.heap[b]? with
  | some (.cells cs _ _) => cs.size
  | _ => 0

theorem phi_top {W : World} : ∀ b, W.heap.size ≤ b → phi W b = 0 := fun b hb => by
  unfold phi
  rw [Array.getElem?_eq_none hb]

theorem phi_lt {W : World} {b o : Nat} {z : Value} (h : W.cell? ⟨b, o, none⟩ = some z) : o < phi W b := by
  unfold World.cell? at h
  unfold phi
  cases hb : W.heap[b]? with
  | none => rw [hb] at h; simp at h
  | some ob =>
    rw [hb] at h
    cases ob with
    | cells c e m => simp only at h ⊢; exact (Array.getElem?_eq_some_iff.1 h).1
    | _ => simp at h

section
variable {H : Type} (enc : TypeId × Value → H) (W : World)

def Got (Pr : List V → Prop) (cs : List Value) : Prop := ∃ vs, Pr vs ∧ vs.length = cs.length ∧ ∀ (i : Nat) v c, vs[i]? = some v → cs[i]? = some c → RepD W (phi W) v c ∧ scalar v = true

/-- Whatever reads as this type has such values. -/
def Reads (t : TypeId) (Pr : List V → Prop) : Prop := ∀ fuel cs x, DataW.trod enc Tryz.prog W 0 (fun _ => true) true fuel t cs = some x → Got W Pr cs

def trods (fuel : Nat) : List TypeId → List Value → Prop
  | [], cs => cs = []
  | t :: ts, cs => (∃ x, DataW.trod enc Tryz.prog W 0 (fun _ => true) true fuel t (cs.take (Tryz.prog.cellsOf t)) = some x) ∧ Tryz.prog.cellsOf t ≤ cs.length ∧ trods fuel ts (cs.drop (Tryz.prog.cellsOf t))

def ReadsL (ts : List TypeId) (Pr : List V → Prop) : Prop := ∀ fuel cs, trods enc W fuel ts cs → Got W Pr cs

variable {enc W}

theorem Got.mono {P Q : List V → Prop} {cs : List Value} (h : Got W P cs) (k : ∀ vs, P vs → Q vs) : Got W Q cs := let ⟨vs, a, b⟩ := h; ⟨vs, k vs a, b⟩
theorem Reads.mono {t : TypeId} {P Q : List V → Prop} (h : Reads enc W t P) (k : ∀ vs, P vs → Q vs) : Reads enc W t Q := fun fuel cs x hx => (h fuel cs x hx).mono k

theorem readsL_nil : ReadsL enc W [] (fun vs => vs = []) := fun fuel cs h => by
  have h : cs = [] := h
  subst h
  exact ⟨[], rfl, rfl, fun i v c h => by simp at h⟩

theorem readsL_cons {t : TypeId} {ts : List TypeId} {P Q : List V → Prop} (h : Reads enc W t P) (k : ReadsL enc W ts Q) : ReadsL enc W (t :: ts) (fun vs => ∃ a b, P a ∧ Q b ∧ vs = a ++ b) := fun fuel cs ht => by
  obtain ⟨⟨x, hx⟩, hle, hr⟩ := ht
  obtain ⟨a, ha, la, ra⟩ := h _ _ _ hx
  obtain ⟨b, hb, lb, rb⟩ := k _ _ hr
  rw [List.length_take] at la
  rw [List.length_drop] at lb
  refine ⟨a ++ b, ⟨a, b, ha, hb, rfl⟩, by simp; omega, fun i v c hv hc => ?_⟩
  by_cases hi : i < a.length
  · rw [List.getElem?_append_left hi] at hv
    exact ra i v c hv (by rw [List.getElem?_take, if_pos (by omega)]; exact hc)
  · rw [List.getElem?_append_right (by omega)] at hv
    refine rb (i - a.length) v c hv ?_
    rw [List.getElem?_drop, show Tryz.prog.cellsOf t + (i - a.length) = i by omega]
    exact hc

theorem reads_int {t : TypeId} (ht : Tryz.prog.underlying t = some (.int .i64)) : Reads enc W t (fun vs => ∃ n : Int, vs = [I n] ∧ -9223372036854775808 ≤ n ∧ n ≤ 9223372036854775807) := fun fuel cs x hx => by
  obtain ⟨n, rfl, _, hw⟩ := DataW.trod_int ht hx
  have hb := Go.bounds_i64 hw
  refine ⟨[I n], ⟨n, rfl, by omega, by omega⟩, rfl, fun i v c hv hc => ?_⟩
  cases i with
  | zero => cases hv; cases hc; exact ⟨.int _ _, rfl⟩
  | succ i => cases hv

theorem reads_bool {t : TypeId} (ht : Tryz.prog.underlying t = some .bool) : Reads enc W t (fun vs => ∃ b : Bool, vs = [.bool b]) := fun fuel cs x hx => by
  obtain ⟨b, rfl, _⟩ := DataW.trod_bool ht hx
  refine ⟨[.bool b], ⟨b, rfl⟩, rfl, fun i v c hv hc => ?_⟩
  cases i with
  | zero => cases hv; cases hc; exact ⟨.bool _, rfl⟩
  | succ i => cases hv

/-- Fields one behind the other. -/
noncomputable def offsB : List Field → Nat → Nat → Bool
  | [], o, n => o == n
  | f :: r, o, n => f.offset == o && offsB r (o + Tryz.prog.cellsOf f.type) n

theorem trods_of {fuel : Nat} : ∀ (fs : List Field) (o n : Nat) (cs : List Value), offsB fs o n = true → cs.length = n → o ≤ n → (∀ f ∈ fs, ∃ x, DataW.trod enc Tryz.prog W 0 (fun _ => true) true fuel f.type ((cs.drop f.offset).take (Tryz.prog.cellsOf f.type)) = some x) → trods enc W fuel (fs.map (·.type)) (cs.drop o)
  | [], o, n, cs, h, hl, _, _ => by
    simp only [offsB, beq_iff_eq] at h
    show cs.drop o = []
    rw [List.drop_eq_nil_of_le (by omega)]
  | f :: r, o, n, cs, h, hl, ho, hf => by
    simp only [offsB, Bool.and_eq_true, beq_iff_eq] at h
    have hle : o + Tryz.prog.cellsOf f.type ≤ n := by
      have : ∀ (fs : List Field) (o n : Nat), offsB fs o n = true → o ≤ n := by
        intro fs
        induction fs with
        | nil => intro o n h; simp only [offsB, beq_iff_eq] at h; omega
        | cons g r ih => intro o n h; simp only [offsB, Bool.and_eq_true, beq_iff_eq] at h; have := ih _ _ h.2; omega
      exact this _ _ _ h.2
    refine ⟨?_, by rw [List.length_drop]; show Tryz.prog.cellsOf f.type ≤ _; omega, ?_⟩
    · have := hf f (by simp)
      rw [h.1] at this
      exact this
    · rw [List.drop_drop]
      exact trods_of r _ n cs h.2 hl hle fun g hg => hf g (by simp [hg])

theorem reads_struct {t : TypeId} {fs : Array Field} {Pr : List V → Prop} (ht : Tryz.prog.underlying t = some (.struct fs)) (ho : offsB fs.toList 0 (Tryz.prog.cellsOf t) = true) (h : ReadsL enc W (fs.toList.map (·.type)) Pr) : Reads enc W t Pr := fun fuel cs x hx => by
  obtain ⟨xs, n, _, _, hl, hxs, hf⟩ := DataW.trod_struct ht hx
  refine h n cs ?_
  have := trods_of (enc := enc) (W := W) (fuel := n) fs.toList 0 _ cs ho hl (Nat.zero_le _) fun f hm => by
    obtain ⟨i, hi, rfl⟩ := List.mem_iff_getElem.1 hm
    have h1 := hf i fs.toList[i] (by simp at hi ⊢)
    rw [h1]
    have : i < xs.length := by simp at hi; omega
    exact ⟨_, List.getElem?_eq_getElem this⟩
  simpa using this

theorem trods_rep {fuel : Nat} {e : TypeId} : ∀ (n k : Nat) (cs : List Value), cs.length = (k + n) * Tryz.prog.cellsOf e → (∀ i, i < n → ∃ x, DataW.trod enc Tryz.prog W 0 (fun _ => true) true fuel e ((cs.drop ((k + i) * Tryz.prog.cellsOf e)).take (Tryz.prog.cellsOf e)) = some x) → trods enc W fuel (List.replicate n e) (cs.drop (k * Tryz.prog.cellsOf e))
  | 0, k, cs, hl, _ => by
    show cs.drop _ = []
    rw [List.drop_eq_nil_of_le (by rw [hl]; simp)]
  | n + 1, k, cs, hl, hf => by
    have e1 : (k + (n + 1)) * Tryz.prog.cellsOf e = k * Tryz.prog.cellsOf e + (n * Tryz.prog.cellsOf e + Tryz.prog.cellsOf e) := by rw [Nat.add_mul, Nat.succ_mul]
    refine ⟨by simpa using hf 0 (by omega), by rw [List.length_drop]; omega, ?_⟩
    rw [List.drop_drop, show k * Tryz.prog.cellsOf e + Tryz.prog.cellsOf e = (k + 1) * Tryz.prog.cellsOf e by rw [Nat.succ_mul]]
    exact trods_rep n (k + 1) cs (by rw [hl]; congr 1; omega) fun i hi => by
      have := hf (i + 1) (by omega)
      rwa [show k + 1 + i = k + (i + 1) by omega]

theorem reads_array {t e : TypeId} {n : Nat} {Pr : List V → Prop} (ht : Tryz.prog.underlying t = some (.array n e)) (hc : Tryz.prog.cellsOf t = n * Tryz.prog.cellsOf e) (h : ReadsL enc W (List.replicate n e) Pr) : Reads enc W t Pr := fun fuel cs x hx => by
  obtain ⟨xs, m, _, _, hl, hxs, hf⟩ := DataW.trod_array ht hx
  refine h m cs ?_
  have := trods_rep (enc := enc) (W := W) (fuel := m) (e := e) n 0 cs (by rw [hl, hc]; simp) fun i hi => by
    rw [Nat.zero_add, hf i hi]
    exact ⟨_, List.getElem?_eq_getElem (by omega)⟩
  simpa using this

def wrapV (agg : Bool) (x : List V) : V := bif agg then .agg x else x.headD nothing

theorem cells_wrap {agg : Bool} {x : List V} {sz : Nat} (hx : x.length = sz) (hs : ∀ v ∈ x, scalar v = true) (ha : agg = false → sz = 1) : cells (wrapV agg x) = x := by
  cases agg with
  | true => rfl
  | false =>
    have := ha rfl
    subst this
    match x, hx with
    | [v], _ =>
      have hv := hs v (by simp)
      show cells v = [v]
      cases v <;> simp [scalar] at hv <;> rfl

theorem cell_spot {a : Addr} {z : Value} (h : W.cell? a = some z) : a = ⟨a.block, a.off, none⟩ := by
  have := World.cell?_spot h
  obtain ⟨b, o, s⟩ := a
  simp only at this
  subst this; rfl

theorem reads_slice {t e : TypeId} {sz : Nat} {Pe : List V → Prop} (agg : Bool) (ht : Tryz.prog.underlying t = some (.slice e)) (hc : Tryz.prog.cellsOf e = sz) (h0 : 0 < sz) (ha : agg = false → sz = 1) (h : Reads enc W e Pe) :
    Reads enc W t (fun vs => ∃ xs : List (List V), (∀ x ∈ xs, Pe x) ∧ xs.length ≤ 9223372036854775807 ∧ vs = [.slice 0 sz (xs.map (wrapV agg))]) := fun fuel cs x hx => by
  subst hc
  rcases DataW.trod_slice ht hx with ⟨rfl, _⟩ | ⟨a, len, cap, elems, rest, n, _, rfl, _, _, hlc, hcm, hel, hE, _⟩
  · refine ⟨[.slice 0 _ []], ⟨[], fun x hx => by simp at hx, by simp, rfl⟩, rfl, fun i v c hv hc => ?_⟩
    cases i with
    | zero => cases hv; cases hc; exact ⟨.slice0 _ _ _, rfl⟩
    | succ i => cases hv
  · have hcm' : cap ≤ 9223372036854775807 := by unfold maxLen at hcm; omega
    -- the elements, one by one
    have step : ∀ m, m ≤ len → ∃ xs : List (List V), xs.length = m ∧ (∀ x ∈ xs, Pe x ∧ x.length = Tryz.prog.cellsOf e) ∧
        ∀ (i : Nat) x (j : Nat) v, xs[i]? = some x → x[j]? = some v → ∃ c, W.cell? (a.add (i * Tryz.prog.cellsOf e + j)) = some c ∧ RepD W (phi W) v c ∧ scalar v = true := by
      intro m
      induction m with
      | zero => exact fun _ => ⟨[], rfl, fun x hx => by simp at hx, fun i x j v hx => by simp at hx⟩
      | succ m ih =>
        intro hm
        obtain ⟨xs, l1, l2, l3⟩ := ih (by omega)
        have h1 := hE m (by omega)
        rw [List.getElem?_eq_getElem (by omega)] at h1
        rw [Option.bind_eq_some_iff] at h1
        obtain ⟨ccs, h2, h3⟩ := h1
        obtain ⟨vs, v1, v2, v3⟩ := h _ _ _ h3
        have hcc : ccs.length = Tryz.prog.cellsOf e ∧ ∀ (j : Nat) c, ccs[j]? = some c → W.cell? (a.add (m * Tryz.prog.cellsOf e + j)) = some c := by
          unfold World.cells? at h2
          rw [if_pos (Nat.zero_le _)] at h2
          refine ⟨by simpa using mapM_some_length h2, fun j c hj => ?_⟩
          have hjl : j < Tryz.prog.cellsOf e := by
            have := (List.getElem?_eq_some_iff.1 hj).1
            have hh := mapM_some_length h2
            simp at hh; omega
          have := mapM_some_get h2 j j (by simp [hjl])
          rw [hj] at this
          rw [← this, Addr.add_add]
        refine ⟨xs ++ [vs], by simp [l1], fun x hx => ?_, fun i x j v hx hj => ?_⟩
        · rcases List.mem_append.1 hx with hx | hx
          · exact l2 x hx
          · simp at hx; subst hx; exact ⟨v1, by omega⟩
        · by_cases hi : i < xs.length
          · rw [List.getElem?_append_left hi] at hx
            exact l3 i x j v hx hj
          · have hi' : i = xs.length := by
              have := (List.getElem?_eq_some_iff.1 hx).1
              simp at this; omega
            subst hi'
            rw [List.getElem?_append_right (by omega)] at hx
            simp at hx; subst hx
            have hjl : j < ccs.length := by have := (List.getElem?_eq_some_iff.1 hj).1; omega
            rw [l1]
            exact ⟨ccs[j], hcc.2 j _ (List.getElem?_eq_getElem hjl), v3 j v _ hj (List.getElem?_eq_getElem hjl)⟩
    obtain ⟨xs, l1, l2, l3⟩ := step len (Nat.le_refl _)
    have hsc : ∀ x ∈ xs, ∀ v ∈ x, scalar v = true := fun x hx v hv => by
      obtain ⟨i, hi, rfl⟩ := List.mem_iff_getElem.1 hx
      obtain ⟨j, hj, rfl⟩ := List.mem_iff_getElem.1 hv
      obtain ⟨c, _, _, hs⟩ := l3 i _ j _ (List.getElem?_eq_getElem hi) (List.getElem?_eq_getElem hj)
      exact hs
    have hcw : ∀ x ∈ xs, cells (wrapV agg x) = x := fun x hx => cells_wrap (l2 x hx).2 (hsc x hx) ha
    refine ⟨[.slice 0 _ (xs.map (wrapV agg))], ⟨xs, fun x hx => (l2 x hx).1, by omega, rfl⟩, rfl, fun i v c hv hc => ?_⟩
    cases i with
    | succ i => cases hv
    | zero =>
      cases hv; cases hc
      refine ⟨?_, rfl⟩
      by_cases hl0 : len = 0
      · subst hl0
        have : xs = [] := List.eq_nil_of_length_eq_zero l1
        subst this
        exact .slice0 _ _ _
      · -- the place of the first cell
        have hx0 : 0 < xs.length := by omega
        have hlen0 := (l2 _ (List.getElem_mem hx0)).2
        obtain ⟨c0, hc0, _⟩ := l3 0 xs[0] 0 (xs[0][0]'(by omega)) (List.getElem?_eq_getElem hx0) (List.getElem?_eq_getElem (by omega))
        have hsp := cell_spot hc0
        obtain ⟨b, off, sp⟩ := a
        have : sp = none := by simpa [Addr.add] using hsp
        subst this
        have hwl : ∀ y ∈ xs.map (wrapV agg), (cells y).length = Tryz.prog.cellsOf e := fun y hy => by
          obtain ⟨x, hx, rfl⟩ := List.mem_map.1 hy
          rw [hcw x hx, (l2 x hx).2]
        have at_ : ∀ (j : Nat) v, ((xs.map (wrapV agg)).flatMap cells)[j]? = some v → ∃ c, W.cell? ⟨b, off + j, none⟩ = some c ∧ RepD W (phi W) v c ∧ scalar v = true := fun j v hj => by
          obtain ⟨i, u, k, hu, hk, rfl⟩ := flat_split h0 hwl j v hj
          rw [List.getElem?_map, Option.map_eq_some_iff] at hu
          obtain ⟨x, hx, rfl⟩ := hu
          rw [hcw x (List.mem_of_getElem? hx)] at hk
          obtain ⟨c, q1, q2⟩ := l3 i x k v hx hk
          refine ⟨c, ?_, q2⟩
          rw [← q1]
          unfold Addr.add
          split
          · rename_i h; rw [h]; rfl
          · rfl
        refine .slice _ _ b off len cap (fun j => (W.cell? ⟨b, off + j, none⟩).getD undef) h0 (by simp [l1]) hlc hwl (fun j v hj => ?_) (fun j v hj => ?_)
        · obtain ⟨c, q1, q2, q3⟩ := at_ j v hj
          exact ⟨phi_lt q1, by rw [q1]; rfl, q3⟩
        · obtain ⟨c, q1, q2, q3⟩ := at_ j v hj
          rw [q1]; exact q2

/-! ### Arguments -/
theorem arg_agg {t : TypeId} {Pr : List V → Prop} {v : Value} {d : DataW H} {p : List MemPlace} (ha : aggB Tryz.prog t = true) (h : Reads enc W t Pr) (hv : Value.okWide Tryz.prog W .any 0 t v) (ht : DataW.Trod enc Tryz.prog W 0 (fun _ => true) true t v d p) : ∃ vs, Pr vs ∧ RepD W (phi W) (.agg vs) v := by
  obtain ⟨fuel, hf⟩ := ht
  obtain ⟨vs, h1, h2, h3⟩ := h _ _ _ hf
  obtain ⟨cs, rfl, _⟩ : ∃ cs, v = .agg cs ∧ True := by
    unfold aggB at ha
    unfold Value.okWide at hv
    split at ha
    · rename_i hu; rw [hu] at hv; obtain ⟨cs, rfl, _⟩ := hv; exact ⟨cs, rfl, trivial⟩
    · rename_i hu; rw [hu] at hv; obtain ⟨cs, rfl, _⟩ := hv; exact ⟨cs, rfl, trivial⟩
    · cases ha
  refine ⟨vs, h1, .agg _ _ (by simpa [Value.cells] using h2) fun i v x hv hx => (h3 i v x hv ?_).1⟩
  simpa [Value.cells] using hx

theorem arg_one {t : TypeId} {Pr : List V → Prop} {v : Value} {d : DataW H} {p : List MemPlace} (hc : v.cells = #[v]) (h : Reads enc W t Pr) (ht : DataW.Trod enc Tryz.prog W 0 (fun _ => true) true t v d p) : ∃ u, Pr [u] ∧ RepD W (phi W) u v := by
  obtain ⟨fuel, hf⟩ := ht
  obtain ⟨vs, h1, h2, h3⟩ := h _ _ _ hf
  rw [hc] at h2 h3
  match vs, h2 with
  | [u], _ => exact ⟨u, h1, (h3 0 u v rfl rfl).1⟩

theorem exists_list {α : Type} {xs : List (List V)} {R : α → Prop} {g : α → List V} (h : ∀ x ∈ xs, ∃ a, R a ∧ x = g a) : ∃ l : List α, xs = l.map g ∧ ∀ a ∈ l, R a := by
  induction xs with
  | nil => exact ⟨[], rfl, fun a ha => by simp at ha⟩
  | cons x r ih =>
    obtain ⟨a, ha, rfl⟩ := h x (by simp)
    obtain ⟨l, rfl, hl⟩ := ih fun y hy => h y (by simp [hy])
    exact ⟨a :: l, rfl, fun b hb => by
      rcases List.mem_cons.1 hb with rfl | hb
      · exact ha
      · exact hl b hb⟩

end
end Go.Proofs.YtdejdblopmfjfaaGreatDoor


/-! What the arguments of the statements of the bin chapter read as. -/
set_option linter.unusedVariables false
set_option linter.unusedSimpArgs false
set_option maxRecDepth 20000
namespace Go.Proofs.YtdejdblopmfjfaaGreatDoor
open Go.Am Go.ChangeShapes Go.WideShapes Go.ChangeAt Go.RowKit

section
variable {H : Type} {enc : TypeId × Value → H} {W : World}

theorem rd_int : Reads enc W 3 (fun vs => ∃ n : Int, vs = [I n] ∧ -9223372036854775808 ≤ n ∧ n ≤ 9223372036854775807) := reads_int Tryz.underlying3

theorem rd_point : Reads enc W 23 (fun vs => ∃ b : Int × Int, vs = [I b.1, I b.2]) := by
  refine (reads_struct Tryz.underlying23 (by kernel_rfl) (readsL_cons rd_int (readsL_cons rd_int readsL_nil))).mono ?_
  rintro vs ⟨a, b, ⟨x, rfl, _⟩, ⟨c, d, ⟨y, rfl, _⟩, rfl, rfl⟩, rfl⟩
  exact ⟨(x, y), rfl⟩

theorem rd_bound : Reads enc W 83 (fun vs => ∃ b : Int × Int, vs = [I b.1, I b.2]) := by
  refine (reads_struct Tryz.underlying83 (by kernel_rfl) (readsL_cons rd_int (readsL_cons rd_int readsL_nil))).mono ?_
  rintro vs ⟨a, b, ⟨x, rfl, _⟩, ⟨c, d, ⟨y, rfl, _⟩, rfl, rfl⟩, rfl⟩
  exact ⟨(x, y), rfl⟩

theorem rd_bounds : Reads enc W 24 (fun vs => ∃ l : List (Int × Int), l.length ≤ 9223372036854775807 ∧ vs = [sB l]) := by
  refine (reads_slice (sz := 2) true Tryz.underlying24 (by kernel_rfl) (by decide) (by decide) rd_bound).mono ?_
  rintro vs ⟨xs, h1, h2, rfl⟩
  obtain ⟨l, rfl, _⟩ := exists_list (R := fun _ => True) (g := fun b : Int × Int => [I b.1, I b.2]) fun x hx => by obtain ⟨b, rfl⟩ := h1 x hx; exact ⟨b, trivial, rfl⟩
  refine ⟨l, by simpa using h2, ?_⟩
  simp [sB, wrapV, Function.comp_def, eB]

theorem rd_grid : Reads enc W 26 (fun vs => ∃ g : Gd, g.cls.length ≤ 9223372036854775807 ∧ vs = gridC g) := by
  refine (reads_struct Tryz.underlying26 (by kernel_rfl) (readsL_cons rd_point (readsL_cons rd_int (readsL_cons rd_int (readsL_cons rd_int (readsL_cons rd_bounds readsL_nil)))))).mono ?_
  rintro vs ⟨a, b, ⟨o, rfl⟩, ⟨c, d, ⟨x, rfl, _⟩, ⟨e, f, ⟨y, rfl, _⟩, ⟨k, m, ⟨z, rfl, _⟩, ⟨p, q, ⟨l, hl, rfl⟩, rfl, rfl⟩, rfl⟩, rfl⟩, rfl⟩, rfl⟩
  exact ⟨⟨o, x, y, z, l⟩, hl, rfl⟩

theorem rd_region : Reads enc W 85 (fun vs => ∃ f : Fr, vs = fourC f) := by
  refine (reads_struct Tryz.underlying85 (by kernel_rfl) (readsL_cons rd_bound (readsL_cons rd_bound (readsL_cons rd_bound (readsL_cons rd_bound readsL_nil))))).mono ?_
  rintro vs ⟨a, b, ⟨x, rfl⟩, ⟨c, d, ⟨y, rfl⟩, ⟨e, f, ⟨z, rfl⟩, ⟨p, q, ⟨l, rfl⟩, rfl, rfl⟩, rfl⟩, rfl⟩, rfl⟩
  exact ⟨⟨x, y, z, l⟩, rfl⟩

theorem rd_regions : Reads enc W 27 (fun vs => ∃ l : List Fr, l.length ≤ 9223372036854775807 ∧ vs = [.slice 0 8 (l.map eF)]) := by
  refine (reads_slice (sz := 8) true Tryz.underlying27 (by kernel_rfl) (by decide) (by decide) rd_region).mono ?_
  rintro vs ⟨xs, h1, h2, rfl⟩
  obtain ⟨l, rfl, _⟩ := exists_list (R := fun _ => True) (g := fun f : Fr => fourC f) fun x hx => by obtain ⟨b, rfl⟩ := h1 x hx; exact ⟨b, trivial, rfl⟩
  refine ⟨l, by simpa using h2, ?_⟩
  simp [wrapV, Function.comp_def, eF]

theorem rd_int2 : Reads enc W 97 (fun vs => ∃ a b : Int, vs = [I a, I b]) := by
  refine (reads_array Tryz.underlying97 (by kernel_rfl) (readsL_cons rd_int (readsL_cons rd_int readsL_nil))).mono ?_
  rintro vs ⟨a, b, ⟨x, rfl, _⟩, ⟨c, d, ⟨y, rfl, _⟩, rfl, rfl⟩, rfl⟩
  exact ⟨x, y, rfl⟩

theorem rd_traces : Reads enc W 28 (fun vs => ∃ l : List (Int × Int), l.length ≤ 9223372036854775807 ∧ vs = [sB l]) := by
  refine (reads_slice (sz := 2) true Tryz.underlying28 (by kernel_rfl) (by decide) (by decide) rd_int2).mono ?_
  rintro vs ⟨xs, h1, h2, rfl⟩
  obtain ⟨l, rfl, _⟩ := exists_list (R := fun _ => True) (g := fun b : Int × Int => [I b.1, I b.2]) fun x hx => by obtain ⟨a, b, rfl⟩ := h1 x hx; exact ⟨(a, b), trivial, rfl⟩
  refine ⟨l, by simpa using h2, ?_⟩
  simp [sB, wrapV, Function.comp_def, eB]

theorem rd_layout : Reads enc W 30 (fun vs => ∃ s : Ly, s.nodes.length ≤ 9223372036854775807 ∧ s.traces.length ≤ 9223372036854775807 ∧ vs = layC s) := by
  refine (reads_struct Tryz.underlying30 (by kernel_rfl) (readsL_cons rd_regions (readsL_cons rd_traces readsL_nil))).mono ?_
  rintro vs ⟨a, b, ⟨l, hl, rfl⟩, ⟨c, d, ⟨m, hm, rfl⟩, rfl, rfl⟩, rfl⟩
  exact ⟨⟨l, m⟩, hl, hm, rfl⟩

theorem rd_ints : Reads enc W 48 (fun vs => ∃ l : List Int, l.length ≤ 9223372036854775807 ∧ vs = [intsV l]) := by
  refine (reads_slice (sz := 1) false Tryz.underlying48 (by kernel_rfl) (by decide) (fun _ => rfl) rd_int).mono ?_
  rintro vs ⟨xs, h1, h2, rfl⟩
  obtain ⟨l, rfl, _⟩ := exists_list (R := fun _ => True) (g := fun n : Int => [I n]) fun x hx => by obtain ⟨b, rfl, _⟩ := h1 x hx; exact ⟨b, trivial, rfl⟩
  refine ⟨l, by simpa using h2, ?_⟩
  simp [intsV, wrapV, Function.comp_def]

theorem rd_ints2 : Reads enc W 49 (fun vs => ∃ l : List (List Int), l.length ≤ 9223372036854775807 ∧ (∀ r ∈ l, r.length ≤ 9223372036854775807) ∧ vs = [foldV l]) := by
  refine (reads_slice (sz := 1) false Tryz.underlying49 (by kernel_rfl) (by decide) (fun _ => rfl) rd_ints).mono ?_
  rintro vs ⟨xs, h1, h2, rfl⟩
  obtain ⟨l, rfl, hl⟩ := exists_list (R := fun c : List Int => c.length ≤ 9223372036854775807) (g := fun c : List Int => [intsV c]) fun x hx => by obtain ⟨b, hb, rfl⟩ := h1 x hx; exact ⟨b, hb, rfl⟩
  refine ⟨l, by simpa using h2, hl, ?_⟩
  simp [foldV, wrapV, Function.comp_def]

theorem rd_pair : Reads enc W 32 (fun vs => ∃ p q : Int × Int, vs = [I p.1, I p.2, I q.1, I q.2]) := by
  refine (reads_struct Tryz.underlying32 (by kernel_rfl) (readsL_cons rd_point (readsL_cons rd_point readsL_nil))).mono ?_
  rintro vs ⟨a, b, ⟨p, rfl⟩, ⟨c, d, ⟨q, rfl⟩, rfl, rfl⟩, rfl⟩
  exact ⟨p, q, rfl⟩

def nfSane (x : Nf) : Prop := (x.lacks.length ≤ 9223372036854775807 ∧ x.passes.length ≤ 9223372036854775807) ∧ ∀ p ∈ x.passes, p.adds.length ≤ 9223372036854775807

theorem rd_pass : Reads enc W 147 (fun vs => ∃ p : Ps, p.adds.length ≤ 9223372036854775807 ∧ vs = [I p.cost, intsV p.adds]) := by
  refine (reads_struct Tryz.underlying147 (by kernel_rfl) (readsL_cons rd_int (readsL_cons rd_ints readsL_nil))).mono ?_
  rintro vs ⟨a, b, ⟨n, rfl, _⟩, ⟨c, d, ⟨l, hl, rfl⟩, rfl, rfl⟩, rfl⟩
  exact ⟨⟨n, l⟩, hl, rfl⟩

theorem rd_passes : Reads enc W 61 (fun vs => ∃ l : List Ps, l.length ≤ 9223372036854775807 ∧ (∀ p ∈ l, p.adds.length ≤ 9223372036854775807) ∧ vs = [.slice 0 2 (l.map eQ)]) := by
  refine (reads_slice (sz := 2) true Tryz.underlying61 (by kernel_rfl) (by decide) (by decide) rd_pass).mono ?_
  rintro vs ⟨xs, h1, h2, rfl⟩
  obtain ⟨l, rfl, hl⟩ := exists_list (R := fun p : Ps => p.adds.length ≤ 9223372036854775807) (g := fun p : Ps => [I p.cost, intsV p.adds]) fun x hx => by obtain ⟨b, hb, rfl⟩ := h1 x hx; exact ⟨b, hb, rfl⟩
  refine ⟨l, by simpa using h2, hl, ?_⟩
  simp [wrapV, Function.comp_def, eQ]

theorem rd_infill : Reads enc W 63 (fun vs => ∃ x : Nf, nfSane x ∧ vs = nfC x) := by
  refine (reads_struct Tryz.underlying63 (by kernel_rfl) (readsL_cons rd_ints (readsL_cons rd_passes readsL_nil))).mono ?_
  rintro vs ⟨a, b, ⟨l, hl, rfl⟩, ⟨c, d, ⟨m, hm, hm2, rfl⟩, rfl, rfl⟩, rfl⟩
  exact ⟨⟨l, m⟩, ⟨⟨hl, hm⟩, hm2⟩, rfl⟩

theorem rd_cut : Reads enc W 115 (fun vs => ∃ p : Ct, p.prices.length ≤ 9223372036854775807 ∧ vs = [I p.split, intsV p.prices]) := by
  refine (reads_struct Tryz.underlying115 (by kernel_rfl) (readsL_cons rd_int (readsL_cons rd_ints readsL_nil))).mono ?_
  rintro vs ⟨a, b, ⟨n, rfl, _⟩, ⟨c, d, ⟨l, hl, rfl⟩, rfl, rfl⟩, rfl⟩
  exact ⟨⟨n, l⟩, hl, rfl⟩

theorem rd_cuts : Reads enc W 64 (fun vs => ∃ l : List Ct, l.length ≤ 9223372036854775807 ∧ (∀ p ∈ l, p.prices.length ≤ 9223372036854775807) ∧ vs = [cutsV l]) := by
  refine (reads_slice (sz := 2) true Tryz.underlying64 (by kernel_rfl) (by decide) (by decide) rd_cut).mono ?_
  rintro vs ⟨xs, h1, h2, rfl⟩
  obtain ⟨l, rfl, hl⟩ := exists_list (R := fun p : Ct => p.prices.length ≤ 9223372036854775807) (g := fun p : Ct => [I p.split, intsV p.prices]) fun x hx => by obtain ⟨b, hb, rfl⟩ := h1 x hx; exact ⟨b, hb, rfl⟩
  refine ⟨l, by simpa using h2, hl, ?_⟩
  simp [cutsV, wrapV, Function.comp_def, eC]

end

theorem repR_bool {w : World} {φ : Nat → Nat} {b : Bool} {x : Value} (h : RepR w φ (.bool b) x) : x = .bool b := by
  cases h with
  | data r => cases r; rfl

theorem repL0 {w : World} {φ : Nat → Nat} : RepL w φ [] #[] := ⟨rfl, fun i v y h1 h2 => by simp at h1⟩
theorem repL1 {w : World} {φ : Nat → Nat} {a : V} {x : Value} (h : RepD w φ a x) : RepL w φ [a] #[x] := ⟨rfl, fun i v y h1 h2 => by
  match i with
  | 0 => cases h1; cases h2; exact h
  | i + 1 => simp at h1⟩
theorem repL2 {w : World} {φ : Nat → Nat} {a b : V} {x y : Value} (h : RepD w φ a x) (k : RepD w φ b y) : RepL w φ [a, b] #[x, y] := ⟨rfl, fun i v y h1 h2 => by
  match i with
  | 0 => cases h1; cases h2; exact h
  | 1 => cases h1; cases h2; exact k
  | i + 2 => simp at h1⟩
theorem repL3 {w : World} {φ : Nat → Nat} {a b c : V} {x y z : Value} (h : RepD w φ a x) (k : RepD w φ b y) (m : RepD w φ c z) : RepL w φ [a, b, c] #[x, y, z] := ⟨rfl, fun i v y h1 h2 => by
  match i with
  | 0 => cases h1; cases h2; exact h
  | 1 => cases h1; cases h2; exact k
  | 2 => cases h1; cases h2; exact m
  | i + 3 => simp at h1⟩

/-- From a contract to the walk that a row asks for. -/
theorem walk_of {f : FuncId} {args : List V} {xs : Array Value} {W : World} (hc : C Tryz.prog f args (.bool true)) (hg : Gl W (phi W)) (hr : RepL W (phi W) args xs) : Calls Tryz.prog f xs W fun e W' => e = .returned (.bool true) ∧ Below W.heap.size W W' :=
  (hc.2 W (phi W) xs phi_top hg hr).mono fun e w' ⟨φ', x, he, hx, hb, _⟩ => ⟨by rw [he, repR_bool hx], hb⟩

theorem own : ownKnob Tryz.prog.godebug = none := by kernel_rfl
theorem laidOut : laidOutB Tryz.prog = true := by kernel_rfl

end Go.Proofs.YtdejdblopmfjfaaGreatDoor


/-! What the package's variable holds where a statement begins. -/
set_option linter.unusedVariables false
set_option linter.unusedSimpArgs false
set_option maxRecDepth 100000
namespace Go.Proofs.YtdejdblopmfjfaaGreatDoor
open Go.Am Go.ChangeShapes Go.WideShapes Go.ChangeAt Go.RowKit

def laidV : List (String × DataW Unit) := [("paravane/bin.none", Rows.laid_paravane_bin_none)]

theorem none_cells {W : World} (h : laidMetH Tryz.prog laidV W) : W.var? Tryz.prog "paravane/bin.none" = some #[.int .i64 (-1), .int .i64 (-1)] := by
  rw [MakeChecks.laidMetH_plain _ _ _ (by kernel_rfl)] at h
  obtain ⟨ps, ⟨g, t, cs, fuel, p, q, hg, ht, hv, hd, _, _⟩, _, _⟩ := h
  obtain rfl := Option.some.inj ((show Tryz.prog.globalNamed "paravane/bin.none" = some 0 by kernel_rfl).symm.trans hg)
  obtain rfl := Option.some.inj ((show (Tryz.prog.globals[0]?).map (·.type) = some 39 by kernel_rfl).symm.trans ht)
  have ci : Tryz.prog.cellsOf 3 = 1 := by kernel_rfl
  have cc : Tryz.prog.cellsOf 39 = 2 := by kernel_rfl
  obtain ⟨y0, y1, n, ex, hlen, k0, k1⟩ := trod_struct2 Tryz.underlying39 hd
  rw [cc] at hlen
  obtain ⟨l⟩ := cs
  match l, hlen with
  | [a, b], _ =>
    have e3 := DataW.agg.inj (Prod.mk.inj ex).1
    simp only [List.cons.injEq, and_true] at e3
    simp only at k0 k1
    rw [ci] at k0 k1
    obtain ⟨z0, a0, b0, _⟩ := DataW.trod_int Tryz.underlying3 k0
    obtain ⟨z1, a1, b1, _⟩ := DataW.trod_int Tryz.underlying3 k1
    rw [b0, b1] at e3
    have e4 : (-1 : Int) = z0 ∧ (-1 : Int) = z1 := by simpa [Rows.laid_paravane_bin_none] using e3
    have a2 : a = .int .i64 z0 := by simpa using a0
    have a3 : b = .int .i64 z1 := by simpa using a1
    rw [hv, a2, a3, ← e4.1, ← e4.2]

theorem gl_of {W : World} (h : laidMetH Tryz.prog laidV W) : Gl W (phi W) := by
  have hc := fun j => World.var?_cell (show Tryz.prog.globalNamed "paravane/bin.none" = some 0 by kernel_rfl) (none_cells h) j
  intro p hp
  obtain rfl : p = (0, [.int .i64 (-1), .int .i64 (-1)]) := by simpa [globalsV] using hp
  refine .vptr _ 0 0 0 (fun _ => .int .i64 (-1)) (fun j v hj => ?_) (fun j v hj => ?_)
  · match j, hj with
    | 0, hj => cases hj; exact ⟨phi_lt (hc 0), hc 0, rfl⟩
    | 1, hj => cases hj; exact ⟨phi_lt (hc 1), hc 1, rfl⟩
  · match j, hj with
    | 0, hj => cases hj; exact .int _ _
    | 1, hj => cases hj; exact .int _ _

end Go.Proofs.YtdejdblopmfjfaaGreatDoor


/-! Facts on the rows: what the load's head says. -/
set_option linter.unusedVariables false
set_option linter.unusedSimpArgs false
set_option maxRecDepth 100000
namespace Go.Proofs.YtdejdblopmfjfaaGreatDoor
open Go.Am Go.ChangeShapes Go.WideShapes Go.ChangeAt Go.RowKit

noncomputable def headL : List Char := ([104, 97, 114, 110, 101, 115, 115, 32, 101, 99, 49, 57, 102, 53, 55, 48, 55, 98, 98, 50, 55, 51, 57, 53, 52, 99, 99, 99, 101, 55, 55, 54, 54, 53, 52, 53, 49, 53, 54, 52, 101, 48, 56, 53, 48, 56, 56, 56, 50, 48, 97, 99, 50, 55, 97, 98, 53, 51, 100, 101, 101, 99, 100, 99, 101, 48, 102, 54, 54, 49, 102, 99, 32, 99, 117, 116, 32, 97, 116, 32, 112, 97, 114, 97, 118, 97, 110, 101, 47, 112, 97, 114, 97, 118, 97, 110, 101, 108, 97, 119, 48, 55, 46, 66, 105, 110, 67, 101, 108, 108, 115, 32, 112, 97, 114, 97, 118, 97, 110, 101, 47, 112, 97, 114, 97, 118, 97, 110, 101, 108, 97, 119, 48, 55, 46, 66, 105, 110, 70, 111, 108, 100, 115, 32, 112, 97, 114, 97, 118, 97, 110, 101, 47, 112, 97, 114, 97, 118, 97, 110, 101, 108, 97, 119, 48, 55, 46, 66, 105, 110, 71, 97, 105, 110, 115, 32, 112, 97, 114, 97, 118, 97, 110, 101, 47, 112, 97, 114, 97, 118, 97, 110, 101, 108, 97, 119, 48, 55, 46, 66, 105, 110, 80, 114, 111, 111, 102, 115, 32, 112, 97, 114, 97, 118, 97, 110, 101, 47, 112, 97, 114, 97, 118, 97, 110, 101, 108, 97, 119, 48, 55, 46, 66, 105, 110, 66, 117, 105, 108, 100, 115, 32, 112, 97, 114, 97, 118, 97, 110, 101, 47, 112, 97, 114, 97, 118, 97, 110, 101, 108, 97, 119, 48, 55, 46, 66, 105, 110, 66, 101, 116, 116, 101, 114, 32, 112, 97, 114, 97, 118, 97, 110, 101, 47, 112, 97, 114, 97, 118, 97, 110, 101, 108, 97, 119, 48, 55, 46, 66, 105, 110, 70, 105, 108, 108, 101, 100] : List Nat).map Char.ofNat
theorem head_chars : Tryz.prog.initOrder = String.ofList (([104, 97, 114, 110, 101, 115, 115, 32, 101, 99, 49, 57, 102, 53, 55, 48, 55, 98, 98, 50, 55, 51, 57, 53, 52, 99, 99, 99, 101, 55, 55, 54, 54, 53, 52, 53, 49, 53, 54, 52, 101, 48, 56, 53, 48, 56, 56, 56, 50, 48, 97, 99, 50, 55, 97, 98, 53, 51, 100, 101, 101, 99, 100, 99, 101, 48, 102, 54, 54, 49, 102, 99, 32, 99, 117, 116, 32, 97, 116, 32, 112, 97, 114, 97, 118, 97, 110, 101, 47, 112, 97, 114, 97, 118, 97, 110, 101, 108, 97, 119, 48, 55, 46, 66, 105, 110, 67, 101, 108, 108, 115, 32, 112, 97, 114, 97, 118, 97, 110, 101, 47, 112, 97, 114, 97, 118, 97, 110, 101, 108, 97, 119, 48, 55, 46, 66, 105, 110, 70, 111, 108, 100, 115, 32, 112, 97, 114, 97, 118, 97, 110, 101, 47, 112, 97, 114, 97, 118, 97, 110, 101, 108, 97, 119, 48, 55, 46, 66, 105, 110, 71, 97, 105, 110, 115, 32, 112, 97, 114, 97, 118, 97, 110, 101, 47, 112, 97, 114, 97, 118, 97, 110, 101, 108, 97, 119, 48, 55, 46, 66, 105, 110, 80, 114, 111, 111, 102, 115, 32, 112, 97, 114, 97, 118, 97, 110, 101, 47, 112, 97, 114, 97, 118, 97, 110, 101, 108, 97, 119, 48, 55, 46, 66, 105, 110, 66, 117, 105, 108, 100, 115, 32, 112, 97, 114, 97, 118, 97, 110, 101, 47, 112, 97, 114, 97, 118, 97, 110, 101, 108, 97, 119, 48, 55, 46, 66, 105, 110, 66, 101, 116, 116, 101, 114, 32, 112, 97, 114, 97, 118, 97, 110, 101, 47, 112, 97, 114, 97, 118, 97, 110, 101, 108, 97, 119, 48, 55, 46, 66, 105, 110, 70, 105, 108, 108, 101, 100] : List Nat).map Char.ofNat) := by
  unfold Tryz.prog
  dsimp only
  show (_ : String) = _
  kernel_rfl
theorem head_list : Tryz.prog.initOrder.toList = headL := (congrArg String.toList head_chars).trans String.toList_ofList

section
variable (P : Program) (h : P.initOrder.toList = headL)
include h
theorem make_of : P.make = some .cut := by
  unfold Program.make
  rw [h]
  kernel_rfl
theorem headLifts_of : P.headLifts = [] := by
  unfold Program.headLifts
  rw [h]
  kernel_rfl
theorem lifts_of : P.liftsFinal = false := by
  unfold Program.liftsFinal
  rw [h, headLifts_of P h]
  kernel_rfl
theorem may_of (h1 : P.laysLater = false) (h2 : P.bearsReflect = false) (h3 : P.doorFits [] = true) : P.mayEnter = true := by
  unfold Program.mayEnter
  rw [h, h1, h2]
  have e : behindMainWord (wordsSigns headL) = "cut".toList :: (behindMainWord (wordsSigns headL)).tail := by kernel_rfl
  have e2 : stripLifts liftWords ("cut".toList :: (behindMainWord (wordsSigns headL)).tail) = ([], "cut".toList :: (behindMainWord (wordsSigns headL)).tail) := by kernel_rfl
  rw [e]
  dsimp only
  rw [e2, h3]
  first | rfl | (show (_ : Bool) = true; kernel_rfl)
end

theorem may : Tryz.prog.mayEnter = true := may_of _ head_list (by kernel_rfl) (by kernel_rfl) (by kernel_rfl)
theorem lifts : Tryz.prog.liftsFinal = false := lifts_of _ head_list
theorem made : Tryz.prog.make = some .cut := make_of _ head_list
theorem heard : Tryz.prog.stopsHeard = true := by kernel_rfl
theorem plain : Tryz.prog.plainKeys = false := by kernel_rfl
theorem rowed : mapsRowed Tryz.prog = true := by kernel_rfl

end Go.Proofs.YtdejdblopmfjfaaGreatDoor


/-! What further arguments of the statements of the bin chapter read as: a pair and an index. -/
set_option linter.unusedVariables false
set_option linter.unusedSimpArgs false
set_option maxRecDepth 20000
namespace Go.Proofs.YtdejdblopmfjfaaGreatDoor
open Go.Am Go.ChangeShapes Go.WideShapes Go.ChangeAt Go.RowKit

section
variable {H : Type} {enc : TypeId × Value → H} {W : World}

theorem rd_ask : Reads enc W 34 (fun vs => ∃ (p q : Int × Int) (n : Int), vs = [I p.1, I p.2, I q.1, I q.2, I n]) := by
  refine (reads_struct Tryz.underlying34 (by kernel_rfl) (readsL_cons rd_pair (readsL_cons rd_int readsL_nil))).mono ?_
  rintro vs ⟨a, b, ⟨p, q, rfl⟩, ⟨c, d, ⟨n, rfl, _⟩, rfl, rfl⟩, rfl⟩
  exact ⟨p, q, n, rfl⟩

end

theorem repL4 {w : World} {φ : Nat → Nat} {a b c d : V} {x y z u : Value} (h : RepD w φ a x) (k : RepD w φ b y) (m : RepD w φ c z) (n : RepD w φ d u) : RepL w φ [a, b, c, d] #[x, y, z, u] := ⟨rfl, fun i v y h1 h2 => by
  match i with
  | 0 => cases h1; cases h2; exact h
  | 1 => cases h1; cases h2; exact k
  | 2 => cases h1; cases h2; exact m
  | 3 => cases h1; cases h2; exact n
  | i + 4 => simp at h1⟩

end Go.Proofs.YtdejdblopmfjfaaGreatDoor

