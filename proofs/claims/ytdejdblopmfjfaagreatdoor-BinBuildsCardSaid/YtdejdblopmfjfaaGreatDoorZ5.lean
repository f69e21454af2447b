/-
  Parts of the proof, 5: the abstract machine, the compiled code, contracts of the functions, plain laws.
-/
import Derived.Test.YtdejdblopmfjfaaGreatDoorZ4
import Derived.Shelf.SlSortCmp.WholeK
import Derived.Test.YtdejdblopmfjfaaGreatDoorRows
import Derived.WalkKit
import Derived.ProofKit
import Derived.OpenShut
import Derived.ShutString
import Derived.ChangeOld
import Derived.Below
import Derived.Test.YtdejdblopmfjfaaGreatDoorTie
import Derived.LaidMore
import Derived.LaidOnce
import Derived.Lay
import Derived.ChangeSame


/-! The sort of cells: the kit's contract of slices.SortFunc, laid at this program (the laying is printed by wip/tools/lay_sort.sh); what it is to compare two cells. -/
set_option linter.unusedVariables false
set_option linter.unusedSimpArgs false
set_option maxRecDepth 100000
set_option maxHeartbeats 4000000
namespace Go.Proofs.YtdejdblopmfjfaaGreatDoor
open Go.Shelf Go.Proofs Go.RowKit Go.Lib Go.Sort

def Tryz.sortCell_ren : Go.Shelf.Ren := ⟨fun | 6 => 104 | 15 => 138 | 14 => 137 | 28 => 157 | 29 => 158 | 20 => 149 | 21 => 150 | 22 => 151 | 23 => 152 | 24 => 153 | 25 => 154 | 26 => 155 | 27 => 156 | 46 => 162 | 47 => 163 | 48 => 164 | 49 => 165 | 50 => 166 | 57 => 168 | n => n, fun | 22 => 42 | 24 => 39 | 25 => 177 | 3 => 3 | 39 => 209 | 0 => 0 | 53 => 225 | 55 => 227 | 4 => 4 | 46 => 219 | 45 => 218 | 50 => 157 | 5 => 5 | 9 => 9 | 66 => 232 | 70 => 236 | 76 => 239 | 77 => 240 | n => n, fun | n => n⟩
theorem Tryz.sortCell : Go.Proofs.SlLaysF0.n6 Tryz.prog Tryz.sortCell_ren := {
  mixed := by kernel_rfl,
  f6 := ⟨Tryz.f104.name, by decide, Tryz.func104.trans (congrArg some (by kernel_rfl))⟩,
  f14 := ⟨Tryz.f137.name, by decide, Tryz.func137.trans (congrArg some (by kernel_rfl))⟩,
  f15 := Tryz.func138.trans (congrArg some (by kernel_rfl)),
  f20 := ⟨Tryz.f149.name, by decide, Tryz.func149.trans (congrArg some (by kernel_rfl))⟩,
  f21 := ⟨Tryz.f150.name, by decide, Tryz.func150.trans (congrArg some (by kernel_rfl))⟩,
  f22 := ⟨Tryz.f151.name, by decide, Tryz.func151.trans (congrArg some (by kernel_rfl))⟩,
  f23 := ⟨Tryz.f152.name, by decide, Tryz.func152.trans (congrArg some (by kernel_rfl))⟩,
  f24 := ⟨Tryz.f153.name, by decide, Tryz.func153.trans (congrArg some (by kernel_rfl))⟩,
  f25 := ⟨Tryz.f154.name, by decide, Tryz.func154.trans (congrArg some (by kernel_rfl))⟩,
  f26 := ⟨Tryz.f155.name, by decide, Tryz.func155.trans (congrArg some (by kernel_rfl))⟩,
  f27 := ⟨Tryz.f156.name, by decide, Tryz.func156.trans (congrArg some (by kernel_rfl))⟩,
  f28 := Tryz.func157.trans (congrArg some (by kernel_rfl)),
  f29 := Tryz.func158.trans (congrArg some (by kernel_rfl)),
  f46 := ⟨Tryz.f162.name, by decide, Tryz.func162.trans (congrArg some (by kernel_rfl))⟩,
  f47 := Tryz.func163.trans (congrArg some (by kernel_rfl)),
  f48 := Tryz.func164.trans (congrArg some (by kernel_rfl)),
  f49 := ⟨Tryz.f165.name, by decide, Tryz.func165.trans (congrArg some (by kernel_rfl))⟩,
  f50 := ⟨Tryz.f166.name, by decide, Tryz.func166.trans (congrArg some (by kernel_rfl))⟩,
  f57 := ⟨Tryz.f168.name, by decide, Tryz.func168.trans (congrArg some (by kernel_rfl))⟩,
  t0 := Tryz.underlying0,
  a0 := Tryz.isAgg0,
  z0 := Tryz.sizeOf0,
  v0 := Tryz.zeroValue0,
  t3 := Tryz.underlying3,
  a3 := Tryz.isAgg3,
  z3 := Tryz.sizeOf3,
  v3 := Tryz.zeroValue3,
  t4 := Tryz.underlying4,
  a4 := Tryz.isAgg4,
  z4 := Tryz.sizeOf4,
  v4 := Tryz.zeroValue4,
  t5 := Tryz.underlying5,
  a5 := Tryz.isAgg5,
  z5 := Tryz.sizeOf5,
  v5 := Tryz.zeroValue5,
  t9 := Tryz.underlying9,
  a9 := Tryz.isAgg9,
  z9 := Tryz.sizeOf9,
  v9 := Tryz.zeroValue9,
  t22 := Tryz.underlying42,
  a22 := Tryz.isAgg42,
  z22 := Tryz.sizeOf42,
  v22 := Tryz.zeroValue42,
  t25 := Tryz.underlying177,
  a25 := Tryz.isAgg177,
  z25 := Tryz.sizeOf177,
  v25 := Tryz.zeroValue177,
  t39 := Tryz.underlying209,
  a39 := Tryz.isAgg209,
  z39 := Tryz.sizeOf209,
  v39 := Tryz.zeroValue209,
  t45 := Tryz.underlying218,
  a45 := Tryz.isAgg218,
  z45 := Tryz.sizeOf218,
  v45 := Tryz.zeroValue218,
  t46 := Tryz.underlying219,
  a46 := Tryz.isAgg219,
  z46 := Tryz.sizeOf219,
  v46 := Tryz.zeroValue219,
  t50 := Tryz.underlying157,
  a50 := Tryz.isAgg157,
  z50 := Tryz.sizeOf157,
  v50 := Tryz.zeroValue157,
  t53 := Tryz.underlying225,
  a53 := Tryz.isAgg225,
  z53 := Tryz.sizeOf225,
  v53 := Tryz.zeroValue225,
  t55 := Tryz.underlying227,
  a55 := Tryz.isAgg227,
  z55 := Tryz.sizeOf227,
  v55 := Tryz.zeroValue227,
  t66 := Tryz.underlying232,
  a66 := Tryz.isAgg232,
  z66 := Tryz.sizeOf232,
  v66 := Tryz.zeroValue232,
  t70 := Tryz.underlying236,
  a70 := Tryz.isAgg236,
  z70 := Tryz.sizeOf236,
  v70 := Tryz.zeroValue236,
  t76 := Tryz.underlying239,
  a76 := Tryz.isAgg239,
  z76 := Tryz.sizeOf239,
  v76 := Tryz.zeroValue239,
  t77 := Tryz.underlying240,
  a77 := Tryz.isAgg240,
  z77 := Tryz.sizeOf240,
  v77 := Tryz.zeroValue240 }

/-- Cells, as they occur: bins from -1 to 1022, classes from -1 to 14. -/
abbrev SC := Fin 1024 × Fin 16
def scB (x : SC) : Int × Int := ((x.1.val : Int) - 1, (x.2.val : Int) - 1)
def encSC (x : SC) : List Value := [.int .i64 (scB x).1, .int .i64 (scB x).2]
def cfSC (x y : SC) : Int := if (scB x).1 ≠ (scB y).1 then (scB x).1 - (scB y).1 else (scB x).2 - (scB y).2

theorem swoSC : Go.Sort.SWO (ltOf cfSC) where
  irrefl x := by unfold ltOf cfSC; simp
  trans x y z h1 h2 := by
    unfold ltOf cfSC at *
    simp only [decide_eq_true_eq, ne_eq, ite_not] at *
    split at h1 <;> split at h2 <;> split <;> omega
  ntrans x y z h1 h2 := by
    unfold ltOf cfSC at *
    simp only [decide_eq_false_iff_not, ne_eq, ite_not] at *
    split at h1 <;> split at h2 <;> split <;> omega

theorem ordered_walk (x y : SC) (W : World) : Calls Tryz.prog 105 #[.agg #[.int .i64 (scB x).1, .int .i64 (scB x).2], .agg #[.int .i64 (scB y).1, .int .i64 (scB y).2]] W fun e w' => e = .returned (.int .i64 (cfSC x y)) ∧ ∃ q os', w' = grow (W.drewN q) os' := by
  have b1 : -1 ≤ (scB x).1 ∧ (scB x).1 ≤ 1022 := by unfold scB; omega
  have b2 : -1 ≤ (scB x).2 ∧ (scB x).2 ≤ 14 := by unfold scB; omega
  have b3 : -1 ≤ (scB y).1 ∧ (scB y).1 ≤ 1022 := by unfold scB; omega
  have b4 : -1 ≤ (scB y).2 ∧ (scB y).2 ≤ 14 := by unfold scB; omega
  unfold cfSC
  generalize (scB x).1 = a at *
  generalize (scB x).2 = b at *
  generalize (scB y).1 = c at *
  generalize (scB y).2 = d at *
  by_cases h : a ≠ c
  · rw [if_pos h]
    go_enter Tryz.func105, Tryz.ntmps105
    go_wp2
    all_goals (try (go_ret; exact ⟨rfl, 0, _, by rw [alloc_eq_grow, alloc_eq_grow, grow_grow]; rfl⟩))
    all_goals (rename_i h2; exfalso; simp at h2; exact h h2)
  · rw [if_neg h]
    have h : a = c := by simpa using h
    subst h
    go_enter Tryz.func105, Tryz.ntmps105
    go_wp2
    all_goals (try (go_ret; exact ⟨rfl, 0, _, by rw [alloc_eq_grow, alloc_eq_grow, grow_grow]; rfl⟩))
    all_goals (rename_i h2; exfalso; simp at h2)

theorem cmpLays (blk off size : Nat) (w : World) : CmpLays Tryz.prog 105 #[] encSC 2 cfSC blk off size w :=
  fun _ _ _ _ x y => ordered_walk x y _

/-- The sort of a row of cells. -/
theorem sort_cells (blk off cap : Nat) (d : Array SC) (w : World) (hH : HoldsK encSC 2 w blk off d) (hblk : blk < w.heap.size) (hsz : d.size < 4611686018427387904) :
    Calls Tryz.prog 104 #[.slice (some ⟨blk, off, none⟩) d.size cap, .func (.func 105) #[] #[]] w fun e w' => e = .returned (.tuple #[]) ∧ ∃ d' n os, PermIn 0 d.size d d' ∧ SortedIn (ltOf cfSC) 0 d.size d' ∧ w' = sortWorldK encSC 2 w blk off n d' os := by
  have eg : ∀ args w, (callFunc 105 args).run Tryz.prog w = .ok (.enter 105 args) w := enters_of Tryz.func105 (by kernel_rfl) rfl
  have hcon := AnyQ.slices_SortFunc Tryz.sortCell 2 Tryz.isAgg39 Tryz.sizeOf39 encSC (fun _ => rfl) (fun x v hv => by simp [encSC] at hv; rcases hv with rfl | rfl <;> rfl) cfSC swoSC 105 #[] blk off cap d w eg (cmpLays blk off d.size w) hH hblk hsz
  exact hcon

end Go.Proofs.YtdejdblopmfjfaaGreatDoor


/-! The sort of cells, over an arena. -/
set_option linter.unusedVariables false
set_option linter.unusedSimpArgs false
set_option maxRecDepth 40000
set_option maxHeartbeats 4000000
namespace Go.Proofs.YtdejdblopmfjfaaGreatDoor
open Go.Am

def befC (a b : Int × Int) : Prop := a.1 < b.1 ∨ (a.1 = b.1 ∧ a.2 < b.2)
def cellB (c : Int × Int) : Prop := (-1 ≤ c.1 ∧ c.1 ≤ 1022) ∧ -1 ≤ c.2 ∧ c.2 ≤ 14

theorem befC_irrefl {a : Int × Int} (h : befC a a) : False := by unfold befC at h; omega
theorem befC_trans {a b c : Int × Int} (h : befC a b) (k : befC b c) : befC a c := by unfold befC at *; omega

/-- Two lists in strict order that hold the same are the same. -/
theorem sorted_unique : ∀ (l m : List (Int × Int)), l.Pairwise befC → m.Pairwise befC → (∀ x, x ∈ l ↔ x ∈ m) → l = m
  | [], [], _, _, _ => rfl
  | [], b :: m, _, _, h => absurd ((h b).2 (by simp)) (by simp)
  | a :: l, [], _, _, h => absurd ((h a).1 (by simp)) (by simp)
  | a :: l, b :: m, hl, hm, h => by
    rw [List.pairwise_cons] at hl hm
    have hab : a = b := by
      rcases List.mem_cons.1 ((h a).1 (by simp)) with e | h1
      · exact e
      rcases List.mem_cons.1 ((h b).2 (by simp)) with e | h2
      · exact e.symm
      exact absurd (befC_trans (hl.1 b h2) (hm.1 a h1)) (fun h => befC_irrefl h)
    subst hab
    congr 1
    refine sorted_unique l m hl.2 hm.2 fun x => ?_
    have hx := h x
    simp only [List.mem_cons] at hx
    constructor
    · intro h1
      rcases hx.1 (.inr h1) with e | h2
      · exact absurd (hl.1 x h1) (fun h => befC_irrefl (e ▸ h))
      · exact h2
    · intro h1
      rcases hx.2 (.inr h1) with e | h2
      · exact absurd (hm.1 x h1) (fun h => befC_irrefl (e ▸ h))
      · exact h2

def toSC (c : Int × Int) : SC := (⟨(c.1 + 1).toNat % 1024, by omega⟩, ⟨(c.2 + 1).toNat % 16, by omega⟩)

theorem scB_to {c : Int × Int} (h : cellB c) : scB (toSC c) = c := by
  unfold cellB at h
  unfold scB toSC
  refine Prod.ext ?_ ?_ <;> simp only <;> omega

theorem flat_at : ∀ (xs : List (Int × Int)) (j : Nat) (h : j / 2 < xs.length), ((xs.map eB).flatMap cells)[j]? = some (I (if j % 2 = 0 then xs[j / 2].1 else xs[j / 2].2))
  | [], j, h => by simp at h
  | x :: xs, 0, h => rfl
  | x :: xs, 1, h => rfl
  | x :: xs, j + 2, h => by
    have hj : j / 2 < xs.length := by simp at h; omega
    have ih := flat_at xs j hj
    have e1 : ((x :: xs).map eB).flatMap cells = I x.1 :: I x.2 :: (xs.map eB).flatMap cells := rfl
    have e2 : (j + 2) / 2 = j / 2 + 1 := by omega
    have e3 : (j + 2) % 2 = j % 2 := by omega
    rw [e1]
    simp only [List.getElem?_cons_succ, e3]
    rw [ih]
    congr 3
    · congr 1; simp [e2]
    · congr 1; simp [e2]

theorem flat_eB_len (xs : List (Int × Int)) : ((xs.map eB).flatMap cells).length = xs.length * 2 := by
  induction xs with
  | nil => rfl
  | cons x xs ih => rw [List.map_cons, List.flatMap_cons, List.length_append, ih, List.length_cons]; simp [eB, cells]; omega

open Go.Sort in
theorem ca_sort {blk cap : Nat} {xs ys : List (Int × Int)} {cs : List V} (hcs : cs.take (xs.length * 2) = (xs.map eB).flatMap cells) (hlen : xs.length * 2 ≤ cs.length) (hsm : xs.length ≤ 100000) (hb : ∀ c ∈ xs, cellB c) (hnd : xs.Nodup) (hp : ∀ x, x ∈ ys ↔ x ∈ xs) (hs : ys.Pairwise befC) :
    CA Tryz.prog F.slices_SortFunc_api_Cell_api_Cell [(blk, .cells cs)] [] [.sref blk 0 xs.length cap, .func (.func F.bin_ordered) [] []] (.tuple []) [(blk, .cells ((ys.map eB).flatMap cells ++ cs.drop (xs.length * 2)))] := by
  refine ⟨by kernel_rfl, fun w φ vals htop hgl hA hK hKA hrep => ?_⟩
  obtain ⟨hl, hr⟩ := hrep
  obtain ⟨vals⟩ := vals
  match vals, hl with
  | [v1, v2], _ =>
  have r1 : v1 = .slice (some ⟨blk, 0, none⟩) xs.length cap := by
    have := hr 0 _ v1 rfl rfl
    cases this; rfl
  have r2 : v2 = .func (.func F.bin_ordered) #[] #[] := by
    have := hr 1 _ v2 rfl rfl
    cases this with
    | func fn first cap f c h1 h2 _ _ =>
      have e1 : f = #[] := Array.eq_empty_of_size_eq_zero (by simpa using h1.symm)
      have e2 : c = #[] := Array.eq_empty_of_size_eq_zero (by simpa using h2.symm)
      rw [e1, e2]
  subst r1 r2
  obtain ⟨vs, et, w1, w2, w3⟩ := hA.ok (blk, .cells cs) (by simp)
  have hblk := hA.lt (blk, .cells cs) (by simp)
  simp only at hblk
  obtain ⟨d, hd⟩ : ∃ d : Array SC, d = (xs.map toSC).toArray := ⟨_, rfl⟩
  have hds : d.size = xs.length := by rw [hd]; simp
  have hdget : ∀ i (hi : i < xs.length), scB d[i]! = xs[i] := fun i hi => by
    have : d[i]! = toSC xs[i] := by rw [hd]; simp [hi]
    rw [this, scB_to (hb _ (List.getElem_mem hi))]
  have valat : ∀ j, j < xs.length * 2 → vs[j]? = some (.int .i64 (if j % 2 = 0 then (scB d[j / 2]!).1 else (scB d[j / 2]!).2)) := fun j hj => by
    have hj2 : j / 2 < xs.length := by omega
    have hc : cs[j]? = some (I (if j % 2 = 0 then xs[j / 2].1 else xs[j / 2].2)) := by
      rw [← flat_at xs j hj2, ← hcs, List.getElem?_take_of_lt hj]
    have hjs : j < vs.size := by omega
    have := (w3 j _ _ hc (Array.getElem?_eq_getElem hjs)).1
    have hv : vs[j] = .int .i64 (if j % 2 = 0 then xs[j / 2].1 else xs[j / 2].2) := by
      generalize vs[j] = z at this
      cases this; rfl
    rw [Array.getElem?_eq_getElem hjs, hv, hdget _ hj2]
  have hH : HoldsK encSC 2 w blk 0 d := fun j hj => by
    rw [size_flatK, hds] at hj
    have hj2 : j / 2 < xs.length := by omega
    refine ⟨?_, ?_⟩
    · rw [get_flatK _ _ _ _ (by rw [hds]; exact hj), Nat.zero_add, cell_of_row w blk j vs et (0, 0) w1, valat j hj]
      unfold encSC
      by_cases h : j % 2 = 0
      · rw [if_pos h, h]; rfl
      · have h1 : j % 2 = 1 := by omega
        rw [if_neg h, h1]; rfl
    · simp [World.frozen?, w1]
  have hcall := sort_cells blk 0 cap d w hH hblk (by omega)
  rw [hds] at hcall
  refine hcall.mono ?_
  rintro e w' ⟨rfl, d', n, os, hperm, hsort, rfl⟩
  obtain ⟨hps, _, hpp⟩ := hperm
  have hd's : d'.size = xs.length := by rw [hps, hds]
  have hpp : d'.toList.Perm d.toList := by
    have e1 : d'.extract 0 xs.length = d' := by rw [← hd's]; simp
    have e2 : d.extract 0 xs.length = d := by rw [← hds]; simp
    rw [e1, e2] at hpp
    exact hpp
  have hxs : d.toList.map scB = xs := by
    rw [hd]
    simp only [List.map_map]
    conv => rhs; rw [← List.map_id xs]
    exact List.map_congr_left fun c hc => scB_to (hb c hc)
  have hzp : (d'.toList.map scB).Perm xs := by
    have := hpp.map scB
    rwa [hxs] at this
  have hzl : (d'.toList.map scB).length = xs.length := hzp.length_eq
  have hzn : (d'.toList.map scB).Nodup := hzp.nodup_iff.2 hnd
  have hzs : (d'.toList.map scB).Pairwise befC := by
    rw [List.pairwise_iff_getElem]
    intro i j hi hj hij
    simp only [List.length_map, Array.length_toList] at hi hj
    have h1 := hsort i j (Nat.zero_le _) hij (by omega)
    have h2 : (d'.toList.map scB)[i]'(by simpa using hi) ≠ (d'.toList.map scB)[j]'(by simpa using hj) := (List.pairwise_iff_getElem.1 hzn) i j (by simpa using hi) (by simpa using hj) hij
    have e1 : (d'.toList.map scB)[i]'(by simpa using hi) = scB d'[i]! := by simp [hi]
    have e2 : (d'.toList.map scB)[j]'(by simpa using hj) = scB d'[j]! := by simp [hj]
    rw [e1, e2] at h2 ⊢
    unfold ltOf cfSC at h1
    generalize scB d'[i]! = a at h1 h2 ⊢
    generalize scB d'[j]! = b at h1 h2 ⊢
    simp only [decide_eq_false_iff_not, ne_eq, ite_not] at h1
    unfold befC
    by_cases h3 : a.1 = b.1
    · have h4 : a.2 ≠ b.2 := fun h4 => h2 (Prod.ext h3 h4)
      rw [if_pos h3.symm] at h1
      omega
    · rw [if_neg (fun h => h3 h.symm)] at h1
      omega
  have hys : d'.toList.map scB = ys := sorted_unique _ _ hzs hs fun x => by rw [hzp.mem_iff, hp x]
  have hyl : ys.length = xs.length := by rw [← hys, hzl]
  have hyget : ∀ i (hi : i < ys.length), scB d'[i]! = ys[i] := fun i hi => by
    have h1 : i < d'.size := by omega
    have : (d'.toList.map scB)[i]? = some ys[i] := by rw [hys]; simp
    rw [List.getElem?_map] at this
    simp [h1] at this
    rw [← this]; simp [h1]
  obtain ⟨w', hw'⟩ : ∃ w', sortWorldK encSC 2 w blk 0 n d' os = w' := ⟨_, rfl⟩
  rw [hw']
  have hheap : w'.heap = (w.heap.modify blk (onCells (putCells id 0 (flatK encSC 2 d')))) ++ os := by rw [← hw']; rfl
  have hsz : w'.heap.size = w.heap.size + os.size := by rw [hheap]; simp
  have hold : ∀ b, b < w.heap.size → b ≠ blk → w'.heap[b]? = w.heap[b]? := fun b h1 h2 => by
    rw [hheap, Array.getElem?_append_left (by simpa using h1), Array.getElem?_modify, if_neg (fun e => h2 e.symm)]
  have hnew : w'.heap[blk]? = some (.cells (putCells id 0 (flatK encSC 2 d') vs) et (0, 0)) := by
    rw [hheap, Array.getElem?_append_left (by simpa using hblk), Array.getElem?_modify, if_pos rfl, w1]; rfl
  have ext : Ext w φ w' φ := fun b o ho => by
    have h1 : b < w.heap.size := by
      rcases Nat.lt_or_ge b w.heap.size with h1 | h1
      · exact h1
      · rw [htop b h1] at ho; omega
    have h2 : b ≠ blk := fun e => by
      have := hA.z (blk, .cells cs) (by simp)
      simp only at this
      rw [e, this] at ho; omega
    exact ⟨ho, World.cell?_of_block (hold b h1 h2), mapAt_of_block (hold b h1 h2)⟩
  refine ⟨φ, .tuple #[], rfl, .tuple [] #[] rfl (fun i v x h => by simp at h), ⟨by simp, fun p hp' => ?_, fun _ _ h => h, fun p hp' => ?_, fun p hp' => ?_⟩, ⟨ext, fun b h1 h2 => ⟨hold b h1 fun e => h2 (by simp [e]), rfl⟩, by omega, by rw [← hw']; rfl, by rw [← hw']; rfl, by rw [← hw']; rfl, fun b hb' => .inl (by simpa using hb'), fun b hb' => htop b (by omega)⟩⟩
  · obtain rfl := List.mem_singleton.1 hp'
    refine ⟨_, et, hnew, ?_, fun j v x hv hx => ?_⟩
    · have e1 : (putCells id 0 (flatK encSC 2 d') vs).size = vs.size := by simp [putCells]
      rw [e1, w2, List.length_append, flat_eB_len, hyl, List.length_drop]; omega
    · rw [List.getElem?_append, flat_eB_len, hyl] at hv
      unfold putCells at hx
      rw [Array.getElem?_mapIdx] at hx
      simp only [Nat.zero_le, true_and, Nat.zero_add, Nat.sub_zero, size_flatK, hd's, id] at hx
      by_cases hj : j < xs.length * 2
      · rw [if_pos hj] at hv
        have hj2 : j / 2 < ys.length := by omega
        rw [flat_at ys j hj2] at hv
        have hjs : j < vs.size := by omega
        rw [Array.getElem?_eq_getElem hjs] at hx
        simp only [Option.map_some, if_pos hj, Option.some.injEq] at hx hv
        rw [get_flatK _ _ _ _ (by rw [hd's]; exact hj)] at hx
        subst hv hx
        unfold encSC
        rw [hyget _ hj2]
        by_cases h : j % 2 = 0
        · rw [if_pos h, h]; exact ⟨.int _ _, rfl⟩
        · have h1 : j % 2 = 1 := by omega
          rw [if_neg h, h1]; exact ⟨.int _ _, rfl⟩
      · rw [if_neg hj, List.getElem?_drop] at hv
        have e : xs.length * 2 + (j - xs.length * 2) = j := by omega
        rw [e] at hv
        cases hvj : vs[j]? with
        | none => rw [hvj] at hx; simp at hx
        | some z =>
          rw [hvj] at hx
          simp only [Option.map_some, if_neg hj, Option.some.injEq] at hx
          subst hx
          have := w3 j v z hv hvj
          exact ⟨this.1.mono ext, this.2⟩
  · obtain rfl := List.mem_singleton.1 hp'
    simp only; omega
  · obtain rfl := List.mem_singleton.1 hp'
    exact hA.z (blk, .cells cs) (by simp)

end Go.Proofs.YtdejdblopmfjfaaGreatDoor


/-! Contracts: what a trace may hit. -/
set_option linter.unusedVariables false
set_option linter.unusedSimpArgs false
set_option maxRecDepth 40000
set_option maxHeartbeats 4000000
namespace Go.Proofs.YtdejdblopmfjfaaGreatDoor
open Go.Am
attribute [local simp] cells scalar mkv splice under2 under dem dem1 eB gridC sB laidC
/-! ### Cells in order, each once -/
def insC (c : Int × Int) : List (Int × Int) → List (Int × Int)
  | [] => [c]
  | x :: r => if c = x then x :: r else if c.1 < x.1 ∨ (c.1 = x.1 ∧ c.2 < x.2) then c :: x :: r else x :: insC c r

theorem mem_insC {c x : Int × Int} : ∀ (l : List (Int × Int)), x ∈ insC c l ↔ x = c ∨ x ∈ l
  | [] => by simp [insC]
  | y :: r => by
    simp only [insC]
    split
    · rename_i h; subst h; simp
    · split
      · simp
      · simp only [List.mem_cons, mem_insC r]
        constructor
        · rintro (h | h | h)
          · exact .inr (.inl h)
          · exact .inl h
          · exact .inr (.inr h)
        · rintro (h | h | h)
          · exact .inr (.inl h)
          · exact .inl h
          · exact .inr (.inr h)

theorem sorted_insC {c : Int × Int} : ∀ (l : List (Int × Int)), l.Pairwise befC → (insC c l).Pairwise befC
  | [], _ => by simp [insC]
  | y :: r, h => by
    rw [List.pairwise_cons] at h
    simp only [insC]
    split
    · exact List.pairwise_cons.2 h
    · rename_i hne
      split
      · rename_i hb
        refine List.pairwise_cons.2 ⟨fun z hz => ?_, List.pairwise_cons.2 h⟩
        rcases List.mem_cons.1 hz with rfl | hz
        · exact hb
        · exact befC_trans hb (h.1 z hz)
      · rename_i hb
        refine List.pairwise_cons.2 ⟨fun z hz => ?_, sorted_insC r h.2⟩
        rcases (mem_insC r).1 hz with rfl | hz
        · have hne' : z.1 ≠ y.1 ∨ z.2 ≠ y.2 := by
            rcases Int.lt_or_le z.1 y.1 with h1 | h1
            · exact .inl (by omega)
            · by_cases h2 : z.1 = y.1
              · exact .inr fun h3 => hne (Prod.ext h2 h3)
              · exact .inl h2
          unfold befC; omega
        · exact h.1 z hz

def hitsOf (l : List (Int × Int)) : List (Int × Int) := l.foldl (fun acc c => insC c acc) []

theorem hits_fold : ∀ (l acc : List (Int × Int)), acc.Pairwise befC → (l.foldl (fun acc c => insC c acc) acc).Pairwise befC ∧ ∀ x, x ∈ l.foldl (fun acc c => insC c acc) acc ↔ x ∈ acc ∨ x ∈ l
  | [], acc, h => ⟨h, fun x => by simp⟩
  | c :: l, acc, h => by
    have ih := hits_fold l (insC c acc) (sorted_insC acc h)
    refine ⟨ih.1, fun x => ?_⟩
    simp only [List.foldl_cons]
    rw [ih.2 x, mem_insC]
    simp only [List.mem_cons]
    constructor
    · rintro ((h | h) | h)
      · exact .inr (.inl h)
      · exact .inl h
      · exact .inr (.inr h)
    · rintro (h | h | h)
      · exact .inl (.inr h)
      · exact .inl (.inl h)
      · exact .inr h

theorem hitsOf_sorted (l : List (Int × Int)) : (hitsOf l).Pairwise befC := (hits_fold l [] List.Pairwise.nil).1
theorem mem_hitsOf {l : List (Int × Int)} {x : Int × Int} : x ∈ hitsOf l ↔ x ∈ l := by
  have := (hits_fold l [] List.Pairwise.nil).2 x
  unfold hitsOf
  rw [this]; simp

def cellP (g : Gd) (p : (Int × Int) × (Int × Int)) : Int × Int := cellN g p.1 p.2
def hitsL (g : Gd) (l m : List (Int × Int)) : List (Int × Int) := hitsOf ((pairsL l m).map (cellP g))

theorem clsAt_bd {n : Int} : ∀ (l : List (Int × Int)) (k i : Nat), clsAt n l k = some i → k ≤ i ∧ i < k + l.length
  | [], k, i, h => by simp [clsAt] at h
  | c :: r, k, i, h => by
    simp only [clsAt] at h
    split at h
    · cases h; simp
    · have := clsAt_bd r (k + 1) i h
      simp; omega

theorem cell_bd {g : Gd} (hg : gridOk g = true) (a b : Int × Int) : cellB (cellN g a b) := by
  obtain ⟨_, _, ha, hd, hc, _⟩ := gridOk_spec hg
  unfold cellN
  split
  · rename_i h
    rw [Bool.and_eq_true, btw_iff, btw_iff] at h
    split
    · rename_i i hi
      have := clsAt_bd _ _ _ hi
      have m1 : 0 ≤ rowN g a b * g.a := Int.mul_nonneg (by omega) (by omega)
      have m2 : rowN g a b * g.a ≤ 15 * 16 := Int.mul_le_mul (by omega) (by omega) (by omega) (by omega)
      unfold cellB; simp only; omega
    · unfold cellB; simp only; omega
  · unfold cellB; simp only; omega

theorem pairs_len (l m : List (Int × Int)) : (pairsL l m).length = l.length * m.length := by
  induction l with
  | nil => simp [pairsL]
  | cons a l ih =>
    have e : pairsL (a :: l) m = (m.map fun b => (a, b)) ++ pairsL l m := rfl
    rw [e, List.length_append, ih]; simp [Nat.add_mul]; omega

theorem mem_pairs {l m : List (Int × Int)} {p : (Int × Int) × (Int × Int)} : p ∈ pairsL l m ↔ p.1 ∈ l ∧ p.2 ∈ m := by
  unfold pairsL
  simp only [List.mem_flatMap, List.mem_map]
  constructor
  · rintro ⟨a, ha, b, hb, rfl⟩; exact ⟨ha, hb⟩
  · rintro ⟨h1, h2⟩; exact ⟨p.1, h1, p.2, h2, rfl⟩

end Go.Proofs.YtdejdblopmfjfaaGreatDoor


/-! Contracts: hits. -/
set_option linter.unusedVariables false
set_option linter.unusedSimpArgs false
set_option maxRecDepth 40000
set_option maxHeartbeats 4000000
namespace Go.Proofs.YtdejdblopmfjfaaGreatDoor
open Go.Am
attribute [local simp] cells scalar mkv splice under2 under dem dem1 eB gridC sB laidC
/-- A layout on a grid, whose places are such. -/
structure LdOk (L : Ld) : Prop where
  g : gridOk L.g = true
  n : L.places.length ≤ 16
  t : L.traces.length ≤ 64
  p : ∀ l ∈ L.places, (1 ≤ l.length ∧ l.length ≤ 64) ∧ ∀ q ∈ l, planeB q = true
  tr : ∀ t ∈ L.traces, ∃ i j : Nat, t = ((i : Int), (j : Int)) ∧ i < L.places.length ∧ j < L.places.length

def pl (L : Ld) (i : Int) : List (Int × Int) := L.places.getD i.toNat []
def hitsT (L : Ld) (t : Nat) : List (Int × Int) := hitsL L.g (pl L (L.traces.getD t (0, 0)).1) (pl L (L.traces.getD t (0, 0)).2)

theorem inner_InA {E : Env} {S0 S2 : Sur} {l0 : List (List V)} {s0 : Bool} {cc : LC} (hA : InA E S0 l0 s0) (h : SurIn E.S S2) : InA (E.inner cc S2 h.ok) S0 l0 s0 := ⟨h.sub.trans hA.sub, hA.ok⟩

theorem key_eq {l : List MapEntry} (h : l.Pairwise fun x y => x.key ≠ y.key) {x y : MapEntry} (hx : x ∈ l) (hy : y ∈ l) (e : x.key = y.key) : x = y := by
  induction l with
  | nil => cases hx
  | cons a l ih =>
    rw [List.pairwise_cons] at h
    rcases List.mem_cons.1 hx with h1 | h1 <;> rcases List.mem_cons.1 hy with h2 | h2
    · rw [h1, h2]
    · rw [h1] at e; exact absurd e (h.1 _ h2)
    · rw [h2] at e; exact absurd e.symm (h.1 _ h1)
    · exact ih h.2 h1 h2

theorem born_eq {l : List MapEntry} (h : l.Pairwise fun x y => x.born ≠ y.born) {x y : MapEntry} (hx : x ∈ l) (hy : y ∈ l) (e : x.born = y.born) : x = y := by
  induction l with
  | nil => cases hx
  | cons a l ih =>
    rw [List.pairwise_cons] at h
    rcases List.mem_cons.1 hx with h1 | h1 <;> rcases List.mem_cons.1 hy with h2 | h2
    · rw [h1, h2]
    · rw [h1] at e; exact absurd e (h.1 _ h2)
    · rw [h2] at e; exact absurd e.symm (h.1 _ h1)
    · exact ih h.2 h1 h2

theorem vlen (es : Array MapEntry) (vis : List MapEntry) {n : Nat} (h : es.size ≤ n) (hs : ∀ e ∈ vis, e ∈ es.toList) (hn : (vis.map (·.key)).Nodup) (hb : n ≤ 4096) : vis.length ≤ 4096 := by
  have hv : vis.Nodup := by
    unfold List.Nodup at hn ⊢
    rw [List.pairwise_map] at hn
    exact hn.imp fun hne e => hne (by rw [e])
  have h2 : vis.length ≤ es.toList.length := hv.length_le_of_subset fun x hx => hs x hx
  have h3 : es.toList.length = es.size := by simp
  omega

theorem setA_one (b : Nat) (o o' : Ob) : setA [(b, o)] b o' = [(b, o')] := by simp [setA]

theorem c_hits {L : Ld} (hL : LdOk L) {t : Nat} (ht : t < L.traces.length) : C Tryz.prog F.bin_laid_hits [.agg (laidC L), I (t : Nat)] (sB (hitsT L t)) := by
  obtain ⟨i, j, hij, hi, hj⟩ := hL.tr _ (List.getElem_mem ht)
  have hT : hitsT L t = hitsL L.g L.places[i] L.places[j] := by
    unfold hitsT pl
    have e : L.traces.getD t (0, 0) = ((i : Int), (j : Int)) := by simp [ht, hij]
    rw [e]
    simp [hi, hj]
  rw [hT]
  have hpi := hL.p _ (List.getElem_mem hi)
  have hpj := hL.p _ (List.getElem_mem hj)
  obtain ⟨l, el⟩ : ∃ l, L.places[i] = l := ⟨_, rfl⟩
  obtain ⟨m, em⟩ : ∃ m, L.places[j] = m := ⟨_, rfl⟩
  rw [el] at hpi ⊢
  rw [em] at hpj ⊢
  have hpl : (pairsL l m).length ≤ 4096 := by
    rw [pairs_len]
    have : l.length * m.length ≤ 64 * 64 := Nat.mul_le_mul hpi.1.2 hpj.1.2
    omega
  refine C_of mixed chk.bin_laid_hits (by simp) fun S ok => ?_
  refine Tr.arena rfl rfl ?_
  have hA := InA.main (E := env0 Tryz.prog mixed 51 S ok) [] false
  refine Tr.seqR rfl (by simp) (Tr.seq (Tr.reg ?_))
  refine Steps.mkset hA rfl fun mb _ => Steps.fin rfl (by simp) ?_
  refine Tr.seq (Tr.reg (Steps.runN 4 rfl (by simp; omega) ?_))
  rw [getD_map ht, hij]
  refine Steps.fin rfl (by simp) ?_
  refine Tr.seq (Tr.seq (Tr.drawK (TraceK.runN 5 rfl (by simp; omega) ?_)))
  rw [getD_map hi, el]
  refine TraceK.runN 6 rfl (by simp; omega) ?_
  rw [getD_map hj, em]
  refine TraceK.run rfl (by simp) (TraceK.call rfl rfl (c_pairs l m) (TraceK.run rfl (by simp) (.done ⟨by kernel_rfl, by kernel_rfl, ?_⟩)))
  refine Tr.block ?_
  refine Tr.weak (s' := { env := [(2, .ptr 2 0), (5, .ptr 5 0), (29, .func (.func F.bin_pairs_1) [] [.vptr [sB l] 0, .vptr [sB m] 0])], bx := [(2, ⟨laidC L, false⟩), (5, ⟨[.rmap mb], false⟩)], rw := [], log := encA [(mb, .raw (.map #[] 0))], stp := false })
    (Wk.le (.cons rfl (.refl _) (.cons rfl (.refl _) (.cons rfl (.refl _) .nil))) (.cons rfl (LLe.refl _) (.cons rfl (LLe.refl _) .nil)) .nil rfl rfl) ?_
  refine Tr.range rfl rfl (i_pairs (l := l) (m := m) (by omega) (by omega)) rfl rfl rfl (by intro x hx; obtain ⟨b, _, rfl⟩ := List.mem_map.1 hx; rfl)
    (fun pre t => ∃ k es clock, k ≤ (pairsL l m).length ∧ pre = ((pairsL l m).take k).map eP2 ∧ SetIs es clock (((pairsL l m).take k).map (cellP L.g)) ∧ es.size ≤ k ∧ t.bx = [(2, ⟨laidC L, false⟩), (5, ⟨[.rmap mb], false⟩)] ∧ t.rw = [] ∧ t.log = encA [(mb, .raw (.map es clock))])
    (fun _ _ => False) ⟨0, #[], 0, by omega, rfl, SetIs.made, by simp, rfl, rfl, rfl⟩ ?_ ?_ ?_
  · rintro a0 L0 rc0 h0 S1 S2 ok1 ok2 pre q t lp hpre ⟨k, es, clock, hk, rfl, hS, hes, hbx, hrw, hlog⟩ henv hstp
    obtain ⟨env, bx, rw, log, stp⟩ := t
    simp only at hbx hrw hlog henv hstp
    subst hbx hrw hlog henv hstp
    have hmx : k < (pairsL l m).length ∧ ∃ b, (pairsL l m)[k]? = some b ∧ q = eP2 b := by
      have h1 : (((pairsL l m).take k).map eP2).length = k := by simp; omega
      have h2 := hpre.length_le
      simp at h2
      have hml : k < (pairsL l m).length := by omega
      refine ⟨hml, _, List.getElem?_eq_getElem hml, ?_⟩
      have h3 := List.IsPrefix.getElem hpre (i := k) (by simp; omega)
      simp only [List.getElem_map] at h3
      rw [List.getElem_append_right (by omega)] at h3
      simpa using h3
    obtain ⟨hkl, p, hp, rfl⟩ := hmx
    have hpm := mem_pairs.1 (List.mem_of_getElem? hp)
    have kc := c_cell hL.g (hpi.2 _ hpm.1) (hpj.2 _ hpm.2)
    have hcb := cell_bd hL.g p.1 p.2
    refine Tr.seqR rfl (by simp) (Tr.regR rfl (by simp) ?_)
    refine Tr.block (Tr.drawK (TraceK.run rfl (by simp) (TraceK.call rfl rfl kc (.done ⟨by kernel_rfl, by kernel_rfl, ?_⟩))))
    refine Steps.setput (A := [(mb, .raw (.map es clock))]) (k := cellN L.g p.1 p.2) (inner_InA hA ok2) rfl rfl (by simp) hS ?_ (by omega) fun es' clock' hS' hsz => ?_
    · unfold cellB at hcb; unfold inI; omega
    rw [setA_one]
    refine Steps.fin rfl (by simp) ?_
    have eT : ((pairsL l m).take (k + 1)).map (cellP L.g) = ((pairsL l m).take k).map (cellP L.g) ++ [cellN L.g p.1 p.2] := by
      rw [List.take_add_one, hp, List.map_append]; rfl
    refine ⟨{ env := [], bx := [(2, ⟨laidC L, false⟩), (5, ⟨[.rmap mb], false⟩)], rw := [], log := encA [(mb, .raw (.map es' clock'))], stp := false }, Wk.le .nil (.cons rfl (LLe.refl _) (.cons rfl (LLe.refl _) .nil)) .nil rfl rfl, ⟨k + 1, es', clock', by omega, ?_, by rw [eT]; exact hS', by omega, rfl, rfl, rfl⟩, rfl⟩
    rw [List.take_add_one, hp]; simp
  · rintro ⟨env, bx, rw, log, stp⟩ henv hstp ⟨k, es, clock, hk, hpre, hS, hes, hbx, hrw, hlog⟩
    simp only at hbx hrw hlog henv hstp
    subst hbx hrw hlog henv hstp
    have hml : k = (pairsL l m).length := by
      have := congrArg List.length hpre
      simp at this; omega
    subst hml
    rw [List.take_length] at hS
    refine Tr.seqR rfl (by simp) ?_
    refine Tr.seq (Tr.seq (Tr.reg (Steps.run rfl (by simp) ?_)))
    refine Steps.mrange (A := [(mb, .raw (.map es clock))]) (mb := mb) (es := es) (clock := clock) hA rfl rfl (by simp) fun ib hib => Steps.fin rfl (by simp) (Tr.block ?_)
    have hmi : mb ≠ ib := fun e => hib (by simp [e])
    refine Tr.loop (α := List MapEntry × List (Int × Int) × Array Nat × Nat × V × Arena) (fun p st => (p.1.map (·.key) = p.2.1.map keyV ∧ p.2.2.1.toList = p.1.map (·.born) ∧ (∀ e ∈ p.1, e ∈ es.toList) ∧ (p.1.map (·.key)).Nodup ∧ (∀ c ∈ p.2.1, c ∈ (pairsL l m).map (cellP L.g)) ∧ p.1.length ≤ 4096 ∧
        (mb, Ob.raw (.map es clock)) ∈ p.2.2.2.2.2 ∧ (ib, Ob.raw (.mapIter (some mb) clock p.2.2.1 p.2.2.2.1)) ∈ p.2.2.2.2.2 ∧ clock ≤ p.2.2.2.1 ∧ OwnS p.2.2.2.2.2 2 (p.2.1.map eB) p.2.2.2.2.1 ∧ offS p.2.2.2.2.1 mb ∧ offS p.2.2.2.2.1 ib) ∧
        st = { env := [(9, p.2.2.2.2.1), (39, .rptr ib 0)], bx := [], rw := [], log := encA p.2.2.2.2.2, stp := false }) (fun p => (leftOf es p.2.2.1).size) ([], [], #[], clock, .nils, [(ib, .raw (.mapIter (some mb) clock #[] clock)), (mb, .raw (.map es clock))])
      (Wk.le (.cons rfl (.refl _) (.cons rfl (.refl _) .nil)) .nil .nil rfl rfl) ⟨⟨rfl, rfl, by simp, by simp, by simp, by simp, by simp, by simp, Nat.le_refl _, .inl ⟨rfl, rfl⟩, fun _ _ _ _ h => (by cases h), fun _ _ _ _ h => (by cases h)⟩, rfl⟩ ?_
    rintro ⟨vis, out, seen, c0, v, A⟩ st ⟨⟨i1, i2, i3, i4, i5, i6, i7, i8, i9, i10, i11, i12⟩, rfl⟩
    simp only at i1 i2 i3 i4 i5 i6 i7 i8 i9 i10 i11 i12
    have hlen : vis.length = out.length := by have := congrArg List.length i1; simpa using this
    refine Tr.seq (Tr.reg ?_)
    refine Steps.mnext (A := A) (ib := ib) (mb := mb) (since := clock) (c0 := c0) (seen := seen) (es := es) (clock := clock) hA rfl rfl i8 i7 hS (fun e he => hS.st.1 e he) i9 (fun hz => ?_) (fun e he k hk hkey hval => ?_)
    · refine Steps.fin rfl (by simp) (Tr.seq (Tr.condF rfl (Tr.exit ?_)))
      have hall : ∀ x ∈ es.toList, x ∈ vis := fun x hx => by
        have h1 := all_seen es seen hz x hx
        rw [← Array.contains_toList, i2] at h1
        have h1 : x.born ∈ vis.map (·.born) := by simpa using h1
        obtain ⟨y, hy, ey⟩ := List.mem_map.1 h1
        have h2 := hS.st.2.1
        unfold List.Nodup at h2
        rw [List.pairwise_map] at h2
        exact born_eq h2 (i3 y hy) hx ey ▸ hy
      have hout : ∀ x, x ∈ out ↔ x ∈ (pairsL l m).map (cellP L.g) := fun x => by
        refine ⟨i5 x, fun hx => ?_⟩
        obtain ⟨_, e, he, ek⟩ := hS.all x hx
        have h1 : e.key ∈ vis.map (·.key) := List.mem_map.2 ⟨e, hall e he, rfl⟩
        rw [i1, ek] at h1
        obtain ⟨c, hc, ec⟩ := List.mem_map.1 h1
        exact keyV_inj ec ▸ hc
      have hnd : out.Nodup := by
        rw [i1] at i4
        unfold List.Nodup at i4 ⊢
        rw [List.pairwise_map] at i4
        exact i4.imp fun hne e => hne (by rw [e])
      have hne : out ≠ [] := fun e => by
        have h1 : 0 < (pairsL l m).length := by rw [pairs_len]; exact Nat.mul_pos (by omega) (by omega)
        have h2 := (hout (cellP L.g (pairsL l m)[0])).2 (List.mem_map.2 ⟨_, List.getElem_mem h1, rfl⟩)
        rw [e] at h2; cases h2
      obtain ⟨blk, cap, cs, rfl, hm2, hm3, hm4, hm5⟩ : ∃ (blk cap : Nat) (cs : List V), v = .sref blk 0 out.length cap ∧ (blk, Ob.cells cs) ∈ A ∧ cs.length = cap * 2 ∧ out.length ≤ cap ∧ cs.take (out.length * 2) = (out.map eB).flatMap cells := by
        rcases i10 with ⟨h, _⟩ | ⟨blk, cap, cs, h1, h2, h3, h4, h5⟩
        · simp at h; exact absurd h hne
        · rw [List.length_map] at h1 h4 h5
          exact ⟨blk, cap, cs, h1, h2, h3, h4, h5⟩
      have hcb : ∀ c ∈ out, cellB c := fun c hc => by
        obtain ⟨p, _, rfl⟩ := List.mem_map.1 (i5 c hc)
        exact cell_bd hL.g p.1 p.2
      have hcsl : out.length * 2 ≤ cs.length := by rw [hm3]; exact Nat.mul_le_mul_right _ hm4
      have hys : ∀ x, x ∈ hitsL L.g l m ↔ x ∈ out := fun x => by unfold hitsL; rw [mem_hitsOf, hout x]
      have hsort := ca_sort (blk := blk) (cap := cap) (xs := out) (ys := hitsL L.g l m) (cs := cs) hm5 hcsl (by omega) hcb hnd hys (hitsOf_sorted _)
      have hyl : (hitsL L.g l m).length = out.length := by
        have n1 : (hitsL L.g l m).Nodup := by
          unfold List.Nodup hitsL
          exact (hitsOf_sorted _).imp fun {a b} h (e : a = b) => befC_irrefl (by rw [e] at h; exact h)
        exact Nat.le_antisymm (n1.length_le_of_subset fun x hx => (hys x).1 hx) (hnd.length_le_of_subset fun x hx => (hys x).2 hx)
      refine Tr.weak (s' := { env := [(9, .sref blk 0 out.length cap)], bx := [], rw := [], log := encA A, stp := false }) (Wk.le (.cons rfl (.refl _) .nil) .nil .nil rfl rfl) ?_
      refine Tr.weak (Wk.keep hA (B := [(blk, .cells cs)]) rfl (by simpa using hm2) (by simp)) ?_
      refine Tr.seq (Tr.reg (Steps.run rfl (by simp) ?_))
      refine Steps.callA (F := []) hA rfl rfl rfl hsort (.inl (by simp)) (Steps.fin rfl (by simp) ?_)
      refine Tr.seqR rfl (by simp) ?_
      refine Tr.weak (s' := { env := [(4, .sref blk 0 ((hitsL L.g l m).map eB).length cap)], bx := [], rw := [], log := encA [(blk, .cells (((hitsL L.g l m).map eB).flatMap cells ++ cs.drop (out.length * 2)))], stp := false }) (Wk.le (.cons rfl (.of_eq ?_) .nil) .nil .nil rfl rfl) ?_
      · rw [List.length_map, hyl]
      refine Tr.weak (Wk.close hA (t := 4) (sz := 2) rfl rfl (by simp; rfl) (by omega) (by rw [List.length_map, hyl]; exact hm4) (fun x hx => by obtain ⟨c, _, rfl⟩ := List.mem_map.1 hx; rfl) ?_) ?_
      · rw [List.length_map, ← flat_eB_len, List.take_left]
      exact Tr.ret ⟨trivial, _, _, _, resVs_ok rfl, rfl, rfl⟩
    · refine Steps.fin rfl (by simp) (Tr.seq (Tr.condT rfl (Tr.skip (Tr.block (Tr.seq (Tr.reg ?_))))))
      have heL := mem_left he
      refine Steps.mentry (A := setA A ib (.raw (.mapIter (some mb) clock (seen.push e.born) clock))) (ib := ib) (mb := mb) (since := clock) (seen := seen) (es := es) (clock := clock) (e := e) (k := k) hA rfl rfl (mem_setA_self i8) (mem_setA_ne i7 hmi) hS.st heL.1 hkey hval (Steps.fin rfl (by simp) (Tr.reg (Steps.runN 3 rfl (by simp) ?_)))
      have hol : (out.map eB).length ≤ 4096 := by rw [List.length_map]; omega
      have hO : OwnS (setA A ib (.raw (.mapIter (some mb) clock (seen.push e.born) clock))) 2 (out.map eB) v := by
        rcases i10 with h | ⟨blk, cap, cs, h1, h2, h3⟩
        · exact .inl h
        · exact .inr ⟨blk, cap, cs, h1, mem_setA_ne h2 (fun e => i12 _ _ _ _ h1 e.symm), h3⟩
      refine Steps.appendOwn (A := setA A ib (.raw (.mapIter (some mb) clock (seen.push e.born) clock))) (v := v) (xs := out.map eB) (ys := [eB k]) (zs := [I 0, I 0]) hA rfl rfl hO (by kernel_rfl) (by omega) (by simp only [List.length_cons, List.length_nil]; omega) (by simp only [List.length_cons, List.length_nil]; omega) (by simp) fun v' A' hO' hkeep => ?_
      refine Steps.fin rfl (by simp) ?_
      have hnew : e ∉ vis := fun hm => by
        have h1 : e.born ∈ seen.toList := by rw [i2]; exact List.mem_map.2 ⟨e, hm, rfl⟩
        have h2 := heL.2
        rw [← Array.contains_toList] at h2
        simp at h2
        exact h2 (by simpa using h1)
      have hknew : e.key ∉ vis.map (·.key) := fun hm => by
        obtain ⟨x, hx, ex⟩ := List.mem_map.1 hm
        exact hnew (key_eq hS.nd heL.1 (i3 x hx) ex.symm ▸ hx)
      refine ⟨(vis ++ [e], out ++ [k], seen.push e.born, clock, v', A'), _, Wk.le (.cons rfl (.refl _) (.cons rfl (.refl _) .nil)) .nil .nil (by simp only [okRefs, List.all_cons, ownS_refs hO']; rfl) rfl, ⟨⟨?_, ?_, ?_, ?_, ?_, ?_, ?_, ?_, Nat.le_refl _, ?_, ?_, ?_⟩, rfl⟩, ?_⟩
      · rw [List.map_append, List.map_append, i1]
        simp [hkey]
      · rw [Array.toList_push, i2, List.map_append]; rfl
      · intro x hx
        rcases List.mem_append.1 hx with hx | hx
        · exact i3 x hx
        · obtain rfl := List.mem_singleton.1 hx; exact heL.1
      · rw [List.map_append, List.nodup_append]
        refine ⟨i4, by simp, fun x hx y hy e' => ?_⟩
        obtain rfl := List.mem_singleton.1 hy
        subst e'; exact hknew hx
      · intro c hc
        rcases List.mem_append.1 hc with hc | hc
        · exact i5 c hc
        · obtain rfl := List.mem_singleton.1 hc; exact hk
      · exact vlen es (vis ++ [e]) hes (fun x hx => by
          rcases List.mem_append.1 hx with hx | hx
          · exact i3 x hx
          · obtain rfl := List.mem_singleton.1 hx; exact heL.1) (by
          rw [List.map_append, List.nodup_append]
          refine ⟨i4, by simp, fun x hx y hy e' => ?_⟩
          obtain rfl := List.mem_singleton.1 hy
          subst e'; exact hknew hx) hpl
      · exact (hkeep _ (mem_setA_ne i7 hmi) i11).1
      · exact (hkeep _ (mem_setA_self i8) i12).1
      · rw [List.map_append]; exact hO'
      · exact (hkeep _ (mem_setA_ne i7 hmi) i11).2
      · exact (hkeep _ (mem_setA_self (o := .raw (.mapIter (some mb) clock (seen.push e.born) clock)) i8) i12).2
      · exact left_shrinks es seen e he
  · intro e t _ h; exact h.elim

end Go.Proofs.YtdejdblopmfjfaaGreatDoor


/-! Contracts: counting, plain part; rows of an arena. -/
set_option linter.unusedVariables false
set_option linter.unusedSimpArgs false
set_option maxRecDepth 40000
set_option maxHeartbeats 4000000
namespace Go.Proofs.YtdejdblopmfjfaaGreatDoor
open Go.Am

/-! ### Counts of cells -/
def cntRow (m : Nat) (P : List (Int × Int)) (b : Nat) : List Int := (List.range m).map fun (c : Nat) => ((P.count ((b : Int), (c : Int)) : Nat) : Int)
def nBins (g : Gd) : Nat := (g.a * g.d).toNat
def countL (g : Gd) (P : List (Int × Int)) : List (List Int) := (List.range (nBins g)).map (cntRow g.cls.length P)
def allH (h : Nat → List (Int × Int)) (n : Nat) : List (Int × Int) := (List.range n).flatMap h
def cntN (L : Ld) (h : Nat → List (Int × Int)) : List (List Int) := countL L.g (allH h L.traces.length)

def noneC : Int × Int := (-1, -1)
def inG (g : Gd) (c : Int × Int) : Prop := (0 ≤ c.1 ∧ c.1 < g.a * g.d) ∧ 0 ≤ c.2 ∧ c.2 < (g.cls.length : Int)

theorem cntRow_len (m : Nat) (P : List (Int × Int)) (b : Nat) : (cntRow m P b).length = m := by simp [cntRow]
theorem countL_len (g : Gd) (P : List (Int × Int)) : (countL g P).length = nBins g := by simp [countL]
theorem countL_get {g : Gd} {P : List (Int × Int)} {b : Nat} (h : b < nBins g) : (countL g P)[b]? = some (cntRow g.cls.length P b) := by simp [countL, h]
theorem cntRow_get {m : Nat} {P : List (Int × Int)} {b c : Nat} (h : c < m) : (cntRow m P b)[c]? = some ((P.count ((b : Int), (c : Int)) : Nat) : Int) := by simp [cntRow, h]

theorem cntRow_off {m : Nat} {P : List (Int × Int)} {c : Int × Int} {b : Nat} (h : c.1 ≠ b) : cntRow m (P ++ [c]) b = cntRow m P b := by
  unfold cntRow
  refine List.map_congr_left fun k _ => ?_
  rw [List.count_append, List.count_singleton]
  have : (c == ((b : Int), (k : Int))) = false := by
    rw [beq_eq_false_iff_ne]; intro e; rw [e] at h; exact h rfl
  rw [this]; simp

theorem cntRow_on {m : Nat} {P : List (Int × Int)} {b k : Nat} (h : k < m) : cntRow m (P ++ [((b : Int), (k : Int))]) b = (cntRow m P b).set k (((P.count ((b : Int), (k : Int)) : Nat) : Int) + 1) := by
  refine List.ext_getElem? fun i => ?_
  by_cases hi : i < m
  · rw [cntRow_get hi]
    by_cases e : i = k
    · subst e
      rw [List.getElem?_set_self (by rw [cntRow_len]; exact hi), List.count_append, List.count_singleton]
      simp
    · rw [List.getElem?_set_ne (fun h => e h.symm), cntRow_get hi, List.count_append, List.count_singleton]
      have : ((((b : Int), (k : Int)) : Int × Int) == ((b : Int), (i : Int))) = false := by
        rw [beq_eq_false_iff_ne]; intro h; injection h with _ h; exact e (by omega)
      rw [this]; simp
  · rw [List.getElem?_eq_none (by rw [cntRow_len]; omega), List.getElem?_eq_none (by rw [List.length_set, cntRow_len]; omega)]

theorem countL_none (g : Gd) (P : List (Int × Int)) : countL g (P ++ [noneC]) = countL g P := by
  unfold countL
  refine List.map_congr_left fun b _ => cntRow_off ?_
  unfold noneC; simp only; omega

theorem countL_on {g : Gd} {P : List (Int × Int)} {b k : Nat} (hb : b < nBins g) (hk : k < g.cls.length) :
    countL g (P ++ [((b : Int), (k : Int))]) = (countL g P).set b ((cntRow g.cls.length P b).set k (((P.count ((b : Int), (k : Int)) : Nat) : Int) + 1)) := by
  refine List.ext_getElem? fun i => ?_
  by_cases hi : i < nBins g
  · rw [countL_get hi]
    by_cases e : i = b
    · subst e
      rw [List.getElem?_set_self (by rw [countL_len]; exact hi), cntRow_on hk]
    · rw [List.getElem?_set_ne (fun h => e h.symm), countL_get hi, cntRow_off]
      simp only; omega
  · rw [List.getElem?_eq_none (by rw [countL_len]; omega), List.getElem?_eq_none (by rw [List.length_set, countL_len]; omega)]

/-! ### Rows in an arena -/
def arn (rbs : List Nat) (rows : List (List Int)) : Arena := List.zipWith (fun b r => (b, Ob.cells (r.map I))) rbs rows

theorem arn_keys : ∀ {rbs : List Nat} {rows : List (List Int)}, rbs.length = rows.length → (arn rbs rows).map (·.1) = rbs
  | [], [], _ => rfl
  | b :: rbs, r :: rows, h => by
    have := arn_keys (rbs := rbs) (rows := rows) (by simpa using h)
    simp [arn] at this ⊢
    exact this

theorem arn_snoc : ∀ {rbs : List Nat} {rows : List (List Int)} (b : Nat) (r : List Int), rbs.length = rows.length → arn (rbs ++ [b]) (rows ++ [r]) = arn rbs rows ++ [(b, .cells (r.map I))]
  | [], [], b, r, _ => rfl
  | c :: rbs, q :: rows, b, r, h => by
    have := arn_snoc (rbs := rbs) (rows := rows) b r (by simpa using h)
    simp [arn] at this ⊢
    exact this

theorem arn_mem : ∀ {rbs : List Nat} {rows : List (List Int)} {j b : Nat} {r : List Int}, rbs[j]? = some b → rows[j]? = some r → (b, Ob.cells (r.map I)) ∈ arn rbs rows
  | [], _, _, _, _, h, _ => by simp at h
  | _ :: _, [], _, _, _, _, h => by simp at h
  | c :: rbs, q :: rows, 0, b, r, h, k => by simp at h k; subst h k; simp [arn]
  | c :: rbs, q :: rows, j + 1, b, r, h, k => by
    have := arn_mem (rbs := rbs) (rows := rows) (j := j) (b := b) (r := r) (by simpa using h) (by simpa using k)
    simp only [arn] at this ⊢
    simp only [List.zipWith_cons_cons]
    exact List.mem_cons_of_mem _ this

theorem setA_out {A : Arena} {b : Nat} {o : Ob} (h : b ∉ A.map (·.1)) : setA A b o = A := by
  unfold setA
  conv => rhs; rw [← List.map_id A]
  refine List.map_congr_left fun p hp => ?_
  rw [if_neg fun e => h (List.mem_map.2 ⟨p, hp, e⟩)]; rfl

theorem arn_set : ∀ {rbs : List Nat} {rows : List (List Int)} {j b : Nat} (r : List Int), rbs.Nodup → rbs.length = rows.length → rbs[j]? = some b → setA (arn rbs rows) b (.cells (r.map I)) = arn rbs (rows.set j r)
  | [], _, _, _, _, _, _, h => by simp at h
  | _ :: _, [], _, _, _, _, h, _ => by simp at h
  | c :: rbs, q :: rows, 0, b, r, hn, hl, h => by
    simp at h; subst h
    rw [List.nodup_cons] at hn
    have e : arn (c :: rbs) (q :: rows) = (c, .cells (q.map I)) :: arn rbs rows := rfl
    have e2 : arn (c :: rbs) ((q :: rows).set 0 r) = (c, .cells (r.map I)) :: arn rbs rows := rfl
    rw [e, e2]
    have := setA_out (A := arn rbs rows) (b := c) (o := .cells (r.map I)) (by rw [arn_keys (by simpa using hl)]; exact hn.1)
    unfold setA at this ⊢
    rw [List.map_cons, this]; simp
  | c :: rbs, q :: rows, j + 1, b, r, hn, hl, h => by
    rw [List.nodup_cons] at hn
    have h' : rbs[j]? = some b := by simpa using h
    have ih := arn_set (rbs := rbs) (rows := rows) (j := j) (b := b) r hn.2 (by simpa using hl) h'
    have hcb : c ≠ b := fun e => hn.1 (e ▸ List.mem_of_getElem? h')
    have e : arn (c :: rbs) (q :: rows) = (c, .cells (q.map I)) :: arn rbs rows := rfl
    have e2 : arn (c :: rbs) ((q :: rows).set (j + 1) r) = (c, .cells (q.map I)) :: arn rbs (rows.set j r) := rfl
    rw [e, e2, ← ih]
    unfold setA
    rw [List.map_cons, if_neg hcb]

theorem arn_drop {b : Nat} {r : List Int} {rbs : List Nat} {rows : List (List Int)} (hn : (b :: rbs).Nodup) (hl : rbs.length = rows.length) : dropA (arn (b :: rbs) (r :: rows)) b = arn rbs rows := by
  rw [List.nodup_cons] at hn
  have e : arn (b :: rbs) (r :: rows) = (b, .cells (r.map I)) :: arn rbs rows := rfl
  rw [e]
  unfold dropA
  rw [List.filter_cons]
  simp only [bne_self_eq_false, Bool.false_eq_true, if_false]
  refine List.filter_eq_self.2 fun p hp => ?_
  have : p.1 ∈ rbs := by rw [← arn_keys hl]; exact List.mem_map.2 ⟨p, hp, rfl⟩
  have : p.1 ≠ b := fun e => hn.1 (e ▸ this)
  simpa using this

section
variable {E : Env} {S0 : Sur} {l0 : List (List V)} {s0 : Bool}

def srefs (m : Nat) (rbs : List Nat) : List V := rbs.map fun b => .sref b 0 m m

/-- All rows of a slice become data. -/
theorem closeRows (hE : InA E S0 l0 s0) {t m : Nat} : ∀ (rbs : List Nat) (rows : List (List Int)) (pre : List V) (s : St), rbs.Nodup → rbs.length = rows.length → (∀ r ∈ rows, r.length = m) → (∀ y ∈ pre, cells y = [y]) → get s.env t = some (.slice 0 1 (pre ++ srefs m rbs)) → s.log = encA (arn rbs rows) →
    ∃ s', Wk E s s' ∧ get s'.env t = some (.slice 0 1 (pre ++ rows.map intsV)) ∧ s'.log = encA [] ∧ s'.stp = s.stp ∧ s'.bx = s.bx
  | [], [], pre, s, _, _, _, _, ht, hl => ⟨s, Wk.refl s, by simpa [srefs] using ht, hl, rfl, rfl⟩
  | b :: rbs, r :: rows, pre, s, hn, hlen, hm, hpre, ht, hl => by
    have hlen' : rbs.length = rows.length := by simpa using hlen
    have hrl : r.length = m := hm r (by simp)
    have h1 : ∀ y ∈ pre ++ srefs m (b :: rbs), cells y = [y] := fun y hy => by
      rcases List.mem_append.1 hy with hy | hy
      · exact hpre y hy
      · obtain ⟨_, _, rfl⟩ := List.mem_map.1 hy; rfl
    have w1 := Wk.closeIn (E := E) (S0 := S0) (l0 := l0) (s0 := s0) (A := arn (b :: rbs) (r :: rows)) hE (s := s) (t := t) (r := 0) (blk := b) (cap := m) (sz := 1) (j := pre.length) (cs := r.map I) (xs := r.map I) (ys := pre ++ srefs m (b :: rbs)) ht
      (by rw [List.length_map, hrl, List.getElem?_append_right (Nat.le_refl _), Nat.sub_self]; rfl) hl (by simp [arn]) (by omega) (by rw [List.length_map, hrl]; exact Nat.le_refl _) (fun x hx => by obtain ⟨_, _, rfl⟩ := List.mem_map.1 hx; rfl)
      (by rw [Nat.mul_one, List.take_length]; induction r with
          | nil => rfl
          | cons a r _ => rw [List.flatMap_def, List.map_map]; induction (a :: r) with
            | nil => rfl
            | cons a r ih => simp [cells] at ih ⊢; exact ih) h1
    have eset : (pre ++ srefs m (b :: rbs)).set pre.length (.slice 0 1 (r.map I)) = (pre ++ [intsV r]) ++ srefs m rbs := by
      rw [List.set_append_right _ _ (Nat.le_refl _), Nat.sub_self]
      simp [srefs, intsV]
    rw [eset, arn_drop hn hlen'] at w1
    rw [List.nodup_cons] at hn
    obtain ⟨s', w2, g1, g2, g3, g4⟩ := closeRows hE (t := t) rbs rows (pre ++ [intsV r]) hn.2 hlen' (fun q hq => hm q (by simp [hq])) (fun y hy => by
      rcases List.mem_append.1 hy with hy | hy
      · exact hpre y hy
      · rw [List.mem_singleton.1 hy]; rfl) (s := { s.put (some t) (.slice 0 1 ((pre ++ [intsV r]) ++ srefs m rbs)) with log := encA (arn rbs rows) }) (by show Am.get ((t, _) :: s.env) t = _; simp [Am.get]) rfl
    exact ⟨s', w1.trans w2, by rw [g1]; simp, g2, by rw [g3]; rfl, by rw [g4]; rfl⟩

end
end Go.Proofs.YtdejdblopmfjfaaGreatDoor


/-! Contracts: surely; counting. -/
set_option linter.unusedVariables false
set_option linter.unusedSimpArgs false
set_option maxRecDepth 40000
set_option maxHeartbeats 4000000
namespace Go.Proofs.YtdejdblopmfjfaaGreatDoor
open Go.Am
attribute [local simp] cells scalar mkv splice under2 under dem dem1 eB gridC sB laidC
def sureL : List (Int × Int) → List (Int × Int)
  | [c] => if c = noneC then [] else [c]
  | _ => []
def sureT (L : Ld) (t : Nat) : List (Int × Int) := sureL (hitsT L t)

theorem c_surely {L : Ld} (hL : LdOk L) {t : Nat} (ht : t < L.traces.length) : C Tryz.prog F.bin_laid_surely [.agg (laidC L), I (t : Nat)] (sB (sureT L t)) := by
  have kc := c_hits hL ht
  unfold sureT
  generalize hitsT L t = l at kc
  refine C_of mixed chk.bin_laid_surely (by simp) fun S ok => ?_
  refine Tr.seqR rfl (by simp) (Tr.seq (Tr.seqC rfl (by simp) (Steps.call rfl rfl kc (Steps.fin rfl (by simp) ?_))))
  rcases l with _ | ⟨c, _ | ⟨c2, r⟩⟩
  · refine Tr.seq (Tr.drawK (TraceK.runN 7 rfl (by simp) (TraceK.ggload (g := 0) (cs := [I (-1), I (-1)]) (gb := false) (by simp [globalsV]) rfl rfl rfl (by simp) ?_)))
    refine .done ⟨by kernel_rfl, by kernel_rfl, Steps.off (want := true) (.bool true) rfl rfl rfl (Steps.fin rfl (by simp) ?_)⟩
    refine Tr.condF rfl (Tr.skip (Tr.seqR rfl (by simp) ?_))
    refine Tr.weak (s' := { env := [(4, .slice 0 2 [])], bx := [], rw := [], log := [], stp := false }) (Wk.le (.cons rfl (.nil 0 2) .nil) .nil .nil rfl rfl) ?_
    exact Tr.retX rfl rfl rfl rfl trivial
  · refine Tr.seq (Tr.drawK (TraceK.runN 7 rfl (by simp) (TraceK.ggload (g := 0) (cs := [I (-1), I (-1)]) (gb := true) (by simp [globalsV]) rfl rfl rfl (by simp) ?_)))
    refine TraceK.run rfl (by simp) (.done ⟨by kernel_rfl, by kernel_rfl, Steps.fin rfl (by simp) ?_⟩)
    refine Tr.cond rfl rfl (fun h => ?_) (fun h => Tr.skip ?_)
    · have hc : c ≠ noneC := by
        rintro rfl
        revert h
        show (!((((-1 : Int) == -1) && ((-1 : Int) == -1)) : Bool)) = true → False
        decide
      refine Tr.seqR rfl (by simp) (Tr.retX rfl rfl rfl ?_ trivial)
      simp [sureL, hc, packR]
    · have hc : c = noneC := by
        have h : (!((c.1 == -1) && (c.2 == -1))) = false := by simpa using h
        simp at h
        exact Prod.ext h.1 h.2
      refine Tr.seqR rfl (by simp) ?_
      refine Tr.weak (s' := { env := [(4, .slice 0 2 [])], bx := [], rw := [], log := [], stp := false }) (Wk.le (.cons rfl (.nil 0 2) .nil) .nil .nil rfl rfl) ?_
      refine Tr.retX rfl rfl rfl ?_ trivial
      simp [sureL, hc, packR]
  · have hne : ((((c :: c2 :: r : List (Int × Int)).map eB).length : Int) == 1) = false := by
      rw [beq_eq_false_iff_ne]; simp; omega
    refine Tr.seq (Tr.drawK (TraceK.runN 4 rfl (by simp) ?_))
    refine TraceK.runN 3 rfl (by simp; omega) (TraceK.ggload (g := 0) (cs := [I (-1), I (-1)]) (by simp [globalsV]) rfl rfl rfl (by simp) ?_)
    refine .done ⟨by kernel_rfl, by kernel_rfl, Steps.off (want := true) (.bool true) rfl rfl (congrArg some hne) (Steps.fin rfl (by simp; omega) ?_)⟩
    refine Tr.cond rfl rfl (fun h => ?_) (fun h => Tr.skip (Tr.seqR rfl (by simp) ?_))
    · have h : (bif ((((c :: c2 :: r : List (Int × Int)).map eB).length : Int) == 1) then true else false) = true := h
      rw [hne] at h; cases h
    refine Tr.weak (s' := { env := [(4, .slice 0 2 [])], bx := [], rw := [], log := [], stp := false }) (Wk.le (.cons rfl (.nil 0 2) .nil) .nil .nil rfl rfl) ?_
    exact Tr.retX rfl rfl rfl rfl trivial

end Go.Proofs.YtdejdblopmfjfaaGreatDoor


/-! Plain laws of cells: the order of the places; what moves with the grid. -/
set_option linter.unusedVariables false
set_option linter.unusedSimpArgs false
set_option maxRecDepth 40000
set_option maxHeartbeats 4000000
namespace Go.Proofs.YtdejdblopmfjfaaGreatDoor
open Go.Am

/-- A cell is one of the grid, or none. -/
theorem cell_in {g : Gd} (hg : gridOk g = true) (a b : Int × Int) : cellN g a b = noneC ∨ inG g (cellN g a b) := by
  obtain ⟨_, _, ha, hd, hc, _⟩ := gridOk_spec hg
  unfold cellN
  split
  · rename_i h
    rw [Bool.and_eq_true, btw_iff, btw_iff] at h
    split
    · rename_i i hi
      have := clsAt_bd _ _ _ hi
      have m1 : 0 ≤ rowN g a b * g.a := Int.mul_nonneg (by omega) (by omega)
      have m2 : rowN g a b * g.a ≤ (g.d - 1) * g.a := Int.mul_le_mul_of_nonneg_right (by omega) (by omega)
      rw [Int.sub_mul, Int.mul_comm g.d g.a] at m2
      refine .inr ⟨⟨?_, ?_⟩, ?_, ?_⟩ <;> simp only <;> omega
    · exact .inl rfl
  · exact .inl rfl

theorem nBins_eq {g : Gd} (hg : gridOk g = true) : (nBins g : Int) = g.a * g.d ∧ 1 ≤ nBins g ∧ nBins g ≤ 256 := by
  obtain ⟨_, _, ha, hd, hc, _⟩ := gridOk_spec hg
  have h1 : 1 * 1 ≤ g.a * g.d := Int.mul_le_mul (by omega) (by omega) (by omega) (by omega)
  have h2 : g.a * g.d ≤ 16 * 16 := Int.mul_le_mul (by omega) (by omega) (by omega) (by omega)
  unfold nBins
  omega

theorem inG_nat {g : Gd} (hg : gridOk g = true) {c : Int × Int} (h : inG g c) : ∃ b k : Nat, c = ((b : Int), (k : Int)) ∧ b < nBins g ∧ k < g.cls.length := by
  obtain ⟨⟨h1, h2⟩, h3, h4⟩ := h
  have := (nBins_eq hg).1
  exact ⟨c.1.toNat, c.2.toNat, Prod.ext (by simp; omega) (by simp; omega), by omega, by omega⟩

end Go.Proofs.YtdejdblopmfjfaaGreatDoor


/-! Contracts: counting. -/
set_option linter.unusedVariables false
set_option linter.unusedSimpArgs false
set_option maxRecDepth 40000
set_option maxHeartbeats 4000000
namespace Go.Proofs.YtdejdblopmfjfaaGreatDoor
open Go.Am
attribute [local simp] cells scalar mkv splice under2 under dem dem1 eB gridC sB laidC
def rowsB (m : Nat) (rbs : List Nat) (k : Nat) : List V := (rbs.map fun b => V.sref b 0 m m) ++ List.replicate k .nils

theorem rowsB_refs (m : Nat) (rbs : List Nat) (k : Nat) (B : Nat → Bool) (R : Nat → Option (Nat × Nat × Nat)) : (rowsB m rbs k).all (refsOk B R 6) = true := by
  rw [List.all_eq_true]
  intro x hx
  rcases List.mem_append.1 hx with hx | hx
  · obtain ⟨_, _, rfl⟩ := List.mem_map.1 hx; rfl
  · rw [List.eq_of_mem_replicate hx]; rfl

theorem okRows {j m k : Nat} {rbs : List Nat} {env : List (Nat × V)} {bx : List (Nat × Box)} {rw : List (Nat × Nat × Nat × Nat)} (h : okRefs env ((j, ⟨[], false⟩) :: bx) rw = true) : okRefs env ((j, ⟨rowsB m rbs k, false⟩) :: bx) rw = true := by
  have e : hasKey ((j, (⟨rowsB m rbs k, false⟩ : Box)) :: bx) = hasKey ((j, (⟨[], false⟩ : Box)) :: bx) := rfl
  unfold okRefs at h ⊢
  rw [e]
  rw [Bool.and_eq_true] at h ⊢
  refine ⟨h.1, ?_⟩
  have h2 := h.2
  rw [List.all_cons, Bool.and_eq_true] at h2 ⊢
  exact ⟨rowsB_refs _ _ _ _ _, h2.2⟩

theorem rowsB_len (m : Nat) (rbs : List Nat) (k : Nat) : (rowsB m rbs k).length = rbs.length + k := by simp [rowsB]

theorem rowsB_set (m : Nat) (rbs : List Nat) (k b : Nat) : (rowsB m rbs (k + 1)).set rbs.length (.sref b 0 m m) = rowsB m (rbs ++ [b]) k := by
  unfold rowsB
  rw [List.set_append_right _ _ (by simp), List.length_map, Nat.sub_self, List.replicate_succ]
  simp

theorem rowsB_flat (m : Nat) (rbs : List Nat) : ∀ l : List V, l = (rbs.map fun b => V.sref b 0 m m) → l.flatMap cells = l := by
  induction rbs with
  | nil => rintro l rfl; rfl
  | cons b r ih => rintro l rfl; rw [List.map_cons, List.flatMap_cons, ih _ rfl]; rfl

theorem rowsB_holds (m : Nat) (rbs : List Nat) : Holds (rowsB m rbs 0) 0 1 rbs.length (rbs.map fun b => V.sref b 0 m m) := by
  refine ⟨by omega, by simp, fun x hx => ?_, ?_, fun x hx => ?_⟩
  · obtain ⟨_, _, rfl⟩ := List.mem_map.1 hx; rfl
  · rw [rowsB_flat m rbs _ rfl]; simp [rowsB, List.take_of_length_le]
  · obtain ⟨_, _, rfl⟩ := List.mem_map.1 hx; rfl

theorem allH_succ (h : Nat → List (Int × Int)) (k : Nat) : allH h (k + 1) = allH h k ++ h k := by
  unfold allH; rw [List.range_succ, List.flatMap_append]; simp

theorem count_bd {L : Ld} {h : Nat → List (Int × Int)} (hn : L.traces.length ≤ 64) (hr : ∀ t < L.traces.length, (h t).length ≤ 4096) : ∀ k ≤ L.traces.length, (allH h k).length ≤ k * 4096
  | 0, _ => by simp [allH]
  | k + 1, hk => by
    have := count_bd hn hr k (by omega)
    have h2 := hr k (by omega)
    rw [allH_succ, List.length_append]; omega

theorem splice_set {cs : List V} {i : Nat} (h : i < cs.length) (v : V) : splice cs i [v] = cs.set i v := by
  rw [List.set_eq_take_append_cons_drop, if_pos h]; simp [splice]

theorem c_count {L : Ld} (hL : LdOk L) {f : FuncId} {h : Nat → List (Int × Int)} (hf : ∀ t < L.traces.length, C Tryz.prog f [.agg (laidC L), I (t : Nat)] (sB (h t))) (hr : ∀ t < L.traces.length, (h t).length ≤ 4096 ∧ ∀ c ∈ h t, c = noneC ∨ inG L.g c) :
    C Tryz.prog F.bin_laid_count [.agg (laidC L), .func (.func f) [.agg (laidC L)] []] (foldV (cntN L h)) := by
  obtain ⟨_, hsz, hga, hgd, hcl, _⟩ := gridOk_spec hL.g
  have nb := nBins_eq hL.g
  have hab : IntKind.wrap .i64 (L.g.a * L.g.d) = (nBins L.g : Int) := by rw [nb.1]; exact w64 (by omega) (by omega)
  refine C_of mixed chk.bin_laid_count (by simp) fun S ok => ?_
  refine Tr.arena rfl rfl ?_
  have hA := InA.main (E := env0 Tryz.prog mixed 63 S ok) [] false
  refine Tr.seqR rfl (by simp) ?_
  refine Tr.seqR rfl (by simp; omega) ?_
  refine Tr.seq (Tr.seqR rfl (by simp) (Tr.block ?_))
  refine Tr.loop (α := Nat × List Nat) (fun p st => (p.1 ≤ nBins L.g ∧ p.2.length = p.1 ∧ p.2.Nodup) ∧
      st = { env := [(1, .func (.func f) [.agg (laidC L)] []), (2, .ptr 2 0), (5, .bsl 17 0 1 (nBins L.g)), (18, .bsl 17 0 1 (nBins L.g)), (19, I (nBins L.g : Nat)), (20, I (p.1 : Nat))], bx := [(17, ⟨rowsB L.g.cls.length p.2 (nBins L.g - p.1), false⟩), (2, ⟨laidC L, false⟩)], rw := [], log := encA (arn p.2 ((List.range p.1).map (cntRow L.g.cls.length []))), stp := false }) (fun p => nBins L.g - p.1) (0, [])
    (Wk.leL (.cons rfl (.refl _) (.cons rfl (.refl _) (.cons rfl (.of_eq ?_) (.cons rfl (.of_eq ?_) (.cons rfl (VLe.i ?_) (.cons rfl (.refl _) .nil)))))) (.cons rfl ?_ (.cons rfl (LLe.refl _) .nil)) .nil (okRows rfl) rfl rfl) ⟨⟨by omega, rfl, List.Pairwise.nil⟩, rfl⟩ ?_
  · show V.bsl 17 0 1 (IntKind.wrap .i64 (L.g.a * L.g.d)).toNat = _
    rw [hab]; rfl
  · show V.bsl 17 0 1 (IntKind.wrap .i64 (L.g.a * L.g.d)).toNat = _
    rw [hab]; rfl
  · rw [hab]; rfl
  · show LLe (List.replicate (IntKind.wrap .i64 (L.g.a * L.g.d)).toNat [V.nils]).flatten _
    rw [hab]
    have e : (List.replicate (nBins L.g) [V.nils]).flatten = rowsB L.g.cls.length [] (nBins L.g - 0) := by simp [rowsB]
    rw [Int.toNat_natCast, e]; exact LLe.refl _
  rintro ⟨k, rbs⟩ st ⟨⟨hk, hlen, hnd⟩, rfl⟩
  simp only at hk hlen hnd
  have hlr : rbs.length = ((List.range k).map (cntRow L.g.cls.length [])).length := by simp [hlen]
  refine Tr.seqR rfl (by simp) (Tr.seqI rfl (fun h1 => ?_) (fun h1 => ?_))
  · have h1 : k < nBins L.g := by simpa using h1
    refine Tr.skipT (Tr.seq (Tr.block (Tr.seqR rfl (by simp) (Tr.reg ?_))))
    refine Steps.runN 6 rfl (by simp) (Steps.amkbox hA (N := L.g.cls.length) rfl (by simp) (by simp) (by omega) (by omega) (by omega) rfl fun b hb => ?_)
    rw [arn_keys hlr] at hb
    refine Steps.fin rfl (by simp [rowsB_len, hlen]; omega) (Tr.regR rfl (by simp) ?_)
    have ez : (List.replicate L.g.cls.length [I 0]).flatten = (cntRow L.g.cls.length [] k).map I := by
      have : cntRow L.g.cls.length [] k = List.replicate L.g.cls.length 0 := by
        refine List.ext_getElem (by simp [cntRow]) fun i h1 h2 => by simp [cntRow]
      rw [this]; simp
    have eA : arn (rbs ++ [b]) ((List.range (k + 1)).map (cntRow L.g.cls.length [])) = arn rbs ((List.range k).map (cntRow L.g.cls.length [])) ++ [(b, .cells ((cntRow L.g.cls.length [] k).map I))] := by
      rw [List.range_succ, List.map_append]; exact arn_snoc _ _ hlr
    have hnd2 : (rbs ++ [b]).Nodup := by
      rw [List.nodup_append]
      exact ⟨hnd, by simp, fun x hx y hy e => by rw [List.mem_singleton.1 hy] at e; exact hb (e ▸ hx)⟩
    refine ⟨(k + 1, rbs ++ [b]), _, Wk.trans (Wk.leL (env := [(1, .func (.func f) [.agg (laidC L)] []), (2, .ptr 2 0), (5, .bsl 17 0 1 (nBins L.g)), (18, .bsl 17 0 1 (nBins L.g)), (19, I (nBins L.g : Nat)), (20, I ((k + 1 : Nat) : Int))]) (bx := [(17, ⟨rowsB L.g.cls.length (rbs ++ [b]) (nBins L.g - (k + 1)), false⟩), (2, ⟨laidC L, false⟩)]) (rw := [])
        (.cons rfl (.refl _) (.cons rfl (.refl _) (.cons rfl (.refl _) (.cons rfl (.refl _) (.cons rfl (.refl _) (.cons rfl (VLe.i (w64 (by omega) (by omega))) .nil)))))) (.cons rfl ?_ (.cons rfl (LLe.refl _) .nil)) .nil (okRows rfl) rfl rfl) (Wk.keep hA (B := arn (rbs ++ [b]) ((List.range (k + 1)).map (cntRow L.g.cls.length []))) rfl ?_ ?_), ⟨⟨by simp only; omega, by simp [hlen], hnd2⟩, rfl⟩, by simp only; omega⟩
    · have e1 : nBins L.g - k = (nBins L.g - (k + 1)) + 1 := by omega
      have e2 : (0 : Nat) + ((k : Nat) : Int).toNat * 1 = rbs.length := by simp [hlen]
      show LLe (splice (rowsB L.g.cls.length rbs (nBins L.g - k)) (0 + ((k : Nat) : Int).toNat * 1) [.sref b 0 L.g.cls.length L.g.cls.length]) _
      rw [e1, e2, splice_set (by rw [rowsB_len]; omega), rowsB_set]; exact LLe.refl _
    · intro p hp
      rw [eA] at hp
      rcases List.mem_append.1 hp with hp | hp
      · exact List.mem_cons_of_mem _ hp
      · rw [List.mem_singleton.1 hp, ez]; exact List.mem_cons_self
    · rw [arn_keys (by simp [hlen])]; exact hnd2
  have h1 : k = nBins L.g := by simp at h1; omega
  subst h1
  clear hlr
  refine Tr.exit ?_
  refine Tr.weak (s' := { env := [(1, .func (.func f) [.agg (laidC L)] []), (2, .ptr 2 0), (5, .bsl 17 0 1 rbs.length)], bx := [(17, ⟨rowsB L.g.cls.length rbs 0, false⟩), (2, ⟨laidC L, false⟩)], rw := [], log := encA (arn rbs (countL L.g (allH h 0))), stp := false })
    (Wk.leL (.cons rfl (.refl _) (.cons rfl (.refl _) (.cons rfl (.of_eq (by rw [hlen])) .nil))) (.cons rfl (by rw [Nat.sub_self]; exact LLe.refl _) (.cons rfl (LLe.refl _) .nil)) .nil (okRows rfl) rfl rfl) ?_
  refine Tr.weak (Wk.bsl (t := 5) rfl rfl (rowsB_holds _ _)) ?_
  refine Tr.seq (Tr.seqR rfl (by simp) (Tr.block ?_))
  refine Tr.loop (fun (k : Nat) st => k ≤ L.traces.length ∧ st = { env := [(1, .func (.func f) [.agg (laidC L)] []), (2, .ptr 2 0), (5, .slice 0 1 (rbs.map fun b => V.sref b 0 L.g.cls.length L.g.cls.length)), (33, sB L.traces), (34, I (L.traces.length : Nat)), (35, I (k : Nat))], bx := [(2, ⟨laidC L, false⟩)], rw := [], log := encA (arn rbs (countL L.g (allH h k))), stp := false }) (fun k => L.traces.length - k) 0
    (Wk.leL (.cons rfl (.refl _) (.cons rfl (.refl _) (.cons rfl (.refl _) (.cons rfl (.refl _) (.cons rfl (VLe.i (by simp)) (.cons rfl (.refl _) .nil)))))) (.cons rfl (LLe.refl _) .nil) .nil rfl rfl rfl) ⟨by omega, rfl⟩ ?_
  rintro k st ⟨hk, rfl⟩
  refine Tr.seqR rfl (by simp) (Tr.seqI rfl (fun h1 => ?_) (fun h1 => ?_))
  · have h1 : k < L.traces.length := by simpa using h1
    have hb := count_bd hL.t (fun t ht => (hr t ht).1) k hk
    have hr1 := hr k h1
    have hLt := hL.t
    refine Tr.skipT (Tr.seq (Tr.block (Tr.seqR rfl (by simp) (Tr.seqC rfl (by simp) (Steps.callv rfl rfl (hf k h1) (Steps.fin rfl (by simp) (Tr.block ?_)))))))
    refine Tr.loop (fun (j : Nat) st => j ≤ (h k).length ∧ st = { env := [(1, .func (.func f) [.agg (laidC L)] []), (2, .ptr 2 0), (5, .slice 0 1 (rbs.map fun b => V.sref b 0 L.g.cls.length L.g.cls.length)), (33, sB L.traces), (34, I (L.traces.length : Nat)), (35, I (k : Nat)), (40, sB (h k)), (41, I ((h k).length : Nat)), (42, I (j : Nat))], bx := [(2, ⟨laidC L, false⟩)], rw := [], log := encA (arn rbs (countL L.g (allH h k ++ (h k).take j))), stp := false }) (fun j => (h k).length - j) 0
      (Wk.leL (.cons rfl (.refl _) (.cons rfl (.refl _) (.cons rfl (.refl _) (.cons rfl (.refl _) (.cons rfl (.refl _) (.cons rfl (.refl _) (.cons rfl (.refl _) (.cons rfl (VLe.i (by simp)) (.cons rfl (.refl _) .nil))))))))) (.cons rfl (LLe.refl _) .nil) .nil rfl rfl (by show encA (arn rbs (countL L.g (allH h k))) = _; rw [List.take_zero, List.append_nil])) ⟨by omega, rfl⟩ ?_
    rintro j st ⟨hj, rfl⟩
    refine Tr.seqR rfl (by simp) (Tr.seqI rfl (fun h2 => ?_) (fun h2 => ?_))
    · have h2 : j < (h k).length := by simpa using h2
      refine Tr.skipT (Tr.seq (Tr.block (Tr.seq (Tr.reg (Steps.runN 1 rfl (by simp; omega) ?_)))))
      rw [getD_map h2]
      refine Steps.fin rfl (by simp) ?_
      refine Tr.seq (Tr.reg (Steps.runN 1 rfl (by simp) (Steps.gload (g := 0) (cs := [I (-1), I (-1)]) (by simp [globalsV]) rfl (by simp) (Steps.fin rfl (by simp) ?_))))
      have hmem := List.getElem_mem h2
      have eT : (h k).take (j + 1) = (h k).take j ++ [(h k)[j]] := by rw [List.take_add_one, List.getElem?_eq_getElem h2]; rfl
      obtain ⟨c, hc⟩ : ∃ c, (h k)[j] = c := ⟨_, rfl⟩
      rw [hc] at hmem eT ⊢
      rcases hr1.2 c hmem with rfl | hin
      · refine Tr.condF rfl (Tr.skip (Tr.regR rfl (by simp) ?_))
        exact ⟨j + 1, _, Wk.leL (.cons rfl (.refl _) (.cons rfl (.refl _) (.cons rfl (.refl _) (.cons rfl (.refl _) (.cons rfl (.refl _) (.cons rfl (.refl _) (.cons rfl (.refl _) (.cons rfl (.refl _) (.cons rfl (VLe.i (w64 (by omega) (by omega))) .nil))))))))) (.cons rfl (LLe.refl _) .nil) .nil rfl rfl (by rw [eT, ← List.append_assoc, countL_none]; rfl), ⟨by omega, rfl⟩, by omega⟩
      · obtain ⟨b, q, rfl, hbb, hq⟩ := inG_nat hL.g hin
        have hbl : b < rbs.length := by omega
        obtain ⟨P, hP⟩ : ∃ P, allH h k ++ (h k).take j = P := ⟨_, rfl⟩
        have hPl : P.length ≤ 300000 := by
          have h3 : ((h k).take j).length ≤ 4096 := by simp; omega
          rw [← hP, List.length_append]; omega
        obtain ⟨n0, hn0⟩ : ∃ n0, P.count ((b : Int), (q : Int)) = n0 := ⟨_, rfl⟩
        have hn1 : n0 ≤ 300000 := by rw [← hn0]; exact Nat.le_trans List.count_le_length hPl
        have hcl2 := countL_len L.g P
        have hrow := countL_get (P := P) hbb
        have hcell : ((cntRow L.g.cls.length P b).map I)[q]? = some (I n0) := by rw [List.getElem?_map, cntRow_get hq, hn0]; rfl
        have hrb : rbs[b]? = some rbs[b] := List.getElem?_eq_getElem hbl
        have hmA := arn_mem (rbs := rbs) hrb hrow
        rw [hP]
        refine Tr.condT rfl ?_
        refine Tr.drawK (TraceK.runN 4 rfl (by simp; omega) ?_)
        rw [getD_map hbl]
        refine TraceK.runN 3 rfl (by simp) (.done ⟨by kernel_rfl, by kernel_rfl, ?_⟩)
        refine Steps.sidx (blk := rbs[b]) (off := 0) (j := q) rfl rfl hq ?_
        refine Steps.aload hA (v := I n0) rfl rfl hmA (by simpa using hcell) (Steps.runN 1 rfl (by simp) ?_)
        refine Steps.sidx (blk := rbs[b]) (off := 0) (j := q) rfl rfl hq ?_
        refine Steps.astore hA rfl rfl hmA (by simp [cntRow_len]; omega) rfl rfl (Steps.fin rfl (by simp) ?_)
        have eL : setA (arn rbs (countL L.g P)) rbs[b] (.cells (((cntRow L.g.cls.length P b).map I).set (0 + q * 1) (I (IntKind.wrap .i64 ((n0 : Int) + 1))))) = arn rbs (countL L.g (P ++ [((b : Int), (q : Int))])) := by
          rw [countL_on hbb hq, hn0, w64 (by omega) (by omega), ← arn_set _ hnd (by rw [hcl2, hlen]) hrb, List.map_set, Nat.zero_add, Nat.mul_one]
        refine Tr.regR rfl (by simp) ?_
        exact ⟨j + 1, _, Wk.leL (.cons rfl (.refl _) (.cons rfl (.refl _) (.cons rfl (.refl _) (.cons rfl (.refl _) (.cons rfl (.refl _) (.cons rfl (.refl _) (.cons rfl (.refl _) (.cons rfl (.refl _) (.cons rfl (VLe.i (w64 (by omega) (by omega))) .nil))))))))) (.cons rfl (LLe.refl _) .nil) .nil rfl rfl (by rw [eT, ← List.append_assoc, hP, ← eL]; rfl), ⟨by omega, rfl⟩, by omega⟩
    · have h2 : j = (h k).length := by simp at h2; omega
      subst h2
      refine Tr.exit (Tr.regR rfl (by simp) ?_)
      exact ⟨k + 1, _, Wk.leL (.cons rfl (.refl _) (.cons rfl (.refl _) (.cons rfl (.refl _) (.cons rfl (.refl _) (.cons rfl (.refl _) (.cons rfl (VLe.i (w64 (by omega) (by omega))) .nil)))))) (.cons rfl (LLe.refl _) .nil) .nil rfl rfl (by rw [allH_succ, List.take_length]; rfl), ⟨by omega, rfl⟩, by omega⟩
  · have h1 : k = L.traces.length := by simp at h1; omega
    subst h1
    refine Tr.exit (Tr.seqR rfl (by simp) ?_)
    obtain ⟨s', w1, g1, g2, g3, g4⟩ := closeRows hA (t := 4) (m := L.g.cls.length) rbs (countL L.g (allH h L.traces.length)) [] { env := [(4, .slice 0 1 (srefs L.g.cls.length rbs))], bx := [], rw := [], log := encA (arn rbs (countL L.g (allH h L.traces.length))), stp := false } hnd (by rw [countL_len, hlen])
      (fun r hr => by obtain ⟨b, _, rfl⟩ := List.mem_map.1 hr; exact cntRow_len _ _ _) (by simp) rfl rfl
    have w2 := Wk.leL (E := (env0 Tryz.prog mixed 63 S ok).withA [] false) (s := s') (env := [(4, foldV (cntN L h))]) (bx := []) (rw := []) (.cons g1 (.of_eq rfl) .nil) .nil .nil rfl rfl g2
    refine Tr.weak (s' := { env := [(4, .slice 0 1 (srefs L.g.cls.length rbs))], bx := [], rw := [], log := encA (arn rbs (countL L.g (allH h L.traces.length))), stp := false }) (Wk.le (.cons rfl (.refl _) .nil) .nil .nil rfl rfl) ?_
    refine Tr.weak (w1.trans w2) ?_
    exact Tr.ret ⟨trivial, _, _, _, resVs_ok rfl, rfl, rfl⟩

end Go.Proofs.YtdejdblopmfjfaaGreatDoor


/-! Contracts: Hits, Fold. -/
set_option linter.unusedVariables false
set_option linter.unusedSimpArgs false
set_option maxRecDepth 40000
set_option maxHeartbeats 4000000
namespace Go.Proofs.YtdejdblopmfjfaaGreatDoor
open Go.Am
attribute [local simp] cells scalar mkv splice under2 under dem dem1 eB gridC sB laidC fourC eF layC
theorem mem_ptsN {x : Int} {q : Int × Int} : ∀ (n : Nat) (y : Int), q ∈ ptsN x n y ↔ q.1 = x ∧ y ≤ q.2 ∧ q.2 < y + n
  | 0, y => by simp [ptsN]
  | n + 1, y => by
    rw [ptsN, List.mem_cons, mem_ptsN n (y + 1)]
    constructor
    · rintro (rfl | ⟨h1, h2, h3⟩)
      · simp; omega
      · refine ⟨h1, ?_, ?_⟩ <;> push_cast <;> omega
    · rintro ⟨h1, h2, h3⟩
      push_cast at h3
      by_cases h : q.2 = y
      · exact .inl (Prod.ext h1 h)
      · exact .inr ⟨h1, by omega, by omega⟩

theorem mem_rowsN {f : Fr} {q : Int × Int} : ∀ (n : Nat) (x : Int), q ∈ (rowsN f n x).flatMap colP ↔ (x ≤ q.1 ∧ q.1 < x + n) ∧ lowY f q.1 ≤ q.2 ∧ q.2 ≤ highY f q.1
  | 0, x => by simp [rowsN]; omega
  | n + 1, x => by
    rw [rowsN_flat, List.mem_append, mem_rowsN n (x + 1)]
    unfold colAt
    rw [mem_ptsN]
    constructor
    · rintro (⟨h1, h2, h3⟩ | ⟨⟨h1, h2⟩, h3⟩)
      · subst h1
        refine ⟨⟨by omega, by push_cast; omega⟩, by omega, by omega⟩
      · exact ⟨⟨by omega, by push_cast; omega⟩, h3⟩
    · rintro ⟨⟨h1, h2⟩, h3, h4⟩
      push_cast at h2
      by_cases h : q.1 = x
      · subst h; exact .inl ⟨rfl, by omega, by omega⟩
      · exact .inr ⟨⟨by omega, by omega⟩, h3, h4⟩

theorem mem_placesL {f : Fr} {q : Int × Int} : q ∈ placesL f ↔ (f.x.1 ≤ q.1 ∧ q.1 ≤ f.x.2) ∧ lowY f q.1 ≤ q.2 ∧ q.2 ≤ highY f q.1 := by
  unfold placesL rowsL
  rw [mem_rowsN]
  constructor
  · rintro ⟨⟨h1, h2⟩, h3⟩; exact ⟨⟨h1, by omega⟩, h3⟩
  · rintro ⟨⟨h1, h2⟩, h3⟩; exact ⟨⟨h1, by omega⟩, h3⟩

theorem node_plane {f : Fr} (h : nodeOk f = true) {q : Int × Int} (hq : q ∈ placesL f) : planeB q = true := by
  simp only [nodeOk, Bool.and_eq_true, fitFB, fitBB, decide_eq_true_eq] at h
  have := mem_placesL.1 hq
  simp only [planeB, Bool.and_eq_true, btw_iff]
  unfold lowY highY at this
  omega

theorem lay_ok {g : Gd} {s : Ly} (hg : gridOk g = true) (hs : layOk s = true) : LdOk (layD g s) := by
  obtain ⟨⟨h1, h2⟩, h3, h4⟩ := layOk_spec hs
  refine ⟨hg, by simpa [layD] using h1, h2, fun l hl => ?_, fun t ht => ?_⟩
  · obtain ⟨f, hf, rfl⟩ := List.mem_map.1 hl
    have hn := h3 f hf
    have hn2 := hn
    simp only [nodeOk, Bool.and_eq_true, btw_iff] at hn2
    have := count_len (mid_of hn2.1)
    exact ⟨⟨by omega, by omega⟩, fun q hq => node_plane hn hq⟩
  · have := h4 t ht
    simp only [traceOk, Bool.and_eq_true, btw_iff] at this
    refine ⟨t.1.toNat, t.2.toNat, Prod.ext (by simp; omega) (by simp; omega), ?_, ?_⟩ <;> simp [layD] <;> omega

theorem hits_in {L : Ld} (hL : LdOk L) {t : Nat} (ht : t < L.traces.length) : (hitsT L t).length ≤ 4096 ∧ ∀ c ∈ hitsT L t, c = noneC ∨ inG L.g c := by
  obtain ⟨i, j, hij, hi, hj⟩ := hL.tr _ (List.getElem_mem ht)
  have hT : hitsT L t = hitsL L.g L.places[i] L.places[j] := by
    unfold hitsT pl
    have e : L.traces.getD t (0, 0) = ((i : Int), (j : Int)) := by simp [ht, hij]
    rw [e]
    simp [hi, hj]
  have hpi := (hL.p _ (List.getElem_mem hi)).1
  have hpj := (hL.p _ (List.getElem_mem hj)).1
  rw [hT]
  refine ⟨?_, fun c hc => ?_⟩
  · have n1 : (hitsL L.g L.places[i] L.places[j]).Nodup := by
      unfold List.Nodup hitsL
      exact (hitsOf_sorted _).imp fun {a b} h (e : a = b) => befC_irrefl (by rw [e] at h; exact h)
    have := n1.length_le_of_subset (l₂ := (pairsL L.places[i] L.places[j]).map (cellP L.g)) fun x hx => mem_hitsOf.1 hx
    rw [List.length_map, pairs_len] at this
    have h2 : L.places[i].length * L.places[j].length ≤ 64 * 64 := Nat.mul_le_mul (by omega) (by omega)
    omega
  · obtain ⟨p, _, rfl⟩ := List.mem_map.1 (mem_hitsOf.1 hc)
    exact cell_in hL.g p.1 p.2

theorem sureL_sub {l : List (Int × Int)} : (∀ c ∈ sureL l, c ∈ l ∧ c ≠ noneC) ∧ (sureL l).length ≤ l.length ∧ (sureL l).length ≤ 1 := by
  rcases l with _ | ⟨c, _ | ⟨d, r⟩⟩
  · simp [sureL]
  · simp only [sureL]
    split <;> simp_all
  · simp [sureL]

theorem sure_in {L : Ld} (hL : LdOk L) {t : Nat} (ht : t < L.traces.length) : (sureT L t).length ≤ 4096 ∧ ∀ c ∈ sureT L t, c = noneC ∨ inG L.g c := by
  obtain ⟨h1, h2⟩ := hits_in hL ht
  have h3 := sureL_sub (l := hitsT L t)
  exact ⟨by unfold sureT; omega, fun c hc => h2 c (h3.1 c hc).1⟩

theorem c_countS {L : Ld} (hL : LdOk L) : C Tryz.prog F.bin_laid_count [.agg (laidC L), .func (.func F.bin_laid_surely) [.agg (laidC L)] []] (foldV (cntN L (sureT L))) :=
  c_count hL (fun t ht => c_surely hL ht) fun t ht => sure_in hL ht
theorem c_countM {L : Ld} (hL : LdOk L) : C Tryz.prog F.bin_laid_count [.agg (laidC L), .func (.func F.bin_laid_hits) [.agg (laidC L)] []] (foldV (cntN L (hitsT L))) :=
  c_count hL (fun t ht => c_hits hL ht) fun t ht => hits_in hL ht

/-! ### Hits -/
def HitsR (g : Gd) (s : Ly) (t : Int) : V := if gridOk g then (if layOk s then (if btw t 0 ((s.traces.length : Int) - 1) then .tuple [sB (hitsT (layD g s) t.toNat), I 0] else .tuple [sB [], I 72]) else .tuple [sB [], I 71]) else .tuple [sB [], I 70]

theorem c_Hits {g : Gd} {s : Ly} (hl : g.cls.length ≤ 9223372036854775807) (hn : s.nodes.length ≤ 9223372036854775807) (ht : s.traces.length ≤ 9223372036854775807) (t : Int) : C Tryz.prog F.bin_Hits [.agg (gridC g), .agg (layC s), I t] (HitsR g s t) := by
  have kb := c_begun hl hn ht
  unfold HitsR
  refine C_of mixed chk.bin_Hits (by simp) fun S ok => ?_
  refine Tr.seqR rfl (by simp) ?_
  by_cases hg : gridOk g = true
  rotate_left
  · rw [if_neg hg] at kb ⊢
    refine Tr.seqC rfl (by simp) (Steps.call rfl rfl kb (Steps.fin rfl (by simp) (Tr.seq (Tr.seqR rfl (by simp) (Tr.condT rfl (Tr.seqR rfl (by simp) ?_))))))
    refine Tr.weak (s' := { env := [(6, .slice 0 2 []), (7, I 70)], bx := [], rw := [], log := [], stp := false }) (Wk.le (.cons rfl (.nil 0 2) (.cons rfl (.refl _) .nil)) .nil .nil rfl rfl) ?_
    exact Tr.retX rfl rfl rfl rfl trivial
  rw [if_pos hg] at kb ⊢
  by_cases hs : layOk s = true
  rotate_left
  · rw [if_neg hs] at kb ⊢
    refine Tr.seqC rfl (by simp) (Steps.call rfl rfl kb (Steps.fin rfl (by simp) (Tr.seq (Tr.seqR rfl (by simp) (Tr.condT rfl (Tr.seqR rfl (by simp) ?_))))))
    refine Tr.weak (s' := { env := [(6, .slice 0 2 []), (7, I 71)], bx := [], rw := [], log := [], stp := false }) (Wk.le (.cons rfl (.nil 0 2) (.cons rfl (.refl _) .nil)) .nil .nil rfl rfl) ?_
    exact Tr.retX rfl rfl rfl rfl trivial
  rw [if_pos hs] at kb ⊢
  have hL := lay_ok hg hs
  have hts := (layOk_spec hs).1.2
  have hw : IntKind.wrap .i64 (((s.traces.map eB).length : Int) - 1) = (s.traces.length : Int) - 1 := by rw [List.length_map, w64 (by omega) (by omega)]
  refine Tr.seqC rfl (by simp) (Steps.call rfl rfl kb (Steps.fin rfl (by simp [laidC]) (Tr.seq (Tr.seqR rfl (by simp) (Tr.condF rfl (Tr.skip ?_))))))
  refine Tr.seq (Tr.seqC rfl (by simp) (Steps.call rfl rfl (c_within t 0 (IntKind.wrap .i64 (((s.traces.map eB).length : Int) - 1))) (Steps.fin rfl (by simp) ?_)))
  rw [hw]
  refine Tr.cond rfl rfl (fun h1 => Tr.seqR rfl (by simp) ?_) (fun h1 => Tr.skip ?_)
  · have h1 : btw t 0 ((s.traces.length : Int) - 1) = false := by simpa using h1
    refine Tr.weak (s' := { env := [(6, .slice 0 2 []), (7, I 72)], bx := [], rw := [], log := [], stp := false }) (Wk.le (.cons rfl (.nil 0 2) (.cons rfl (.refl _) .nil)) .nil .nil rfl rfl) ?_
    refine Tr.retX rfl rfl rfl ?_ trivial
    rw [h1]; rfl
  · have h1 : btw t 0 ((s.traces.length : Int) - 1) = true := by simpa using h1
    have h1' := h1
    rw [btw_iff] at h1'
    obtain ⟨n, rfl⟩ : ∃ n : Nat, t = n := ⟨t.toNat, by omega⟩
    refine Tr.seqC rfl (by simp [laidC, layD]) (Steps.call rfl rfl (c_hits hL (t := n) (by show n < s.traces.length; omega)) (Steps.fin rfl (by simp) (Tr.retX rfl rfl rfl ?_ trivial)))
    rw [h1]; rfl

/-! ### Fold -/
def FoldR (g : Gd) (s : Ly) : V := if gridOk g then (if layOk s then .tuple [foldV (cntN (layD g s) (sureT (layD g s))), foldV (cntN (layD g s) (hitsT (layD g s))), I 0] else .tuple [foldV [], foldV [], I 71]) else .tuple [foldV [], foldV [], I 70]

theorem c_Fold {g : Gd} {s : Ly} (hl : g.cls.length ≤ 9223372036854775807) (hn : s.nodes.length ≤ 9223372036854775807) (ht : s.traces.length ≤ 9223372036854775807) : C Tryz.prog F.bin_Fold [.agg (gridC g), .agg (layC s)] (FoldR g s) := by
  have kb := c_begun hl hn ht
  unfold FoldR
  refine C_of mixed chk.bin_Fold (by simp) fun S ok => ?_
  refine Tr.seqR rfl (by simp) ?_
  by_cases hg : gridOk g = true
  rotate_left
  · rw [if_neg hg] at kb ⊢
    refine Tr.seqC rfl (by simp) (Steps.call rfl rfl kb (Steps.fin rfl (by simp) (Tr.seq (Tr.seqR rfl (by simp) (Tr.condT rfl (Tr.seqR rfl (by simp) ?_))))))
    refine Tr.weak (s' := { env := [(4, .slice 0 1 []), (5, .slice 0 1 []), (6, I 70)], bx := [], rw := [], log := [], stp := false }) (Wk.le (.cons rfl (.nil 0 1) (.cons rfl (.nil 0 1) (.cons rfl (.refl _) .nil))) .nil .nil rfl rfl) ?_
    exact Tr.retX rfl rfl rfl rfl trivial
  rw [if_pos hg] at kb ⊢
  by_cases hs : layOk s = true
  rotate_left
  · rw [if_neg hs] at kb ⊢
    refine Tr.seqC rfl (by simp) (Steps.call rfl rfl kb (Steps.fin rfl (by simp) (Tr.seq (Tr.seqR rfl (by simp) (Tr.condT rfl (Tr.seqR rfl (by simp) ?_))))))
    refine Tr.weak (s' := { env := [(4, .slice 0 1 []), (5, .slice 0 1 []), (6, I 71)], bx := [], rw := [], log := [], stp := false }) (Wk.le (.cons rfl (.nil 0 1) (.cons rfl (.nil 0 1) (.cons rfl (.refl _) .nil))) .nil .nil rfl rfl) ?_
    exact Tr.retX rfl rfl rfl rfl trivial
  rw [if_pos hs] at kb ⊢
  have hL := lay_ok hg hs
  refine Tr.seqC rfl (by simp) (Steps.call rfl rfl kb (Steps.fin rfl (by simp [laidC]) (Tr.seq (Tr.seqR rfl (by simp) (Tr.condF rfl (Tr.skip ?_))))))
  refine Tr.seqD rfl (by simp [laidC, layD]) (by kernel_rfl) ?_
  refine Tr.seq (Tr.drawK (TraceK.run rfl (by simp [laidC, layD]) (TraceK.call rfl rfl (c_countS hL) (TraceK.run rfl (by simp [laidC, layD]) (TraceK.call rfl rfl (c_countM hL) (TraceK.run rfl (by simp) (.done ⟨by kernel_rfl, by kernel_rfl, ?_⟩)))))))
  exact Tr.retX rfl rfl rfl rfl trivial

end Go.Proofs.YtdejdblopmfjfaaGreatDoor


/-! Contracts: lacks, Lacks. -/
set_option linter.unusedVariables false
set_option linter.unusedSimpArgs false
set_option maxRecDepth 40000
set_option maxHeartbeats 4000000
namespace Go.Proofs.YtdejdblopmfjfaaGreatDoor
open Go.Am
attribute [local simp] cells scalar mkv splice under2 under dem dem1 eB gridC sB laidC fourC eF layC
def eL (x : Int × Int × Int) : V := .agg [I x.1, I x.2.1, I x.2.2]
attribute [local simp] eL
def lackAt (ns : List Int) (f : List (List Int)) (i k : Nat) : List (Int × Int × Int) := if at2 f i k < ns.getD k 0 then [((i : Int), (k : Int), ns.getD k 0 - at2 f i k)] else []
def lackRow (ns : List Int) (f : List (List Int)) (i j : Nat) : List (Int × Int × Int) := (List.range j).flatMap (lackAt ns f i)
def lackN (ns : List Int) (f : List (List Int)) (k : Nat) : List (Int × Int × Int) := (List.range k).flatMap fun i => lackRow ns f i ns.length
def lacksL (L : Ld) (ns : List Int) : List (Int × Int × Int) := lackN ns (cntN L (sureT L)) (cntN L (sureT L)).length
def sL (l : List (Int × Int × Int)) : V := .slice 0 3 (l.map eL)
attribute [local simp] sL
theorem lackRow_succ (ns : List Int) (f : List (List Int)) (i j : Nat) : lackRow ns f i (j + 1) = lackRow ns f i j ++ lackAt ns f i j := by
  unfold lackRow; rw [List.range_succ, List.flatMap_append]; simp
theorem lackN_succ (ns : List Int) (f : List (List Int)) (k : Nat) : lackN ns f (k + 1) = lackN ns f k ++ lackRow ns f k ns.length := by
  unfold lackN; rw [List.range_succ, List.flatMap_append]; simp
theorem lackRow_len (ns : List Int) (f : List (List Int)) (i : Nat) : ∀ j, (lackRow ns f i j).length ≤ j
  | 0 => by simp [lackRow]
  | j + 1 => by
    have := lackRow_len ns f i j
    have h2 : (lackAt ns f i j).length ≤ 1 := by unfold lackAt; split <;> simp
    rw [lackRow_succ, List.length_append]; omega
theorem lackN_len (ns : List Int) (f : List (List Int)) : ∀ k, (lackN ns f k).length ≤ k * ns.length
  | 0 => by simp [lackN]
  | k + 1 => by
    have := lackN_len ns f k
    have h2 := lackRow_len ns f k ns.length
    rw [lackN_succ, List.length_append, Nat.add_mul]; omega

theorem at2_get {f : List (List Int)} {i k : Nat} (h : i < f.length) (h2 : k < f[i].length) : at2 f i k = f[i][k] := by
  unfold at2; simp [h, h2]
theorem cntN_nat (L : Ld) (h : Nat → List (Int × Int)) (i k : Nat) : ∃ n : Nat, at2 (cntN L h) i k = n := by
  unfold at2 cntN
  simp only [List.getD_eq_getElem?_getD]
  by_cases hi : i < nBins L.g
  · rw [countL_get hi, Option.getD_some]
    by_cases hk : k < L.g.cls.length
    · rw [cntRow_get hk]; exact ⟨_, rfl⟩
    · rw [List.getElem?_eq_none (by rw [cntRow_len]; omega)]; exact ⟨0, rfl⟩
  · rw [List.getElem?_eq_none (l := countL L.g (allH h L.traces.length)) (by rw [countL_len]; omega)]; exact ⟨0, rfl⟩
theorem cntN_len (L : Ld) (h : Nat → List (Int × Int)) : (cntN L h).length = nBins L.g := countL_len _ _
theorem cntN_row {L : Ld} {h : Nat → List (Int × Int)} {i : Nat} (hi : i < (cntN L h).length) : ((cntN L h)[i]).length = L.g.cls.length := by
  have h1 : i < nBins L.g := by rw [cntN_len] at hi; exact hi
  have h2 : (cntN L h)[i]? = some (cntRow L.g.cls.length (allH h L.traces.length) i) := countL_get h1
  rw [List.getElem?_eq_getElem hi] at h2
  rw [Option.some.inj h2, cntRow_len]

theorem needOk_spec {g : Gd} {ns : List Int} (h : needOk g ns = true) : ns.length = g.cls.length ∧ ∀ n ∈ ns, 0 ≤ n ∧ n ≤ 100 := by
  simp only [needOk, Bool.and_eq_true, decide_eq_true_eq, Bool.not_eq_true', List.any_eq_false, Bool.not_eq_true, Bool.not_eq_false', btw_iff] at h
  exact ⟨h.1, fun n hn => by have := h.2 n hn; simpa [btw_iff] using this⟩

theorem c_lacks {L : Ld} (hL : LdOk L) {ns : List Int} (hn : needOk L.g ns = true) : C Tryz.prog F.bin_laid_lacks [.agg (laidC L), intsV ns] (sL (lacksL L ns)) := by
  obtain ⟨hnl, hnb⟩ := needOk_spec hn
  obtain ⟨_, hsz, hga, hgd, hcl, _⟩ := gridOk_spec hL.g
  have nb := nBins_eq hL.g
  have kc := c_countS hL
  have hat := cntN_nat L (sureT L)
  have hfl := cntN_len L (sureT L)
  have hfr := fun i hi => cntN_row (L := L) (h := sureT L) (i := i) hi
  unfold lacksL
  generalize cntN L (sureT L) = f at kc hat hfl hfr ⊢
  refine C_of mixed chk.bin_laid_lacks (by simp) fun S ok => ?_
  refine Tr.seqR rfl (by simp [laidC]) (Tr.seqR rfl (by simp) ?_)
  refine Tr.seq (Tr.seqC rfl (by simp [laidC]) (Steps.call rfl rfl kc (Steps.fin rfl (by simp [foldV]) (Tr.block ?_))))
  refine Tr.loop (α := Nat × List (Int × Int × Int)) (fun p st => (p.1 ≤ f.length ∧ p.2 = lackN ns f p.1) ∧ st = { env := [(1, intsV ns), (5, .slice 45 3 (p.2.map eL)), (13, foldV f), (14, I (f.length : Nat)), (15, I (p.1 : Nat))], bx := [], rw := [(44, p.2.length, 3, 117)], log := [], stp := false }) (fun p => f.length - p.1) (0, [])
    (Wk.le (.cons rfl (.refl _) (.cons rfl (.nil 45 3) (.cons rfl (.refl _) (.cons rfl (VLe.i (by simp)) (.cons rfl (.refl _) .nil))))) .nil (.new rfl .nil) rfl rfl) ⟨⟨by omega, rfl⟩, rfl⟩ ?_
  rintro ⟨i, out⟩ st ⟨⟨hi, ho⟩, rfl⟩
  simp only at hi ho
  refine Tr.seqR rfl (by simp) (Tr.seqI rfl (fun h1 => ?_) (fun h1 => ?_))
  · have h1 : i < f.length := by simpa using h1
    have hri := hfr i h1
    refine Tr.skipT (Tr.seq (Tr.block (Tr.seq (Tr.reg (Steps.runN 2 rfl (by simp [foldV]; omega) ?_)))))
    rw [getD_map h1]
    refine Steps.fin rfl (by simp [intsV]) ?_
    refine Tr.seqR rfl (by simp [intsV]) (Tr.block ?_)
    refine Tr.loop (α := Nat × List (Int × Int × Int)) (fun p st => (p.1 ≤ f[i].length ∧ p.2 = lackN ns f i ++ lackRow ns f i p.1) ∧ st = { env := [(1, intsV ns), (5, .slice 45 3 (p.2.map eL)), (6, I (i : Nat)), (13, foldV f), (14, I (f.length : Nat)), (15, I (i : Nat)), (20, intsV f[i]), (21, I (f[i].length : Nat)), (22, I (p.1 : Nat))], bx := [], rw := [(44, p.2.length, 3, 117)], log := [], stp := false }) (fun p => f[i].length - p.1) (0, out)
      (Wk.le (.cons rfl (.refl _) (.cons rfl (.refl _) (.cons rfl (.refl _) (.cons rfl (.refl _) (.cons rfl (.refl _) (.cons rfl (.refl _) (.cons rfl (.refl _) (.cons rfl (VLe.i (by show ((f[i].map I).length : Int) = (f[i].length : Int); rw [List.length_map])) (.cons rfl (.refl _) .nil))))))))) .nil (.cons rfl .nil) rfl rfl) ⟨⟨by omega, by simp [lackRow, ho]⟩, rfl⟩ ?_
    rintro ⟨j, o2⟩ st ⟨⟨hj, ho2⟩, rfl⟩
    simp only at hj ho2
    refine Tr.seqR rfl (by simp) (Tr.seqI rfl (fun h2 => ?_) (fun h2 => ?_))
    · have h2 : j < f[i].length := by simpa using h2
      have h3 : j < ns.length := by omega
      have hlen : o2.length ≤ 2000 := by
        have e1 := lackN_len ns f i
        have e2 := lackRow_len ns f i j
        have e3 : i * ns.length ≤ 256 * 4 := Nat.mul_le_mul (by omega) (by omega)
        rw [ho2, List.length_append]; omega
      obtain ⟨m, hm⟩ := hat i j
      have hm2 := hm
      rw [at2_get h1 h2] at hm
      have hnj := hnb _ (List.getElem_mem h3)
      have hgd : ns.getD j 0 = ns[j] := by simp [h3]
      refine Tr.skipT (Tr.seq (Tr.block (Tr.seq (Tr.reg (Steps.runN 2 rfl (by simp [intsV]; omega) ?_)))))
      rw [getD_map h2, hm]
      refine Steps.fin rfl (by simp) ?_
      refine Tr.seq (Tr.reg (Steps.runN 4 rfl (by simp [intsV]; omega) ?_))
      rw [getD_map h3]
      refine Steps.fin rfl (by simp) (Tr.cond rfl rfl (fun h4 => ?_) (fun h4 => Tr.skip ?_))
      · have h4 : (m : Int) < ns[j] := by simpa using h4
        refine Tr.reg (Steps.runN 6 rfl (by simp [intsV]; omega) ?_)
        rw [getD_map h3]
        refine Steps.fin rfl (by simp; omega) (Tr.regR rfl (by simp) ?_)
        have eA : lackRow ns f i (j + 1) = lackRow ns f i j ++ [((i : Int), (j : Int), ns[j] - m)] := by
          rw [lackRow_succ]; unfold lackAt; rw [hm2, hgd, if_pos h4]
        have ew : IntKind.wrap .i64 (ns[j] - m) = ns[j] - m := w64 (by omega) (by omega)
        refine ⟨(j + 1, o2 ++ [((i : Int), (j : Int), ns[j] - m)]), _, Wk.le (.cons rfl (.refl _) (.cons rfl (.of_eq ?_) (.cons rfl (.refl _) (.cons rfl (.refl _) (.cons rfl (.refl _) (.cons rfl (.refl _) (.cons rfl (.refl _) (.cons rfl (.refl _) (.cons rfl (VLe.i (w64 (by omega) (by omega))) .nil))))))))) .nil (.cons ?_ .nil) rfl rfl, ⟨⟨by simp only; omega, by simp only; rw [eA, ho2, List.append_assoc]⟩, rfl⟩, by simp only; omega⟩
        · simp [ew]
        · show some _ = some _
          simp
      · have h4 : ¬ (m : Int) < ns[j] := by simpa using h4
        refine Tr.regR rfl (by simp) ?_
        have eA : lackRow ns f i (j + 1) = lackRow ns f i j := by
          rw [lackRow_succ]; unfold lackAt; rw [hm2, hgd, if_neg h4, List.append_nil]
        exact ⟨(j + 1, o2), _, Wk.le (.cons rfl (.refl _) (.cons rfl (.refl _) (.cons rfl (.refl _) (.cons rfl (.refl _) (.cons rfl (.refl _) (.cons rfl (.refl _) (.cons rfl (.refl _) (.cons rfl (.refl _) (.cons rfl (VLe.i (w64 (by omega) (by omega))) .nil))))))))) .nil (.cons rfl .nil) rfl rfl, ⟨⟨by simp only; omega, by simp only; rw [eA, ho2]⟩, rfl⟩, by simp only; omega⟩
    · have h2 : j = f[i].length := by simp at h2; omega
      refine Tr.exit (Tr.regR rfl (by simp) ?_)
      exact ⟨(i + 1, o2), _, Wk.le (.cons rfl (.refl _) (.cons rfl (.refl _) (.cons rfl (.refl _) (.cons rfl (.refl _) (.cons rfl (VLe.i (w64 (by omega) (by omega))) .nil))))) .nil (.cons rfl .nil) rfl rfl, ⟨⟨by simp only; omega, by simp only; rw [ho2, lackN_succ, h2, hri, hnl]⟩, rfl⟩, by simp only; omega⟩
  · have h1 : i = f.length := by simp at h1; omega
    refine Tr.exit (Tr.seqR rfl (by simp) (Tr.retX rfl rfl rfl ?_ trivial))
    rw [← h1, ← ho]; rfl

def LacksR (g : Gd) (s : Ly) (ns : List Int) : V := if gridOk g then (if layOk s then (if needOk g ns then .tuple [sL (lacksL (layD g s) ns), I 0] else .tuple [sL [], I 73]) else .tuple [sL [], I 71]) else .tuple [sL [], I 70]

theorem c_Lacks {g : Gd} {s : Ly} (hl : g.cls.length ≤ 9223372036854775807) (hn : s.nodes.length ≤ 9223372036854775807) (ht : s.traces.length ≤ 9223372036854775807) {ns : List Int} (hns : ns.length ≤ 9223372036854775807) : C Tryz.prog F.bin_Lacks [.agg (gridC g), .agg (layC s), intsV ns] (LacksR g s ns) := by
  have kb := c_begun hl hn ht
  unfold LacksR
  refine C_of mixed chk.bin_Lacks (by simp) fun S ok => ?_
  refine Tr.seqR rfl (by simp) ?_
  by_cases hg : gridOk g = true
  rotate_left
  · rw [if_neg hg] at kb ⊢
    refine Tr.seqC rfl (by simp) (Steps.call rfl rfl kb (Steps.fin rfl (by simp) (Tr.seq (Tr.seqR rfl (by simp) (Tr.condT rfl (Tr.seqR rfl (by simp) ?_))))))
    refine Tr.weak (s' := { env := [(6, .slice 0 3 []), (7, I 70)], bx := [], rw := [], log := [], stp := false }) (Wk.le (.cons rfl (.nil 0 3) (.cons rfl (.refl _) .nil)) .nil .nil rfl rfl) ?_
    exact Tr.retX rfl rfl rfl rfl trivial
  rw [if_pos hg] at kb ⊢
  by_cases hs : layOk s = true
  rotate_left
  · rw [if_neg hs] at kb ⊢
    refine Tr.seqC rfl (by simp) (Steps.call rfl rfl kb (Steps.fin rfl (by simp) (Tr.seq (Tr.seqR rfl (by simp) (Tr.condT rfl (Tr.seqR rfl (by simp) ?_))))))
    refine Tr.weak (s' := { env := [(6, .slice 0 3 []), (7, I 71)], bx := [], rw := [], log := [], stp := false }) (Wk.le (.cons rfl (.nil 0 3) (.cons rfl (.refl _) .nil)) .nil .nil rfl rfl) ?_
    exact Tr.retX rfl rfl rfl rfl trivial
  rw [if_pos hs] at kb ⊢
  have hL := lay_ok hg hs
  refine Tr.seqC rfl (by simp) (Steps.call rfl rfl kb (Steps.fin rfl (by simp [laidC]) (Tr.seq (Tr.seqR rfl (by simp) (Tr.condF rfl (Tr.skip ?_))))))
  refine Tr.seq (Tr.seqC rfl (by simp) (Steps.call rfl rfl (c_needed (g := g) hns) (Steps.fin rfl (by simp) ?_)))
  refine Tr.cond rfl rfl (fun h1 => Tr.seqR rfl (by simp) ?_) (fun h1 => Tr.skip ?_)
  · have h1 : needOk g ns = false := by simpa using h1
    refine Tr.weak (s' := { env := [(6, .slice 0 3 []), (7, I 73)], bx := [], rw := [], log := [], stp := false }) (Wk.le (.cons rfl (.nil 0 3) (.cons rfl (.refl _) .nil)) .nil .nil rfl rfl) ?_
    refine Tr.retX rfl rfl rfl ?_ trivial
    rw [h1]; rfl
  · have h1 : needOk g ns = true := by simpa using h1
    refine Tr.seqC rfl (by simp [laidC, layD]) (Steps.call rfl rfl (c_lacks hL h1) (Steps.fin rfl (by simp) (Tr.retX rfl rfl rfl ?_ trivial)))
    rw [h1]; rfl

end Go.Proofs.YtdejdblopmfjfaaGreatDoor


/-! Contracts: sure, Gain. -/
set_option linter.unusedVariables false
set_option linter.unusedSimpArgs false
set_option maxRecDepth 40000
set_option maxHeartbeats 4000000
namespace Go.Proofs.YtdejdblopmfjfaaGreatDoor
open Go.Am
attribute [local simp] cells scalar mkv splice under2 under dem dem1 eB gridC sB laidC fourC eF layC
def sureC (L : Ld) : Nat := (allH (sureT L) L.traces.length).length
def knownL (L : Ld) (i : Nat) (p : Int × Int) : Ld := { L with places := L.places.set i [p] }
def leastStep (acc n : Int) : Int := if acc < 0 ∨ n < acc then n else acc
def leastL (l : List Int) : Int := l.foldl leastStep (-1)
def gainL (L : Ld) (i : Nat) : Int := leastL ((pl L i).map fun p => (sureC (knownL L i p) : Int)) - sureC L

theorem sure_bd {L : Ld} (hn : L.traces.length ≤ 64) : ∀ k ≤ L.traces.length, (allH (sureT L) k).length ≤ k
  | 0, _ => by simp [allH]
  | k + 1, hk => by
    have := sure_bd hn k (by omega)
    have h2 := (sureL_sub (l := hitsT L k)).2.2
    rw [allH_succ, List.length_append]
    unfold sureT at *; omega

theorem c_sure {L : Ld} (hL : LdOk L) : C Tryz.prog F.bin_laid_sure [.agg (laidC L)] (I (sureC L : Nat)) := by
  have hLt := hL.t
  refine C_of mixed chk.bin_laid_sure (by simp) fun S ok => ?_
  refine Tr.seqR rfl (by simp) (Tr.seqR rfl (by simp) (Tr.seq (Tr.seqR rfl (by simp) (Tr.block ?_))))
  refine Tr.loop (fun (k : Nat) st => k ≤ L.traces.length ∧ st = { env := [(1, .ptr 1 0), (3, I ((allH (sureT L) k).length : Nat)), (6, sB L.traces), (7, I (L.traces.length : Nat)), (8, I (k : Nat))], bx := [(1, ⟨laidC L, false⟩)], rw := [], log := [], stp := false }) (fun k => L.traces.length - k) 0
    (Wk.le (.cons rfl (.refl _) (.cons rfl (.refl _) (.cons rfl (.refl _) (.cons rfl (VLe.i (by simp)) (.cons rfl (.refl _) .nil))))) (.cons rfl (LLe.refl _) .nil) .nil rfl rfl) ⟨by omega, rfl⟩ ?_
  rintro k st ⟨hk, rfl⟩
  refine Tr.seqR rfl (by simp) (Tr.seqI rfl (fun h1 => ?_) (fun h1 => ?_))
  · have h1 : k < L.traces.length := by simpa using h1
    have hb := sure_bd hLt k hk
    have hb2 : (sureT L k).length ≤ 1 := (sureL_sub (l := hitsT L k)).2.2
    refine Tr.skipT (Tr.seq (Tr.block (Tr.seqR rfl (by simp) (Tr.reg (Steps.run rfl (by simp [laidC]) (Steps.call rfl rfl (c_surely hL h1) (Steps.fin rfl (by simp) ?_)))))))
    refine Tr.regR rfl (by simp) ?_
    refine ⟨k + 1, _, Wk.le (.cons rfl (.refl _) (.cons rfl (VLe.i ?_) (.cons rfl (.refl _) (.cons rfl (.refl _) (.cons rfl (VLe.i (w64 (by omega) (by omega))) .nil))))) (.cons rfl (LLe.refl _) .nil) .nil rfl rfl, ⟨by omega, rfl⟩, by omega⟩
    show IntKind.wrap .i64 (((allH (sureT L) k).length : Int) + (((sureT L k).map eB).length : Int)) = _
    rw [List.length_map, allH_succ, List.length_append, w64 (by omega) (by omega)]
    push_cast; rfl
  · have h1 : k = L.traces.length := by simp at h1; omega
    subst h1
    exact Tr.exit (Tr.seqR rfl (by simp) (Tr.retX rfl rfl rfl rfl trivial))

theorem flat_sB : ∀ (ls : List (List (Int × Int))), (ls.map sB).flatMap cells = ls.map sB
  | [] => rfl
  | l :: ls => by rw [List.map_cons, List.flatMap_cons, flat_sB ls]; rfl

theorem c_CloneP {ls : List (List (Int × Int))} (hne : ls ≠ []) (hl : ls.length ≤ 2 ^ 24) : CO Tryz.prog F.slices_Clone_api_Point_api_Point [.slice 0 1 (ls.map sB)] 1 (ls.map sB) := by
  refine CO_of mixed chk.slices_Clone_api_Point_api_Point (by simp) fun S ok => ?_
  refine Tr.seqR rfl (by simp) (Tr.seq (Tr.seq (Tr.reg (Steps.runN 1 rfl (by simp) ?_))))
  refine Steps.nilS rfl fun b hb => ?_
  obtain rfl := hb (by simpa using hne)
  refine Steps.fin rfl (by simp) (Tr.condF rfl (Tr.skip (Tr.seq (Tr.reg ?_))))
  refine Steps.mkE rfl fun blk => Steps.runN 1 rfl (by simp) ?_
  refine Steps.appendE (r := 0) (sz := 1) (ys := ls.map sB) rfl rfl (by omega) (by simp; omega) (by simp; omega) (by simpa using hne) ?_
  refine Steps.fin rfl (by simp) (Tr.ret ?_)
  exact ⟨7, rfl, rfl, by rw [flat_sB, List.all_eq_true]; intro x hx; obtain ⟨_, _, rfl⟩ := List.mem_map.1 hx; rfl⟩

theorem known_ok {L : Ld} (hL : LdOk L) {i : Nat} {p : Int × Int} (hp : planeB p = true) : LdOk (knownL L i p) := by
  refine ⟨hL.g, by simpa [knownL] using hL.n, hL.t, fun l hl => ?_, fun t ht => ?_⟩
  · rcases List.mem_or_eq_of_mem_set hl with hl | rfl
    · exact hL.p l hl
    · exact ⟨⟨by simp, by simp⟩, fun q hq => by rw [List.mem_singleton.1 hq]; exact hp⟩
  · obtain ⟨a, b, h1, h2, h3⟩ := hL.tr t ht
    exact ⟨a, b, h1, by simpa [knownL] using h2, by simpa [knownL] using h3⟩

theorem LLe.set {v u : V} (h : VLe v u) : ∀ (l : List V) (i : Nat), LLe (l.set i v) (l.set i u)
  | [], _ => .nil
  | a :: l, 0 => .cons h (LLe.refl l)
  | a :: l, i + 1 => .cons (.refl a) (LLe.set h l i)

theorem sBs_refs (ls : List (List (Int × Int))) (B : Nat → Bool) (R : Nat → Option (Nat × Nat × Nat)) : (ls.map sB).all (refsOk B R 6) = true := by
  rw [List.all_eq_true]
  intro x hx
  obtain ⟨_, _, rfl⟩ := List.mem_map.1 hx; rfl

theorem okSBs {j : Nat} {ls : List (List (Int × Int))} {env : List (Nat × V)} {bx : List (Nat × Box)} {rw : List (Nat × Nat × Nat × Nat)} (h : okRefs env ((j, ⟨[], false⟩) :: bx) rw = true) : okRefs env ((j, ⟨ls.map sB, false⟩) :: bx) rw = true := by
  have e : hasKey ((j, (⟨ls.map sB, false⟩ : Box)) :: bx) = hasKey ((j, (⟨[], false⟩ : Box)) :: bx) := rfl
  unfold okRefs at h ⊢
  rw [e]
  rw [Bool.and_eq_true] at h ⊢
  refine ⟨h.1, ?_⟩
  have h2 := h.2
  rw [List.all_cons, Bool.and_eq_true] at h2 ⊢
  exact ⟨sBs_refs _ _ _, h2.2⟩

theorem sBs_holds (ls : List (List (Int × Int))) : Holds (ls.map sB) 0 1 ls.length (ls.map sB) := by
  refine ⟨by omega, by simp, fun x hx => ?_, ?_, fun x hx => ?_⟩
  · obtain ⟨_, _, rfl⟩ := List.mem_map.1 hx; rfl
  · rw [flat_sB, List.drop_zero, Nat.mul_one, List.take_of_length_le (by simp)]
  · obtain ⟨_, _, rfl⟩ := List.mem_map.1 hx; rfl

def GainR (g : Gd) (s : Ly) (i : Int) : V := if gridOk g then (if layOk s then (if btw i 0 ((s.nodes.length : Int) - 1) then .tuple [I (gainL (layD g s) i.toNat), I 0] else .tuple [I 0, I 72]) else .tuple [I 0, I 71]) else .tuple [I 0, I 70]

theorem c_Gain {g : Gd} {s : Ly} (hl : g.cls.length ≤ 9223372036854775807) (hn : s.nodes.length ≤ 9223372036854775807) (ht : s.traces.length ≤ 9223372036854775807) (i : Int) : C Tryz.prog F.bin_Gain [.agg (gridC g), .agg (layC s), I i] (GainR g s i) := by
  have kb := c_begun hl hn ht
  unfold GainR
  refine C_of mixed chk.bin_Gain (by simp) fun S ok => ?_
  refine Tr.seqR rfl (by simp) ?_
  by_cases hg : gridOk g = true
  rotate_left
  · rw [if_neg hg] at kb ⊢
    refine Tr.seqC rfl (by simp) (Steps.call rfl rfl kb (Steps.fin rfl (by simp) (Tr.seq (Tr.seqR rfl (by simp) (Tr.condT rfl (Tr.seqR rfl (by simp) ?_))))))
    exact Tr.retX rfl rfl rfl rfl trivial
  rw [if_pos hg] at kb ⊢
  by_cases hs : layOk s = true
  rotate_left
  · rw [if_neg hs] at kb ⊢
    refine Tr.seqC rfl (by simp) (Steps.call rfl rfl kb (Steps.fin rfl (by simp) (Tr.seq (Tr.seqR rfl (by simp) (Tr.condT rfl (Tr.seqR rfl (by simp) ?_))))))
    exact Tr.retX rfl rfl rfl rfl trivial
  rw [if_pos hs] at kb ⊢
  have hL := lay_ok hg hs
  have hns := (layOk_spec hs).1.1
  have hw : IntKind.wrap .i64 (((s.nodes.map eF).length : Int) - 1) = (s.nodes.length : Int) - 1 := by rw [List.length_map, w64 (by omega) (by omega)]
  refine Tr.seqC rfl (by simp) (Steps.call rfl rfl kb (Steps.fin rfl (by simp [laidC]) (Tr.seq (Tr.seqR rfl (by simp) (Tr.condF rfl (Tr.skip ?_))))))
  refine Tr.seq (Tr.seqC rfl (by simp) (Steps.call rfl rfl (c_within i 0 (IntKind.wrap .i64 (((s.nodes.map eF).length : Int) - 1))) (Steps.fin rfl (by simp) ?_)))
  rw [hw]
  refine Tr.cond rfl rfl (fun h1 => Tr.seqR rfl (by simp) ?_) (fun h1 => Tr.skip ?_)
  · have h1 : btw i 0 ((s.nodes.length : Int) - 1) = false := by simpa using h1
    refine Tr.retX rfl rfl rfl ?_ trivial
    rw [h1]; rfl
  have h1 : btw i 0 ((s.nodes.length : Int) - 1) = true := by simpa using h1
  have h1' := h1
  rw [btw_iff] at h1'
  obtain ⟨n, rfl⟩ : ∃ n : Nat, i = n := ⟨i.toNat, by omega⟩
  rw [if_pos h1, Int.toNat_natCast]
  have hLn : n < (layD g s).places.length := by simp [layD]; omega
  obtain ⟨L, eL0⟩ : ∃ L, layD g s = L := ⟨_, rfl⟩
  rw [eL0] at hL hLn ⊢
  have hne : L.places ≠ [] := fun e => by rw [e] at hLn; simp at hLn
  have hLm := hL.n
  have hpl : pl L n = L.places[n] := by unfold pl; simp [hLn]
  have hpn := hL.p _ (List.getElem_mem hLn)
  have hLt := hL.t
  refine Tr.seqC rfl (by simp [laidC]) (Steps.call rfl rfl (c_sure hL) (Steps.fin rfl (by simp) ?_))
  refine Tr.seqR rfl (by simp) ?_
  refine Tr.seq (Tr.seq (Tr.reg (Steps.runN 4 rfl (by simp [laidC]; omega) ?_)))
  rw [getD_map hLn]
  refine Steps.fin rfl (by simp) (Tr.block ?_)
  unfold gainL leastL
  rw [hpl]
  obtain ⟨ps, hps⟩ : ∃ ps, L.places[n] = ps := ⟨_, rfl⟩
  rw [hps] at hpn ⊢
  obtain ⟨fs, hfs⟩ : ∃ fs : List Int, ps.map (fun p => (sureC (knownL L n p) : Int)) = fs := ⟨_, rfl⟩
  have hfl : fs.length = ps.length := by rw [← hfs, List.length_map]
  rw [hfs]
  refine Tr.loop (fun (k : Nat) st => (k ≤ ps.length ∧ -1 ≤ (fs.take k).foldl leastStep (-1) ∧ (fs.take k).foldl leastStep (-1) ≤ 64) ∧ st = { env := [(2, I (n : Nat)), (8, .ptr 8 0), (10, I (sureC L : Nat)), (11, I ((fs.take k).foldl leastStep (-1))), (38, sB ps), (39, I (ps.length : Nat)), (40, I (k : Nat))], bx := [(8, ⟨laidC L, false⟩)], rw := [], log := [], stp := false }) (fun k => ps.length - k) 0
    (Wk.le (.cons rfl (.refl _) (.cons rfl (.refl _) (.cons rfl (.refl _) (.cons rfl (.refl _) (.cons rfl (.refl _) (.cons rfl (VLe.i (by simp)) (.cons rfl (.refl _) .nil))))))) (.cons rfl (LLe.refl _) .nil) .nil rfl rfl) ⟨⟨by omega, by simp, by simp⟩, rfl⟩ ?_
  rintro k st ⟨⟨hk, ha1, ha2⟩, rfl⟩
  refine Tr.seqR rfl (by simp) (Tr.seqI rfl (fun h2 => ?_) (fun h2 => ?_))
  · have h2 : k < ps.length := by simpa using h2
    have hp := hpn.2 _ (List.getElem_mem h2)
    have hK := known_ok hL (i := n) hp
    refine Tr.skipT (Tr.seq (Tr.block (Tr.seq (Tr.reg (Steps.runN 1 rfl (by simp; omega) ?_)))))
    rw [getD_map h2]
    refine Steps.fin rfl (by simp) ?_
    refine Tr.seqR rfl (by simp [laidC]) ?_
    refine Tr.seq (Tr.reg (Steps.run rfl (by simp [laidC]) ?_))
    refine Steps.callO (ys := L.places.map sB) (sz := 1) rfl (fun _ => rfl) (c_CloneP hne (by omega)) rfl ?_
    rw [flat_sB]
    refine Steps.fin rfl (by simp) ?_
    refine Tr.seqR rfl (by simp; omega) ?_
    have eS : (knownL L n ps[k]).places.map sB = (L.places.map sB).set n (sB [ps[k]]) := by
      unfold knownL; rw [List.map_set]
    have eSl : ((knownL L n ps[k]).places.map sB).length = L.places.length := by simp [knownL]
    refine Tr.weak (s' := { env := [(2, I (n : Nat)), (8, .ptr 8 0), (10, I (sureC L : Nat)), (11, I ((fs.take k).foldl leastStep (-1))), (14, .ptr 14 0), (38, sB ps), (39, I (ps.length : Nat)), (40, I (k : Nat))], bx := [(47, ⟨(knownL L n ps[k]).places.map sB, false⟩), (14, ⟨gridC L.g ++ [sB L.traces, .bsl 47 0 1 L.places.length], false⟩), (8, ⟨laidC L, false⟩)], rw := [], log := [], stp := false })
      (Wk.le (.cons rfl (.refl _) (.cons rfl (.refl _) (.cons rfl (.refl _) (.cons rfl (.refl _) (.cons rfl (.refl _) (.cons rfl (.refl _) (.cons rfl (.refl _) (.cons rfl (.refl _) .nil)))))))) (.cons rfl ?_ (.cons rfl ?_ (.cons rfl (LLe.refl _) .nil))) .nil (okSBs rfl) rfl) ?_
    · rw [eS]
      show LLe (splice (L.places.map sB) (0 + ((n : Nat) : Int).toNat * 1) [.slice _ 2 [eB ps[k]]]) _
      rw [splice_set (by simp; omega), Nat.mul_one, Nat.zero_add, Int.toNat_natCast]
      exact LLe.set (VLe.dem _ _ _) _ _
    · exact .cons (.refl _) (.cons (.refl _) (.cons (.refl _) (.cons (.refl _) (.cons (.refl _) (.cons (.refl _) (.cons (.refl _) (.cons (.of_eq (by simp)) .nil)))))))
    have hH := sBs_holds (knownL L n ps[k]).places
    rw [show (knownL L n ps[k]).places.length = L.places.length by simp [knownL]] at hH
    refine Tr.weak (Wk.bslB (k := 14) (j := 7) (i := 47) (by decide) rfl rfl rfl hH) ?_
    refine Tr.seqC rfl (by simp) (Steps.call (us := [.agg (laidC (knownL L n ps[k]))]) rfl rfl (c_sure hK) (Steps.fin rfl (by simp) ?_))
    obtain ⟨N, hN⟩ : ∃ N, sureC (knownL L n ps[k]) = N := ⟨_, rfl⟩
    have hN64 : N ≤ 64 := by
      rw [← hN]
      have : sureC (knownL L n ps[k]) ≤ L.traces.length := sure_bd (L := knownL L n ps[k]) hLt _ (Nat.le_refl _)
      omega
    rw [hN]
    have hfk : k < fs.length := by omega
    have efk : fs[k] = (N : Int) := by
      have : (ps.map (fun p => (sureC (knownL L n p) : Int)))[k]'(by simp; omega) = (N : Int) := by rw [List.getElem_map, hN]
      simp only [hfs] at this; exact this
    obtain ⟨acc, hacc⟩ : ∃ acc, (fs.take k).foldl leastStep (-1) = acc := ⟨_, rfl⟩
    have eT : (fs.take (k + 1)).foldl leastStep (-1) = leastStep acc N := by
      rw [List.take_add_one, List.getElem?_eq_getElem hfk, List.foldl_append, hacc, efk]; rfl
    rw [hacc] at ha1 ha2 ⊢
    refine Tr.seqR rfl (by simp) (Tr.cond rfl rfl (fun h3 => Tr.regR rfl (by simp) (Tr.regR rfl (by simp) ?_)) (fun h3 => Tr.skip (Tr.regR rfl (by simp) ?_)))
    · have h3 : acc < 0 ∨ (N : Int) < acc := by
        have h3 : (bif decide (acc < 0) then true else decide ((N : Int) < acc)) = true := h3
        by_cases h : acc < 0
        · exact .inl h
        · simp [h] at h3; exact .inr h3
      have eS2 : leastStep acc N = N := by unfold leastStep; rw [if_pos h3]
      rw [eS2] at eT
      refine ⟨k + 1, _, Wk.le (.cons rfl (.refl _) (.cons rfl (.refl _) (.cons rfl (.refl _) (.cons rfl (VLe.i eT.symm) (.cons rfl (.refl _) (.cons rfl (.refl _) (.cons rfl (VLe.i (w64 (by omega) (by omega))) .nil))))))) (.cons rfl (LLe.refl _) .nil) .nil rfl rfl, ⟨⟨by omega, by omega, by omega⟩, rfl⟩, by omega⟩
    · have h3 : ¬ (acc < 0 ∨ (N : Int) < acc) := by
        have h3 : (bif decide (acc < 0) then true else decide ((N : Int) < acc)) = false := h3
        by_cases h : acc < 0
        · simp [h] at h3
        · simp [h] at h3; omega
      have eS2 : leastStep acc N = acc := by unfold leastStep; rw [if_neg h3]
      rw [eS2] at eT
      refine ⟨k + 1, _, Wk.le (.cons rfl (.refl _) (.cons rfl (.refl _) (.cons rfl (.refl _) (.cons rfl (VLe.i eT.symm) (.cons rfl (.refl _) (.cons rfl (.refl _) (.cons rfl (VLe.i (w64 (by omega) (by omega))) .nil))))))) (.cons rfl (LLe.refl _) .nil) .nil rfl rfl, ⟨⟨by omega, by omega, by omega⟩, rfl⟩, by omega⟩
  · have h2 : k = ps.length := by simp at h2; omega
    subst h2
    have hb : sureC L ≤ L.traces.length := sure_bd (L := L) hLt _ (Nat.le_refl _)
    rw [← hfl, List.take_length] at ha1 ha2 ⊢
    refine Tr.exit (Tr.seqR rfl (by simp) (Tr.retX rfl rfl rfl ?_ trivial))
    show _ = packR [I (IntKind.wrap .i64 (fs.foldl leastStep (-1) - (sureC L : Nat))), I 0]
    rw [w64 (by omega) (by omega)]; rfl

end Go.Proofs.YtdejdblopmfjfaaGreatDoor


/-! The chapter's examples: the bin chapter. -/
set_option linter.unusedVariables false
set_option linter.unusedSimpArgs false
set_option maxRecDepth 20000
namespace Go.Am
open Go.RowKit

/-! ### Guards that are known to hold -/
theorem compOp_noguard {P : Program} {nt : Nat} {slots : List (Option Nat)} {o : Oper} {d : Option Nat} {k : Am.K} {xs : List X} {g : Option (Nat × Bool)} (hc : compOp P nt slots o = some ⟨d, k, xs, g⟩) (sl : List (Option Nat)) : compOp P nt sl { o with guard := none } = some ⟨d, k, xs, none⟩ := by
  unfold compOp at hc ⊢
  cases h1 : opK P o.op with
  | none => rw [h1] at hc; cases hc
  | some q =>
    obtain ⟨k', os⟩ := q
    rw [h1] at hc
    simp only at hc
    cases h2 : os.mapM compX with
    | none => rw [h2] at hc; cases hc
    | some xs' =>
      rw [h2] at hc
      simp only at hc
      cases h3 : guardG slots o.guard with
      | none => rw [h3] at hc; cases hc
      | some g' =>
        rw [h3] at hc
        simp only at hc
        cases h4 : dstOk nt k' o.dst with
        | false => rw [h4] at hc; cases hc
        | true =>
          rw [h4] at hc
          cases hc
          simp only [h1, h2, h4, cond_true]
          rfl

theorem Step1.on {E : Env} {K : St → Prop} {s : St} {d : Option Nat} {k : Am.K} {xs : List X} {t : Nat} {want : Bool} {gv : V} (hgv : Am.get s.env t = some gv) (hgb : guardOf want gv = some true) (h : Step1 E ⟨d, k, xs, none⟩ K s) : Step1 E ⟨d, k, xs, some (t, want)⟩ K s := by
  refine Step1.raw fun slots ops o i ro n a w g hc hs hi R Q next hn => ?_
  have hc' := compOp_noguard hc (#[{ o with guard := none }].toList.map (·.dst))
  have h1 := step_ok (ro := ro) (n := n) (ops := #[{ o with guard := none }]) (i := 0) h hc' rfl rfl R (Q := Q) (next := next) hn
  unfold wpOpIn at h1 ⊢
  obtain ⟨os, cc⟩ := comp_of hc
  obtain ⟨j, want', t', g1, g2, g3⟩ : ∃ j want t, o.guard = some (j, want) ∧ slots[j]? = some (some t) ∧ (some (t, want)) = (some (t, want)) ∧ True := by
    rcases cc.guard with ⟨e, _⟩ | ⟨j, w', t', e1, e2, e3⟩
    · cases e
    · exact ⟨j, w', t', e1, e2, rfl, trivial⟩
  have hw : Region.wanted o (yielded ops a.tmps) = true := by
    rcases cc.guard with ⟨e, _⟩ | ⟨j, w', t', e1, e2, e3⟩
    · cases e
    · cases e3
      exact (guard_wanted R hs e1 e2 (by rw [fs_g]; exact hgv) hgb).1 rfl
  simp only [hi, hw, if_true]
  have hw' : Region.wanted { o with guard := none } (yielded #[{ o with guard := none }] a.tmps) = true := by unfold Region.wanted; rfl
  simp only [List.getElem?_toArray, List.getElem?_cons_zero, hw', if_true] at h1
  exact h1

theorem Steps.on {E : Env} {K : St → Prop} {s : St} {d : Option Nat} {k : Am.K} {xs : List X} {t : Nat} {want : Bool} {gv : V} {rest : List Ins} (hgv : Am.get s.env t = some gv) (hgb : guardOf want gv = some true) (h : Am.Steps E (⟨d, k, xs, none⟩ :: rest) K s) : Am.Steps E (⟨d, k, xs, some (t, want)⟩ :: rest) K s := Step1.on hgv hgb h

/-- One step where guards are known to hold. -/
def stepG (ins : Ins) (s : St) : Option (Prop × Eff × List Loc) :=
  match ins.g with
  | none => stepP ins s
  | some (t, want) => match Am.get s.env t with
    | some (.bool b) => match b == want with
      | true => stepP { ins with g := none } s
      | false => none
    | _ => none

theorem step_G {E : Env} {ins : Ins} {s : St} {p : Prop} {eff : Eff} {rd : List Loc} {K : St → Prop} (h : stepG ins s = some (p, eff, rd)) (hp : p) (hk : K ((s.eff eff).put ins.d eff.v)) : Step1 E ins K s := by
  obtain ⟨d, k, xs, g⟩ := ins
  unfold stepG at h
  cases g with
  | none => exact .does (stepP_ok h hp) hk
  | some tw =>
    obtain ⟨t, want⟩ := tw
    simp only at h
    split at h
    · rename_i b hb
      split at h
      · rename_i hbw
        exact Step1.on hb (by simp only [guardOf, hbw]) (.does (stepP_ok h hp) hk)
      · cases h
    · cases h

def runG : List Ins → St → Prop → Prop × St × List Ins
  | [], s, p => (p, s, [])
  | i :: r, s, p => match stepG i s with
    | some (q, eff, _) => runG r ((s.eff eff).put i.d eff.v) (p ∧ q)
    | none => (p, s, i :: r)

theorem runG_pre : ∀ (il : List Ins) (s : St) (p : Prop), (runG il s p).1 → p
  | [], s, p, h => h
  | i :: r, s, p, h => by
    unfold runG at h
    split at h
    · exact (runG_pre r _ _ h).1
    · exact h

theorem runG_ok {E : Env} {K : St → Prop} : ∀ (il : List Ins) (s : St) (p : Prop), (runG il s p).1 → Am.Steps E (runG il s p).2.2 K (runG il s p).2.1 → Am.Steps E il K s
  | [], s, p, _, h => h
  | i :: r, s, p, h1, h2 => by
    unfold runG at h1 h2
    split at h1
    · rename_i q eff rd hq
      rw [hq] at h2
      exact step_G hq (runG_pre r _ _ h1).2 (runG_ok r _ _ h1 h2)
    · rename_i hq
      rw [hq] at h2
      exact h2

theorem Steps.runG {E : Env} {K : St → Prop} {s s' : St} {il rest : List Ins} {p : Prop} (h : Am.runG il s True = (p, s', rest)) (hp : p) (hs : Am.Steps E rest K s') : Am.Steps E il K s := by
  refine runG_ok il s True ?_ ?_
  · rw [h]; exact hp
  · rw [h]; exact hs

/-- At most so many instructions, where guards are known to hold. -/
def runGN : Nat → List Ins → St → Prop → Prop × St × List Ins
  | 0, il, s, p => (p, s, il)
  | _ + 1, [], s, p => (p, s, [])
  | n + 1, i :: r, s, p => match stepG i s with
    | some (q, eff, _) => runGN n r ((s.eff eff).put i.d eff.v) (p ∧ q)
    | none => (p, s, i :: r)

theorem runGN_pre : ∀ (n : Nat) (il : List Ins) (s : St) (p : Prop), (runGN n il s p).1 → p
  | 0, il, s, p, h => h
  | _ + 1, [], s, p, h => h
  | n + 1, i :: r, s, p, h => by
    unfold runGN at h
    split at h
    · exact (runGN_pre n r _ _ h).1
    · exact h

theorem runGN_ok {E : Env} {K : St → Prop} : ∀ (n : Nat) (il : List Ins) (s : St) (p : Prop), (runGN n il s p).1 → Am.Steps E (runGN n il s p).2.2 K (runGN n il s p).2.1 → Am.Steps E il K s
  | 0, il, s, p, _, h => h
  | _ + 1, [], s, p, _, h => h
  | n + 1, i :: r, s, p, h1, h2 => by
    unfold runGN at h1 h2
    split at h1
    · rename_i q eff rd hq
      rw [hq] at h2
      exact step_G hq (runGN_pre n r _ _ h1).2 (runGN_ok n r _ _ h1 h2)
    · rename_i hq
      rw [hq] at h2
      exact h2

theorem Steps.runGN {E : Env} {K : St → Prop} (n : Nat) {s s' : St} {il rest : List Ins} {p : Prop} (h : Am.runGN n il s True = (p, s', rest)) (hp : p) (hs : Am.Steps E rest K s') : Am.Steps E il K s := by
  refine runGN_ok n il s True ?_ ?_
  · rw [h]; exact hp
  · rw [h]; exact hs

theorem Steps.strEq {E : Env} {K : St → Prop} {s : St} {d : Nat} {x y : X} {a : ByteArray} {rest : List Ins} (hx : evXs s.env [x, y] = some [.str a, .str a]) (hk : Am.Steps E rest K (s.put (some d) (.bool true))) : Am.Steps E (⟨some d, .bin .eql, [x, y], none⟩ :: rest) K s := by
  refine Step1.does (ins := ⟨some d, .bin .eql, [x, y], none⟩) (eff := { v := .bool true }) (rd := xslots [x, y]) (stepP_ok (p := True) ?_ trivial) hk
  unfold stepP
  rw [hx]
  simp [evalK, nilOk]

end Go.Am

namespace Go.Proofs.YtdejdblopmfjfaaGreatDoor
open Go.Am
attribute [local simp] cells scalar mkv splice under2 under dem dem1 eB gridC sB fourC eF layC eQ nfC intsV foldV
theorem c_bound (a b : Int) : C Tryz.prog F.law07_bound [I a, I b] (.agg [I a, I b]) := by
  refine C_of mixed chk.law07_bound (by simp) fun S ok => ?_
  exact Tr.seqR rfl (by simp) (Tr.seqR rfl (by simp) (Tr.retX rfl rfl rfl rfl trivial))

def spotF (x y : Int) : Fr := ⟨(x, x), (y, y), (w (x + y), w (x + y)), (w (x - y), w (x - y))⟩
theorem c_spot (x y : Int) : C Tryz.prog F.law07_spot [I x, I y] (eF (spotF x y)) := by
  refine C_of mixed chk.law07_spot (by simp) fun S ok => ?_
  refine Tr.seqR rfl (by simp) (Tr.seqC rfl (by simp) ?_)
  refine Steps.call rfl rfl (c_bound x x) (Steps.run rfl (by simp) ?_)
  refine Steps.call rfl rfl (c_bound y y) (Steps.run rfl (by simp) ?_)
  refine Steps.call rfl rfl (c_bound (w (x + y)) (w (x + y))) (Steps.run rfl (by simp) ?_)
  refine Steps.call rfl rfl (c_bound (w (x - y)) (w (x - y))) (Steps.fin rfl (by simp) (Tr.retX rfl rfl rfl rfl trivial))

def exG : Gd := ⟨(0, 0), 2, 3, 2, [(0, 25), (26, 400)]⟩
def exY : Ly := ⟨[⟨(1, 1), (1, 1), (2, 2), (0, 0)⟩, ⟨(3, 3), (3, 3), (6, 6), (0, 0)⟩, ⟨(7, 9), (3, 3), (10, 12), (4, 6)⟩], [(0, 1), (0, 2), (1, 2)]⟩
def exN : Nf := ⟨[2, 1], [⟨4, [2, 0]⟩, ⟨3, [0, 1]⟩, ⟨5, [1, 1]⟩, ⟨6, [2, 1]⟩]⟩

theorem c_grid : C Tryz.prog F.law07_grid [] (.agg (gridC exG)) := by
  refine C_of mixed chk.law07_grid (by simp) fun S ok => ?_
  refine Tr.seqR rfl (by simp) (Tr.seqC rfl (by simp) ?_)
  refine Steps.call rfl rfl (c_bound 0 25) (Steps.run rfl (by simp) ?_)
  refine Steps.call rfl rfl (c_bound 26 400) (Steps.fin rfl (by simp) (Tr.retX rfl rfl rfl rfl trivial))

theorem c_lines : C Tryz.prog F.law07_lines [] (.agg (layC exY)) := by
  refine C_of mixed chk.law07_lines (by simp) fun S ok => ?_
  refine Tr.seqR rfl (by simp) (Tr.seqC rfl (by simp) ?_)
  refine Steps.call rfl rfl (c_spot 1 1) (Steps.run rfl (by simp) ?_)
  refine Steps.call rfl rfl (c_spot 3 3) (Steps.run rfl (by simp) ?_)
  refine Steps.call rfl rfl (c_bound 7 9) (Steps.run rfl (by simp) ?_)
  refine Steps.call rfl rfl (c_bound 3 3) (Steps.run rfl (by simp) ?_)
  refine Steps.call rfl rfl (c_bound 10 12) (Steps.run rfl (by simp) ?_)
  refine Steps.call rfl rfl (c_bound 4 6) (Steps.fin rfl (by simp) (Tr.retX rfl rfl rfl rfl trivial))

theorem c_gaps : C Tryz.prog F.law07_gaps [] (.agg (nfC exN)) := by
  refine C_of mixed chk.law07_gaps (by simp) fun S ok => ?_
  exact Tr.seqR rfl (by simp) (Tr.seqR rfl (by simp) (Tr.retX rfl rfl rfl rfl trivial))

theorem c_cells (l l' : List (Int × Int)) (hl : l.length ≤ 9223372036854775807) : C Tryz.prog F.law07_cells [sB l, sB l'] (.bool (decide (l = l'))) := by
  refine C_of mixed chk.law07_cells (by simp) fun S ok => ?_
  refine Tr.seqR rfl (by simp) (Tr.seq (Tr.seqR rfl (by simp) ?_))
  refine Tr.cond rfl rfl (fun h1 => Tr.seqR rfl (by simp) (Tr.retX rfl rfl rfl ?_ trivial)) (fun h1 => Tr.skip ?_)
  · have h1 : (((l.map eB).length : Int) != ((l'.map eB).length : Int)) = true := h1
    simp only [packR, V.bool.injEq]
    rw [decide_eq_false]
    rintro rfl
    simp at h1
  · have h1 : (((l.map eB).length : Int) != ((l'.map eB).length : Int)) = false := h1
    have hll : l.length = l'.length := by simp at h1; omega
    refine Tr.seq (Tr.seqR rfl (by simp) (Tr.block ?_))
    refine Tr.loop (fun k st => (k ≤ l.length ∧ l.take k = l'.take k) ∧ st = { env := [(0, sB l), (1, sB l'), (5, I k)], bx := [], rw := [], log := [], stp := false }) (fun k => l.length - k) 0
      (Wk.le (.cons rfl (.refl _) (.cons rfl (.refl _) (.cons rfl (.refl _) .nil))) .nil .nil rfl rfl) ⟨⟨by omega, by simp⟩, rfl⟩ ?_
    rintro k st ⟨⟨hk, he⟩, rfl⟩
    refine Tr.seq (Tr.seqR rfl (by simp) (Tr.cond rfl rfl (fun h3 => ?_) (fun h3 => ?_)))
    · have h3 : k < l.length := by simpa using h3
      have h4 : k < l'.length := by omega
      refine Tr.skip (Tr.seq (Tr.block (Tr.seq (Tr.drawK (TraceK.runN 3 rfl (by simp; omega) ?_)))))
      rw [getD_map h3]
      refine TraceK.runN 4 rfl (by simp; omega) ?_
      rw [getD_map h4]
      refine TraceK.run rfl (by simp) (.done ⟨by kernel_rfl, by kernel_rfl, ?_⟩)
      refine Tr.cond rfl rfl (fun h5 => Tr.seqR rfl (by simp) (Tr.retX rfl rfl rfl ?_ trivial)) (fun h5 => Tr.skip (Tr.regR rfl (by simp) ?_))
      · have h5 : l[k] ≠ l'[k] := by
          intro e; rw [e] at h5; simp at h5
        simp only [packR, V.bool.injEq]
        rw [decide_eq_false]
        rintro rfl
        exact h5 rfl
      · have h5 : l[k] = l'[k] := by
          have := h5
          simp at this
          exact Prod.ext this.1 this.2
        exact ⟨k + 1, _, Wk.le (.cons rfl (.refl _) (.cons rfl (.refl _) (.cons rfl (VLe.i (w64 (by omega) (by omega))) .nil))) .nil .nil rfl rfl, ⟨⟨h3, take_ext h3 h4 he h5⟩, rfl⟩, by omega⟩
    · have h3 : k = l.length := by simp at h3; omega
      subst h3
      refine Tr.exit (Tr.seqR rfl (by simp) (Tr.retX rfl rfl rfl ?_ trivial))
      rw [List.take_length, hll, List.take_length] at he
      simp [packR, he]

theorem c_AlikeLists (l l' : List (List Int)) (hl : l.length ≤ 9223372036854775807) (hr : ∀ r ∈ l, r.length ≤ 9223372036854775807) : C Tryz.prog F.ref00_AlikeLists [foldV l, foldV l'] (.bool (decide (l = l'))) := by
  refine C_of mixed chk.ref00_AlikeLists (by simp) fun S ok => ?_
  refine Tr.seqR rfl (by simp) (Tr.seq (Tr.seqR rfl (by simp) ?_))
  refine Tr.cond rfl rfl (fun h1 => Tr.seqR rfl (by simp) (Tr.retX rfl rfl rfl ?_ trivial)) (fun h1 => Tr.skip ?_)
  · have h1 : (((l.map intsV).length : Int) != ((l'.map intsV).length : Int)) = true := h1
    simp only [packR, V.bool.injEq]
    rw [decide_eq_false]
    rintro rfl
    simp at h1
  · have h1 : (((l.map intsV).length : Int) != ((l'.map intsV).length : Int)) = false := h1
    have hll : l.length = l'.length := by simp at h1; omega
    refine Tr.seq (Tr.seqR rfl (by simp) (Tr.block ?_))
    refine Tr.loop (fun k st => (k ≤ l.length ∧ l.take k = l'.take k) ∧ st = { env := [(0, foldV l), (1, foldV l'), (5, I k)], bx := [], rw := [], log := [], stp := false }) (fun k => l.length - k) 0
      (Wk.le (.cons rfl (.refl _) (.cons rfl (.refl _) (.cons rfl (.refl _) .nil))) .nil .nil rfl rfl) ⟨⟨by omega, by simp⟩, rfl⟩ ?_
    rintro k st ⟨⟨hk, he⟩, rfl⟩
    refine Tr.seq (Tr.seqR rfl (by simp) (Tr.cond rfl rfl (fun h3 => ?_) (fun h3 => ?_)))
    · have h3 : k < l.length := by simpa using h3
      have h4 : k < l'.length := by omega
      refine Tr.skip (Tr.seq (Tr.block (Tr.seq (Tr.drawK (TraceK.runN 3 rfl (by simp; omega) ?_)))))
      rw [getD_map h3]
      refine TraceK.runN 4 rfl (by simp; omega) ?_
      rw [getD_map h4]
      refine TraceK.run rfl (by simp) (TraceK.call rfl rfl (c_Alike l[k] l'[k] (hr _ (List.getElem_mem h3))) (TraceK.run rfl (by simp) (.done ⟨by kernel_rfl, by kernel_rfl, ?_⟩)))
      refine Tr.cond rfl rfl (fun h5 => Tr.seqR rfl (by simp) (Tr.retX rfl rfl rfl ?_ trivial)) (fun h5 => Tr.skip (Tr.regR rfl (by simp) ?_))
      · have h5 : (!decide (l[k] = l'[k])) = true := h5
        simp only [packR, V.bool.injEq]
        rw [decide_eq_false]
        rintro rfl
        simp at h5
      · have h5 : (!decide (l[k] = l'[k])) = false := h5
        have h5 : l[k] = l'[k] := by simpa using h5
        exact ⟨k + 1, _, Wk.le (.cons rfl (.refl _) (.cons rfl (.refl _) (.cons rfl (VLe.i (w64 (by omega) (by omega))) .nil))) .nil .nil rfl rfl, ⟨⟨h3, take_ext h3 h4 he h5⟩, rfl⟩, by omega⟩
    · have h3 : k = l.length := by simp at h3; omega
      subst h3
      refine Tr.exit (Tr.seqR rfl (by simp) (Tr.retX rfl rfl rfl ?_ trivial))
      rw [List.take_length, hll, List.take_length] at he
      simp [packR, he]

end Go.Proofs.YtdejdblopmfjfaaGreatDoor


/-! Structs that lie in an arena: addresses, fields, a new one; what lies there becomes data. -/
set_option linter.unusedVariables false
set_option linter.unusedSimpArgs false
set_option maxRecDepth 20000
namespace Go.Am
open Go.RowKit

theorem opK_nilck0 {P : Program} {o : Oper} {os : List Operand} (hk : opK P o.op = some (.nilck, os)) : ∃ p, o.op = .nilCheck p ∧ os = [p] := by
  cases ho : o.op <;> rw [ho] at hk <;> simp only [opK] at hk <;> (try (cases hk; done)) <;> (try (repeat' (split at hk <;> (try (cases hk; done)))))
  all_goals first
    | (simp only [Option.map_eq_some_iff, Prod.mk.injEq] at hk; obtain ⟨_, _, h1, _⟩ := hk; cases h1; done)
    | (simp only [eqKind] at hk; repeat' (split at hk <;> (try (cases hk; done))))
    | (cases hk; exact ⟨_, rfl, rfl⟩)

theorem opK_faddr0 {P : Program} {o : Oper} {os : List Operand} {off : Nat} (hk : opK P o.op = some (.faddr off, os)) : ∃ t p f fs fd n, o.op = .fieldAddr t p f ∧ P.underlying t = some (.struct fs) ∧ fs[f]? = some fd ∧ szOf P fd.type = some n ∧ n ≠ 0 ∧ fd.offset = off ∧ os = [p] := by
  cases ho : o.op <;> rw [ho] at hk <;> simp only [opK] at hk <;> (try (cases hk; done)) <;> (try (repeat' (split at hk <;> (try (cases hk; done)))))
  all_goals first
    | (simp only [Option.map_eq_some_iff, Prod.mk.injEq] at hk; obtain ⟨_, _, h1, _⟩ := hk; cases h1; done)
    | (simp only [eqKind] at hk; repeat' (split at hk <;> (try (cases hk; done))))
    | (cases hk; exact ⟨_, _, _, _, _, _, rfl, by assumption, by assumption, by assumption, by assumption, rfl, rfl⟩)

theorem opK_box0 {P : Program} {o : Oper} {os : List Operand} (hk : opK P o.op = some (.box, os)) : ∃ e p, o.op = .box e p ∧ os = [p] := by
  cases ho : o.op <;> rw [ho] at hk <;> simp only [opK] at hk <;> (try (cases hk; done)) <;> (try (repeat' (split at hk <;> (try (cases hk; done)))))
  all_goals first
    | (simp only [Option.map_eq_some_iff, Prod.mk.injEq] at hk; obtain ⟨_, _, h1, _⟩ := hk; cases h1; done)
    | (simp only [eqKind] at hk; repeat' (split at hk <;> (try (cases hk; done))))
    | (cases hk; exact ⟨_, _, rfl, rfl⟩)

theorem opK_loadT {P : Program} {o : Oper} {os : List Operand} {n : Nat} (hk : opK P o.op = some (.load n true, os)) : ∃ t p d, o.op = .load t p ∧ szOf P t = some n ∧ P.underlying t = some d ∧ aggB P t = true ∧ os = [p] := by
  cases ho : o.op <;> rw [ho] at hk <;> simp only [opK] at hk <;> (try (cases hk; done)) <;> (try (repeat' (split at hk <;> (try (cases hk; done)))))
  all_goals first
    | (simp only [Option.map_eq_some_iff, Prod.mk.injEq] at hk; obtain ⟨_, _, h1, _⟩ := hk; cases h1; done)
    | (simp only [eqKind] at hk; repeat' (split at hk <;> (try (cases hk; done))))
    | (cases hk; exact ⟨_, _, _, rfl, by assumption, by assumption, by assumption, rfl⟩)

section
variable {E : Env} {S0 : Sur} {l0 : List (List V)} {s0 : Bool} {A : Arena}

/-- A pointer of an arena is not nil. -/
theorem Steps.rnil {K : St → Prop} {s : St} {d : Nat} {x : X} {rest : List Ins} {blk off : Nat} (hx : evXs s.env [x] = some [.rptr blk off]) (hk : Steps E rest K (s.put (some d) (.rptr blk off))) : Steps E (⟨some d, .nilck, [x], none⟩ :: rest) K s := by
  refine Step1.raw fun slots ops o i ro n a w h hc hs hi R Q next hn => ?_
  obtain ⟨os, cc⟩ := comp_of hc
  obtain ⟨p, ho, rfl⟩ := opK_nilck0 cc.op
  obtain ⟨u, hu, o1⟩ := (opds_of R.1 cc.xs (evXs_ok hx)).one
  simp only [List.cons.injEq, and_true] at hu
  subst hu
  have ep := ok_rptr o1
  have hex : (execOp a.eval o).run E.P w = .ok (.value (.pointer (some ⟨blk, off, none⟩))) w := by simp [execOp, ho, ep]
  refine wpOp_done hi (wanted_none (guard_none cc rfl)) (opK_defer cc.op) (.inl hex) (hn _ _ _ h hk ?_ rfl)
  show E.relF _ _ _ _ _ _
  rw [(put_log _ _ _).1, (put_log _ _ _).2, fs_put]
  exact rel_after (eff := { v := _ }) cc R R.1 (.data (.rptr _ _)) rfl

/-- The address of a field. -/
theorem Steps.rfaddr {K : St → Prop} {s : St} {d f : Nat} {x : X} {rest : List Ins} {blk off : Nat} (hx : evXs s.env [x] = some [.rptr blk off]) (hk : Steps E rest K (s.put (some d) (.rptr blk (off + f)))) : Steps E (⟨some d, .faddr f, [x], none⟩ :: rest) K s := by
  refine Step1.raw fun slots ops o i ro n a w h hc hs hi R Q next hn => ?_
  obtain ⟨os, cc⟩ := comp_of hc
  obtain ⟨t, p, g, fs, fd, m, ho, h1, h2, h3, h4, rfl, rfl⟩ := opK_faddr0 cc.op
  obtain ⟨u, hu, o1⟩ := (opds_of R.1 cc.xs (evXs_ok hx)).one
  simp only [List.cons.injEq, and_true] at hu
  subst hu
  have ep := ok_rptr o1
  have hex : (execOp a.eval o).run E.P w = .ok (.value (.pointer (some ⟨blk, off + fd.offset, none⟩))) w := by
    simp only [execOp, ho, ep, Sem.run_bind, run_fieldAt h1 h2 h3 h4]; rfl
  refine wpOp_done hi (wanted_none (guard_none cc rfl)) (opK_defer cc.op) (.inl hex) (hn _ _ _ h hk ?_ rfl)
  show E.relF _ _ _ _ _ _
  rw [(put_log _ _ _).1, (put_log _ _ _).2, fs_put]
  exact rel_after (eff := { v := _ }) cc R R.1 (.data (.rptr _ _)) rfl

/-- Several cells of an arena's block are read. -/
theorem Steps.aloadT (hE : InA E S0 l0 s0) {K : St → Prop} {s : St} {d n : Nat} {x : X} {rest : List Ins} {blk off : Nat} {cs : List V} (hx : evXs s.env [x] = some [.rptr blk off]) (hl : s.log = encA A) (hA : (blk, .cells cs) ∈ A) (hv : off + n ≤ cs.length)
    (hk : Steps E rest K (s.put (some d) (.agg ((cs.drop off).take n)))) : Steps E (⟨some d, .load n true, [x], none⟩ :: rest) K s := by
  refine Step1.raw fun slots ops o i ro n' a w h hc hs hi R Q next hn => ?_
  obtain ⟨os, cc⟩ := comp_of hc
  obtain ⟨t, p, dd, e1, e2, e3, e4, rfl⟩ := opK_loadT cc.op
  obtain ⟨u, hu, o1⟩ := (opds_of R.1 cc.xs (evXs_ok hx)).one
  simp only [List.cons.injEq, and_true] at hu
  subst hu
  have ep := ok_rptr o1
  have R' : E.relF (encA A) s.stp s.fs a w h := by rw [← hl]; exact R
  obtain ⟨vs, et, h1, h2, h3⟩ := (hE.ar R').ok _ hA
  obtain ⟨y, hy1, hy2⟩ := ok_mkv (σ := s.fs) (h := h) (w := w) (agg := true) (n := n) (l := cs.drop off) (f := fun j => vs.getD (off + j) undef) (by simp; omega) (by simp) (fun j v hv => by
    rw [List.getElem?_drop] at hv
    have hlt : off + j < vs.size := by
      have := (List.getElem?_eq_some_iff.1 hv).1; omega
    have := h3 (off + j) v vs[off + j] hv (by simp [hlt])
    have e : vs.getD (off + j) undef = vs[off + j] := by simp [hlt]
    rw [e]
    exact ⟨.data this.1, Grow.of_data this.1, this.2⟩)
  have hex : (execOp a.eval o).run E.P w = .ok (.value y) w := by
    simp only [execOp, e1, ep, Sem.run_bind]
    rw [run_loadAt (cs := (List.range n).map fun j => vs.getD (off + j) undef) e2 e3 (by simp) (fun j v hv => by
      obtain ⟨hj, rfl⟩ := range_map_get hv
      rw [cell_of_row w blk (off + j) vs et (0, 0) h1]
      have : off + j < vs.size := by omega
      simp [this]) (by rw [e4]; exact hy1)]
    rfl
  refine wpOp_done hi (wanted_none (guard_none cc rfl)) (opK_defer cc.op) (.inl hex) (hn _ _ _ h hk ?_ rfl)
  show E.relF _ _ _ _ _ _
  rw [(put_log _ _ _).1, (put_log _ _ _).2, fs_put]
  exact rel_after (eff := { v := _ }) cc R R.1 hy2 rfl

/-- A new struct of an arena. -/
theorem Steps.abox (hE : InA E S0 l0 s0) {K : St → Prop} {s : St} {d : Nat} {x : X} {rest : List Ins} {v : V} (hx : evXs s.env [x] = some [v]) (hl : s.log = encA A) (hs : (cells v).all scalar = true) (hd : (cells v).all isD = true)
    (hk : ∀ b, b ∉ A.map (·.1) → Steps E rest K { s.put (some d) (.rptr b 0) with log := encA ((b, .cells (cells v)) :: A) }) : Steps E (⟨some d, .box, [x], none⟩ :: rest) K s := by
  refine Step1.raw fun slots ops o i ro n a w h hc hsl hi R Q next hn => ?_
  obtain ⟨os, cc⟩ := comp_of hc
  obtain ⟨e, p, ho, rfl⟩ := opK_box0 cc.op
  obtain ⟨u, hu, o1⟩ := (opds_of R.1 cc.xs (evXs_ok hx)).one
  simp only [List.cons.injEq, and_true] at hu
  subst hu
  have R' : E.relF (encA A) s.stp s.fs a w h := by rw [← hl]; exact R
  obtain ⟨q1, q2⟩ := o1.cells hs
  obtain ⟨R2, hnm⟩ := hE.fresh R' (.cells (a.eval p).cells e) (.cells (cells v)) (fun ext => ⟨(a.eval p).cells, e, heap_alloc_new w _, by omega, fun j u z hu hz => by
    obtain ⟨r1, _, r3⟩ := q2 j u z hu hz
    have hD : isD u = true := by
      rw [List.all_eq_true] at hd
      exact hd u (List.mem_of_getElem? hu)
    exact ⟨(rep_isD hD r1).mono ext, r3⟩⟩)
  refine wpOp_done hi (wanted_none (guard_none cc rfl)) (opK_defer cc.op) (.inl ?_) (hn _ _ _ h (hk _ hnm) (rel_putA cc R2 (.data (.rptr _ _)) rfl) rfl)
  simp [execOp, ho, Instr.box, newVar, newRow]

theorem Steps.mov {K : St → Prop} {s : St} {d : Nat} {x : X} {rest : List Ins} {v : V} (hx : evXs s.env [x] = some [v]) (hk : Steps E rest K (s.put (some d) v)) : Steps E (⟨some d, .mov, [x], none⟩ :: rest) K s :=
  Step1.does (ins := ⟨some d, .mov, [x], none⟩) (eff := { v := v }) (.op rfl (evXs_ok hx) rfl trivial (fun e => by cases e)) hk

/-- A guard that is known to hold. -/
def onG (s : St) : Option (Nat × Bool) → Prop
  | none => True
  | some (t, want) => ∃ gv, get s.env t = some gv ∧ guardOf want gv = some true

theorem Steps.onG {K : St → Prop} {s : St} {d : Option Nat} {k : Am.K} {xs : List X} {g : Option (Nat × Bool)} {rest : List Ins} (hg : onG s g) (h : Steps E (⟨d, k, xs, none⟩ :: rest) K s) : Steps E (⟨d, k, xs, g⟩ :: rest) K s := by
  cases g with
  | none => exact h
  | some p => obtain ⟨gv, h1, h2⟩ := hg; exact Steps.on h1 h2 h

def offT (t : Nat) : Option (Nat × Bool) → Bool
  | none => true
  | some (t', _) => !(t'.beq t)

theorem onG.put {s : St} {g : Option (Nat × Bool)} {t : Nat} {v : V} (h : onG s g) (hne : offT t g = true) : onG (s.put (some t) v) g := by
  cases g with
  | none => trivial
  | some p =>
    obtain ⟨gv, h1, h2⟩ := h
    refine ⟨gv, ?_, h2⟩
    show get (s.put (some t) v).env p.1 = some gv
    unfold St.put
    simp only
    rw [get_cons, if_neg (fun e => by simp [offT, e] at hne)]
    exact h1

theorem get_put (s : St) (t : Nat) (v : V) : get (s.put (some t) v).env t = some v := by
  unfold St.put
  simp only
  rw [get_cons, if_pos rfl]

theorem evX1 {env : List (Nat × V)} {t : Nat} {v : V} (h : get env t = some v) : evXs env [.t t] = some [v] := by simp [evXs, h]

/-- A field is read, in four steps. -/
theorem Steps.ldF (hE : InA E S0 l0 s0) {K : St → Prop} {s : St} {t0 t1 t2 t3 t4 off : Nat} {blk : Nat} {cs : List V} {v : V} {rest : List Ins} {g : Option (Nat × Bool)} (hl : s.log = encA A) (hx : get s.env t0 = some (.rptr blk 0)) (hA : (blk, .cells cs) ∈ A) (hv : cs[off]? = some v) (hg : Am.onG s g) (hne : (offT t1 g && offT t2 g && offT t3 g) = true)
    (hk : Steps E rest K ((((s.put (some t1) (.rptr blk 0)).put (some t2) (.rptr blk 0)).put (some t3) (.rptr blk off)).put (some t4) v)) :
    Steps E (⟨some t1, .mov, [.t t0], g⟩ :: ⟨some t2, .nilck, [.t t1], g⟩ :: ⟨some t3, .faddr off, [.t t2], g⟩ :: ⟨some t4, .load 1 false, [.t t3], g⟩ :: rest) K s := by
  simp only [Bool.and_eq_true] at hne
  obtain ⟨⟨n1, n2⟩, n3⟩ := hne
  refine Steps.onG hg (Steps.mov (evX1 hx) ?_)
  refine Steps.onG (hg.put n1) (Steps.rnil (evX1 (get_put _ _ _)) ?_)
  refine Steps.onG ((hg.put n1).put n2) (Steps.rfaddr (evX1 (get_put _ _ _)) ?_)
  rw [Nat.zero_add]
  refine Steps.onG (((hg.put n1).put n2).put n3) (Steps.aload hE (evX1 (get_put _ _ _)) (by simpa [put_log] using hl) hA hv hk)

end
end Go.Am


/-! Contracts of the specification: hulls. -/
set_option linter.unusedVariables false
set_option linter.unusedSimpArgs false
set_option maxRecDepth 40000
set_option maxHeartbeats 4000000
namespace Go.Proofs.YtdejdblopmfjfaaGreatDoor
open Go.Am
attribute [local simp] cells scalar mkv splice under2 under dem dem1 eB gridC sB fourC layC eF
def withB (b : Int × Int) (n : Int) : Int × Int := (min b.1 n, max b.2 n)
def ofFP (p : Int × Int) : Fr := ⟨(p.1, p.1), (p.2, p.2), (p.1 + p.2, p.1 + p.2), (p.1 - p.2, p.1 - p.2)⟩
def withF (f : Fr) (p : Int × Int) : Fr := ⟨withB f.x p.1, withB f.y p.2, withB f.s (p.1 + p.2), withB f.d (p.1 - p.2)⟩
def addS (a : Fr × Bool) (p : Int × Int) : Fr × Bool := (withF (if a.2 then a.1 else ofFP p) p, true)
def hullC (a : Fr × Bool) : List V := fourC a.1 ++ [.bool a.2]
abbrev huA (blk : Nat) (a : Fr × Bool) : Arena := [(blk, .cells (hullC a))]

theorem c_with01 (b : Int × Int) (n : Int) : C Tryz.prog F.ref01_with [eB b, I n] (eB (withB b n)) := by
  refine C_of mixed chk.ref01_with (by simp) fun S ok => ?_
  refine Tr.seqR rfl (by simp) (Tr.seqR rfl (by simp) (Tr.retX rfl rfl rfl ?_ trivial))
  simp only [packR, cond_true, cond_false, ite_max, ite_min]
  rfl

theorem setA1' (b : Nat) (o o' : Ob) : setA [(b, o)] b o' = [(b, o')] := by simp [setA]

theorem c_add01 {a : Fr × Bool} {p : Int × Int} (hp : planeB p = true) {blk : Nat} : CA Tryz.prog F.ref01_Hull_add (huA blk a) [] [.rptr blk 0, eB p] (.tuple []) (huA blk (addS a p)) := by
  have hp' := planeB_spec hp
  have w1 : IntKind.wrap .i64 (p.1 + p.2) = p.1 + p.2 := w64 (by omega) (by omega)
  have w2 : IntKind.wrap .i64 (p.1 - p.2) = p.1 - p.2 := w64 (by omega) (by omega)
  have hmem : ∀ a, (blk, Ob.cells (hullC a)) ∈ huA blk a := fun a => List.mem_singleton.2 rfl
  refine CA_of mixed chk.ref01_Hull_add (by simp) fun S ok S1 hA hK => ?_
  refine Tr.seqR rfl (by simp) ?_
  refine Tr.seq (Tr.drawK (TraceK.run rfl (by simp) (.done ⟨by kernel_rfl, by kernel_rfl, ?_⟩)))
  obtain ⟨f, hf⟩ : ∃ f, (if a.2 then a.1 else ofFP p) = f := ⟨_, rfl⟩
  refine Tr.meet { env := [(0, .rptr blk 0), (3, .ptr 3 0), (4, I (p.1 + p.2)), (5, I (p.1 - p.2))], bx := [(3, ⟨[I p.1, I p.2], false⟩)], rw := [], log := encA (huA blk (f, true)), stp := false } ?_ ?_
  · refine Tr.seq (Tr.reg (Steps.ldF hA (off := 8) rfl rfl (hmem a) rfl trivial rfl (Steps.fin rfl (by simp) ?_)))
    obtain ⟨g, is⟩ := a
    simp only at hf
    cases is with
    | true =>
      have hf : g = f := hf
      subst hf
      refine Tr.condF rfl (Tr.skip ?_)
      exact Wk.le (.cons rfl (.refl _) (.cons rfl (.refl _) (.cons rfl (VLe.i w1) (.cons rfl (VLe.i w2) .nil)))) (.cons rfl (LLe.refl _) .nil) .nil rfl rfl
    | false =>
      have hf : ofFP p = f := hf
      refine Tr.condT rfl (Tr.reg (Steps.run rfl (by simp) ?_))
      refine Steps.rnil rfl (Steps.rfaddr rfl (Steps.astoreT hA rfl rfl (hmem (g, false)) rfl (by simp [hullC]) rfl rfl ?_))
      rw [setA1', w1, w2]
      refine Steps.rnil rfl (Steps.rfaddr rfl (Steps.astore hA rfl rfl (List.mem_singleton.2 rfl) (by simp [hullC]) rfl rfl ?_))
      rw [setA1']
      refine Steps.fin rfl (by simp) ?_
      rw [← hf]
      exact Wk.le (.cons rfl (.refl _) (.cons rfl (.refl _) (.cons rfl (.refl _) (.cons rfl (.refl _) .nil)))) (.cons rfl (LLe.refl _) .nil) .nil rfl rfl
  · have hres : addS a p = (withF f p, true) := by unfold addS; rw [hf]
    rw [hres]
    refine Tr.drawP rfl rfl (A := huA blk (f, true)) rfl ?_
    refine TraceK.runN 2 rfl (by simp) (TraceK.rnil rfl (TraceK.rfaddr rfl (TraceK.rfaddr rfl (TraceK.aload hA rfl rfl rfl (hmem (f, true)) (by simp [hullC]) (TraceK.run rfl (by simp) (TraceK.call rfl rfl (c_with01 f.x p.1) ?_))))))
    refine TraceK.runN 1 rfl (by simp) (TraceK.rnil rfl (TraceK.rfaddr rfl (TraceK.rfaddr rfl (TraceK.aload hA rfl rfl rfl (hmem (f, true)) (by simp [hullC]) (TraceK.run rfl (by simp) (TraceK.call rfl rfl (c_with01 f.y p.2) ?_))))))
    refine TraceK.runN 1 rfl (by simp) (TraceK.rnil rfl (TraceK.rfaddr rfl (TraceK.rfaddr rfl (TraceK.aload hA rfl rfl rfl (hmem (f, true)) (by simp [hullC]) (TraceK.run rfl (by simp) (TraceK.call rfl rfl (c_with01 f.s (p.1 + p.2)) ?_))))))
    refine TraceK.runN 1 rfl (by simp) (TraceK.rnil rfl (TraceK.rfaddr rfl (TraceK.rfaddr rfl (TraceK.aload hA rfl rfl rfl (hmem (f, true)) (by simp [hullC]) (TraceK.run rfl (by simp) (TraceK.call rfl rfl (c_with01 f.d (p.1 - p.2)) ?_))))))
    refine TraceK.run rfl (by simp) (TraceK.rnil rfl (TraceK.rfaddr rfl (.done ⟨by kernel_rfl, by kernel_rfl, ?_⟩)))
    refine Steps.astoreT hA rfl rfl (hmem (f, true)) rfl (by simp [hullC]) rfl rfl ?_
    rw [setA1']
    refine Steps.fin rfl (by simp) ?_
    exact And.intro rfl ⟨[], [], [], rfl, rfl, rfl⟩

def fillS (r : Fr) : Nat → Int → Fr × Bool → Fr × Bool
  | 0, _, a => a
  | n + 1, x, a => fillS r n (x + 1) (if lowY r x ≤ highY r x then addS (addS a (x, lowY r x)) (x, highY r x) else a)

theorem row_plane {r : Fr} (hf : fitFB r = true) {x : Int} (hx : r.x.1 ≤ x ∧ x ≤ r.x.2) (h : lowY r x ≤ highY r x) : planeB (x, lowY r x) = true ∧ planeB (x, highY r x) = true := by
  have hf' := (fitFB_iff r).1 hf
  obtain ⟨⟨h1, h2⟩, _⟩ := hf'
  unfold fitB at h1 h2
  have a1 : r.y.1 ≤ lowY r x := by unfold lowY; omega
  have a2 : highY r x ≤ r.y.2 := by unfold highY; omega
  unfold planeB
  simp only [Bool.and_eq_true, btw_iff]
  omega

theorem c_fill01 {r : Fr} (hf : fitFB r = true) {a : Fr × Bool} {blk : Nat} : CA Tryz.prog F.ref01_Hull_fill (huA blk a) [] [.rptr blk 0, .agg (fourC r)] (.tuple []) (huA blk (fillS r (r.x.2 + 1 - r.x.1).toNat r.x.1 a)) := by
  have hm := mid_of hf
  have hm' := hm
  obtain ⟨⟨⟨hx1, hx2⟩, hx3, hx4⟩, _⟩ := hm'
  obtain ⟨N, hN⟩ : ∃ N, (r.x.2 + 1 - r.x.1).toNat = N := ⟨_, rfl⟩
  rw [hN]
  refine CA_of mixed chk.ref01_Hull_fill (by simp) fun S ok S1 hA hK => ?_
  refine Tr.seqR rfl (by simp) (Tr.seqR rfl (by simp) (Tr.block ?_))
  refine Tr.loop (α := Nat × (Fr × Bool)) (fun p st => (p.1 ≤ N ∧ fillS r (N - p.1) (r.x.1 + p.1) p.2 = fillS r N r.x.1 a) ∧ st = { env := [(0, .rptr blk 0), (3, .ptr 3 0), (4, I (r.x.1 + p.1))], bx := [(3, ⟨fourC r, false⟩)], rw := [], log := encA (huA blk p.2), stp := false }) (fun p => N - p.1) (0, a)
    (Wk.le (.cons rfl (.refl _) (.cons rfl (.refl _) (.cons rfl (VLe.i (by simp)) .nil))) (.cons rfl (LLe.refl _) .nil) .nil rfl rfl) ⟨⟨by simp, by simp⟩, rfl⟩ ?_
  rintro ⟨k, b⟩ st ⟨⟨hk, hc⟩, rfl⟩
  simp only at hk hc
  obtain ⟨x, hx⟩ : ∃ x, r.x.1 + (k : Int) = x := ⟨_, rfl⟩
  rw [hx] at hc ⊢
  refine Tr.seq (Tr.seqR rfl (by simp) (Tr.cond rfl rfl (fun h1 => Tr.skip ?_) (fun h1 => Tr.exit ?_)))
  rotate_left
  · have h1 : ¬ x ≤ r.x.2 := by simpa using h1
    rw [show N - k = 0 by omega] at hc
    have hc : b = fillS r N r.x.1 a := hc
    rw [← hc]
    exact And.intro rfl ⟨[], [], [], rfl, rfl, rfl⟩
  have h1 : x ≤ r.x.2 := by simpa using h1
  obtain ⟨m, hm1⟩ : ∃ m, N - k = m + 1 := ⟨N - k - 1, by omega⟩
  have hm2 : N - (k + 1) = m := by omega
  rw [hm1, fillS] at hc
  obtain ⟨b2, hb2⟩ : ∃ b2, (if lowY r x ≤ highY r x then addS (addS b (x, lowY r x)) (x, highY r x) else b) = b2 := ⟨_, rfl⟩
  rw [hb2] at hc
  refine Tr.meet { env := [(0, .rptr blk 0), (3, .ptr 3 0), (4, I x)], bx := [(3, ⟨fourC r, false⟩)], rw := [], log := encA (huA blk b2), stp := false } (Tr.block ?_) (Tr.regR rfl (by simp) ?_)
  rotate_left
  · refine ⟨(k + 1, b2), _, Wk.le (.cons rfl (.refl _) (.cons rfl (.refl _) (.cons rfl (VLe.i ?_) .nil))) (.cons rfl (LLe.refl _) .nil) .nil rfl rfl, ⟨⟨by simp only; omega, ?_⟩, rfl⟩, by simp only; omega⟩
    · show IntKind.wrap .i64 (x + 1) = r.x.1 + ((k + 1 : Nat) : Int)
      rw [w64 (by omega) (by omega)]; omega
    · simp only
      rw [hm2, show r.x.1 + ((k + 1 : Nat) : Int) = x + 1 by omega]
      exact hc
  refine Tr.seqC rfl (by simp) (Steps.call rfl rfl (c_row01 hm (by omega)) (Steps.fin rfl (by simp) ?_))
  refine Tr.seqR rfl (by simp) (Tr.cond rfl rfl (fun h2 => ?_) (fun h2 => Tr.skip ?_))
  · have h2 : decide (lowY r x ≤ highY r x) = true := h2
    have h2 := of_decide_eq_true h2
    rw [if_pos h2] at hb2
    obtain ⟨p1, p2⟩ := row_plane hf (by omega) h2
    refine Tr.seq (Tr.reg (Steps.run rfl (by simp) (Steps.callA (F := []) hA rfl rfl rfl (c_add01 (a := b) p1) (.inl (by simp)) (Steps.fin rfl (by simp) ?_))))
    refine Tr.reg (Steps.run rfl (by simp) (Steps.callA (F := []) hA rfl rfl rfl (c_add01 (a := addS b (x, lowY r x)) p2) (.inl (by simp)) (Steps.fin rfl (by simp) ?_)))
    rw [← hb2]
    exact Wk.le (.cons rfl (.refl _) (.cons rfl (.refl _) (.cons rfl (.refl _) .nil))) (.cons rfl (LLe.refl _) .nil) .nil rfl rfl
  · have h2 : decide (lowY r x ≤ highY r x) = false := h2
    have h2 := of_decide_eq_false h2
    rw [if_neg h2] at hb2
    rw [← hb2]
    exact Wk.le (.cons rfl (.refl _) (.cons rfl (.refl _) (.cons rfl (.refl _) .nil))) (.cons rfl (LLe.refl _) .nil) .nil rfl rfl

def f0 : Fr := ⟨(0, 0), (0, 0), (0, 0), (0, 0)⟩
def hull01 (r : Fr) : Fr × Bool := fillS r (r.x.2 + 1 - r.x.1).toNat r.x.1 (f0, false)

theorem c_hulls01 {r : Fr} (hf : fitFB r = true) (his : (hull01 r).2 = true) : C Tryz.prog F.ref01_hulls [.slice 0 8 [.agg (fourC r)]] (.tuple [.agg (fourC (hull01 r).1), I 0]) := by
  refine C_of mixed chk.ref01_hulls (by simp) fun S ok => ?_
  refine Tr.seqR rfl (by simp) ?_
  refine Tr.arena rfl rfl ?_
  have hA := InA.main (E := env0 Tryz.prog mixed 30 S ok) [] false
  refine Tr.seq (Tr.reg (Steps.runN 1 rfl (by simp) (Steps.abox hA rfl rfl rfl rfl fun b nb => Steps.fin rfl (by simp) ?_)))
  refine Tr.seq (Tr.seqR rfl (by simp) (Tr.block ?_))
  refine Tr.rounds 2 (TrN.succ ?_)
  refine Tr.seq (Tr.seqR rfl (by simp) (Tr.condT rfl (Tr.skip ?_)))
  refine Tr.seq (Tr.block (Tr.reg (Steps.run rfl (by simp) ?_)))
  refine Steps.callA (F := []) hA rfl rfl rfl (c_fill01 hf (a := (f0, false)) (blk := b)) (.inl (by simp)) (Steps.fin rfl (by simp) ?_)
  refine Tr.regR rfl (by simp) (TrN.succ ?_)
  refine Tr.seq (Tr.seqR rfl (by simp) (Tr.condF rfl (Tr.exit ?_)))
  have e : fillS r (r.x.2 + 1 - r.x.1).toNat r.x.1 (f0, false) = hull01 r := rfl
  rw [e]
  obtain ⟨a, ha⟩ : ∃ a, hull01 r = a := ⟨_, rfl⟩
  rw [ha] at his ⊢
  have hmem : (b, Ob.cells (hullC a)) ∈ huA b a := List.mem_singleton.2 rfl
  refine Tr.seq (Tr.seq (Tr.reg (Steps.ldF (A := huA b a) hA (off := 8) rfl rfl hmem rfl trivial rfl (Steps.fin rfl (by simp) ?_))))
  refine Tr.condF ?_ (Tr.skip ?_)
  · show some (V.bool (!a.2)) = _
    rw [his]; rfl
  refine Tr.seq (Tr.reg (Steps.runN 1 rfl (by simp) (Steps.rnil rfl (Steps.rfaddr rfl (Steps.aloadT (A := huA b a) hA rfl rfl hmem (by simp [hullC]) (Steps.fin rfl (by simp [hullC]) ?_))))))
  exact Tr.retX rfl rfl rfl rfl trivial

theorem c_Tight01 {r : Fr} (hf : fitFB r = true) (his : (hull01 r).2 = true) : C Tryz.prog F.ref01_Tight [.agg (fourC r)] (.tuple [.agg (fourC (hull01 r).1), I 0]) := by
  have kc := c_Check01 r
  rw [if_pos hf] at kc
  refine C_of mixed chk.ref01_Tight (by simp) fun S ok => ?_
  refine Tr.seqR rfl (by simp) ?_
  refine Tr.seq (Tr.seqC rfl (by simp) (Steps.call rfl rfl kc (Steps.fin rfl (by simp) (Tr.seqR rfl (by simp) (Tr.condF rfl (Tr.skip ?_))))))
  exact Tr.seqC rfl (by simp) (Steps.call rfl rfl (c_hulls01 hf his) (Steps.fin rfl (by simp) (Tr.retX rfl rfl rfl rfl trivial)))

/-! ### A point in a region -/
def liesB (t : Fr) (p : Int × Int) : Bool := btw p.1 t.x.1 t.x.2 && btw p.2 t.y.1 t.y.2 && btw (p.1 + p.2) t.s.1 t.s.2 && btw (p.1 - p.2) t.d.1 t.d.2

theorem c_lies01 (t : Fr) {p : Int × Int} (hp : planeB p = true) : C Tryz.prog F.ref01_lies [.agg (fourC t), eB p] (.bool (liesB t p)) := by
  have hp' := planeB_spec hp
  have w1 : IntKind.wrap .i64 (p.1 + p.2) = p.1 + p.2 := w64 (by omega) (by omega)
  have w2 : IntKind.wrap .i64 (p.1 - p.2) = p.1 - p.2 := w64 (by omega) (by omega)
  have k3 := c_between (p.1 + p.2) t.s.1 t.s.2
  have k4 := c_between (p.1 - p.2) t.d.1 t.d.2
  rw [← w1] at k3
  rw [← w2] at k4
  refine C_of mixed chk.ref01_lies (by simp) fun S ok => ?_
  refine Tr.seqR rfl (by simp) ?_
  refine Tr.seqC rfl (by simp) (Steps.call rfl rfl (c_between p.1 t.x.1 t.x.2) (Steps.run rfl (by simp) ?_))
  refine Steps.gcall rfl rfl rfl rfl (by simp) (fun _ => c_between p.2 t.y.1 t.y.2) (Steps.run rfl (by simp) ?_)
  refine Steps.gcall rfl rfl rfl rfl (by simp) (fun _ => k3) (Steps.run rfl (by simp) ?_)
  refine Steps.gcall rfl rfl rfl rfl (by simp) (fun _ => k4) (Steps.fin rfl (by simp) (Tr.retX rfl rfl rfl ?_ trivial))
  rw [w1, w2]
  show V.bool (liesB t p) = V.bool (bif (bif (bif btw p.1 t.x.1 t.x.2 then btw p.2 t.y.1 t.y.2 else false) then btw (p.1 + p.2) t.s.1 t.s.2 else false) then btw (p.1 - p.2) t.d.1 t.d.2 else false)
  unfold liesB
  cases btw p.1 t.x.1 t.x.2 <;> cases btw p.2 t.y.1 t.y.2 <;> cases btw (p.1 + p.2) t.s.1 t.s.2 <;> rfl

theorem c_Has01 {t : Fr} (hf : fitFB t = true) {p : Int × Int} (hp : planeB p = true) : C Tryz.prog F.ref01_Has [.agg (fourC t), eB p] (.tuple [.bool (liesB t p), I 0]) := by
  have kc := c_Check01 t
  rw [if_pos hf] at kc
  have kp := c_place01 p
  rw [hp] at kp
  refine C_of mixed chk.ref01_Has (by simp) fun S ok => ?_
  refine Tr.seqR rfl (by simp) ?_
  refine Tr.seq (Tr.seqC rfl (by simp) (Steps.call rfl rfl kc (Steps.fin rfl (by simp) (Tr.seqR rfl (by simp) (Tr.condF rfl (Tr.skip ?_))))))
  refine Tr.seq (Tr.seqC rfl (by simp) (Steps.call rfl rfl kp (Steps.fin rfl (by simp) (Tr.condF rfl (Tr.skip ?_)))))
  exact Tr.seqC rfl (by simp) (Steps.call rfl rfl (c_lies01 t hp) (Steps.fin rfl (by simp) (Tr.retX rfl rfl rfl rfl trivial)))

end Go.Proofs.YtdejdblopmfjfaaGreatDoor


/-! The chapter's examples come out as it says. -/
set_option linter.unusedVariables false
set_option linter.unusedSimpArgs false
set_option maxRecDepth 40000
set_option maxHeartbeats 4000000
namespace Go.Proofs.YtdejdblopmfjfaaGreatDoor
open Go.Am
attribute [local simp] cells scalar mkv splice under2 under dem dem1 eB gridC sB fourC eF layC eQ nfC intsV foldV eL sL eC cutsV
theorem ex1 : (if gridOk exG then (if planeB (1, 1) && planeB (9, 3) then .tuple [eB (cellN exG (1, 1) (9, 3)), I 0] else .tuple [.agg [I 0, I 0], I 10]) else .tuple [.agg [I 0, I 0], I 70] : V) = .tuple [eB (5, 1), I 0] := by kernel_rfl
theorem ex2 : HitsR exG exY 2 = .tuple [sB [(-1, -1), (5, 0)], I 0] := by kernel_rfl
theorem ex3 : FoldR exG exY = .tuple [foldV [[0, 0], [0, 0], [0, 0], [0, 0], [1, 0], [0, 1]], foldV [[0, 0], [0, 0], [0, 0], [0, 0], [1, 0], [1, 1]], I 0] := by kernel_rfl
theorem ex4 : MapR exG [[0, 0], [0, 0], [0, 0], [0, 0], [1, 0], [0, 1]] 0 = .tuple [.str ⟨#[46, 49, 46, 10, 46, 46, 46, 10]⟩, I 0] := by kernel_rfl
theorem ex5 : LacksR exG exY [0, 2] = .tuple [sL [(0, 1, 2), (1, 1, 2), (2, 1, 2), (3, 1, 2), (4, 1, 2), (5, 1, 1)], I 0] := by kernel_rfl
theorem ex6 : GainR exG exY 2 = .tuple [I 0, I 0] := by kernel_rfl
theorem ex7 : BestR exN = .tuple [intsV [3], I 6, I 0] := by kernel_rfl
theorem ex8 : WithoutR exN 3 = .tuple [I 1, I 0] := by kernel_rfl
theorem ex9 : BoundR exN [⟨-1, [2, 2]⟩] = .tuple [I 6, I 0] := by kernel_rfl

theorem exG_l : exG.cls.length ≤ 9223372036854775807 := by decide
theorem exY_n : exY.nodes.length ≤ 9223372036854775807 := by decide
theorem exY_t : exY.traces.length ≤ 9223372036854775807 := by decide
theorem exN_a : ∀ p ∈ exN.passes, p.adds.length ≤ 9223372036854775807 := by decide
theorem exF_r : ∀ r ∈ ([[0, 0], [0, 0], [0, 0], [0, 0], [1, 0], [0, 1]] : List (List Int)), r.length ≤ 9223372036854775807 := by decide
theorem exF2_r : ∀ r ∈ ([[0, 0], [0, 0], [0, 0], [0, 0], [1, 0], [1, 1]] : List (List Int)), r.length ≤ 9223372036854775807 := by decide

/-- **THE CHAPTER's EXAMPLES** come out as it says. -/
theorem c_works : C Tryz.prog F.law07_works [] (.bool true) := by
  refine C_of mixed chk.law07_works (by simp) fun S ok => ?_
  refine Tr.seqR rfl (by simp) ?_
  refine Tr.seqC rfl (by simp) (Steps.call rfl rfl c_grid (Steps.run rfl (by simp) ?_))
  refine Steps.call rfl rfl (ex1 ▸ c_Cell exG_l (1, 1) (9, 3)) (Steps.fin rfl (by simp) ?_)
  refine Tr.seqC rfl (by simp) (Steps.call rfl rfl c_grid (Steps.run rfl (by simp) ?_))
  refine Steps.call rfl rfl c_lines (Steps.run rfl (by simp) ?_)
  refine Steps.call rfl rfl (ex2 ▸ c_Hits exG_l exY_n exY_t 2) (Steps.fin rfl (by simp) ?_)
  refine Tr.seqC rfl (by simp) (Steps.call rfl rfl c_grid (Steps.run rfl (by simp) ?_))
  refine Steps.call rfl rfl c_lines (Steps.run rfl (by simp) ?_)
  refine Steps.call rfl rfl (ex3 ▸ c_Fold exG_l exY_n exY_t) (Steps.fin rfl (by simp) ?_)
  refine Tr.seq (Tr.seq (Tr.reg (Steps.runG rfl (by simp) ?_)))
  refine Steps.on rfl rfl (Steps.call rfl rfl (c_cells [(-1, -1), (5, 0)] [(-1, -1), (5, 0)] (by decide)) (Steps.runG rfl (by simp) ?_))
  refine Steps.on rfl rfl (Steps.call rfl rfl (c_AlikeLists [[0, 0], [0, 0], [0, 0], [0, 0], [1, 0], [0, 1]] [[0, 0], [0, 0], [0, 0], [0, 0], [1, 0], [0, 1]] (by decide) exF_r) (Steps.runG rfl (by simp) ?_))
  refine Steps.on rfl rfl (Steps.call rfl rfl (c_AlikeLists [[0, 0], [0, 0], [0, 0], [0, 0], [1, 0], [1, 1]] [[0, 0], [0, 0], [0, 0], [0, 0], [1, 0], [1, 1]] (by decide) exF2_r) (Steps.runG rfl (by simp) ?_))
  refine Tr.condF (by kernel_rfl) (Tr.skip ?_)
  refine Tr.seqC rfl (by simp) (Steps.call rfl rfl c_grid (Steps.run rfl (by simp) ?_))
  refine Steps.call rfl rfl (ex4 ▸ c_Map exG_l exF_r (by decide) 0) (Steps.fin rfl (by simp) ?_)
  refine Tr.seqC rfl (by simp) (Steps.call rfl rfl c_grid (Steps.run rfl (by simp) ?_))
  refine Steps.call rfl rfl c_lines (Steps.run rfl (by simp) ?_)
  refine Steps.call rfl rfl (ex5 ▸ c_Lacks exG_l exY_n exY_t (ns := [0, 2]) (by decide)) (Steps.fin rfl (by simp) ?_)
  refine Tr.seqC rfl (by simp) (Steps.call rfl rfl c_grid (Steps.run rfl (by simp) ?_))
  refine Steps.call rfl rfl c_lines (Steps.run rfl (by simp) ?_)
  refine Steps.call rfl rfl (ex6 ▸ c_Gain exG_l exY_n exY_t 2) (Steps.fin rfl (by simp) ?_)
  refine Tr.seqC rfl (by simp) (Steps.call rfl rfl c_gaps (Steps.run rfl (by simp) ?_))
  refine Steps.call rfl rfl (ex7 ▸ c_Best exN_a) (Steps.fin rfl (by simp) ?_)
  refine Tr.seqC rfl (by simp) (Steps.call rfl rfl c_gaps (Steps.run rfl (by simp) ?_))
  refine Steps.call rfl rfl (ex8 ▸ c_Without exN_a 3) (Steps.fin rfl (by simp) ?_)
  refine Tr.seqC rfl (by simp) (Steps.call rfl rfl c_gaps (Steps.run rfl (by simp) ?_))
  refine Steps.call rfl rfl (ex9 ▸ c_Bound exN_a (pf := [⟨-1, [2, 2]⟩]) (by decide)) (Steps.fin rfl (by simp) ?_)
  refine Tr.seq (Tr.reg (Steps.runGN 24 rfl (by simp) ?_))
  refine Steps.on rfl rfl (Steps.strEq rfl (Steps.runG rfl (by simp) ?_))
  refine Steps.on rfl rfl (Steps.call rfl rfl (c_Alike [3] [3] (by decide)) (Steps.runG rfl (by simp) ?_))
  exact Tr.retX rfl rfl rfl (by kernel_rfl) trivial

end Go.Proofs.YtdejdblopmfjfaaGreatDoor


/-! Contracts: Tight, Pick, chosen; a place that numbers choose lies in its region. -/
set_option linter.unusedVariables false
set_option linter.unusedSimpArgs false
set_option maxRecDepth 40000
set_option maxHeartbeats 4000000
namespace Go.Proofs.YtdejdblopmfjfaaGreatDoor
open Go.Am
attribute [local simp] cells scalar mkv splice under2 under dem dem1 eB fourC intsV
/-! ### The hull of points of the plane -/
structure HullOk (T : Fr) (l : List (Int × Int)) : Prop where
  i : ∀ p ∈ l, (T.x.1 ≤ p.1 ∧ p.1 ≤ T.x.2) ∧ (T.y.1 ≤ p.2 ∧ p.2 ≤ T.y.2) ∧ (T.s.1 ≤ p.1 + p.2 ∧ p.1 + p.2 ≤ T.s.2) ∧ T.d.1 ≤ p.1 - p.2 ∧ p.1 - p.2 ≤ T.d.2
  a1 : ∃ p ∈ l, p.1 = T.x.1
  a2 : ∃ p ∈ l, p.1 = T.x.2
  b1 : ∃ p ∈ l, p.2 = T.y.1
  b2 : ∃ p ∈ l, p.2 = T.y.2
  c1 : ∃ p ∈ l, p.1 + p.2 = T.s.1
  c2 : ∃ p ∈ l, p.1 + p.2 = T.s.2
  d1 : ∃ p ∈ l, p.1 - p.2 = T.d.1
  d2 : ∃ p ∈ l, p.1 - p.2 = T.d.2

theorem attain {l : List (Int × Int)} {f : Int × Int → Int} {m : Int} {p : Int × Int} (h : ∃ q ∈ l, f q = m) : (∃ q ∈ l ++ [p], f q = min m (f p)) ∧ ∃ q ∈ l ++ [p], f q = max m (f p) := by
  obtain ⟨q, hq, rfl⟩ := h
  constructor
  · by_cases h : f q ≤ f p
    · exact ⟨q, by simp [hq], by omega⟩
    · exact ⟨p, by simp, by omega⟩
  · by_cases h : f q ≤ f p
    · exact ⟨p, by simp, by omega⟩
    · exact ⟨q, by simp [hq], by omega⟩

theorem rows_mem {f : Fr} {r : Int × Int × Int} : ∀ (n : Nat) (x : Int), r ∈ rowsN f n x → (x ≤ r.1 ∧ r.1 < x + n) ∧ r.2.1 = lowY f r.1 ∧ r.2.2 = highY f r.1 ∧ r.2.1 ≤ r.2.2
  | 0, x, h => by cases h
  | n + 1, x, h => by
    simp only [rowsN] at h
    split at h
    · rename_i h1
      rcases List.mem_cons.1 h with rfl | h
      · exact ⟨⟨by simp, by simp; omega⟩, rfl, rfl, h1⟩
      · have := rows_mem n (x + 1) h
        exact ⟨⟨by omega, by push_cast; omega⟩, this.2⟩
    · have := rows_mem n (x + 1) h
      exact ⟨⟨by omega, by push_cast; omega⟩, this.2⟩

end Go.Proofs.YtdejdblopmfjfaaGreatDoor


/-! Contracts: Pick, chosen, stood. -/
set_option linter.unusedVariables false
set_option linter.unusedSimpArgs false
set_option maxRecDepth 40000
set_option maxHeartbeats 4000000
namespace Go.Proofs.YtdejdblopmfjfaaGreatDoor
open Go.Am
attribute [local simp] cells scalar mkv splice under2 under dem dem1 eB fourC intsV sB eF
/-! ### A place that numbers choose -/
theorem lowY_le {f : Fr} {x y : Int} : lowY f x ≤ y ↔ f.y.1 ≤ y ∧ f.s.1 - x ≤ y ∧ x - f.d.2 ≤ y := by unfold lowY; omega
theorem le_highY {f : Fr} {x y : Int} : y ≤ highY f x ↔ y ≤ f.y.2 ∧ y ≤ f.s.2 - x ∧ y ≤ x - f.d.1 := by unfold highY; omega

end Go.Proofs.YtdejdblopmfjfaaGreatDoor


/-! Plain: the specification's hull of a region that is a node's; what lies in it. -/
set_option linter.unusedVariables false
set_option linter.unusedSimpArgs false
set_option maxRecDepth 40000
set_option maxHeartbeats 4000000
namespace Go.Proofs.YtdejdblopmfjfaaGreatDoor
open Go.Am

def ends2 (r : Int × Int × Int) : List (Int × Int) := [(r.1, r.2.1), (r.1, r.2.2)]
def ends2L (f : Fr) : List (Int × Int) := (rowsL f).flatMap ends2
def HS (a : Fr × Bool) (l : List (Int × Int)) : Prop := (a.2 = false ∧ l = []) ∨ (a.2 = true ∧ HullOk a.1 l)

theorem hs_add {a : Fr × Bool} {l : List (Int × Int)} {p : Int × Int} (h : HS a l) : HS (addS a p) (l ++ [p]) := by
  obtain ⟨T, b⟩ := a
  rcases h with ⟨h1, rfl⟩ | ⟨h1, ih⟩
  · have h1 : b = false := h1
    subst h1
    refine .inr ⟨rfl, ?_⟩
    have e : (addS (T, false) p).1 = ofFP p := by simp [addS, withF, withB, ofFP]
    rw [e]
    refine ⟨?_, ?_, ?_, ?_, ?_, ?_, ?_, ?_, ?_⟩
    · intro q hq
      have hq : q = p := by simpa using hq
      subst hq
      simp [ofFP]
    all_goals exact ⟨p, by simp, rfl⟩
  · have h1 : b = true := h1
    subst h1
    have ih : HullOk T l := ih
    refine .inr ⟨rfl, ?_⟩
    have eT : (addS (T, true) p).1 = ⟨(min T.x.1 p.1, max T.x.2 p.1), (min T.y.1 p.2, max T.y.2 p.2), (min T.s.1 (p.1 + p.2), max T.s.2 (p.1 + p.2)), (min T.d.1 (p.1 - p.2), max T.d.2 (p.1 - p.2))⟩ := rfl
    rw [eT]
    refine ⟨?_, (attain (f := fun q => q.1) ih.a1).1, (attain (f := fun q => q.1) ih.a2).2, (attain (f := fun q => q.2) ih.b1).1, (attain (f := fun q => q.2) ih.b2).2, (attain (f := fun q => q.1 + q.2) ih.c1).1, (attain (f := fun q => q.1 + q.2) ih.c2).2, (attain (f := fun q => q.1 - q.2) ih.d1).1, (attain (f := fun q => q.1 - q.2) ih.d2).2⟩
    intro q hq
    simp only
    rcases List.mem_append.1 hq with hq | hq
    · have := ih.i q hq
      omega
    · rw [List.mem_singleton.1 hq]
      omega

theorem hs_fill (r : Fr) : ∀ (n : Nat) (x : Int) (a : Fr × Bool) (l : List (Int × Int)), HS a l → HS (fillS r n x a) (l ++ (rowsN r n x).flatMap ends2)
  | 0, x, a, l, h => by simpa [fillS, rowsN] using h
  | n + 1, x, a, l, h => by
    unfold fillS rowsN
    split
    · have := hs_fill r n (x + 1) _ _ (hs_add (p := (x, highY r x)) (hs_add (p := (x, lowY r x)) h))
      simpa [ends2] using this
    · exact hs_fill r n (x + 1) _ _ h

theorem ends2_mem {f : Fr} {p : Int × Int} (hp : p ∈ ends2L f) : p ∈ placesL f := by
  obtain ⟨r, hr, hp⟩ := List.mem_flatMap.1 hp
  obtain ⟨h1, h2, h3, h4⟩ := rows_mem _ _ hr
  rw [mem_placesL]
  rcases List.mem_cons.1 hp with rfl | hp
  · exact ⟨⟨by simp only; omega, by simp only; omega⟩, by simp only; omega, by simp only; omega⟩
  · rw [List.mem_singleton.1 hp]
    exact ⟨⟨by simp only; omega, by simp only; omega⟩, by simp only; omega, by simp only; omega⟩

theorem row_in {f : Fr} : ∀ (n : Nat) (x y : Int), x ≤ y → y < x + n → lowY f y ≤ highY f y → (y, lowY f y, highY f y) ∈ rowsN f n x
  | 0, x, y, h1, h2, _ => by simp at h2; omega
  | n + 1, x, y, h1, h2, h3 => by
    push_cast at h2
    unfold rowsN
    by_cases e : x = y
    · subst e; rw [if_pos h3]; exact List.mem_cons_self
    · have := row_in n (x + 1) y (by omega) (by omega) h3
      split
      · exact List.mem_cons_of_mem _ this
      · exact this

theorem ends2_in {f : Fr} {q : Int × Int} (hq : q ∈ placesL f) : (q.1, lowY f q.1) ∈ ends2L f ∧ (q.1, highY f q.1) ∈ ends2L f := by
  obtain ⟨⟨h1, h2⟩, h3, h4⟩ := mem_placesL.1 hq
  have hr := row_in (f := f) (f.x.2 + 1 - f.x.1).toNat f.x.1 q.1 h1 (by omega) (by omega)
  exact ⟨List.mem_flatMap.2 ⟨_, hr, by simp [ends2]⟩, List.mem_flatMap.2 ⟨_, hr, by simp [ends2]⟩⟩

theorem places_ne {f : Fr} (h : nodeOk f = true) : placesL f ≠ [] := by
  simp only [nodeOk, Bool.and_eq_true, btw_iff] at h
  have hc := count_len (mid_of h.1)
  intro e
  rw [e] at hc
  simp at hc; omega

theorem hull01_ok {f : Fr} (h : nodeOk f = true) : (hull01 f).2 = true ∧ HullOk (hull01 f).1 (ends2L f) := by
  have hs := hs_fill f (f.x.2 + 1 - f.x.1).toNat f.x.1 (f0, false) [] (.inl ⟨rfl, rfl⟩)
  have e : fillS f (f.x.2 + 1 - f.x.1).toNat f.x.1 (f0, false) = hull01 f := rfl
  rw [e, List.nil_append] at hs
  have e2 : (rowsN f (f.x.2 + 1 - f.x.1).toNat f.x.1).flatMap ends2 = ends2L f := rfl
  rw [e2] at hs
  rcases hs with ⟨_, h2⟩ | h2
  · exfalso
    obtain ⟨q, hq⟩ := List.exists_mem_of_ne_nil _ (places_ne h)
    have := (ends2_in hq).1
    rw [h2] at this
    cases this
  · exact h2

theorem hull01_pl {f : Fr} (h : nodeOk f = true) : ((-32768 ≤ (hull01 f).1.x.1 ∧ (hull01 f).1.x.1 ≤ (hull01 f).1.x.2 ∧ (hull01 f).1.x.2 ≤ 32768) ∧ (-32768 ≤ (hull01 f).1.y.1 ∧ (hull01 f).1.y.1 ≤ (hull01 f).1.y.2 ∧ (hull01 f).1.y.2 ≤ 32768)) ∧ fitFB (hull01 f).1 = true := by
  have H := (hull01_ok h).2
  have pl : ∀ p ∈ ends2L f, (-32768 ≤ p.1 ∧ p.1 ≤ 32768) ∧ -32768 ≤ p.2 ∧ p.2 ≤ 32768 := fun p hp => by
    have := node_plane h (ends2_mem hp)
    simpa only [planeB, Bool.and_eq_true, btw_iff] using this
  generalize (hull01 f).1 = T at H ⊢
  obtain ⟨p1, m1, e1⟩ := H.a1; obtain ⟨p2, m2, e2⟩ := H.a2; obtain ⟨p3, m3, e3⟩ := H.b1; obtain ⟨p4, m4, e4⟩ := H.b2
  obtain ⟨p5, m5, e5⟩ := H.c1; obtain ⟨p6, m6, e6⟩ := H.c2; obtain ⟨p7, m7, e7⟩ := H.d1; obtain ⟨p8, m8, e8⟩ := H.d2
  have k1 := pl _ m1; have k2 := pl _ m2; have k3 := pl _ m3; have k4 := pl _ m4; have k5 := pl _ m5; have k6 := pl _ m6; have k7 := pl _ m7; have k8 := pl _ m8
  have k9 := H.i _ m1
  refine ⟨⟨⟨?_, ?_, ?_⟩, ⟨?_, ?_, ?_⟩⟩, ?_⟩
  · omega
  · omega
  · omega
  · omega
  · omega
  · omega
  · rw [fitFB_iff]
    unfold fitF fitB
    refine ⟨⟨⟨?_, ?_, ?_⟩, ⟨?_, ?_, ?_⟩⟩, ⟨?_, ?_, ?_⟩, ⟨?_, ?_, ?_⟩⟩ <;> omega

/-- What lies in the hull is what lies in the region. -/
theorem lies_places {f : Fr} (h : nodeOk f = true) (q : Int × Int) : liesB (hull01 f).1 q = true ↔ q ∈ placesL f := by
  have H := (hull01_ok h).2
  have pl : ∀ p ∈ ends2L f, (f.x.1 ≤ p.1 ∧ p.1 ≤ f.x.2) ∧ (f.y.1 ≤ p.2 ∧ f.s.1 - p.1 ≤ p.2 ∧ p.1 - f.d.2 ≤ p.2) ∧ p.2 ≤ f.y.2 ∧ p.2 ≤ f.s.2 - p.1 ∧ p.2 ≤ p.1 - f.d.1 := fun p hp => by
    have := mem_placesL.1 (ends2_mem hp)
    rw [lowY_le, le_highY] at this; exact this
  have hin := fun (hq : q ∈ placesL f) => ends2_in hq
  generalize (hull01 f).1 = T at H ⊢
  unfold liesB
  simp only [Bool.and_eq_true, btw_iff]
  constructor
  · rintro ⟨⟨⟨⟨h1, h2⟩, h3, h4⟩, h5, h6⟩, h7, h8⟩
    obtain ⟨p1, m1, e1⟩ := H.a1; obtain ⟨p2, m2, e2⟩ := H.a2; obtain ⟨p3, m3, e3⟩ := H.b1; obtain ⟨p4, m4, e4⟩ := H.b2
    obtain ⟨p5, m5, e5⟩ := H.c1; obtain ⟨p6, m6, e6⟩ := H.c2; obtain ⟨p7, m7, e7⟩ := H.d1; obtain ⟨p8, m8, e8⟩ := H.d2
    have k1 := pl _ m1; have k2 := pl _ m2; have k3 := pl _ m3; have k4 := pl _ m4; have k5 := pl _ m5; have k6 := pl _ m6; have k7 := pl _ m7; have k8 := pl _ m8
    rw [mem_placesL, lowY_le, le_highY]
    clear hin pl H m1 m2 m3 m4 m5 m6 m7 m8
    refine ⟨⟨?_, ?_⟩, ⟨?_, ?_, ?_⟩, ⟨?_, ?_, ?_⟩⟩
    · clear k2 k3 k4 k5 k6 k7 k8; omega
    · clear k1 k3 k4 k5 k6 k7 k8; omega
    · clear k1 k2 k4 k5 k6 k7 k8; omega
    · clear k1 k2 k3 k4 k6 k7 k8; omega
    · clear k1 k2 k3 k4 k5 k6 k7; omega
    · clear k1 k2 k3 k5 k6 k7 k8; omega
    · clear k1 k2 k3 k4 k5 k7 k8; omega
    · clear k1 k2 k3 k4 k5 k6 k8; omega
  · intro hq
    obtain ⟨m1, m2⟩ := hin hq
    have i1 := H.i _ m1
    have i2 := H.i _ m2
    have hm := (mem_placesL.1 hq).2
    simp only at i1 i2
    omega

/-! ### All points of a box that lie in the hull -/
def colF (T : Fr) (x : Int) : Nat → Int → List (Int × Int)
  | 0, _ => []
  | n + 1, y => (if liesB T (x, y) then [(x, y)] else []) ++ colF T x n (y + 1)
def boxF (T : Fr) (m : Nat) : Nat → Int → List (Int × Int)
  | 0, _ => []
  | n + 1, x => colF T x m T.y.1 ++ boxF T m n (x + 1)
def boxL (T : Fr) : List (Int × Int) := boxF T (T.y.2 + 1 - T.y.1).toNat (T.x.2 + 1 - T.x.1).toNat T.x.1

theorem mem_colF {T : Fr} {x : Int} {q : Int × Int} : ∀ (n : Nat) (y : Int), q ∈ colF T x n y ↔ (q.1 = x ∧ y ≤ q.2 ∧ q.2 < y + n) ∧ liesB T q = true
  | 0, y => by simp [colF]; omega
  | n + 1, y => by
    rw [colF, List.mem_append, mem_colF n (y + 1)]
    push_cast
    constructor
    · rintro (h | ⟨⟨h1, h2, h3⟩, h4⟩)
      · split at h
        · rename_i hl
          obtain rfl := List.mem_singleton.1 h
          exact ⟨⟨rfl, by simp, by simp only; omega⟩, hl⟩
        · cases h
      · exact ⟨⟨h1, by omega, by omega⟩, h4⟩
    · rintro ⟨⟨h1, h2, h3⟩, h4⟩
      by_cases e : q.2 = y
      · obtain rfl : q = (x, y) := Prod.ext h1 e
        exact .inl (by rw [if_pos h4]; exact List.mem_singleton.2 rfl)
      · exact .inr ⟨⟨h1, by omega, by omega⟩, h4⟩

theorem mem_boxF {T : Fr} {m : Nat} {q : Int × Int} : ∀ (n : Nat) (x : Int), q ∈ boxF T m n x ↔ ((x ≤ q.1 ∧ q.1 < x + n) ∧ T.y.1 ≤ q.2 ∧ q.2 < T.y.1 + m) ∧ liesB T q = true
  | 0, x => by simp [boxF]; omega
  | n + 1, x => by
    rw [boxF, List.mem_append, mem_boxF n (x + 1), mem_colF]
    push_cast
    constructor
    · rintro (⟨⟨h1, h2⟩, h3⟩ | ⟨⟨⟨h1, h2⟩, h3⟩, h4⟩)
      · exact ⟨⟨⟨by omega, by omega⟩, h2⟩, h3⟩
      · exact ⟨⟨⟨by omega, by omega⟩, h3⟩, h4⟩
    · rintro ⟨⟨⟨h1, h2⟩, h3⟩, h4⟩
      by_cases e : q.1 = x
      · exact .inl ⟨⟨e, h3⟩, h4⟩
      · exact .inr ⟨⟨⟨by omega, by omega⟩, h3⟩, h4⟩

theorem colF_sorted (T : Fr) (x : Int) : ∀ (n : Nat) (y : Int), (colF T x n y).Pairwise befC
  | 0, y => List.Pairwise.nil
  | n + 1, y => by
    rw [colF, List.pairwise_append]
    refine ⟨?_, colF_sorted T x n (y + 1), fun a ha b hb => ?_⟩
    · split
      · simp
      · exact List.Pairwise.nil
    · split at ha
      · obtain rfl := List.mem_singleton.1 ha
        have := (mem_colF _ _).1 hb
        unfold befC
        simp only
        omega
      · cases ha

theorem boxF_sorted (T : Fr) (m : Nat) : ∀ (n : Nat) (x : Int), (boxF T m n x).Pairwise befC
  | 0, x => List.Pairwise.nil
  | n + 1, x => by
    rw [boxF, List.pairwise_append]
    refine ⟨colF_sorted _ _ _ _, boxF_sorted T m n (x + 1), fun a ha b hb => ?_⟩
    have h1 := (mem_colF _ _).1 ha
    have h2 := (mem_boxF _ _).1 hb
    unfold befC
    omega

theorem ptsN_sorted (x : Int) : ∀ (n : Nat) (y : Int), (ptsN x n y).Pairwise befC
  | 0, y => List.Pairwise.nil
  | n + 1, y => by
    rw [ptsN, List.pairwise_cons]
    refine ⟨fun b hb => ?_, ptsN_sorted x n (y + 1)⟩
    have := (mem_ptsN _ _).1 hb
    unfold befC
    simp only
    omega

theorem rowsF_sorted (f : Fr) : ∀ (n : Nat) (x : Int), ((rowsN f n x).flatMap colP).Pairwise befC
  | 0, x => List.Pairwise.nil
  | n + 1, x => by
    rw [rowsN_flat, List.pairwise_append]
    refine ⟨ptsN_sorted _ _ _, rowsF_sorted f n (x + 1), fun a ha b hb => ?_⟩
    have h1 := (mem_ptsN _ _).1 ha
    have h2 := (mem_rowsN _ _).1 hb
    unfold befC
    omega

theorem places_sorted (f : Fr) : (placesL f).Pairwise befC := rowsF_sorted f _ _

theorem boxL_places {f : Fr} (h : nodeOk f = true) : boxL (hull01 f).1 = placesL f := by
  refine sorted_unique _ _ (boxF_sorted _ _ _ _) (places_sorted f) fun q => ?_
  rw [← lies_places h q]
  unfold boxL
  rw [mem_boxF]
  constructor
  · exact fun hq => hq.2
  · intro hq
    refine ⟨?_, hq⟩
    unfold liesB at hq
    simp only [Bool.and_eq_true, btw_iff] at hq
    omega

end Go.Proofs.YtdejdblopmfjfaaGreatDoor


/-! Contracts of the specification: places, hits, Hits. -/
set_option linter.unusedVariables false
set_option linter.unusedSimpArgs false
set_option maxRecDepth 40000
set_option maxHeartbeats 4000000
namespace Go.Proofs.YtdejdblopmfjfaaGreatDoor
open Go.Am
attribute [local simp] cells scalar mkv splice under2 under dem dem1 eB gridC sB fourC layC eF
theorem c_places07 {f : Fr} (h : nodeOk f = true) : C Tryz.prog F.ref07_places [.agg (fourC f)] (sB (placesL f)) := by
  have hn2 := h
  simp only [nodeOk, Bool.and_eq_true, btw_iff] at hn2
  have hcl := count_len (mid_of hn2.1)
  have hPl : (placesL f).length ≤ 64 := by omega
  have kt := c_Tight01 hn2.1 (hull01_ok h).1
  have hb := boxL_places h
  obtain ⟨⟨⟨hx1, hx2, hx3⟩, hy1, hy2, hy3⟩, hfit⟩ := hull01_pl h
  obtain ⟨T, hT⟩ : ∃ T, (hull01 f).1 = T := ⟨_, rfl⟩
  rw [hT] at kt hb hx1 hx2 hx3 hy1 hy2 hy3 hfit
  obtain ⟨N, hN⟩ : ∃ N, (T.x.2 + 1 - T.x.1).toNat = N := ⟨_, rfl⟩
  obtain ⟨m, hm⟩ : ∃ m, (T.y.2 + 1 - T.y.1).toNat = m := ⟨_, rfl⟩
  unfold boxL at hb
  rw [hm, hN] at hb
  refine C_of mixed chk.ref07_places (by simp) fun S ok => ?_
  refine Tr.seqR rfl (by simp) (Tr.seqR rfl (by simp) ?_)
  refine Tr.seqC rfl (by simp) (Steps.call rfl rfl kt (Steps.fin rfl (by simp) ?_))
  refine Tr.seq (Tr.seqR rfl (by simp) (Tr.block ?_))
  refine Tr.loop (α := Nat × List (Int × Int)) (fun p st => (p.1 ≤ N ∧ p.2 ++ boxF T m (N - p.1) (T.x.1 + p.1) = placesL f) ∧ st = { env := [(3, .slice 54 2 (p.2.map eB)), (4, .ptr 4 0), (6, I (T.x.1 + p.1))], bx := [(4, ⟨fourC T, false⟩)], rw := [(53, p.2.length, 2, 23)], log := [], stp := false }) (fun p => N - p.1) (0, [])
    (Wk.le (.cons rfl (.nil 54 2) (.cons rfl (.refl _) (.cons rfl (VLe.i (by simp)) .nil))) (.cons rfl (LLe.refl _) .nil) (.new rfl .nil) rfl rfl) ⟨⟨by simp, by simpa using hb⟩, rfl⟩ ?_
  rintro ⟨k, out⟩ st ⟨⟨hk, ho⟩, rfl⟩
  simp only at hk ho
  obtain ⟨x, hx⟩ : ∃ x, T.x.1 + (k : Int) = x := ⟨_, rfl⟩
  rw [hx] at ho ⊢
  refine Tr.seq (Tr.seqR rfl (by simp) (Tr.cond rfl rfl (fun h1 => Tr.skip ?_) (fun h1 => Tr.exit ?_)))
  rotate_left
  · have h1 : ¬ x ≤ T.x.2 := by simpa using h1
    rw [show N - k = 0 by omega] at ho
    have e : out = placesL f := by simpa [boxF] using ho
    refine Tr.seqR rfl (by simp) (Tr.weak (s' := { env := [(2, sB out)], bx := [], rw := [], log := [], stp := false }) (Wk.le (.cons rfl (.dem _ _ _) .nil) .nil .nil rfl rfl) (Tr.retX rfl rfl rfl ?_ trivial))
    rw [← e]; rfl
  have h1 : x ≤ T.x.2 := by simpa using h1
  obtain ⟨n, hn⟩ : ∃ n, N - k = n + 1 := ⟨N - k - 1, by omega⟩
  have hn2' : N - (k + 1) = n := by omega
  rw [hn, boxF] at ho
  refine Tr.seq (Tr.block (Tr.seqR rfl (by simp) (Tr.block ?_)))
  refine Tr.loop (α := Nat × List (Int × Int)) (fun p st => (p.1 ≤ m ∧ p.2 ++ (colF T x (m - p.1) (T.y.1 + p.1) ++ boxF T m n (x + 1)) = placesL f) ∧ st = { env := [(3, .slice 54 2 (p.2.map eB)), (4, .ptr 4 0), (6, I x), (7, I (T.y.1 + p.1))], bx := [(4, ⟨fourC T, false⟩)], rw := [(53, p.2.length, 2, 23)], log := [], stp := false }) (fun p => m - p.1) (0, out)
    (Wk.le (.cons rfl (.refl _) (.cons rfl (.refl _) (.cons rfl (.refl _) (.cons rfl (VLe.i (by simp)) .nil)))) (.cons rfl (LLe.refl _) .nil) (.cons rfl .nil) rfl rfl) ⟨⟨by simp, by simpa using ho⟩, rfl⟩ ?_
  rintro ⟨j, o2⟩ st ⟨⟨hj, ho2⟩, rfl⟩
  simp only at hj ho2
  obtain ⟨y, hy⟩ : ∃ y, T.y.1 + (j : Int) = y := ⟨_, rfl⟩
  rw [hy] at ho2 ⊢
  refine Tr.seq (Tr.seqR rfl (by simp) (Tr.cond rfl rfl (fun h2 => Tr.skip ?_) (fun h2 => Tr.exit ?_)))
  rotate_left
  · have h2 : ¬ y ≤ T.y.2 := by simpa using h2
    rw [show m - j = 0 by omega] at ho2
    refine Tr.regR rfl (by simp) ?_
    refine ⟨(k + 1, o2), _, Wk.le (.cons rfl (.refl _) (.cons rfl (.refl _) (.cons rfl (VLe.i ?_) .nil))) (.cons rfl (LLe.refl _) .nil) (.cons rfl .nil) rfl rfl, ⟨⟨by simp only; omega, ?_⟩, rfl⟩, by simp only; omega⟩
    · show IntKind.wrap .i64 (x + 1) = T.x.1 + ((k + 1 : Nat) : Int)
      rw [w64 (by omega) (by omega)]; omega
    · simp only
      rw [hn2', show T.x.1 + ((k + 1 : Nat) : Int) = x + 1 by omega]
      simpa [colF] using ho2
  have h2 : y ≤ T.y.2 := by simpa using h2
  obtain ⟨q, hq⟩ : ∃ q, m - j = q + 1 := ⟨m - j - 1, by omega⟩
  have hq2 : m - (j + 1) = q := by omega
  have e1 : T.y.1 + ((j + 1 : Nat) : Int) = y + 1 := by omega
  rw [hq, colF] at ho2
  have hpl : planeB (x, y) = true := by
    unfold planeB
    simp only [Bool.and_eq_true, btw_iff]
    omega
  have kh := c_Has01 hfit hpl
  have ho64 : o2.length ≤ 64 := by
    have := congrArg List.length ho2
    simp only [List.length_append] at this
    omega
  obtain ⟨b, hb1⟩ : ∃ b, liesB T (x, y) = b := ⟨_, rfl⟩
  rw [hb1] at kh ho2
  refine Tr.meet { env := [(3, .slice 54 2 ((o2 ++ if b then [(x, y)] else []).map eB)), (4, .ptr 4 0), (6, I x), (7, I y)], bx := [(4, ⟨fourC T, false⟩)], rw := [(53, (o2 ++ if b then [(x, y)] else []).length, 2, 23)], log := [], stp := false } (Tr.block ?_) (Tr.regR rfl (by simp) ?_)
  rotate_left
  · refine ⟨(j + 1, o2 ++ if b then [(x, y)] else []), _, Wk.le (.cons rfl (.refl _) (.cons rfl (.refl _) (.cons rfl (.refl _) (.cons rfl (VLe.i ?_) .nil)))) (.cons rfl (LLe.refl _) .nil) (.cons rfl .nil) rfl rfl, ⟨⟨by simp only; omega, ?_⟩, rfl⟩, by simp only; omega⟩
    · show IntKind.wrap .i64 (y + 1) = T.y.1 + ((j + 1 : Nat) : Int)
      rw [w64 (by omega) (by omega)]; omega
    · simp only
      rw [hq2, e1]
      simpa using ho2
  refine Tr.seqR rfl (by simp) ?_
  refine Tr.seqC rfl (by simp) (Steps.call rfl rfl kh (Steps.fin rfl (by simp) ?_))
  refine Tr.seqR rfl (by simp) ?_
  cases b with
  | true =>
    refine Tr.condT rfl (Tr.regR rfl (by simp; omega) ?_)
    refine Wk.le (.cons rfl (.of_eq ?_) (.cons rfl (.refl _) (.cons rfl (.refl _) (.cons rfl (.refl _) .nil)))) (.cons rfl (LLe.refl _) .nil) (.cons ?_ .nil) rfl rfl
    · simp
    · show some _ = some _
      simp
  | false =>
    refine Tr.condF rfl (Tr.skip ?_)
    refine Wk.le (.cons rfl (.of_eq ?_) (.cons rfl (.refl _) (.cons rfl (.refl _) (.cons rfl (.refl _) .nil)))) (.cons rfl (LLe.refl _) .nil) (.cons ?_ .nil) rfl rfl
    · simp
    · show some _ = some _
      simp

/-! ### Cells in order -/
def befB (a b : Int × Int) : Bool := decide (a.1 < b.1) || (decide (a.1 = b.1) && decide (a.2 < b.2))

theorem c_before07 (a b : Int × Int) : C Tryz.prog F.ref07_before [eB a, eB b] (.bool (befB a b)) := by
  refine C_of mixed chk.ref07_before (by simp) fun S ok => ?_
  refine Tr.seqR rfl (by simp) (Tr.seq (Tr.reg (Steps.runN 17 rfl (by simp) (Steps.gpick rfl rfl rfl (fun _ => rfl) rfl rfl (by simp; intro h; exact ⟨fun e => ⟨h, e⟩, h⟩) (Steps.fin rfl (by simp) (Tr.retX rfl rfl rfl ?_ trivial))))))
  · unfold befB
    show V.bool _ = V.bool (bif decide (a.1 < b.1) then true else (bif (a.1 == b.1) then decide (a.2 < b.2) else false))
    have e0 : (a.1 == b.1) = decide (a.1 = b.1) := by
      by_cases h : a.1 = b.1
      · rw [h]; simp
      · simp [h]
    rw [e0]
    cases decide (a.1 < b.1) <;> cases decide (a.1 = b.1) <;> rfl

theorem insC_take (c : Int × Int) : ∀ (l : List (Int × Int)) (k : Nat), k ≤ l.length → (∀ x ∈ l.take k, befB x c = true) → insC c l = l.take k ++ insC c (l.drop k)
  | l, 0, _, _ => by simp
  | [], k + 1, h, _ => by simp at h
  | x :: l, k + 1, h, hb => by
    have hx : befB x c = true := hb x (by simp)
    have ih := insC_take c l k (by simpa using h) fun y hy => hb y (by simp [hy])
    have hx2 : x.1 < c.1 ∨ (x.1 = c.1 ∧ x.2 < c.2) := by simpa [befB] using hx
    have e : insC c (x :: l) = x :: insC c l := by
      simp only [insC]
      have hne : ¬ c = x := by rintro rfl; omega
      rw [if_neg hne, if_neg (by omega)]
    rw [e, ih]; simp

theorem insC_here {c : Int × Int} {l : List (Int × Int)} {k : Nat} (hk : k < l.length) (h : befB l[k] c = false) : insC c (l.drop k) = if l[k] = c then l.drop k else c :: l.drop k := by
  rw [List.drop_eq_getElem_cons hk]
  simp only [insC]
  have h2 : ¬ (l[k].1 < c.1 ∨ (l[k].1 = c.1 ∧ l[k].2 < c.2)) := by
    intro h3
    have : befB l[k] c = true := by simpa [befB] using h3
    rw [this] at h; cases h
  by_cases e : c = l[k]
  · rw [if_pos e, if_pos e.symm]
  · have e' : ¬ l[k] = c := fun h => e h.symm
    rw [if_neg e, if_neg e']
    have h4 : c.1 < l[k].1 ∨ (c.1 = l[k].1 ∧ c.2 < l[k].2) := by
      have hne : c.1 ≠ l[k].1 ∨ c.2 ≠ l[k].2 := by
        by_cases h1 : c.1 = l[k].1
        · exact .inr fun h2 => e (Prod.ext h1 h2)
        · exact .inl h1
      omega
    rw [if_pos h4]

theorem insC_end (c : Int × Int) : ∀ l : List (Int × Int), ∃ n, n ≤ l.length ∧ (∀ x ∈ l.take n, befB x c = true) ∧ ∀ h : n < l.length, befB l[n] c = false
  | [] => ⟨0, Nat.le_refl _, by simp, fun h => by simp at h⟩
  | x :: l => by
    cases hx : befB x c with
    | false => exact ⟨0, Nat.zero_le _, by simp, fun h => hx⟩
    | true =>
      obtain ⟨n, h1, h2, h3⟩ := insC_end c l
      refine ⟨n + 1, by simpa using h1, fun y hy => ?_, fun h => h3 (by simpa using h)⟩
      rw [List.take_succ_cons] at hy
      rcases List.mem_cons.1 hy with rfl | hy
      · exact hx
      · exact h2 y hy

theorem c_with07 {l : List (Int × Int)} (hl : l.length ≤ 100000) (c : Int × Int) : C Tryz.prog F.ref07_with [sB l, eB c] (sB (insC c l)) := by
  obtain ⟨n, hn, hbf, hend⟩ := insC_end c l
  have hins := insC_take c l n hn hbf
  refine C_of mixed chk.ref07_with (by simp) fun S ok => ?_
  refine Tr.seqR rfl (by simp) (Tr.seqR rfl (by simp) ?_)
  refine Tr.meet { env := [(0, sB l), (3, .ptr 3 0), (5, I (n : Nat))], bx := [(3, ⟨[I c.1, I c.2], false⟩)], rw := [], log := [], stp := false } (Tr.block ?_) ?_
  · refine Tr.loop (fun (k : Nat) st => k ≤ n ∧ st = { env := [(0, sB l), (3, .ptr 3 0), (5, I (k : Nat))], bx := [(3, ⟨[I c.1, I c.2], false⟩)], rw := [], log := [], stp := false }) (fun k => n - k) 0
      (Wk.le (.cons rfl (.refl _) (.cons rfl (.refl _) (.cons rfl (.refl _) .nil))) (.cons rfl (LLe.refl _) .nil) .nil rfl rfl) ⟨by omega, rfl⟩ ?_
    rintro k st ⟨hk, rfl⟩
    rcases Nat.lt_or_ge k l.length with h1 | h1
    · have kb := c_before07 l[k] c
      obtain ⟨b, hb⟩ : ∃ b, befB l[k] c = b := ⟨_, rfl⟩
      rw [hb] at kb
      refine Tr.seq (Tr.seq (Tr.drawK (TraceK.runN 8 rfl (by simp <;> omega) ?_)))
      rw [getD_map h1]
      refine TraceK.run rfl (by simp <;> omega) (TraceK.gcall rfl rfl rfl rfl (by simp <;> omega) (fun _ => kb) (TraceK.run rfl (by simp) (.done ⟨by kernel_rfl, by kernel_rfl, ?_⟩)))
      have hc : (bif decide (((k : Nat) : Int) < ((l.map eB).length : Int)) then b else false) = b := by
        rw [decide_eq_true (by simp <;> omega)]; rfl
      cases b with
      | true =>
        have hkn : k < n := by
          rcases Nat.lt_or_ge k n with h | h
          · exact h
          · have : k = n := by omega
            subst this
            rw [hend h1] at hb; cases hb
        refine Tr.condT (by show some (V.bool _) = _; rw [hc]) (Tr.skip (Tr.block (Tr.regR rfl (by simp) ?_)))
        exact ⟨k + 1, _, Wk.le (.cons rfl (.refl _) (.cons rfl (.refl _) (.cons rfl (VLe.i (w64 (by omega) (by omega))) .nil))) (.cons rfl (LLe.refl _) .nil) .nil rfl rfl, ⟨hkn, rfl⟩, by omega⟩
      | false =>
        have hkn : k = n := by
          rcases Nat.lt_or_ge k n with h | h
          · have := hbf l[k] (by rw [List.mem_take_iff_getElem]; exact ⟨k, by omega, rfl⟩)
            rw [this] at hb; cases hb
          · omega
        subst hkn
        refine Tr.condF (by show some (V.bool _) = _; rw [hc]) (Tr.exit ?_)
        exact Wk.le (.cons rfl (.refl _) (.cons rfl (.refl _) (.cons rfl (.refl _) .nil))) (.cons rfl (LLe.refl _) .nil) .nil rfl rfl
    · have hk' : k = n := by omega
      subst hk'
      have hlt : decide (((k : Nat) : Int) < ((l.map eB).length : Int)) = false := by simp; omega
      refine Tr.seq (Tr.seq (Tr.drawK (TraceK.runN 10 rfl ?_ (.done ⟨by kernel_rfl, by kernel_rfl, Steps.off (want := true) (.bool true) rfl rfl (congrArg (fun b => some (b == true)) hlt) (Steps.fin rfl ?_ ?_)⟩))))
      · simp <;> omega
      · simp <;> omega
      refine Tr.condF (by show some (V.bool (bif decide (((k : Nat) : Int) < ((l.map eB).length : Int)) then true else false)) = _; rw [hlt]; rfl) (Tr.exit ?_)
      exact Wk.le (.cons rfl (.refl _) (.cons rfl (.refl _) (.cons rfl (.refl _) .nil))) (.cons rfl (LLe.refl _) .nil) .nil rfl rfl
  have fin : insC c (l.drop n) = c :: l.drop n → ∀ env, get env 0 = some (sB l) → get env 3 = some (.ptr 3 0) → get env 5 = some (I (n : Nat)) → Tr (env0 Tryz.prog mixed 47 S ok) none
      (.seq (.reg [⟨some 6, .mov, [.c .nils], none⟩]) (.seq (.draw [0, 0, 0, 6, 15, 0, 32, 127, 255] [⟨(some 34), .mov, [.t 6], none⟩,
     ⟨(some 35), .mov, [.t 0], none⟩,
     ⟨(some 36), .mov, [.t 5], none⟩,
     ⟨(some 37), .slx 2 false true, [.t 35, .t 36], none⟩,
     ⟨(some 38), .append 2 16 39, [.t 34, .t 37], none⟩,
     ⟨(some 39), .load 2 true, [.t 3], none⟩,
     ⟨(some 40), .mkslice 2 39, [.t 39], none⟩,
     ⟨(some 41), .append 2 16 39, [.t 38, .t 40], none⟩,
     ⟨(some 6), .mov, [.t 41], none⟩])
   (.seq (.reg [⟨(some 42), .mov, [.t 6], none⟩,
     ⟨(some 43), .mov, [.t 0], none⟩,
     ⟨(some 44), .mov, [.t 5], none⟩,
     ⟨(some 45), .slx 2 true false, [.t 43, .t 44], none⟩,
     ⟨(some 46), .append 2 16 39, [.t 42, .t 45], none⟩,
     ⟨(some 4), .mov, [.t 46], none⟩])
   .ret))) (qRet Tryz.prog [.tmp 4] (sB (insC c l)) fun _ => True) { env := env, bx := [(3, ⟨[I c.1, I c.2], false⟩)], rw := [], log := [], stp := false } := by
    intro hZ env g0 g3 g5
    have hA : insC c l = l.take n ++ c :: l.drop n := by rw [hins, hZ]
    refine Tr.weak (s' := { env := [(0, sB l), (3, .ptr 3 0), (5, I (n : Nat))], bx := [(3, ⟨[I c.1, I c.2], false⟩)], rw := [], log := [], stp := false }) (Wk.le (.cons g0 (.refl _) (.cons g3 (.refl _) (.cons g5 (.refl _) .nil))) (.cons rfl (LLe.refl _) .nil) .nil rfl rfl) ?_
    refine Tr.seqR rfl (by simp) ?_
    refine Tr.seq (Tr.drawK (TraceK.runN 4 rfl ?_ ?_))
    · simp <;> omega
    rw [show ((l.map eB).drop (0 : Int).toNat).take (((n : Nat) : Int).toNat - (0 : Int).toNat) = (l.take n).map eB by simp [List.map_take]]
    refine TraceK.run rfl (by simp <;> omega) (.done ⟨by kernel_rfl, by kernel_rfl, ?_⟩)
    refine Tr.seqN 4 rfl ?_ ?_
    · simp <;> omega
    rw [show ((l.map eB).drop ((n : Nat) : Int).toNat).take (((l.map eB).length : Int).toNat - ((n : Nat) : Int).toNat) = (l.drop n).map eB by
      rw [Int.toNat_natCast, Int.toNat_natCast, List.map_drop, List.take_of_length_le (by simp)]]
    refine Steps.run rfl (by simp <;> omega) ?_
    refine Tr.weak (s' := { env := [(4, sB (insC c l))], bx := [], rw := [], log := [], stp := false }) ?_ (Tr.retX rfl rfl rfl rfl trivial)
    have e : (l.take n).map eB ++ [eB c] ++ (l.drop n).map eB = (insC c l).map eB := by rw [hA]; simp
    exact Wk.le (.cons rfl (by show VLe (V.slice 39 2 ((l.take n).map eB ++ [eB c] ++ (l.drop n).map eB)) _; rw [e]; exact .dem _ _ _) .nil) .nil .nil rfl rfl
  rcases Nat.lt_or_ge n l.length with h1 | h1
  · have hz := insC_here h1 (hend h1)
    refine Tr.seq (Tr.seq (Tr.drawK (TraceK.runN 8 rfl (by simp <;> omega) ?_)))
    rw [getD_map h1]
    refine TraceK.run rfl (by simp <;> omega) (.done ⟨by kernel_rfl, by kernel_rfl, ?_⟩)
    have hc : (bif decide (((n : Nat) : Int) < ((l.map eB).length : Int)) then ((l[n].1 == c.1) && ((l[n].2 == c.2) && true)) else false) = decide (l[n] = c) := by
      rw [decide_eq_true (by simp <;> omega)]
      by_cases h : l[n] = c
      · rw [h]; simp
      · rw [decide_eq_false h, cond_true]
        by_cases h2 : l[n].1 = c.1
        · have h3 : l[n].2 ≠ c.2 := fun h3 => h (Prod.ext h2 h3)
          simp [h3]
        · simp [h2]
    by_cases h : l[n] = c
    · rw [if_pos h] at hz
      have hA : insC c l = l := by rw [hins, hz, List.take_append_drop]
      refine Tr.condT (congrArg (fun b => some (V.bool b)) (hc.trans (decide_eq_true h))) ?_
      refine Tr.seqR rfl (by simp) (Tr.retX rfl rfl rfl ?_ trivial)
      rw [hA]; rfl
    · rw [if_neg h] at hz
      refine Tr.condF (congrArg (fun b => some (V.bool b)) (hc.trans (decide_eq_false h))) (Tr.skip ?_)
      exact fin hz _ rfl rfl rfl
  · have hz : insC c (l.drop n) = c :: l.drop n := by rw [List.drop_eq_nil_of_le h1]; rfl
    have hlt : decide (((n : Nat) : Int) < ((l.map eB).length : Int)) = false := by simp; omega
    refine Tr.seq (Tr.seq (Tr.drawK (TraceK.runN 10 rfl ?_ (.done ⟨by kernel_rfl, by kernel_rfl, Steps.off (want := true) (.bool true) rfl rfl (congrArg (fun b => some (b == true)) hlt) (Steps.fin rfl ?_ ?_)⟩))))
    · simp <;> omega
    · simp <;> omega
    refine Tr.condF (by show some (V.bool (bif decide (((n : Nat) : Int) < ((l.map eB).length : Int)) then true else false)) = _; rw [hlt]; rfl) (Tr.skip ?_)
    exact fin hz _ rfl rfl rfl

end Go.Proofs.YtdejdblopmfjfaaGreatDoor


/-! Contracts of the specification: hits, Hits. -/
set_option linter.unusedVariables false
set_option linter.unusedSimpArgs false
set_option maxRecDepth 40000
set_option maxHeartbeats 4000000
namespace Go.Proofs.YtdejdblopmfjfaaGreatDoor
open Go.Am
attribute [local simp] cells scalar mkv splice under2 under dem dem1 eB gridC sB fourC layC eF
def insF (acc : List (Int × Int)) (c : Int × Int) : List (Int × Int) := insC c acc

theorem insC_len (c : Int × Int) : ∀ l : List (Int × Int), (insC c l).length ≤ l.length + 1
  | [] => by simp [insC]
  | x :: l => by
    have := insC_len c l
    simp only [insC]
    split
    · simp
    · split
      · simp
      · simp only [List.length_cons]; omega

theorem c_hits07 {g : Gd} (hg : gridOk g = true) {l m : List (Int × Int)} (hl : l.length ≤ 64 ∧ ∀ q ∈ l, planeB q = true) (hm : m.length ≤ 64 ∧ ∀ q ∈ m, planeB q = true) :
    C Tryz.prog F.ref07_hits [.agg (gridC g), sB l, sB m] (sB (hitsL g l m)) := by
  refine C_of mixed chk.ref07_hits (by simp) fun S ok => ?_
  refine Tr.seqR rfl (by simp) (Tr.seqR rfl (by simp) (Tr.seq (Tr.seqR rfl (by simp) (Tr.block ?_))))
  obtain ⟨H, hH⟩ : ∃ H, hitsL g l m = H := ⟨_, rfl⟩
  have h0 : ((pairsL (l.drop 0) m).map (cellP g)).foldl insF [] = H := by rw [← hH]; rfl
  rw [hH]
  refine Tr.loop (α := Nat × List (Int × Int)) (fun p st => (p.1 ≤ l.length ∧ p.2.length ≤ p.1 * 64 ∧ ((pairsL (l.drop p.1) m).map (cellP g)).foldl insF p.2 = H) ∧ st = { env := [(1, sB l), (2, sB m), (3, .ptr 3 0), (7, sB p.2), (8, I (p.1 : Nat))], bx := [(3, ⟨gridC g, false⟩)], rw := [], log := [], stp := false }) (fun p => l.length - p.1) (0, [])
    (Wk.le (.cons rfl (.refl _) (.cons rfl (.refl _) (.cons rfl (.refl _) (.cons rfl (.nil 0 2) (.cons rfl (.refl _) .nil))))) (.cons rfl (LLe.refl _) .nil) .nil rfl rfl) ⟨⟨by simp, by simp, h0⟩, rfl⟩ ?_
  rintro ⟨i, out⟩ st ⟨⟨hi, ho, hf⟩, rfl⟩
  simp only at hi ho hf
  refine Tr.seq (Tr.seqR rfl (by simp) (Tr.cond rfl rfl (fun h1 => Tr.skip ?_) (fun h1 => Tr.exit ?_)))
  rotate_left
  · have h1 : i = l.length := by simp at h1; omega
    subst h1
    rw [List.drop_length] at hf
    have hf : out = H := by simpa [pairsL] using hf
    rw [← hf]
    exact Tr.seqR rfl (by simp) (Tr.retX rfl rfl rfl rfl trivial)
  have h1 : i < l.length := by simpa using h1
  have hpi := hl.2 _ (List.getElem_mem h1)
  rw [pairs_drop h1, List.map_append, List.foldl_append] at hf
  refine Tr.seq (Tr.block (Tr.seqR rfl (by simp) (Tr.block ?_)))
  refine Tr.loop (α := Nat × List (Int × Int)) (fun p st => (p.1 ≤ m.length ∧ p.2.length ≤ i * 64 + p.1 ∧ ((pairsL (l.drop (i + 1)) m).map (cellP g)).foldl insF ((((m.drop p.1).map fun b => (l[i], b)).map (cellP g)).foldl insF p.2) = H) ∧ st = { env := [(1, sB l), (2, sB m), (3, .ptr 3 0), (7, sB p.2), (8, I (i : Nat)), (9, I (p.1 : Nat))], bx := [(3, ⟨gridC g, false⟩)], rw := [], log := [], stp := false }) (fun p => m.length - p.1) (0, out)
    (Wk.le (.cons rfl (.refl _) (.cons rfl (.refl _) (.cons rfl (.refl _) (.cons rfl (.refl _) (.cons rfl (.refl _) (.cons rfl (.refl _) .nil)))))) (.cons rfl (LLe.refl _) .nil) .nil rfl rfl) ⟨⟨by simp, by simpa using ho, by simpa using hf⟩, rfl⟩ ?_
  rintro ⟨k, o2⟩ st ⟨⟨hk, ho2, hf2⟩, rfl⟩
  simp only at hk ho2 hf2
  refine Tr.seq (Tr.seqR rfl (by simp) (Tr.cond rfl rfl (fun h2 => Tr.skip ?_) (fun h2 => Tr.exit ?_)))
  rotate_left
  · have h2 : k = m.length := by simp at h2; omega
    subst h2
    rw [List.drop_length] at hf2
    refine Tr.regR rfl (by simp) ?_
    exact ⟨(i + 1, o2), _, Wk.le (.cons rfl (.refl _) (.cons rfl (.refl _) (.cons rfl (.refl _) (.cons rfl (.refl _) (.cons rfl (VLe.i (w64 (by omega) (by omega))) .nil))))) (.cons rfl (LLe.refl _) .nil) .nil rfl rfl, ⟨⟨by simp only; omega, by simp only; omega, by simpa using hf2⟩, rfl⟩, by simp only; omega⟩
  have h2 : k < m.length := by simpa using h2
  have hpk := hm.2 _ (List.getElem_mem h2)
  have kc := c_cell07 hg hpi hpk
  have kw := c_with07 (l := o2) (by omega) (cellN g l[i] m[k])
  have hil := insC_len (cellN g l[i] m[k]) o2
  rw [List.drop_eq_getElem_cons h2, List.map_cons, List.map_cons, List.foldl_cons] at hf2
  refine Tr.seq (Tr.block (Tr.drawK (TraceK.runN 5 rfl (by simp; omega) ?_)))
  rw [getD_map h1]
  refine TraceK.runN 4 rfl (by simp; omega) ?_
  rw [getD_map h2]
  refine TraceK.run rfl (by simp) (TraceK.call rfl rfl kc (TraceK.call rfl rfl kw (TraceK.run rfl (by simp) (.done ⟨by kernel_rfl, by kernel_rfl, ?_⟩))))
  refine Tr.regR rfl (by simp) ?_
  exact ⟨(k + 1, insC (cellN g l[i] m[k]) o2), _, Wk.le (.cons rfl (.refl _) (.cons rfl (.refl _) (.cons rfl (.refl _) (.cons rfl (.refl _) (.cons rfl (.refl _) (.cons rfl (VLe.i (w64 (by omega) (by omega))) .nil)))))) (.cons rfl (LLe.refl _) .nil) .nil rfl rfl, ⟨⟨h2, by simp only; omega, hf2⟩, rfl⟩, by simp only; omega⟩

end Go.Proofs.YtdejdblopmfjfaaGreatDoor


/-! Contracts of the specification: spread, all, sure. -/
set_option linter.unusedVariables false
set_option linter.unusedSimpArgs false
set_option maxRecDepth 40000
set_option maxHeartbeats 4000000
namespace Go.Proofs.YtdejdblopmfjfaaGreatDoor
open Go.Am
attribute [local simp] cells scalar mkv splice under2 under dem dem1 eB gridC sB fourC layC eF
def nestV (ls : List (List (Int × Int))) : V := .slice 0 1 (ls.map sB)
attribute [local simp] nestV
theorem c_spread07 {s : Ly} (hn : s.nodes.length ≤ 16) (hN : ∀ f ∈ s.nodes, nodeOk f = true) : C Tryz.prog F.ref07_spread [.agg (layC s)] (nestV (s.nodes.map placesL)) := by
  refine C_of mixed chk.ref07_spread (by simp) fun S ok => ?_
  refine Tr.seqR rfl (by simp) (Tr.seqR rfl (by simp) (Tr.seq (Tr.seqR rfl (by simp) (Tr.block ?_))))
  refine Tr.loop (fun (k : Nat) st => k ≤ s.nodes.length ∧ st = { env := [(1, .ptr 1 0), (3, .slice 21 1 (((s.nodes.take k).map placesL).map sB)), (4, I (k : Nat))], bx := [(1, ⟨layC s, false⟩)], rw := [(20, k, 1, 88)], log := [], stp := false }) (fun k => s.nodes.length - k) 0
    (Wk.le (.cons rfl (.refl _) (.cons rfl (.nil 21 1) (.cons rfl (.refl _) .nil))) (.cons rfl (LLe.refl _) .nil) (.new rfl .nil) rfl rfl) ⟨by omega, rfl⟩ ?_
  rintro k st ⟨hk, rfl⟩
  refine Tr.seq (Tr.seqR rfl (by simp) (Tr.cond rfl rfl (fun h1 => Tr.skip ?_) (fun h1 => Tr.exit ?_)))
  rotate_left
  · have h1 : k = s.nodes.length := by simp at h1; omega
    subst h1
    rw [List.take_length]
    refine Tr.seqR rfl (by simp) (Tr.weak (s' := { env := [(2, nestV (s.nodes.map placesL))], bx := [], rw := [], log := [], stp := false }) (Wk.le (.cons rfl (.dem _ _ _) .nil) .nil .nil rfl rfl) (Tr.retX rfl rfl rfl rfl trivial))
  have h1 : k < s.nodes.length := by simpa using h1
  have hlen : (((s.nodes.take k).map placesL).map sB).length = k := by simp; omega
  refine Tr.seq (Tr.block (Tr.reg (Steps.runN 5 rfl (by simp; omega) ?_)))
  rw [getD_map h1]
  refine Steps.run rfl (by simp) (Steps.call rfl rfl (c_places07 (hN _ (List.getElem_mem h1))) (Steps.fin rfl (by simp; omega) (Tr.regR rfl (by simp) ?_)))
  have e : ((s.nodes.take (k + 1)).map placesL).map sB = ((s.nodes.take k).map placesL).map sB ++ [sB (placesL s.nodes[k])] := by
    rw [List.take_add_one, List.getElem?_eq_getElem h1, List.map_append, List.map_append]; rfl
  refine ⟨k + 1, _, Wk.le (.cons rfl (.refl _) (.cons rfl (.of_eq ?_) (.cons rfl (VLe.i (w64 (by omega) (by omega))) .nil))) (.cons rfl (LLe.refl _) .nil) (.cons ?_ .nil) rfl rfl, ⟨h1, rfl⟩, by omega⟩
  · rw [e]; rfl
  · show some _ = some _
    simp; omega

def hitsAll (L : Ld) : List (List (Int × Int)) := (List.range L.traces.length).map (hitsT L)

theorem hitsAll_len (L : Ld) : (hitsAll L).length = L.traces.length := by simp [hitsAll]
theorem hitsAll_get {L : Ld} {k : Nat} (h : k < L.traces.length) : (hitsAll L)[k]? = some (hitsT L k) := by simp [hitsAll, h]

theorem c_all07 {L : Ld} (hL : LdOk L) : C Tryz.prog F.ref07_all [.agg (gridC L.g), sB L.traces, nestV L.places] (nestV (hitsAll L)) := by
  have ht64 := hL.t
  refine C_of mixed chk.ref07_all (by simp) fun S ok => ?_
  refine Tr.seqR rfl (by simp) (Tr.seqR rfl (by simp) (Tr.seq (Tr.seqR rfl (by simp) (Tr.block ?_))))
  refine Tr.loop (fun (k : Nat) st => k ≤ L.traces.length ∧ st = { env := [(1, sB L.traces), (2, nestV L.places), (3, .ptr 3 0), (7, .slice 35 1 (((hitsAll L).take k).map sB)), (8, I (k : Nat))], bx := [(3, ⟨gridC L.g, false⟩)], rw := [(34, k, 1, 42)], log := [], stp := false }) (fun k => L.traces.length - k) 0
    (Wk.le (.cons rfl (.refl _) (.cons rfl (.refl _) (.cons rfl (.refl _) (.cons rfl (.nil 35 1) (.cons rfl (.refl _) .nil))))) (.cons rfl (LLe.refl _) .nil) (.new rfl .nil) rfl rfl) ⟨by omega, rfl⟩ ?_
  rintro k st ⟨hk, rfl⟩
  refine Tr.seq (Tr.seqR rfl (by simp) (Tr.cond rfl rfl (fun h1 => Tr.skip ?_) (fun h1 => Tr.exit ?_)))
  rotate_left
  · have h1 : k = L.traces.length := by simp at h1; omega
    subst h1
    rw [List.take_of_length_le (by rw [hitsAll_len]; exact Nat.le_refl _)]
    refine Tr.seqR rfl (by simp) (Tr.weak (s' := { env := [(6, nestV (hitsAll L))], bx := [], rw := [], log := [], stp := false }) (Wk.le (.cons rfl (.dem _ _ _) .nil) .nil .nil rfl rfl) (Tr.retX rfl rfl rfl rfl trivial))
  have h1 : k < L.traces.length := by simpa using h1
  have hlen : (((hitsAll L).take k).map sB).length = k := by simp [hitsAll_len]; omega
  obtain ⟨i, j, hij, hi, hj⟩ := hL.tr _ (List.getElem_mem h1)
  have hpi := hL.p _ (List.getElem_mem hi)
  have hpj := hL.p _ (List.getElem_mem hj)
  have hHT : hitsT L k = hitsL L.g L.places[i] L.places[j] := by
    unfold hitsT pl
    have e : L.traces.getD k (0, 0) = ((i : Int), (j : Int)) := by simp [h1, hij]
    rw [e]
    simp [hi, hj]
  have kh := c_hits07 hL.g (l := L.places[i]) (m := L.places[j]) ⟨hpi.1.2, hpi.2⟩ ⟨hpj.1.2, hpj.2⟩
  rw [← hHT] at kh
  refine Tr.seq (Tr.block (Tr.seqN 3 rfl (by simp; omega) ?_))
  rw [getD_map h1, hij]
  refine Steps.fin rfl (by simp) ?_
  refine Tr.drawK (TraceK.runN 6 rfl (by simp; omega) ?_)
  rw [getD_map hi]
  refine TraceK.runN 5 rfl (by simp; omega) ?_
  rw [getD_map hj]
  refine TraceK.run rfl (by simp) (TraceK.call rfl rfl kh (TraceK.run rfl (by simp [hitsAll_len]; omega) (.done ⟨by kernel_rfl, by kernel_rfl, ?_⟩)))
  refine Tr.regR rfl (by simp) ?_
  have e : ((hitsAll L).take (k + 1)).map sB = ((hitsAll L).take k).map sB ++ [sB (hitsT L k)] := by
    rw [List.take_add_one, hitsAll_get h1, List.map_append]; rfl
  refine ⟨k + 1, _, Wk.le (.cons rfl (.refl _) (.cons rfl (.refl _) (.cons rfl (.refl _) (.cons rfl (.of_eq ?_) (.cons rfl (VLe.i (w64 (by omega) (by omega))) .nil))))) (.cons rfl (LLe.refl _) .nil) (.cons ?_ .nil) rfl rfl, ⟨h1, rfl⟩, by omega⟩
  · rw [e]; rfl
  · show some _ = some _
    simp [hitsAll_len]; omega

def sureB : List (Int × Int) → Bool
  | [c] => decide (c ≠ noneC)
  | _ => false

theorem sureL_eq (l : List (Int × Int)) : sureL l = if sureB l then l else [] := by
  rcases l with _ | ⟨c, _ | ⟨d, r⟩⟩
  · rfl
  · by_cases h : c = noneC
    · simp [sureL, sureB, h]
    · simp [sureL, sureB, h]
  · rfl

theorem c_sure07 (l : List (Int × Int)) : C Tryz.prog F.ref07_sure [sB l] (.bool (sureB l)) := by
  refine C_of mixed chk.ref07_sure (by simp) fun S ok => ?_
  refine Tr.seqR rfl (by simp) ?_
  rcases l with _ | ⟨c, _ | ⟨c2, r⟩⟩
  · refine Tr.seq (Tr.drawK (TraceK.runN 7 rfl (by simp) (TraceK.gcall (gb := false) (r := .agg [I (-1), I (-1)]) rfl rfl rfl rfl (by simp) (fun h => by cases h) ?_)))
    refine .done ⟨by kernel_rfl, by kernel_rfl, Steps.off (want := true) (.bool true) rfl rfl rfl (Steps.fin rfl (by simp) ?_)⟩
    exact Tr.retX rfl rfl rfl rfl trivial
  · refine Tr.seq (Tr.drawK (TraceK.runN 7 rfl (by simp) (TraceK.gcall (gb := true) rfl rfl rfl rfl (by simp) (fun _ => c_none07) ?_)))
    refine TraceK.run rfl (by simp) (.done ⟨by kernel_rfl, by kernel_rfl, ?_⟩)
    refine Tr.retX rfl rfl rfl ?_ trivial
    show V.bool (decide (c ≠ noneC)) = V.bool (!((c.1 == -1) && ((c.2 == -1) && true)))
    by_cases h : c = noneC
    · subst h; rfl
    · rw [decide_eq_true h]
      have h2 : ¬ (c.1 = -1 ∧ c.2 = -1) := fun h2 => h (Prod.ext h2.1 h2.2)
      simp
      by_cases h3 : c.1 = -1
      · exact .inr fun h4 => h2 ⟨h3, h4⟩
      · exact .inl h3
  · have hne : ((((c :: c2 :: r : List (Int × Int)).map eB).length : Int) == 1) = false := by
      rw [beq_eq_false_iff_ne]; simp; omega
    refine Tr.seq (Tr.drawK (TraceK.runN 4 rfl (by simp) ?_))
    refine TraceK.runN 3 rfl (by simp; omega) (TraceK.gcall rfl rfl rfl rfl (by simp) (fun _ => c_none07) ?_)
    refine .done ⟨by kernel_rfl, by kernel_rfl, Steps.off (want := true) (.bool true) rfl rfl (congrArg (fun b => some (b == true)) hne) (Steps.fin rfl (by simp; omega) ?_)⟩
    refine Tr.retX rfl rfl rfl ?_ trivial
    show V.bool false = V.bool (bif ((((c :: c2 :: r : List (Int × Int)).map eB).length : Int) == 1) then true else false)
    rw [hne]; rfl

end Go.Proofs.YtdejdblopmfjfaaGreatDoor


/-! Contracts of the specification: fold, Fold. -/
set_option linter.unusedVariables false
set_option linter.unusedSimpArgs false
set_option maxRecDepth 40000
set_option maxHeartbeats 4000000
namespace Go.Proofs.YtdejdblopmfjfaaGreatDoor
open Go.Am
attribute [local simp] cells scalar mkv splice under2 under dem dem1 eB gridC sB fourC layC eF nestV
/-! ### Two boxes of numbers -/
theorem okI2 {j k : Nat} {l m : List Int} {env : List (Nat × V)} {bx : List (Nat × Box)} {rw : List (Nat × Nat × Nat × Nat)} (h : okRefs env ((j, ⟨[], false⟩) :: (k, ⟨[], false⟩) :: bx) rw = true) : okRefs env ((j, ⟨l.map I, false⟩) :: (k, ⟨m.map I, false⟩) :: bx) rw = true := by
  have e : hasKey ((j, (⟨l.map I, false⟩ : Box)) :: (k, (⟨m.map I, false⟩ : Box)) :: bx) = hasKey ((j, (⟨[], false⟩ : Box)) :: (k, (⟨[], false⟩ : Box)) :: bx) := rfl
  unfold okRefs at h ⊢
  rw [e]
  rw [Bool.and_eq_true] at h ⊢
  refine ⟨h.1, ?_⟩
  have h2 := h.2
  rw [List.all_cons, Bool.and_eq_true, List.all_cons, Bool.and_eq_true] at h2 ⊢
  exact ⟨ints_refs _ _ _, ints_refs _ _ _, h2.2.2⟩

theorem box_ld {R : List Int} {c : Nat} {v : Int} (h : c < R.length) : mkv false 1 (((R.set c v).map I).drop (0 + ((c : Nat) : Int).toNat * 1)) = I v := by
  have h2 : c < ((R.set c v).map I).length := by simpa using h
  rw [Int.toNat_natCast, Nat.mul_one, Nat.zero_add, List.drop_eq_getElem_cons h2]
  simp [mkv]

theorem box_st {R : List Int} {c : Nat} {v u : Int} (h : c < R.length) : Am.splice ((R.set c v).map I) (0 + ((c : Nat) : Int).toNat * 1) [I u] = (R.set c u).map I := by
  rw [Int.toNat_natCast, Nat.mul_one, Nat.zero_add, splice_set (by simpa using h), ← List.map_set, List.set_set]

def part (row : List Int) (c : Nat) : List Int := row.take c ++ List.replicate (row.length - c) 0

theorem part_len {row : List Int} {c : Nat} (h : c ≤ row.length) : (part row c).length = row.length := by
  simp [part]; omega
theorem part_zero (row : List Int) : part row 0 = List.replicate row.length 0 := by simp [part]
theorem part_all (row : List Int) : part row row.length = row := by simp [part]
theorem part_set {row : List Int} {c : Nat} (h : c < row.length) : (part row c).set c row[c] = part row (c + 1) := by
  obtain ⟨d, hd⟩ : ∃ d, row.length - c = d + 1 := ⟨row.length - c - 1, by omega⟩
  have e : row.length - (c + 1) = d := by omega
  have e2 : row.take (c + 1) = row.take c ++ [row[c]] := by rw [List.take_add_one, List.getElem?_eq_getElem h]; rfl
  unfold part
  rw [hd, e, List.set_append_right _ _ (by simp; omega), List.length_take, Nat.min_eq_left (by omega), Nat.sub_self, List.replicate_succ, List.set_cons_zero, e2, List.append_assoc]
  rfl
theorem part_self {row : List Int} {c : Nat} (h : c < row.length) : (part row c).set c 0 = part row c := by
  obtain ⟨d, hd⟩ : ∃ d, row.length - c = d + 1 := ⟨row.length - c - 1, by omega⟩
  unfold part
  rw [hd, List.set_append_right _ _ (by simp; omega), List.length_take, Nat.min_eq_left (by omega), Nat.sub_self, List.replicate_succ, List.set_cons_zero]

/-! ### Counting -/
theorem count_take {l : List (Int × Int)} {k : Nat} (h : k < l.length) (x : Int × Int) : (l.take (k + 1)).count x = (l.take k).count x + if l[k] = x then 1 else 0 := by
  rw [List.take_add_one, List.getElem?_eq_getElem h, List.count_append]
  simp [List.count_singleton, beq_iff_eq]

theorem count_allH (h : Nat → List (Int × Int)) (i : Nat) (x : Int × Int) : (allH h (i + 1)).count x = (allH h i).count x + (h i).count x := by
  rw [allH_succ, List.count_append]

def cnt (h : Nat → List (Int × Int)) (i : Nat) (n c : Nat) : Nat := (allH h i).count ((n : Int), (c : Int))

theorem cnt_succ (h : Nat → List (Int × Int)) (i n c : Nat) : cnt h (i + 1) n c = cnt h i n c + (h i).count ((n : Int), (c : Int)) := count_allH h i _

theorem cnt_zero (h : Nat → List (Int × Int)) (n c : Nat) : cnt h 0 n c = 0 := by simp [cnt, allH]

theorem cnt_row {m : Nat} {h : Nat → List (Int × Int)} {T n c : Nat} (hc : c < m) : (cntRow m (allH h T) n)[c]'(by rw [cntRow_len]; exact hc) = (cnt h T n c : Int) := by
  have := cntRow_get (m := m) (P := allH h T) (b := n) hc
  rw [List.getElem?_eq_getElem (by rw [cntRow_len]; exact hc)] at this
  exact Option.some.inj this

theorem c_fold07 {g : Gd} {s : Ly} (hg : gridOk g = true) (hs : layOk s = true) : C Tryz.prog F.ref07_fold [.agg (gridC g), .agg (layC s)] (.tuple [foldV (cntN (layD g s) (sureT (layD g s))), foldV (cntN (layD g s) (hitsT (layD g s)))]) := by
  have hL := lay_ok hg hs
  obtain ⟨⟨hn16, ht64⟩, hN, hT⟩ := layOk_spec hs
  obtain ⟨_, hsz, hga, hgd, hcl, _⟩ := gridOk_spec hg
  have nb := nBins_eq hg
  have hab : IntKind.wrap .i64 (g.a * g.d) = (nBins g : Int) := by rw [nb.1]; exact w64 (by omega) (by omega)
  have ks := c_spread07 hn16 hN
  have ka := c_all07 hL
  have hHl := hitsAll_len (layD g s)
  have hHg : ∀ i, i < s.traces.length → (hitsAll (layD g s))[i]? = some (hitsT (layD g s) i) := fun i hi => hitsAll_get (L := layD g s) hi
  have hHb : ∀ i, i < s.traces.length → (hitsT (layD g s) i).length ≤ 4096 := fun i hi => (hits_in hL (t := i) hi).1
  have hcb := count_bd (L := layD g s) (h := hitsT (layD g s)) ht64 (fun t ht => (hits_in hL ht).1)
  have hcs := count_bd (L := layD g s) (h := sureT (layD g s)) ht64 (fun t ht => (sure_in hL ht).1)
  have hsu : ∀ i, sureT (layD g s) i = if sureB (hitsT (layD g s) i) then hitsT (layD g s) i else [] := fun i => sureL_eq _
  have eA : cntN (layD g s) (sureT (layD g s)) = (List.range (nBins g)).map (cntRow g.cls.length (allH (sureT (layD g s)) s.traces.length)) := rfl
  have eB' : cntN (layD g s) (hitsT (layD g s)) = (List.range (nBins g)).map (cntRow g.cls.length (allH (hitsT (layD g s)) s.traces.length)) := rfl
  have htl : (layD g s).traces.length = s.traces.length := rfl
  rw [htl] at hHl hcb hcs
  rw [eA, eB']
  have ka : C Tryz.prog F.ref07_all [.agg (gridC g), sB s.traces, nestV (s.nodes.map placesL)] (nestV (hitsAll (layD g s))) := ka
  generalize hitsAll (layD g s) = H at ka hHl hHg
  generalize hitsT (layD g s) = hh at hHg hHb hcb hsu ⊢
  generalize sureT (layD g s) = hu at hcs hsu ⊢
  obtain ⟨T, hTl⟩ : ∃ T, s.traces.length = T := ⟨_, rfl⟩
  rw [hTl] at hHl hHg hHb hcb hcs ht64 ⊢
  obtain ⟨m, hm⟩ : ∃ m, g.cls.length = m := ⟨_, rfl⟩
  rw [hm] at hcl ⊢
  have bh : ∀ i, i ≤ T → ∀ n c, cnt hh i n c ≤ 64 * 4096 := fun i hi n c => by
    have := hcb i hi
    have h2 : cnt hh i n c ≤ (allH hh i).length := List.count_le_length
    have h3 : i * 4096 ≤ 64 * 4096 := Nat.mul_le_mul_right _ (by omega)
    omega
  have bu : ∀ i, i ≤ T → ∀ n c, cnt hu i n c ≤ 64 * 4096 := fun i hi n c => by
    have := hcs i hi
    have h2 : cnt hu i n c ≤ (allH hu i).length := List.count_le_length
    have h3 : i * 4096 ≤ 64 * 4096 := Nat.mul_le_mul_right _ (by omega)
    omega
  refine C_of mixed chk.ref07_fold (by simp) fun S ok => ?_
  refine Tr.seqR rfl (by simp) ?_
  refine Tr.seq (Tr.drawK (TraceK.run rfl (by simp) (TraceK.call rfl rfl ks (TraceK.call rfl rfl ka (TraceK.run rfl (by simp) (.done ⟨by kernel_rfl, by kernel_rfl, ?_⟩))))))
  refine Tr.seqR rfl (by simp) (Tr.seq (Tr.seqR rfl (by simp) (Tr.block ?_)))
  refine Tr.loop (fun (n : Nat) st => n ≤ nBins g ∧ st = { env := [(2, .ptr 2 0), (6, nestV H), (7, .slice 92 1 (((List.range n).map (cntRow m (allH hu T))).map intsV)), (8, .slice 96 1 (((List.range n).map (cntRow m (allH hh T))).map intsV)), (9, I (n : Nat))], bx := [(2, ⟨gridC g, false⟩)], rw := [(91, n, 1, 48), (95, n, 1, 48)], log := [], stp := false }) (fun n => nBins g - n) 0
    (Wk.le (.cons rfl (.refl _) (.cons rfl (.refl _) (.cons rfl (.nil 92 1) (.cons rfl (.nil 96 1) (.cons rfl (.refl _) .nil))))) (.cons rfl (LLe.refl _) .nil) (.new rfl (.new rfl .nil)) rfl rfl) ⟨by omega, rfl⟩ ?_
  rintro n st ⟨hn, rfl⟩
  refine Tr.seq (Tr.seqR rfl (by simp) (Tr.cond rfl rfl (fun h1 => Tr.skip ?_) (fun h1 => Tr.exit ?_)))
  rotate_left
  · have h1 : decide ((n : Int) < IntKind.wrap .i64 (g.a * g.d)) = false := h1
    rw [hab] at h1
    have h1 : n = nBins g := by have := of_decide_eq_false h1; omega
    subst h1
    refine Tr.seqR rfl (by simp) ?_
    refine Tr.weak (s' := { env := [(4, foldV ((List.range (nBins g)).map (cntRow m (allH hu T)))), (5, foldV ((List.range (nBins g)).map (cntRow m (allH hh T))))], bx := [], rw := [], log := [], stp := false }) (Wk.le (.cons rfl (.dem _ _ _) (.cons rfl (.dem _ _ _) .nil)) .nil .nil rfl rfl) ?_
    exact Tr.retX rfl rfl rfl rfl trivial
  have h1 : decide ((n : Int) < IntKind.wrap .i64 (g.a * g.d)) = true := h1
  rw [hab] at h1
  have h1 : n < nBins g := by have := of_decide_eq_true h1; omega
  obtain ⟨ra, hra⟩ : ∃ ra, cntRow m (allH hu T) n = ra := ⟨_, rfl⟩
  obtain ⟨rb, hrb⟩ : ∃ rb, cntRow m (allH hh T) n = rb := ⟨_, rfl⟩
  have hral : ra.length = m := by rw [← hra, cntRow_len]
  have hrbl : rb.length = m := by rw [← hrb, cntRow_len]
  have hrac : ∀ c (h : c < ra.length), ra[c] = (cnt hu T n c : Int) := fun c h => by
    subst hra; exact cnt_row (by rw [cntRow_len] at h; exact h)
  have hrbc : ∀ c (h : c < rb.length), rb[c] = (cnt hh T n c : Int) := fun c h => by
    subst hrb; exact cnt_row (by rw [cntRow_len] at h; exact h)
  obtain ⟨la, hla⟩ : ∃ la, ((List.range n).map (cntRow m (allH hu T))).map intsV = la := ⟨_, rfl⟩
  obtain ⟨lb, hlb⟩ : ∃ lb, ((List.range n).map (cntRow m (allH hh T))).map intsV = lb := ⟨_, rfl⟩
  have hlal : la.length = n := by rw [← hla]; simp
  have hlbl : lb.length = n := by rw [← hlb]; simp
  have ela : ((List.range (n + 1)).map (cntRow m (allH hu T))).map intsV = la ++ [intsV ra] := by rw [List.range_succ, List.map_append, List.map_append, hla]; simp [hra]
  have elb : ((List.range (n + 1)).map (cntRow m (allH hh T))).map intsV = lb ++ [intsV rb] := by rw [List.range_succ, List.map_append, List.map_append, hlb]; simp [hrb]
  rw [hla, hlb]
  refine Tr.meet { env := [(2, .ptr 2 0), (6, nestV H), (7, .slice 92 1 (la ++ [intsV ra])), (8, .slice 96 1 (lb ++ [intsV rb])), (9, I (n : Nat))], bx := [(2, ⟨gridC g, false⟩)], rw := [(91, n + 1, 1, 48), (95, n + 1, 1, 48)], log := [], stp := false } (Tr.block ?_) (Tr.regR rfl (by simp) ?_)
  rotate_left
  · exact ⟨n + 1, _, Wk.le (.cons rfl (.refl _) (.cons rfl (.refl _) (.cons rfl (.of_eq (by rw [ela])) (.cons rfl (.of_eq (by rw [elb])) (.cons rfl (VLe.i (w64 (by omega) (by omega))) .nil))))) (.cons rfl (LLe.refl _) .nil) (.cons rfl (.cons rfl .nil)) rfl rfl, ⟨h1, rfl⟩, by omega⟩
  have hmi : ((g.cls.map eB).length : Int).toNat = m := by simp [hm]
  have hz : (List.replicate m [I 0]).flatten = (List.replicate m (0 : Int)).map I := by simp
  refine Tr.seq (Tr.drawK (TraceK.run rfl (by simp; omega) (.done ⟨by kernel_rfl, by kernel_rfl, ?_⟩)))
  refine Tr.seq (Tr.seqR rfl (by simp) (Tr.block ?_))
  refine Tr.loop (fun (c : Nat) st => c ≤ m ∧ st = { env := [(2, .ptr 2 0), (6, nestV H), (7, .slice 92 1 la), (8, .slice 96 1 lb), (9, I (n : Nat)), (10, .bsl 33 0 1 m), (11, .bsl 37 0 1 m), (12, I (c : Nat))], bx := [(33, ⟨(part ra c).map I, false⟩), (37, ⟨(part rb c).map I, false⟩), (2, ⟨gridC g, false⟩)], rw := [(91, n, 1, 48), (95, n, 1, 48)], log := [], stp := false }) (fun c => m - c) 0
    (Wk.le (.cons rfl (.refl _) (.cons rfl (.refl _) (.cons rfl (.refl _) (.cons rfl (.refl _) (.cons rfl (.refl _) (.cons rfl (.of_eq ?_) (.cons rfl (.of_eq ?_) (.cons rfl (.refl _) .nil)))))))) (.cons rfl ?_ (.cons rfl ?_ (.cons rfl (LLe.refl _) .nil))) (.cons rfl (.cons rfl .nil)) (okI2 rfl) rfl) ⟨by omega, rfl⟩ ?_
  · show V.bsl 33 0 1 ((g.cls.map eB).length : Int).toNat = _
    rw [hmi]
  · show V.bsl 37 0 1 ((g.cls.map eB).length : Int).toNat = _
    rw [hmi]
  · show LLe (List.replicate ((g.cls.map eB).length : Int).toNat [I 0]).flatten _
    rw [hmi, hz, part_zero, hral]; exact LLe.refl _
  · show LLe (List.replicate ((g.cls.map eB).length : Int).toNat [I 0]).flatten _
    rw [hmi, hz, part_zero, hrbl]; exact LLe.refl _
  rintro c st ⟨hc, rfl⟩
  refine Tr.seq (Tr.seqR rfl (by simp) (Tr.cond rfl rfl (fun h2 => Tr.skip ?_) (fun h2 => Tr.exit ?_)))
  rotate_left
  · have h2 : c = m := by simp [hm] at h2; omega
    subst h2
    have ea : part ra c = ra := by rw [← hral]; exact part_all ra
    have eb : part rb c = rb := by rw [← hrbl]; exact part_all rb
    rw [ea, eb]
    refine Tr.weak (s' := { env := [(2, .ptr 2 0), (6, nestV H), (7, .slice 92 1 la), (8, .slice 96 1 lb), (9, I (n : Nat)), (10, .bsl 33 0 1 ra.length), (11, .bsl 37 0 1 rb.length)], bx := [(33, ⟨ra.map I, false⟩), (37, ⟨rb.map I, false⟩), (2, ⟨gridC g, false⟩)], rw := [(91, n, 1, 48), (95, n, 1, 48)], log := [], stp := false })
      (Wk.le (.cons rfl (.refl _) (.cons rfl (.refl _) (.cons rfl (.refl _) (.cons rfl (.refl _) (.cons rfl (.refl _) (.cons rfl (.of_eq (by rw [hral])) (.cons rfl (.of_eq (by rw [hrbl])) .nil))))))) (.cons rfl (LLe.refl _) (.cons rfl (LLe.refl _) (.cons rfl (LLe.refl _) .nil))) (.cons rfl (.cons rfl .nil)) (okI2 rfl) rfl) ?_
    refine Tr.weak (Wk.bsl (t := 10) (xs := ra.map I) rfl rfl (holds_ints _)) ?_
    refine Tr.weak (Wk.bsl (t := 11) (xs := rb.map I) rfl rfl (holds_ints _)) ?_
    refine Tr.regR rfl (by simp [intsV]; omega) ?_
    refine Wk.le (.cons rfl (.refl _) (.cons rfl (.refl _) (.cons rfl (.refl _) (.cons rfl (.refl _) (.cons rfl (.refl _) .nil))))) (.cons rfl (LLe.refl _) .nil) (.cons ?_ (.cons ?_ .nil)) rfl rfl
    · show some _ = some _
      simp [hlal]
    · show some _ = some _
      simp [hlbl]
  have h2 : c < m := by simp [hm] at h2; omega
  have hca : c < (part ra c).length := by rw [part_len (by omega), hral]; exact h2
  have hcb' : c < (part rb c).length := by rw [part_len (by omega), hrbl]; exact h2
  obtain ⟨PA, hPA⟩ : ∃ PA, part ra c = PA := ⟨_, rfl⟩
  obtain ⟨PB, hPB⟩ : ∃ PB, part rb c = PB := ⟨_, rfl⟩
  have sa : PA.set c 0 = PA := by rw [← hPA]; exact part_self (by omega)
  have sb : PB.set c 0 = PB := by rw [← hPB]; exact part_self (by omega)
  have ta : PA.set c (cnt hu T n c) = part ra (c + 1) := by rw [← hPA, ← hrac c (by omega)]; exact part_set (by omega)
  have tb : PB.set c (cnt hh T n c) = part rb (c + 1) := by rw [← hPB, ← hrbc c (by omega)]; exact part_set (by omega)
  rw [hPA] at hca ⊢
  rw [hPB] at hcb' ⊢
  refine Tr.seq (Tr.block (Tr.seqR rfl (by simp) (Tr.block ?_)))
  refine Tr.loop (fun (i : Nat) st => i ≤ T ∧ st = { env := [(2, .ptr 2 0), (6, nestV H), (7, .slice 92 1 la), (8, .slice 96 1 lb), (9, I (n : Nat)), (10, .bsl 33 0 1 m), (11, .bsl 37 0 1 m), (12, I (c : Nat)), (13, I (i : Nat))], bx := [(33, ⟨(PA.set c (cnt hu i n c)).map I, false⟩), (37, ⟨(PB.set c (cnt hh i n c)).map I, false⟩), (2, ⟨gridC g, false⟩)], rw := [(91, n, 1, 48), (95, n, 1, 48)], log := [], stp := false }) (fun i => T - i) 0
    (Wk.le (.cons rfl (.refl _) (.cons rfl (.refl _) (.cons rfl (.refl _) (.cons rfl (.refl _) (.cons rfl (.refl _) (.cons rfl (.refl _) (.cons rfl (.refl _) (.cons rfl (.refl _) (.cons rfl (.refl _) .nil))))))))) (.cons rfl ?_ (.cons rfl ?_ (.cons rfl (LLe.refl _) .nil))) (.cons rfl (.cons rfl .nil)) (okI2 rfl) rfl) ⟨by omega, rfl⟩ ?_
  · rw [cnt_zero]; show LLe (PA.map I) ((PA.set c 0).map I); rw [sa]; exact LLe.refl _
  · rw [cnt_zero]; show LLe (PB.map I) ((PB.set c 0).map I); rw [sb]; exact LLe.refl _
  rintro i st ⟨hi, rfl⟩
  refine Tr.seq (Tr.seqR rfl (by simp) (Tr.cond rfl rfl (fun h3 => Tr.skip ?_) (fun h3 => Tr.exit ?_)))
  rotate_left
  · have h3 : i = T := by simp [hHl] at h3; omega
    subst h3
    rw [ta, tb]
    refine Tr.regR rfl (by simp) ?_
    exact ⟨c + 1, _, Wk.le (.cons rfl (.refl _) (.cons rfl (.refl _) (.cons rfl (.refl _) (.cons rfl (.refl _) (.cons rfl (.refl _) (.cons rfl (.refl _) (.cons rfl (.refl _) (.cons rfl (VLe.i (w64 (by omega) (by omega))) .nil)))))))) (.cons rfl (LLe.refl _) (.cons rfl (LLe.refl _) (.cons rfl (LLe.refl _) .nil))) (.cons rfl (.cons rfl .nil)) (okI2 rfl) rfl, ⟨h2, rfl⟩, by omega⟩
  have h3 : i < T := by simp [hHl] at h3; omega
  have hHi := hHg i h3
  have hiH : i < H.length := by omega
  have hHe : H[i] = hh i := by rw [List.getElem?_eq_getElem hiH] at hHi; exact Option.some.inj hHi
  have hbi := hHb i h3
  have hui := hsu i
  have ksu := c_sure07 (hh i)
  obtain ⟨l, hl⟩ : ∃ l, hh i = l := ⟨_, rfl⟩
  rw [hl] at hHe hbi hui ksu
  obtain ⟨su, hsu1⟩ : ∃ su, sureB l = su := ⟨_, rfl⟩
  rw [hsu1] at hui ksu
  have bi1 := bh i hi n c
  have bi2 := bu i hi n c
  have fb : cnt hh (i + 1) n c = cnt hh i n c + l.count ((n : Int), (c : Int)) := by rw [cnt_succ, hl]
  have fa : cnt hu (i + 1) n c = cnt hu i n c + if su then l.count ((n : Int), (c : Int)) else 0 := by
    rw [cnt_succ, hui]
    cases su <;> simp
  refine Tr.seq (Tr.block (Tr.seqR rfl (by simp) (Tr.block ?_)))
  refine Tr.loop (fun (k : Nat) st => k ≤ l.length ∧ st = { env := [(2, .ptr 2 0), (6, nestV H), (7, .slice 92 1 la), (8, .slice 96 1 lb), (9, I (n : Nat)), (10, .bsl 33 0 1 m), (11, .bsl 37 0 1 m), (12, I (c : Nat)), (13, I (i : Nat)), (14, I (k : Nat))], bx := [(33, ⟨(PA.set c ((cnt hu i n c + if su then (l.take k).count ((n : Int), (c : Int)) else 0 : Nat) : Int)).map I, false⟩), (37, ⟨(PB.set c ((cnt hh i n c + (l.take k).count ((n : Int), (c : Int)) : Nat) : Int)).map I, false⟩), (2, ⟨gridC g, false⟩)], rw := [(91, n, 1, 48), (95, n, 1, 48)], log := [], stp := false }) (fun k => l.length - k) 0
    (Wk.le (.cons rfl (.refl _) (.cons rfl (.refl _) (.cons rfl (.refl _) (.cons rfl (.refl _) (.cons rfl (.refl _) (.cons rfl (.refl _) (.cons rfl (.refl _) (.cons rfl (.refl _) (.cons rfl (.refl _) (.cons rfl (.refl _) .nil)))))))))) (.cons rfl ?_ (.cons rfl ?_ (.cons rfl (LLe.refl _) .nil))) (.cons rfl (.cons rfl .nil)) (okI2 rfl) rfl) ⟨by omega, rfl⟩ ?_
  · rw [List.take_zero, List.count_nil, ite_self, Nat.add_zero]; exact LLe.refl _
  · rw [List.take_zero, List.count_nil, Nat.add_zero]; exact LLe.refl _
  rintro k st ⟨hk, rfl⟩
  refine Tr.seq (Tr.seq (Tr.reg (Steps.runN 4 rfl (by simp; omega) ?_)))
  rw [getD_map hiH, hHe]
  refine Steps.fin rfl (by simp) (Tr.cond rfl rfl (fun h4 => Tr.skip ?_) (fun h4 => Tr.exit ?_))
  rotate_left
  · have h4 : k = l.length := by simp at h4; omega
    subst h4
    rw [List.take_length, ← fa, ← fb]
    refine Tr.regR rfl (by simp) ?_
    exact ⟨i + 1, _, Wk.le (.cons rfl (.refl _) (.cons rfl (.refl _) (.cons rfl (.refl _) (.cons rfl (.refl _) (.cons rfl (.refl _) (.cons rfl (.refl _) (.cons rfl (.refl _) (.cons rfl (.refl _) (.cons rfl (VLe.i (w64 (by omega) (by omega))) .nil))))))))) (.cons rfl (LLe.refl _) (.cons rfl (LLe.refl _) (.cons rfl (LLe.refl _) .nil))) (.cons rfl (.cons rfl .nil)) (okI2 rfl) rfl, ⟨h3, rfl⟩, by omega⟩
  have h4 : k < l.length := by simpa using h4
  have hct := count_take h4 ((n : Int), (c : Int))
  have hcl1 : (l.take k).count ((n : Int), (c : Int)) ≤ 4096 := by
    have h5 : (l.take k).count ((n : Int), (c : Int)) ≤ (l.take k).length := List.count_le_length
    rw [List.length_take] at h5; omega
  obtain ⟨q, hq⟩ : ∃ q, (l.take k).count ((n : Int), (c : Int)) = q := ⟨_, rfl⟩
  rw [hq] at hct hcl1 ⊢
  refine Tr.meet { env := [(2, .ptr 2 0), (6, nestV H), (7, .slice 92 1 la), (8, .slice 96 1 lb), (9, I (n : Nat)), (10, .bsl 33 0 1 m), (11, .bsl 37 0 1 m), (12, I (c : Nat)), (13, I (i : Nat)), (14, I (k : Nat))], bx := [(33, ⟨(PA.set c ((cnt hu i n c + if su then (l.take (k + 1)).count ((n : Int), (c : Int)) else 0 : Nat) : Int)).map I, false⟩), (37, ⟨(PB.set c ((cnt hh i n c + (l.take (k + 1)).count ((n : Int), (c : Int)) : Nat) : Int)).map I, false⟩), (2, ⟨gridC g, false⟩)], rw := [(91, n, 1, 48), (95, n, 1, 48)], log := [], stp := false } (Tr.block ?_) (Tr.regR rfl (by simp) ?_)
  rotate_left
  · exact ⟨k + 1, _, Wk.le (.cons rfl (.refl _) (.cons rfl (.refl _) (.cons rfl (.refl _) (.cons rfl (.refl _) (.cons rfl (.refl _) (.cons rfl (.refl _) (.cons rfl (.refl _) (.cons rfl (.refl _) (.cons rfl (.refl _) (.cons rfl (VLe.i (w64 (by omega) (by omega))) .nil)))))))))) (.cons rfl (LLe.refl _) (.cons rfl (LLe.refl _) (.cons rfl (LLe.refl _) .nil))) (.cons rfl (.cons rfl .nil)) (okI2 rfl) rfl, ⟨h4, rfl⟩, by omega⟩
  rw [hct]
  refine Tr.seq (Tr.reg (Steps.runN 3 rfl (by simp; omega) ?_))
  rw [getD_map hiH, hHe]
  refine Steps.runN 3 rfl (by simp; omega) ?_
  rw [getD_map h4]
  refine Steps.fin rfl (by simp) ?_
  obtain ⟨ca, hca2⟩ : ∃ ca : Nat, cnt hu i n c + (if su then q else 0) = ca := ⟨_, rfl⟩
  obtain ⟨cb, hcb2⟩ : ∃ cb : Nat, cnt hh i n c + q = cb := ⟨_, rfl⟩
  have hcaB : ca ≤ 300000 := by rw [← hca2]; split <;> omega
  have hcbB : cb ≤ 300000 := by omega
  rw [hca2, hcb2]
  have hcond : ((l[k].1 == (n : Int)) && ((l[k].2 == (c : Int)) && true)) = decide (l[k] = ((n : Int), (c : Int))) := by
    by_cases h : l[k] = ((n : Int), (c : Int))
    · rw [h]; simp
    · rw [decide_eq_false h]
      by_cases h2 : l[k].1 = (n : Int)
      · have h3 : l[k].2 ≠ (c : Int) := fun h3 => h (Prod.ext h2 h3)
        simp [h3]
      · simp [h2]
  by_cases he : l[k] = ((n : Int), (c : Int))
  rotate_left
  · refine Tr.condF (congrArg (fun b => some (V.bool b)) (hcond.trans (decide_eq_false he))) (Tr.skip ?_)
    rw [if_neg he, Nat.add_zero, hca2, hcb2]
    exact Wk.le (.cons rfl (.refl _) (.cons rfl (.refl _) (.cons rfl (.refl _) (.cons rfl (.refl _) (.cons rfl (.refl _) (.cons rfl (.refl _) (.cons rfl (.refl _) (.cons rfl (.refl _) (.cons rfl (.refl _) (.cons rfl (.refl _) .nil)))))))))) (.cons rfl (LLe.refl _) (.cons rfl (LLe.refl _) (.cons rfl (LLe.refl _) .nil))) (.cons rfl (.cons rfl .nil)) (okI2 rfl) rfl
  refine Tr.condT (congrArg (fun b => some (V.bool b)) (hcond.trans (decide_eq_true he))) ?_
  rw [if_pos he]
  have hcb3 : cnt hh i n c + (q + 1) = cb + 1 := by omega
  rw [hcb3]
  refine Tr.seqN 4 rfl (by simp; exact ⟨h2, hcb'⟩) ?_
  rw [box_ld hcb']
  refine Steps.fin rfl (by simp; exact ⟨h2, hcb'⟩) ?_
  have hst1 : Am.splice ((PB.set c (cb : Int)).map I) (0 + ((c : Nat) : Int).toNat * 1) [I (IntKind.wrap .i64 ((cb : Int) + 1))] = (PB.set c ((cb + 1 : Nat) : Int)).map I := by
    rw [box_st hcb', w64 (by omega) (by omega)]; rfl
  refine Tr.weak (s' := { env := [(2, .ptr 2 0), (6, nestV H), (7, .slice 92 1 la), (8, .slice 96 1 lb), (9, I (n : Nat)), (10, .bsl 33 0 1 m), (11, .bsl 37 0 1 m), (12, I (c : Nat)), (13, I (i : Nat)), (14, I (k : Nat))], bx := [(33, ⟨(PA.set c (ca : Int)).map I, false⟩), (37, ⟨(PB.set c ((cb + 1 : Nat) : Int)).map I, false⟩), (2, ⟨gridC g, false⟩)], rw := [(91, n, 1, 48), (95, n, 1, 48)], log := [], stp := false })
    (Wk.le (.cons rfl (.refl _) (.cons rfl (.refl _) (.cons rfl (.refl _) (.cons rfl (.refl _) (.cons rfl (.refl _) (.cons rfl (.refl _) (.cons rfl (.refl _) (.cons rfl (.refl _) (.cons rfl (.refl _) (.cons rfl (.refl _) .nil)))))))))) (.cons rfl (LLe.refl _) (.cons rfl (by rw [← hst1]; exact LLe.refl _) (.cons rfl (LLe.refl _) .nil))) (.cons rfl (.cons rfl .nil)) (okI2 rfl) rfl) ?_
  refine Tr.seqN 3 rfl (by simp; omega) ?_
  rw [getD_map hiH, hHe]
  refine Steps.run rfl (by simp) (Steps.call rfl rfl ksu (Steps.fin rfl (by simp) ?_))
  cases su with
  | false =>
    refine Tr.condF rfl (Tr.skip ?_)
    have e : cnt hu i n c + (if false = true then q + 1 else 0) = ca := hca2
    rw [e]
    exact Wk.le (.cons rfl (.refl _) (.cons rfl (.refl _) (.cons rfl (.refl _) (.cons rfl (.refl _) (.cons rfl (.refl _) (.cons rfl (.refl _) (.cons rfl (.refl _) (.cons rfl (.refl _) (.cons rfl (.refl _) (.cons rfl (.refl _) .nil)))))))))) (.cons rfl (LLe.refl _) (.cons rfl (LLe.refl _) (.cons rfl (LLe.refl _) .nil))) (.cons rfl (.cons rfl .nil)) (okI2 rfl) rfl
  | true =>
    refine Tr.condT rfl (Tr.reg ?_)
    have hca2 : cnt hu i n c + q = ca := hca2
    have e : cnt hu i n c + (if true = true then q + 1 else 0) = ca + 1 := by rw [if_pos rfl]; omega
    rw [e]
    refine Steps.runN 4 rfl (by simp; exact ⟨h2, hca⟩) ?_
    rw [box_ld hca]
    refine Steps.fin rfl (by simp; exact ⟨h2, hca⟩) ?_
    have hst2 : Am.splice ((PA.set c (ca : Int)).map I) (0 + ((c : Nat) : Int).toNat * 1) [I (IntKind.wrap .i64 ((ca : Int) + 1))] = (PA.set c ((ca + 1 : Nat) : Int)).map I := by
      rw [box_st hca, w64 (by omega) (by omega)]; rfl
    exact Wk.le (.cons rfl (.refl _) (.cons rfl (.refl _) (.cons rfl (.refl _) (.cons rfl (.refl _) (.cons rfl (.refl _) (.cons rfl (.refl _) (.cons rfl (.refl _) (.cons rfl (.refl _) (.cons rfl (.refl _) (.cons rfl (.refl _) .nil)))))))))) (.cons rfl (by rw [← hst2]; exact LLe.refl _) (.cons rfl (LLe.refl _) (.cons rfl (LLe.refl _) .nil))) (.cons rfl (.cons rfl .nil)) (okI2 rfl) rfl

end Go.Proofs.YtdejdblopmfjfaaGreatDoor


/-! Contracts of the specification: Fold, needs, Lacks; two lists of what is lacking, compared. -/
set_option linter.unusedVariables false
set_option linter.unusedSimpArgs false
set_option maxRecDepth 40000
set_option maxHeartbeats 4000000
namespace Go.Proofs.YtdejdblopmfjfaaGreatDoor
open Go.Am
attribute [local simp] cells scalar mkv splice under2 under dem dem1 eB gridC sB fourC layC eF nestV eL sL
theorem c_Fold07 {g : Gd} {s : Ly} (hl : g.cls.length ≤ 9223372036854775807) (hn : s.nodes.length ≤ 9223372036854775807) (ht : s.traces.length ≤ 9223372036854775807) : C Tryz.prog F.ref07_Fold [.agg (gridC g), .agg (layC s)] (FoldR g s) := by
  have kb := c_both07 (g := g) (s := s) hl hn ht
  unfold bothE at kb
  unfold FoldR
  refine C_of mixed chk.ref07_Fold (by simp) fun S ok => ?_
  refine Tr.seqR rfl (by simp) ?_
  by_cases hg : gridOk g = true
  rotate_left
  · rw [if_neg hg] at kb ⊢
    refine Tr.seq (Tr.seqC rfl (by simp) (Steps.call rfl rfl kb (Steps.fin rfl (by simp) (Tr.seqR rfl (by simp) (Tr.condT rfl (Tr.seqR rfl (by simp) ?_))))))
    refine Tr.weak (s' := { env := [(4, .slice 0 1 []), (5, .slice 0 1 []), (6, I 70)], bx := [], rw := [], log := [], stp := false }) (Wk.le (.cons rfl (.nil 0 1) (.cons rfl (.nil 0 1) (.cons rfl (.refl _) .nil))) .nil .nil rfl rfl) ?_
    exact Tr.retX rfl rfl rfl rfl trivial
  rw [if_pos hg] at kb ⊢
  by_cases hs : layOk s = true
  rotate_left
  · rw [if_neg hs] at kb ⊢
    refine Tr.seq (Tr.seqC rfl (by simp) (Steps.call rfl rfl kb (Steps.fin rfl (by simp) (Tr.seqR rfl (by simp) (Tr.condT rfl (Tr.seqR rfl (by simp) ?_))))))
    refine Tr.weak (s' := { env := [(4, .slice 0 1 []), (5, .slice 0 1 []), (6, I 71)], bx := [], rw := [], log := [], stp := false }) (Wk.le (.cons rfl (.nil 0 1) (.cons rfl (.nil 0 1) (.cons rfl (.refl _) .nil))) .nil .nil rfl rfl) ?_
    exact Tr.retX rfl rfl rfl rfl trivial
  rw [if_pos hs] at kb ⊢
  refine Tr.seq (Tr.seqC rfl (by simp) (Steps.call rfl rfl kb (Steps.fin rfl (by simp) (Tr.seqR rfl (by simp) (Tr.condF rfl (Tr.skip ?_))))))
  refine Tr.seqC rfl (by simp) (Steps.call rfl rfl (c_fold07 hg hs) (Steps.fin rfl (by simp) ?_))
  exact Tr.seqR rfl (by simp) (Tr.retX rfl rfl rfl rfl trivial)

theorem c_needs07 {g : Gd} {l : List Int} (hl : l.length ≤ 9223372036854775807) : C Tryz.prog F.ref07_needs [.agg (gridC g), intsV l] (.bool (needOk g l)) := by
  refine C_of mixed chk.ref07_needs (by simp) fun S ok => ?_
  refine Tr.seqR rfl (by simp) (Tr.seq (Tr.seqR rfl (by simp) (Tr.block ?_)))
  refine Tr.loop (fun (k : Nat) st => (k ≤ l.length ∧ ∀ n ∈ l.take k, btw n 0 100 = true) ∧ st = { env := [(1, intsV l), (2, .ptr 2 0), (5, I (k : Nat))], bx := [(2, ⟨gridC g, false⟩)], rw := [], log := [], stp := false }) (fun k => l.length - k) 0
    (Wk.le (.cons rfl (.refl _) (.cons rfl (.refl _) (.cons rfl (.refl _) .nil))) (.cons rfl (LLe.refl _) .nil) .nil rfl rfl) ⟨⟨by omega, by simp⟩, rfl⟩ ?_
  rintro k st ⟨⟨hk, hb⟩, rfl⟩
  refine Tr.seq (Tr.seqR rfl (by simp [intsV]) (Tr.cond rfl rfl (fun h1 => Tr.skip ?_) (fun h1 => Tr.exit ?_)))
  rotate_left
  · have h1 : k = l.length := by simp at h1; omega
    subst h1
    rw [List.take_length] at hb
    refine Tr.seqR rfl (by simp [intsV]) (Tr.retX rfl rfl rfl ?_ trivial)
    show V.bool (needOk g l) = V.bool (((l.map I).length : Int) == ((g.cls.map eB).length : Int))
    unfold needOk
    have e : (l.any fun n => !btw n 0 100) = false := by
      rw [List.any_eq_false]
      intro n hn
      simp [hb n hn]
    rw [e, List.length_map, List.length_map]
    by_cases h : l.length = g.cls.length
    · simp [h]
    · have : ¬ ((l.length : Int) = (g.cls.length : Int)) := by omega
      simp [h, this]
  have h1 : k < l.length := by simpa using h1
  refine Tr.seq (Tr.block (Tr.seq (Tr.reg (Steps.runN 3 rfl (by simp [intsV]; omega) ?_))))
  rw [getD_map h1]
  refine Steps.run rfl (by simp) (Steps.call rfl rfl (c_between l[k] 0 100) (Steps.fin rfl (by simp) ?_))
  refine Tr.cond rfl rfl (fun h2 => ?_) (fun h2 => Tr.skip (Tr.regR rfl (by simp) ?_))
  · have h2 : (!btw l[k] 0 100) = true := h2
    refine Tr.seqR rfl (by simp) (Tr.retX rfl rfl rfl ?_ trivial)
    have e : (l.any fun n => !btw n 0 100) = true := List.any_eq_true.2 ⟨_, List.getElem_mem h1, h2⟩
    unfold needOk
    rw [e]; simp [packR]
  · have h2 : (!btw l[k] 0 100) = false := h2
    refine ⟨k + 1, _, Wk.le (.cons rfl (.refl _) (.cons rfl (.refl _) (.cons rfl (VLe.i (w64 (by omega) (by omega))) .nil))) (.cons rfl (LLe.refl _) .nil) .nil rfl rfl, ⟨⟨h1, fun n hn => ?_⟩, rfl⟩, by omega⟩
    rw [List.take_add_one, List.getElem?_eq_getElem h1] at hn
    rcases List.mem_append.1 hn with hn | hn
    · exact hb n hn
    · have : n = l[k] := by simpa using hn
      rw [this]; simpa using h2

theorem c_lacks07 {g : Gd} {s : Ly} (hg : gridOk g = true) (hs : layOk s = true) {ns : List Int} (hn : needOk g ns = true) : C Tryz.prog F.ref07_lacks [.agg (gridC g), .agg (layC s), intsV ns] (sL (lacksL (layD g s) ns)) := by
  obtain ⟨hnl, hnb⟩ := needOk_spec hn
  obtain ⟨_, hsz, hga, hgd, hcl, _⟩ := gridOk_spec hg
  have nb := nBins_eq hg
  have kc := c_fold07 hg hs
  have hat := cntN_nat (layD g s) (sureT (layD g s))
  have hfl := cntN_len (layD g s) (sureT (layD g s))
  have hfr := fun i hi => cntN_row (L := layD g s) (h := sureT (layD g s)) (i := i) hi
  have hfl : (cntN (layD g s) (sureT (layD g s))).length = nBins g := hfl
  have hfr : ∀ i (hi : i < (cntN (layD g s) (sureT (layD g s))).length), ((cntN (layD g s) (sureT (layD g s)))[i]).length = g.cls.length := hfr
  unfold lacksL
  generalize cntN (layD g s) (sureT (layD g s)) = f at kc hat hfl hfr ⊢
  generalize cntN (layD g s) (hitsT (layD g s)) = f2 at kc
  refine C_of mixed chk.ref07_lacks (by simp) fun S ok => ?_
  refine Tr.seqR rfl (by simp) (Tr.seqR rfl (by simp) ?_)
  refine Tr.seqC rfl (by simp) (Steps.call rfl rfl kc (Steps.fin rfl (by simp [foldV]) ?_))
  refine Tr.seq (Tr.seqR rfl (by simp) (Tr.block ?_))
  refine Tr.loop (α := Nat × List (Int × Int × Int)) (fun p st => (p.1 ≤ f.length ∧ p.2 = lackN ns f p.1) ∧ st = { env := [(2, intsV ns), (7, .slice 60 3 (p.2.map eL)), (8, foldV f), (10, I (p.1 : Nat))], bx := [], rw := [(59, p.2.length, 3, 117)], log := [], stp := false }) (fun p => f.length - p.1) (0, [])
    (Wk.le (.cons rfl (.refl _) (.cons rfl (.nil 60 3) (.cons rfl (.refl _) (.cons rfl (.refl _) .nil)))) .nil (.new rfl .nil) rfl rfl) ⟨⟨by omega, rfl⟩, rfl⟩ ?_
  rintro ⟨i, out⟩ st ⟨⟨hi, ho⟩, rfl⟩
  simp only at hi ho
  refine Tr.seq (Tr.seqR rfl (by simp [foldV]) (Tr.cond rfl rfl (fun h1 => Tr.skip ?_) (fun h1 => Tr.exit ?_)))
  rotate_left
  · have h1 : i = f.length := by simp at h1; omega
    refine Tr.seqR rfl (by simp) (Tr.weak (s' := { env := [(6, sL out)], bx := [], rw := [], log := [], stp := false }) (Wk.le (.cons rfl (.dem _ _ _) .nil) .nil .nil rfl rfl) (Tr.retX rfl rfl rfl ?_ trivial))
    rw [← h1, ← ho]; rfl
  have h1 : i < f.length := by simpa using h1
  have hri := hfr i h1
  refine Tr.seq (Tr.block (Tr.seqR rfl (by simp) (Tr.block ?_)))
  refine Tr.loop (α := Nat × List (Int × Int × Int)) (fun p st => (p.1 ≤ ns.length ∧ p.2 = lackN ns f i ++ lackRow ns f i p.1) ∧ st = { env := [(2, intsV ns), (7, .slice 60 3 (p.2.map eL)), (8, foldV f), (10, I (i : Nat)), (11, I (p.1 : Nat))], bx := [], rw := [(59, p.2.length, 3, 117)], log := [], stp := false }) (fun p => ns.length - p.1) (0, out)
    (Wk.le (.cons rfl (.refl _) (.cons rfl (.refl _) (.cons rfl (.refl _) (.cons rfl (.refl _) (.cons rfl (.refl _) .nil))))) .nil (.cons rfl .nil) rfl rfl) ⟨⟨by omega, by simp [lackRow, ho]⟩, rfl⟩ ?_
  rintro ⟨j, o2⟩ st ⟨⟨hj, ho2⟩, rfl⟩
  simp only at hj ho2
  refine Tr.seq (Tr.seqR rfl (by simp [intsV]) (Tr.cond rfl rfl (fun h2 => Tr.skip ?_) (fun h2 => Tr.exit ?_)))
  rotate_left
  · have h2 : j = ns.length := by simp at h2; omega
    refine Tr.regR rfl (by simp) ?_
    exact ⟨(i + 1, o2), _, Wk.le (.cons rfl (.refl _) (.cons rfl (.refl _) (.cons rfl (.refl _) (.cons rfl (VLe.i (w64 (by omega) (by omega))) .nil)))) .nil (.cons rfl .nil) rfl rfl, ⟨⟨by simp only; omega, by simp only; rw [ho2, lackN_succ, h2]⟩, rfl⟩, by simp only; omega⟩
  have h3 : j < ns.length := by simpa using h2
  have h2 : j < f[i].length := by omega
  have hlen : o2.length ≤ 2000 := by
    have e1 := lackN_len ns f i
    have e2 := lackRow_len ns f i j
    have e3 : i * ns.length ≤ 256 * 4 := Nat.mul_le_mul (by omega) (by omega)
    rw [ho2, List.length_append]; omega
  obtain ⟨m, hm⟩ := hat i j
  have hm2 := hm
  rw [at2_get h1 h2] at hm
  have hnj := hnb _ (List.getElem_mem h3)
  have hgd : ns.getD j 0 = ns[j] := by simp [h3]
  refine Tr.seq (Tr.block (Tr.seq (Tr.drawK (TraceK.runN 3 rfl (by simp [intsV]; omega) ?_))))
  rw [getD_map h3]
  refine TraceK.runN 4 rfl (by simp [foldV]; omega) ?_
  rw [getD_map h1]
  refine TraceK.runN 3 rfl (by simp [intsV]; omega) ?_
  rw [getD_map h2, hm]
  refine TraceK.run rfl (by simp) (.done ⟨by kernel_rfl, by kernel_rfl, ?_⟩)
  refine Tr.cond rfl rfl (fun h4 => ?_) (fun h4 => Tr.skip ?_)
  · have h4 : (m : Int) < ns[j] := by simpa using h4
    refine Tr.drawK (TraceK.runN 6 rfl (by simp [intsV]; omega) ?_)
    rw [getD_map h3]
    refine TraceK.runN 4 rfl (by simp [foldV]; omega) ?_
    rw [getD_map h1]
    refine TraceK.runN 3 rfl (by simp [intsV]; omega) ?_
    rw [getD_map h2, hm]
    refine TraceK.run rfl (by simp; omega) (.done ⟨by kernel_rfl, by kernel_rfl, ?_⟩)
    refine Tr.regR rfl (by simp) ?_
    have eA : lackRow ns f i (j + 1) = lackRow ns f i j ++ [((i : Int), (j : Int), ns[j] - m)] := by
      rw [lackRow_succ]; unfold lackAt; rw [hm2, hgd, if_pos h4]
    have ew : IntKind.wrap .i64 (ns[j] - m) = ns[j] - m := w64 (by omega) (by omega)
    refine ⟨(j + 1, o2 ++ [((i : Int), (j : Int), ns[j] - m)]), _, Wk.le (.cons rfl (.refl _) (.cons rfl (.of_eq ?_) (.cons rfl (.refl _) (.cons rfl (.refl _) (.cons rfl (VLe.i (w64 (by omega) (by omega))) .nil))))) .nil (.cons ?_ .nil) rfl rfl, ⟨⟨by simp only; omega, by simp only; rw [eA, ho2, List.append_assoc]⟩, rfl⟩, by simp only; omega⟩
    · simp [ew]
    · show some _ = some _
      simp
  · have h4 : ¬ (m : Int) < ns[j] := by simpa using h4
    refine Tr.regR rfl (by simp) ?_
    have eA : lackRow ns f i (j + 1) = lackRow ns f i j := by
      rw [lackRow_succ]; unfold lackAt; rw [hm2, hgd, if_neg h4, List.append_nil]
    exact ⟨(j + 1, o2), _, Wk.le (.cons rfl (.refl _) (.cons rfl (.refl _) (.cons rfl (.refl _) (.cons rfl (.refl _) (.cons rfl (VLe.i (w64 (by omega) (by omega))) .nil))))) .nil (.cons rfl .nil) rfl rfl, ⟨⟨by simp only; omega, by simp only; rw [eA, ho2]⟩, rfl⟩, by simp only; omega⟩

theorem c_Lacks07 {g : Gd} {s : Ly} (hl : g.cls.length ≤ 9223372036854775807) (hn : s.nodes.length ≤ 9223372036854775807) (ht : s.traces.length ≤ 9223372036854775807) {ns : List Int} (hns : ns.length ≤ 9223372036854775807) : C Tryz.prog F.ref07_Lacks [.agg (gridC g), .agg (layC s), intsV ns] (LacksR g s ns) := by
  have kb := c_both07 (g := g) (s := s) hl hn ht
  unfold bothE at kb
  unfold LacksR
  refine C_of mixed chk.ref07_Lacks (by simp) fun S ok => ?_
  refine Tr.seqR rfl (by simp) ?_
  by_cases hg : gridOk g = true
  rotate_left
  · rw [if_neg hg] at kb ⊢
    refine Tr.seq (Tr.seqC rfl (by simp) (Steps.call rfl rfl kb (Steps.fin rfl (by simp) (Tr.seqR rfl (by simp) (Tr.condT rfl (Tr.seqR rfl (by simp) ?_))))))
    refine Tr.weak (s' := { env := [(6, .slice 0 3 []), (7, I 70)], bx := [], rw := [], log := [], stp := false }) (Wk.le (.cons rfl (.nil 0 3) (.cons rfl (.refl _) .nil)) .nil .nil rfl rfl) ?_
    exact Tr.retX rfl rfl rfl rfl trivial
  rw [if_pos hg] at kb ⊢
  by_cases hs : layOk s = true
  rotate_left
  · rw [if_neg hs] at kb ⊢
    refine Tr.seq (Tr.seqC rfl (by simp) (Steps.call rfl rfl kb (Steps.fin rfl (by simp) (Tr.seqR rfl (by simp) (Tr.condT rfl (Tr.seqR rfl (by simp) ?_))))))
    refine Tr.weak (s' := { env := [(6, .slice 0 3 []), (7, I 71)], bx := [], rw := [], log := [], stp := false }) (Wk.le (.cons rfl (.nil 0 3) (.cons rfl (.refl _) .nil)) .nil .nil rfl rfl) ?_
    exact Tr.retX rfl rfl rfl rfl trivial
  rw [if_pos hs] at kb ⊢
  refine Tr.seq (Tr.seqC rfl (by simp) (Steps.call rfl rfl kb (Steps.fin rfl (by simp) (Tr.seqR rfl (by simp) (Tr.condF rfl (Tr.skip ?_))))))
  refine Tr.seq (Tr.seqC rfl (by simp) (Steps.call rfl rfl (c_needs07 (g := g) hns) (Steps.fin rfl (by simp) ?_)))
  refine Tr.cond rfl rfl (fun h1 => Tr.seqR rfl (by simp) ?_) (fun h1 => Tr.skip ?_)
  · have h1 : needOk g ns = false := by simpa using h1
    refine Tr.weak (s' := { env := [(6, .slice 0 3 []), (7, I 73)], bx := [], rw := [], log := [], stp := false }) (Wk.le (.cons rfl (.nil 0 3) (.cons rfl (.refl _) .nil)) .nil .nil rfl rfl) ?_
    refine Tr.retX rfl rfl rfl ?_ trivial
    rw [h1]; rfl
  · have h1 : needOk g ns = true := by simpa using h1
    refine Tr.seqC rfl (by simp) (Steps.call rfl rfl (c_lacks07 hg hs h1) (Steps.fin rfl (by simp) (Tr.retX rfl rfl rfl ?_ trivial)))
    rw [h1]; rfl

theorem c_lacksE (l l' : List (Int × Int × Int)) (hl : l.length ≤ 9223372036854775807) : C Tryz.prog F.law07_lacks [sL l, sL l'] (.bool (decide (l = l'))) := by
  refine C_of mixed chk.law07_lacks (by simp) fun S ok => ?_
  refine Tr.seqR rfl (by simp) (Tr.seq (Tr.seqR rfl (by simp) ?_))
  refine Tr.cond rfl rfl (fun h1 => Tr.seqR rfl (by simp) (Tr.retX rfl rfl rfl ?_ trivial)) (fun h1 => Tr.skip ?_)
  · have h1 : (((l.map eL).length : Int) != ((l'.map eL).length : Int)) = true := h1
    simp only [packR, V.bool.injEq]
    rw [decide_eq_false]
    rintro rfl
    simp at h1
  · have h1 : (((l.map eL).length : Int) != ((l'.map eL).length : Int)) = false := h1
    have hll : l.length = l'.length := by simp at h1; omega
    refine Tr.seq (Tr.seqR rfl (by simp) (Tr.block ?_))
    refine Tr.loop (fun k st => (k ≤ l.length ∧ l.take k = l'.take k) ∧ st = { env := [(0, sL l), (1, sL l'), (5, I k)], bx := [], rw := [], log := [], stp := false }) (fun k => l.length - k) 0
      (Wk.le (.cons rfl (.refl _) (.cons rfl (.refl _) (.cons rfl (.refl _) .nil))) .nil .nil rfl rfl) ⟨⟨by omega, by simp⟩, rfl⟩ ?_
    rintro k st ⟨⟨hk, he⟩, rfl⟩
    refine Tr.seq (Tr.seqR rfl (by simp) (Tr.cond rfl rfl (fun h3 => ?_) (fun h3 => ?_)))
    · have h3 : k < l.length := by simpa using h3
      have h4 : k < l'.length := by omega
      refine Tr.skip (Tr.seq (Tr.block (Tr.seq (Tr.drawK (TraceK.runN 3 rfl (by simp; omega) ?_)))))
      rw [getD_map h3]
      refine TraceK.runN 4 rfl (by simp; omega) ?_
      rw [getD_map h4]
      refine TraceK.run rfl (by simp) (.done ⟨by kernel_rfl, by kernel_rfl, ?_⟩)
      refine Tr.cond rfl rfl (fun h5 => Tr.seqR rfl (by simp) (Tr.retX rfl rfl rfl ?_ trivial)) (fun h5 => Tr.skip (Tr.regR rfl (by simp) ?_))
      · have h5 : l[k] ≠ l'[k] := by
          intro e; rw [e] at h5; simp at h5
        simp only [packR, V.bool.injEq]
        rw [decide_eq_false]
        rintro rfl
        exact h5 rfl
      · have h5 : l[k] = l'[k] := by
          have := h5
          simp at this
          exact Prod.ext this.1 (Prod.ext this.2.1 this.2.2)
        exact ⟨k + 1, _, Wk.le (.cons rfl (.refl _) (.cons rfl (.refl _) (.cons rfl (VLe.i (w64 (by omega) (by omega))) .nil))) .nil .nil rfl rfl, ⟨⟨h3, take_ext h3 h4 he h5⟩, rfl⟩, by omega⟩
    · have h3 : k = l.length := by simp at h3; omega
      subst h3
      refine Tr.exit (Tr.seqR rfl (by simp) (Tr.retX rfl rfl rfl ?_ trivial))
      rw [List.take_length, hll, List.take_length] at he
      simp [packR, he]

end Go.Proofs.YtdejdblopmfjfaaGreatDoor


/-! Contract of the law BinFolds. -/
set_option linter.unusedVariables false
set_option linter.unusedSimpArgs false
set_option maxRecDepth 40000
set_option maxHeartbeats 4000000
namespace Go.Proofs.YtdejdblopmfjfaaGreatDoor
open Go.Am
attribute [local simp] cells scalar mkv splice under2 under dem dem1 eB gridC sB fourC layC eF foldV intsV eL sL
theorem fold_form (g : Gd) (s : Ly) (hl : g.cls.length ≤ 9223372036854775807) : ∃ a b e, FoldR g s = .tuple [foldV a, foldV b, I e] ∧ (a.length ≤ 9223372036854775807 ∧ ∀ r ∈ a, r.length ≤ 9223372036854775807) ∧ b.length ≤ 9223372036854775807 ∧ ∀ r ∈ b, r.length ≤ 9223372036854775807 := by
  have key : ∀ h : Nat → List (Int × Int), gridOk g = true → (cntN (layD g s) h).length ≤ 9223372036854775807 ∧ ∀ r ∈ cntN (layD g s) h, r.length ≤ 9223372036854775807 := fun h hg => by
    refine ⟨?_, fun r hr => ?_⟩
    · rw [cntN_len]
      have := (nBins_eq hg).2
      have e : nBins (layD g s).g = nBins g := rfl
      omega
    · obtain ⟨b, _, rfl⟩ := List.mem_map.1 hr
      rw [cntRow_len]; exact hl
  unfold FoldR
  split
  · rename_i hg
    split
    · exact ⟨_, _, _, rfl, key _ hg, key _ hg⟩
    · exact ⟨[], [], _, rfl, ⟨by simp, by simp⟩, by simp, by simp⟩
  · exact ⟨[], [], _, rfl, ⟨by simp, by simp⟩, by simp, by simp⟩

theorem lacks_form (g : Gd) (s : Ly) (ns : List Int) : ∃ l e, LacksR g s ns = .tuple [sL l, I e] ∧ l.length ≤ 9223372036854775807 := by
  unfold LacksR
  split
  · rename_i hg
    split
    · split
      · rename_i hs hn
        refine ⟨_, _, rfl, ?_⟩
        have hnl := (needOk_spec hn).1
        obtain ⟨_, _, _, _, hcl, _⟩ := gridOk_spec hg
        have h1 := lackN_len ns (cntN (layD g s) (sureT (layD g s))) (cntN (layD g s) (sureT (layD g s))).length
        rw [cntN_len] at h1
        have h2 := (nBins_eq hg).2
        have e : nBins (layD g s).g = nBins g := rfl
        have h3 : nBins (layD g s).g * ns.length ≤ 256 * 4 := Nat.mul_le_mul (by omega) (by omega)
        unfold lacksL
        rw [cntN_len]
        omega
      · exact ⟨[], _, rfl, by simp⟩
    · exact ⟨[], _, rfl, by simp⟩
  · exact ⟨[], _, rfl, by simp⟩

theorem c_BinFolds {g : Gd} (hl : g.cls.length ≤ 9223372036854775807) {s : Ly} (hn : s.nodes.length ≤ 9223372036854775807) (ht : s.traces.length ≤ 9223372036854775807) {ns : List Int} (hns : ns.length ≤ 9223372036854775807) : C Tryz.prog F.law07_BinFolds [.agg (gridC g), .agg (layC s), intsV ns] (.bool true) := by
  have k1 := c_Fold (g := g) (s := s) hl hn ht
  have k2 := c_Fold07 (g := g) (s := s) hl hn ht
  have k3 := c_Lacks (g := g) (s := s) hl hn ht hns
  have k4 := c_Lacks07 (g := g) (s := s) hl hn ht hns
  obtain ⟨a, b, e, h1, ha, hb1, hb2⟩ := fold_form g s hl
  obtain ⟨l, f, h2, h3⟩ := lacks_form g s ns
  rw [h1] at k1 k2
  rw [h2] at k3 k4
  have k5 := c_AlikeLists a a ha.1 ha.2
  have k6 := c_AlikeLists b b hb1 hb2
  have k7 := c_lacksE l l h3
  rw [decide_eq_true rfl] at k5 k6 k7
  refine C_of mixed chk.law07_BinFolds (by simp) fun S ok => ?_
  refine Tr.seqR rfl (by simp) ?_
  refine Tr.seqC rfl (by simp) (Steps.call rfl rfl k1 (Steps.fin rfl (by simp) ?_))
  refine Tr.seqC rfl (by simp) (Steps.call rfl rfl k2 (Steps.fin rfl (by simp) ?_))
  refine Tr.seq (Tr.seqC rfl (by simp) (Steps.call rfl rfl k5 (Steps.run rfl (by simp) (Steps.gcall rfl rfl rfl rfl (by simp) (fun _ => k6) (Steps.fin rfl (by simp) ?_)))))
  refine Tr.condF ?_ (Tr.skip ?_)
  · show some (V.bool (bif (bif (!true) then true else (!true)) then true else (e != e))) = _
    simp
  refine Tr.seqC rfl (by simp) (Steps.call rfl rfl k3 (Steps.fin rfl (by simp) ?_))
  refine Tr.seqC rfl (by simp) (Steps.call rfl rfl k4 (Steps.fin rfl (by simp) ?_))
  refine Tr.seqC rfl (by simp) (Steps.call rfl rfl k7 (Steps.run rfl (by simp) (Steps.gcall rfl rfl rfl rfl (by simp) (fun _ => c_works) (Steps.fin rfl (by simp) (Tr.retX rfl rfl rfl ?_ trivial)))))
  show V.bool true = V.bool (bif (bif true then (f == f) else false) then true else false)
  simp

end Go.Proofs.YtdejdblopmfjfaaGreatDoor


/-! From the reading of a row's arguments to values. -/
set_option linter.unusedVariables false
set_option linter.unusedSimpArgs false
set_option maxRecDepth 20000
namespace Go.Proofs.YtdejdblopmfjfaaGreatDoor
open Go.Am Go.ChangeShapes Go.WideShapes Go.ChangeAt Go.RowKit

/-- Everything that was there is stable. -/
def phi (W : World) : Nat → Nat := fun b => match W.heap[b]? with
  | some (.cells cs _ _) => cs.size
  | _ => 0

theorem phi_top {W : World} : ∀ b, W.heap.size ≤ b → phi W b = 0 := fun b hb => by
  unfold phi
  rw [Array.getElem?_eq_none hb]

theorem phi_lt {W : World} {b o : Nat} {z : Value} (h : W.cell? ⟨b, o, none⟩ = some z) : o < phi W b := by
  unfold World.cell? at h
  unfold phi
  cases hb : W.heap[b]? with
  | none => rw [hb] at h; simp at h
  | some ob =>
    rw [hb] at h
    cases ob with
    | cells c e m => simp only at h ⊢; exact (Array.getElem?_eq_some_iff.1 h).1
    | _ => simp at h

section
variable {H : Type} (enc : TypeId × Value → H) (W : World)

def Got (Pr : List V → Prop) (cs : List Value) : Prop := ∃ vs, Pr vs ∧ vs.length = cs.length ∧ ∀ (i : Nat) v c, vs[i]? = some v → cs[i]? = some c → RepD W (phi W) v c ∧ scalar v = true

/-- Whatever reads as this type has such values. -/
def Reads (t : TypeId) (Pr : List V → Prop) : Prop := ∀ fuel cs x, DataW.trod enc Tryz.prog W 0 (fun _ => true) true fuel t cs = some x → Got W Pr cs

def trods (fuel : Nat) : List TypeId → List Value → Prop
  | [], cs => cs = []
  | t :: ts, cs => (∃ x, DataW.trod enc Tryz.prog W 0 (fun _ => true) true fuel t (cs.take (Tryz.prog.cellsOf t)) = some x) ∧ Tryz.prog.cellsOf t ≤ cs.length ∧ trods fuel ts (cs.drop (Tryz.prog.cellsOf t))

def ReadsL (ts : List TypeId) (Pr : List V → Prop) : Prop := ∀ fuel cs, trods enc W fuel ts cs → Got W Pr cs

variable {enc W}

theorem Got.mono {P Q : List V → Prop} {cs : List Value} (h : Got W P cs) (k : ∀ vs, P vs → Q vs) : Got W Q cs := let ⟨vs, a, b⟩ := h; ⟨vs, k vs a, b⟩
theorem Reads.mono {t : TypeId} {P Q : List V → Prop} (h : Reads enc W t P) (k : ∀ vs, P vs → Q vs) : Reads enc W t Q := fun fuel cs x hx => (h fuel cs x hx).mono k

theorem readsL_nil : ReadsL enc W [] (fun vs => vs = []) := fun fuel cs h => by
  have h : cs = [] := h
  subst h
  exact ⟨[], rfl, rfl, fun i v c h => by simp at h⟩

theorem readsL_cons {t : TypeId} {ts : List TypeId} {P Q : List V → Prop} (h : Reads enc W t P) (k : ReadsL enc W ts Q) : ReadsL enc W (t :: ts) (fun vs => ∃ a b, P a ∧ Q b ∧ vs = a ++ b) := fun fuel cs ht => by
  obtain ⟨⟨x, hx⟩, hle, hr⟩ := ht
  obtain ⟨a, ha, la, ra⟩ := h _ _ _ hx
  obtain ⟨b, hb, lb, rb⟩ := k _ _ hr
  rw [List.length_take] at la
  rw [List.length_drop] at lb
  refine ⟨a ++ b, ⟨a, b, ha, hb, rfl⟩, by simp; omega, fun i v c hv hc => ?_⟩
  by_cases hi : i < a.length
  · rw [List.getElem?_append_left hi] at hv
    exact ra i v c hv (by rw [List.getElem?_take, if_pos (by omega)]; exact hc)
  · rw [List.getElem?_append_right (by omega)] at hv
    refine rb (i - a.length) v c hv ?_
    rw [List.getElem?_drop, show Tryz.prog.cellsOf t + (i - a.length) = i by omega]
    exact hc

theorem reads_int {t : TypeId} (ht : Tryz.prog.underlying t = some (.int .i64)) : Reads enc W t (fun vs => ∃ n : Int, vs = [I n] ∧ -9223372036854775808 ≤ n ∧ n ≤ 9223372036854775807) := fun fuel cs x hx => by
  obtain ⟨n, rfl, _, hw⟩ := DataW.trod_int ht hx
  have hb := Go.bounds_i64 hw
  refine ⟨[I n], ⟨n, rfl, by omega, by omega⟩, rfl, fun i v c hv hc => ?_⟩
  cases i with
  | zero => cases hv; cases hc; exact ⟨.int _ _, rfl⟩
  | succ i => cases hv

/-- Fields one behind the other. -/
noncomputable def offsB : List Field → Nat → Nat → Bool
  | [], o, n => o == n
  | f :: r, o, n => f.offset == o && offsB r (o + Tryz.prog.cellsOf f.type) n

theorem trods_of {fuel : Nat} : ∀ (fs : List Field) (o n : Nat) (cs : List Value), offsB fs o n = true → cs.length = n → o ≤ n → (∀ f ∈ fs, ∃ x, DataW.trod enc Tryz.prog W 0 (fun _ => true) true fuel f.type ((cs.drop f.offset).take (Tryz.prog.cellsOf f.type)) = some x) → trods enc W fuel (fs.map (·.type)) (cs.drop o)
  | [], o, n, cs, h, hl, _, _ => by
    simp only [offsB, beq_iff_eq] at h
    show cs.drop o = []
    rw [List.drop_eq_nil_of_le (by omega)]
  | f :: r, o, n, cs, h, hl, ho, hf => by
    simp only [offsB, Bool.and_eq_true, beq_iff_eq] at h
    have hle : o + Tryz.prog.cellsOf f.type ≤ n := by
      have : ∀ (fs : List Field) (o n : Nat), offsB fs o n = true → o ≤ n := by
        intro fs
        induction fs with
        | nil => intro o n h; simp only [offsB, beq_iff_eq] at h; omega
        | cons g r ih => intro o n h; simp only [offsB, Bool.and_eq_true, beq_iff_eq] at h; have := ih _ _ h.2; omega
      exact this _ _ _ h.2
    refine ⟨?_, by rw [List.length_drop]; show Tryz.prog.cellsOf f.type ≤ _; omega, ?_⟩
    · have := hf f (by simp)
      rw [h.1] at this
      exact this
    · rw [List.drop_drop]
      exact trods_of r _ n cs h.2 hl hle fun g hg => hf g (by simp [hg])

theorem reads_struct {t : TypeId} {fs : Array Field} {Pr : List V → Prop} (ht : Tryz.prog.underlying t = some (.struct fs)) (ho : offsB fs.toList 0 (Tryz.prog.cellsOf t) = true) (h : ReadsL enc W (fs.toList.map (·.type)) Pr) : Reads enc W t Pr := fun fuel cs x hx => by
  obtain ⟨xs, n, _, _, hl, hxs, hf⟩ := DataW.trod_struct ht hx
  refine h n cs ?_
  have := trods_of (enc := enc) (W := W) (fuel := n) fs.toList 0 _ cs ho hl (Nat.zero_le _) fun f hm => by
    obtain ⟨i, hi, rfl⟩ := List.mem_iff_getElem.1 hm
    have h1 := hf i fs.toList[i] (by simp at hi ⊢)
    rw [h1]
    have : i < xs.length := by simp at hi; omega
    exact ⟨_, List.getElem?_eq_getElem this⟩
  simpa using this

theorem trods_rep {fuel : Nat} {e : TypeId} : ∀ (n k : Nat) (cs : List Value), cs.length = (k + n) * Tryz.prog.cellsOf e → (∀ i, i < n → ∃ x, DataW.trod enc Tryz.prog W 0 (fun _ => true) true fuel e ((cs.drop ((k + i) * Tryz.prog.cellsOf e)).take (Tryz.prog.cellsOf e)) = some x) → trods enc W fuel (List.replicate n e) (cs.drop (k * Tryz.prog.cellsOf e))
  | 0, k, cs, hl, _ => by
    show cs.drop _ = []
    rw [List.drop_eq_nil_of_le (by rw [hl]; simp)]
  | n + 1, k, cs, hl, hf => by
    have e1 : (k + (n + 1)) * Tryz.prog.cellsOf e = k * Tryz.prog.cellsOf e + (n * Tryz.prog.cellsOf e + Tryz.prog.cellsOf e) := by rw [Nat.add_mul, Nat.succ_mul]
    refine ⟨by simpa using hf 0 (by omega), by rw [List.length_drop]; omega, ?_⟩
    rw [List.drop_drop, show k * Tryz.prog.cellsOf e + Tryz.prog.cellsOf e = (k + 1) * Tryz.prog.cellsOf e by rw [Nat.succ_mul]]
    exact trods_rep n (k + 1) cs (by rw [hl]; congr 1; omega) fun i hi => by
      have := hf (i + 1) (by omega)
      rwa [show k + 1 + i = k + (i + 1) by omega]

theorem reads_array {t e : TypeId} {n : Nat} {Pr : List V → Prop} (ht : Tryz.prog.underlying t = some (.array n e)) (hc : Tryz.prog.cellsOf t = n * Tryz.prog.cellsOf e) (h : ReadsL enc W (List.replicate n e) Pr) : Reads enc W t Pr := fun fuel cs x hx => by
  obtain ⟨xs, m, _, _, hl, hxs, hf⟩ := DataW.trod_array ht hx
  refine h m cs ?_
  have := trods_rep (enc := enc) (W := W) (fuel := m) (e := e) n 0 cs (by rw [hl, hc]; simp) fun i hi => by
    rw [Nat.zero_add, hf i hi]
    exact ⟨_, List.getElem?_eq_getElem (by omega)⟩
  simpa using this

def wrapV (agg : Bool) (x : List V) : V := bif agg then .agg x else x.headD nothing

theorem cells_wrap {agg : Bool} {x : List V} {sz : Nat} (hx : x.length = sz) (hs : ∀ v ∈ x, scalar v = true) (ha : agg = false → sz = 1) : cells (wrapV agg x) = x := by
  cases agg with
  | true => rfl
  | false =>
    have := ha rfl
    subst this
    match x, hx with
    | [v], _ =>
      have hv := hs v (by simp)
      show cells v = [v]
      cases v <;> simp [scalar] at hv <;> rfl

theorem cell_spot {a : Addr} {z : Value} (h : W.cell? a = some z) : a = ⟨a.block, a.off, none⟩ := by
  have := World.cell?_spot h
  obtain ⟨b, o, s⟩ := a
  simp only at this
  subst this; rfl

theorem reads_slice {t e : TypeId} {sz : Nat} {Pe : List V → Prop} (agg : Bool) (ht : Tryz.prog.underlying t = some (.slice e)) (hc : Tryz.prog.cellsOf e = sz) (h0 : 0 < sz) (ha : agg = false → sz = 1) (h : Reads enc W e Pe) :
    Reads enc W t (fun vs => ∃ xs : List (List V), (∀ x ∈ xs, Pe x) ∧ xs.length ≤ 9223372036854775807 ∧ vs = [.slice 0 sz (xs.map (wrapV agg))]) := fun fuel cs x hx => by
  subst hc
  rcases DataW.trod_slice ht hx with ⟨rfl, _⟩ | ⟨a, len, cap, elems, rest, n, _, rfl, _, _, hlc, hcm, hel, hE, _⟩
  · refine ⟨[.slice 0 _ []], ⟨[], fun x hx => by simp at hx, by simp, rfl⟩, rfl, fun i v c hv hc => ?_⟩
    cases i with
    | zero => cases hv; cases hc; exact ⟨.slice0 _ _ _, rfl⟩
    | succ i => cases hv
  · have hcm' : cap ≤ 9223372036854775807 := by unfold maxLen at hcm; omega
    -- the elements, one by one
    have step : ∀ m, m ≤ len → ∃ xs : List (List V), xs.length = m ∧ (∀ x ∈ xs, Pe x ∧ x.length = Tryz.prog.cellsOf e) ∧
        ∀ (i : Nat) x (j : Nat) v, xs[i]? = some x → x[j]? = some v → ∃ c, W.cell? (a.add (i * Tryz.prog.cellsOf e + j)) = some c ∧ RepD W (phi W) v c ∧ scalar v = true := by
      intro m
      induction m with
      | zero => exact fun _ => ⟨[], rfl, fun x hx => by simp at hx, fun i x j v hx => by simp at hx⟩
      | succ m ih =>
        intro hm
        obtain ⟨xs, l1, l2, l3⟩ := ih (by omega)
        have h1 := hE m (by omega)
        rw [List.getElem?_eq_getElem (by omega)] at h1
        rw [Option.bind_eq_some_iff] at h1
        obtain ⟨ccs, h2, h3⟩ := h1
        obtain ⟨vs, v1, v2, v3⟩ := h _ _ _ h3
        have hcc : ccs.length = Tryz.prog.cellsOf e ∧ ∀ (j : Nat) c, ccs[j]? = some c → W.cell? (a.add (m * Tryz.prog.cellsOf e + j)) = some c := by
          unfold World.cells? at h2
          rw [if_pos (Nat.zero_le _)] at h2
          refine ⟨by simpa using mapM_some_length h2, fun j c hj => ?_⟩
          have hjl : j < Tryz.prog.cellsOf e := by
            have := (List.getElem?_eq_some_iff.1 hj).1
            have hh := mapM_some_length h2
            simp at hh; omega
          have := mapM_some_get h2 j j (by simp [hjl])
          rw [hj] at this
          rw [← this, Addr.add_add]
        refine ⟨xs ++ [vs], by simp [l1], fun x hx => ?_, fun i x j v hx hj => ?_⟩
        · rcases List.mem_append.1 hx with hx | hx
          · exact l2 x hx
          · simp at hx; subst hx; exact ⟨v1, by omega⟩
        · by_cases hi : i < xs.length
          · rw [List.getElem?_append_left hi] at hx
            exact l3 i x j v hx hj
          · have hi' : i = xs.length := by
              have := (List.getElem?_eq_some_iff.1 hx).1
              simp at this; omega
            subst hi'
            rw [List.getElem?_append_right (by omega)] at hx
            simp at hx; subst hx
            have hjl : j < ccs.length := by have := (List.getElem?_eq_some_iff.1 hj).1; omega
            rw [l1]
            exact ⟨ccs[j], hcc.2 j _ (List.getElem?_eq_getElem hjl), v3 j v _ hj (List.getElem?_eq_getElem hjl)⟩
    obtain ⟨xs, l1, l2, l3⟩ := step len (Nat.le_refl _)
    have hsc : ∀ x ∈ xs, ∀ v ∈ x, scalar v = true := fun x hx v hv => by
      obtain ⟨i, hi, rfl⟩ := List.mem_iff_getElem.1 hx
      obtain ⟨j, hj, rfl⟩ := List.mem_iff_getElem.1 hv
      obtain ⟨c, _, _, hs⟩ := l3 i _ j _ (List.getElem?_eq_getElem hi) (List.getElem?_eq_getElem hj)
      exact hs
    have hcw : ∀ x ∈ xs, cells (wrapV agg x) = x := fun x hx => cells_wrap (l2 x hx).2 (hsc x hx) ha
    refine ⟨[.slice 0 _ (xs.map (wrapV agg))], ⟨xs, fun x hx => (l2 x hx).1, by omega, rfl⟩, rfl, fun i v c hv hc => ?_⟩
    cases i with
    | succ i => cases hv
    | zero =>
      cases hv; cases hc
      refine ⟨?_, rfl⟩
      by_cases hl0 : len = 0
      · subst hl0
        have : xs = [] := List.eq_nil_of_length_eq_zero l1
        subst this
        exact .slice0 _ _ _
      · -- the place of the first cell
        have hx0 : 0 < xs.length := by omega
        have hlen0 := (l2 _ (List.getElem_mem hx0)).2
        obtain ⟨c0, hc0, _⟩ := l3 0 xs[0] 0 (xs[0][0]'(by omega)) (List.getElem?_eq_getElem hx0) (List.getElem?_eq_getElem (by omega))
        have hsp := cell_spot hc0
        obtain ⟨b, off, sp⟩ := a
        have : sp = none := by simpa [Addr.add] using hsp
        subst this
        have hwl : ∀ y ∈ xs.map (wrapV agg), (cells y).length = Tryz.prog.cellsOf e := fun y hy => by
          obtain ⟨x, hx, rfl⟩ := List.mem_map.1 hy
          rw [hcw x hx, (l2 x hx).2]
        have at_ : ∀ (j : Nat) v, ((xs.map (wrapV agg)).flatMap cells)[j]? = some v → ∃ c, W.cell? ⟨b, off + j, none⟩ = some c ∧ RepD W (phi W) v c ∧ scalar v = true := fun j v hj => by
          obtain ⟨i, u, k, hu, hk, rfl⟩ := flat_split h0 hwl j v hj
          rw [List.getElem?_map, Option.map_eq_some_iff] at hu
          obtain ⟨x, hx, rfl⟩ := hu
          rw [hcw x (List.mem_of_getElem? hx)] at hk
          obtain ⟨c, q1, q2⟩ := l3 i x k v hx hk
          refine ⟨c, ?_, q2⟩
          rw [← q1]
          unfold Addr.add
          split
          · rename_i h; rw [h]; rfl
          · rfl
        refine .slice _ _ b off len cap (fun j => (W.cell? ⟨b, off + j, none⟩).getD undef) h0 (by simp [l1]) hlc hwl (fun j v hj => ?_) (fun j v hj => ?_)
        · obtain ⟨c, q1, q2, q3⟩ := at_ j v hj
          exact ⟨phi_lt q1, by rw [q1]; rfl, q3⟩
        · obtain ⟨c, q1, q2, q3⟩ := at_ j v hj
          rw [q1]; exact q2

/-! ### Arguments -/
theorem arg_agg {t : TypeId} {Pr : List V → Prop} {v : Value} {d : DataW H} {p : List MemPlace} (ha : aggB Tryz.prog t = true) (h : Reads enc W t Pr) (hv : Value.okWide Tryz.prog W .any 0 t v) (ht : DataW.Trod enc Tryz.prog W 0 (fun _ => true) true t v d p) : ∃ vs, Pr vs ∧ RepD W (phi W) (.agg vs) v := by
  obtain ⟨fuel, hf⟩ := ht
  obtain ⟨vs, h1, h2, h3⟩ := h _ _ _ hf
  obtain ⟨cs, rfl, _⟩ : ∃ cs, v = .agg cs ∧ True := by
    unfold aggB at ha
    unfold Value.okWide at hv
    split at ha
    · rename_i hu; rw [hu] at hv; obtain ⟨cs, rfl, _⟩ := hv; exact ⟨cs, rfl, trivial⟩
    · rename_i hu; rw [hu] at hv; obtain ⟨cs, rfl, _⟩ := hv; exact ⟨cs, rfl, trivial⟩
    · cases ha
  refine ⟨vs, h1, .agg _ _ (by simpa [Value.cells] using h2) fun i v x hv hx => (h3 i v x hv ?_).1⟩
  simpa [Value.cells] using hx

theorem arg_one {t : TypeId} {Pr : List V → Prop} {v : Value} {d : DataW H} {p : List MemPlace} (hc : v.cells = #[v]) (h : Reads enc W t Pr) (ht : DataW.Trod enc Tryz.prog W 0 (fun _ => true) true t v d p) : ∃ u, Pr [u] ∧ RepD W (phi W) u v := by
  obtain ⟨fuel, hf⟩ := ht
  obtain ⟨vs, h1, h2, h3⟩ := h _ _ _ hf
  rw [hc] at h2 h3
  match vs, h2 with
  | [u], _ => exact ⟨u, h1, (h3 0 u v rfl rfl).1⟩

theorem exists_list {α : Type} {xs : List (List V)} {R : α → Prop} {g : α → List V} (h : ∀ x ∈ xs, ∃ a, R a ∧ x = g a) : ∃ l : List α, xs = l.map g ∧ ∀ a ∈ l, R a := by
  induction xs with
  | nil => exact ⟨[], rfl, fun a ha => by simp at ha⟩
  | cons x r ih =>
    obtain ⟨a, ha, rfl⟩ := h x (by simp)
    obtain ⟨l, rfl, hl⟩ := ih fun y hy => h y (by simp [hy])
    exact ⟨a :: l, rfl, fun b hb => by
      rcases List.mem_cons.1 hb with rfl | hb
      · exact ha
      · exact hl b hb⟩

end
end Go.Proofs.YtdejdblopmfjfaaGreatDoor


/-! What the arguments of the statements of the bin chapter read as. -/
set_option linter.unusedVariables false
set_option linter.unusedSimpArgs false
set_option maxRecDepth 20000
namespace Go.Proofs.YtdejdblopmfjfaaGreatDoor
open Go.Am Go.ChangeShapes Go.WideShapes Go.ChangeAt Go.RowKit

section
variable {H : Type} {enc : TypeId × Value → H} {W : World}

theorem rd_int : Reads enc W 3 (fun vs => ∃ n : Int, vs = [I n] ∧ -9223372036854775808 ≤ n ∧ n ≤ 9223372036854775807) := reads_int Tryz.underlying3

theorem rd_point : Reads enc W 23 (fun vs => ∃ b : Int × Int, vs = [I b.1, I b.2]) := by
  refine (reads_struct Tryz.underlying23 (by kernel_rfl) (readsL_cons rd_int (readsL_cons rd_int readsL_nil))).mono ?_
  rintro vs ⟨a, b, ⟨x, rfl, _⟩, ⟨c, d, ⟨y, rfl, _⟩, rfl, rfl⟩, rfl⟩
  exact ⟨(x, y), rfl⟩

theorem rd_bound : Reads enc W 83 (fun vs => ∃ b : Int × Int, vs = [I b.1, I b.2]) := by
  refine (reads_struct Tryz.underlying83 (by kernel_rfl) (readsL_cons rd_int (readsL_cons rd_int readsL_nil))).mono ?_
  rintro vs ⟨a, b, ⟨x, rfl, _⟩, ⟨c, d, ⟨y, rfl, _⟩, rfl, rfl⟩, rfl⟩
  exact ⟨(x, y), rfl⟩

theorem rd_bounds : Reads enc W 24 (fun vs => ∃ l : List (Int × Int), l.length ≤ 9223372036854775807 ∧ vs = [sB l]) := by
  refine (reads_slice (sz := 2) true Tryz.underlying24 (by kernel_rfl) (by decide) (by decide) rd_bound).mono ?_
  rintro vs ⟨xs, h1, h2, rfl⟩
  obtain ⟨l, rfl, _⟩ := exists_list (R := fun _ => True) (g := fun b : Int × Int => [I b.1, I b.2]) fun x hx => by obtain ⟨b, rfl⟩ := h1 x hx; exact ⟨b, trivial, rfl⟩
  refine ⟨l, by simpa using h2, ?_⟩
  simp [sB, wrapV, Function.comp_def, eB]

theorem rd_grid : Reads enc W 26 (fun vs => ∃ g : Gd, g.cls.length ≤ 9223372036854775807 ∧ vs = gridC g) := by
  refine (reads_struct Tryz.underlying26 (by kernel_rfl) (readsL_cons rd_point (readsL_cons rd_int (readsL_cons rd_int (readsL_cons rd_int (readsL_cons rd_bounds readsL_nil)))))).mono ?_
  rintro vs ⟨a, b, ⟨o, rfl⟩, ⟨c, d, ⟨x, rfl, _⟩, ⟨e, f, ⟨y, rfl, _⟩, ⟨k, m, ⟨z, rfl, _⟩, ⟨p, q, ⟨l, hl, rfl⟩, rfl, rfl⟩, rfl⟩, rfl⟩, rfl⟩, rfl⟩
  exact ⟨⟨o, x, y, z, l⟩, hl, rfl⟩

theorem rd_region : Reads enc W 85 (fun vs => ∃ f : Fr, vs = fourC f) := by
  refine (reads_struct Tryz.underlying85 (by kernel_rfl) (readsL_cons rd_bound (readsL_cons rd_bound (readsL_cons rd_bound (readsL_cons rd_bound readsL_nil))))).mono ?_
  rintro vs ⟨a, b, ⟨x, rfl⟩, ⟨c, d, ⟨y, rfl⟩, ⟨e, f, ⟨z, rfl⟩, ⟨p, q, ⟨l, rfl⟩, rfl, rfl⟩, rfl⟩, rfl⟩, rfl⟩
  exact ⟨⟨x, y, z, l⟩, rfl⟩

theorem rd_regions : Reads enc W 27 (fun vs => ∃ l : List Fr, l.length ≤ 9223372036854775807 ∧ vs = [.slice 0 8 (l.map eF)]) := by
  refine (reads_slice (sz := 8) true Tryz.underlying27 (by kernel_rfl) (by decide) (by decide) rd_region).mono ?_
  rintro vs ⟨xs, h1, h2, rfl⟩
  obtain ⟨l, rfl, _⟩ := exists_list (R := fun _ => True) (g := fun f : Fr => fourC f) fun x hx => by obtain ⟨b, rfl⟩ := h1 x hx; exact ⟨b, trivial, rfl⟩
  refine ⟨l, by simpa using h2, ?_⟩
  simp [wrapV, Function.comp_def, eF]

theorem rd_int2 : Reads enc W 97 (fun vs => ∃ a b : Int, vs = [I a, I b]) := by
  refine (reads_array Tryz.underlying97 (by kernel_rfl) (readsL_cons rd_int (readsL_cons rd_int readsL_nil))).mono ?_
  rintro vs ⟨a, b, ⟨x, rfl, _⟩, ⟨c, d, ⟨y, rfl, _⟩, rfl, rfl⟩, rfl⟩
  exact ⟨x, y, rfl⟩

theorem rd_traces : Reads enc W 28 (fun vs => ∃ l : List (Int × Int), l.length ≤ 9223372036854775807 ∧ vs = [sB l]) := by
  refine (reads_slice (sz := 2) true Tryz.underlying28 (by kernel_rfl) (by decide) (by decide) rd_int2).mono ?_
  rintro vs ⟨xs, h1, h2, rfl⟩
  obtain ⟨l, rfl, _⟩ := exists_list (R := fun _ => True) (g := fun b : Int × Int => [I b.1, I b.2]) fun x hx => by obtain ⟨a, b, rfl⟩ := h1 x hx; exact ⟨(a, b), trivial, rfl⟩
  refine ⟨l, by simpa using h2, ?_⟩
  simp [sB, wrapV, Function.comp_def, eB]

theorem rd_layout : Reads enc W 30 (fun vs => ∃ s : Ly, s.nodes.length ≤ 9223372036854775807 ∧ s.traces.length ≤ 9223372036854775807 ∧ vs = layC s) := by
  refine (reads_struct Tryz.underlying30 (by kernel_rfl) (readsL_cons rd_regions (readsL_cons rd_traces readsL_nil))).mono ?_
  rintro vs ⟨a, b, ⟨l, hl, rfl⟩, ⟨c, d, ⟨m, hm, rfl⟩, rfl, rfl⟩, rfl⟩
  exact ⟨⟨l, m⟩, hl, hm, rfl⟩

theorem rd_ints : Reads enc W 48 (fun vs => ∃ l : List Int, l.length ≤ 9223372036854775807 ∧ vs = [intsV l]) := by
  refine (reads_slice (sz := 1) false Tryz.underlying48 (by kernel_rfl) (by decide) (fun _ => rfl) rd_int).mono ?_
  rintro vs ⟨xs, h1, h2, rfl⟩
  obtain ⟨l, rfl, _⟩ := exists_list (R := fun _ => True) (g := fun n : Int => [I n]) fun x hx => by obtain ⟨b, rfl, _⟩ := h1 x hx; exact ⟨b, trivial, rfl⟩
  refine ⟨l, by simpa using h2, ?_⟩
  simp [intsV, wrapV, Function.comp_def]

end

theorem repR_bool {w : World} {φ : Nat → Nat} {b : Bool} {x : Value} (h : RepR w φ (.bool b) x) : x = .bool b := by
  cases h with
  | data r => cases r; rfl

theorem repL3 {w : World} {φ : Nat → Nat} {a b c : V} {x y z : Value} (h : RepD w φ a x) (k : RepD w φ b y) (m : RepD w φ c z) : RepL w φ [a, b, c] #[x, y, z] := ⟨rfl, fun i v y h1 h2 => by
  match i with
  | 0 => cases h1; cases h2; exact h
  | 1 => cases h1; cases h2; exact k
  | 2 => cases h1; cases h2; exact m
  | i + 3 => simp at h1⟩

/-- From a contract to the walk that a row asks for. -/
theorem walk_of {f : FuncId} {args : List V} {xs : Array Value} {W : World} (hc : C Tryz.prog f args (.bool true)) (hg : Gl W (phi W)) (hr : RepL W (phi W) args xs) : Calls Tryz.prog f xs W fun e W' => e = .returned (.bool true) ∧ Below W.heap.size W W' :=
  (hc.2 W (phi W) xs phi_top hg hr).mono fun e w' ⟨φ', x, he, hx, hb, _⟩ => ⟨by rw [he, repR_bool hx], hb⟩

theorem own : ownKnob Tryz.prog.godebug = none := by kernel_rfl
theorem laidOut : laidOutB Tryz.prog = true := by kernel_rfl

end Go.Proofs.YtdejdblopmfjfaaGreatDoor


/-! Facts on the rows: what the load's head says. -/
set_option linter.unusedVariables false
set_option linter.unusedSimpArgs false
set_option maxRecDepth 100000
namespace Go.Proofs.YtdejdblopmfjfaaGreatDoor
open Go.Am Go.ChangeShapes Go.WideShapes Go.ChangeAt Go.RowKit

noncomputable def headL : List Char := ([104, 97, 114, 110, 101, 115, 115, 32, 101, 99, 49, 57, 102, 53, 55, 48, 55, 98, 98, 50, 55, 51, 57, 53, 52, 99, 99, 99, 101, 55, 55, 54, 54, 53, 52, 53, 49, 53, 54, 52, 101, 48, 56, 53, 48, 56, 56, 56, 50, 48, 97, 99, 50, 55, 97, 98, 53, 51, 100, 101, 101, 99, 100, 99, 101, 48, 102, 54, 54, 49, 102, 99, 32, 99, 117, 116, 32, 97, 116, 32, 112, 97, 114, 97, 118, 97, 110, 101, 47, 112, 97, 114, 97, 118, 97, 110, 101, 108, 97, 119, 48, 55, 46, 66, 105, 110, 67, 101, 108, 108, 115, 32, 112, 97, 114, 97, 118, 97, 110, 101, 47, 112, 97, 114, 97, 118, 97, 110, 101, 108, 97, 119, 48, 55, 46, 66, 105, 110, 70, 111, 108, 100, 115, 32, 112, 97, 114, 97, 118, 97, 110, 101, 47, 112, 97, 114, 97, 118, 97, 110, 101, 108, 97, 119, 48, 55, 46, 66, 105, 110, 71, 97, 105, 110, 115, 32, 112, 97, 114, 97, 118, 97, 110, 101, 47, 112, 97, 114, 97, 118, 97, 110, 101, 108, 97, 119, 48, 55, 46, 66, 105, 110, 80, 114, 111, 111, 102, 115, 32, 112, 97, 114, 97, 118, 97, 110, 101, 47, 112, 97, 114, 97, 118, 97, 110, 101, 108, 97, 119, 48, 55, 46, 66, 105, 110, 66, 117, 105, 108, 100, 115, 32, 112, 97, 114, 97, 118, 97, 110, 101, 47, 112, 97, 114, 97, 118, 97, 110, 101, 108, 97, 119, 48, 55, 46, 66, 105, 110, 66, 101, 116, 116, 101, 114, 32, 112, 97, 114, 97, 118, 97, 110, 101, 47, 112, 97, 114, 97, 118, 97, 110, 101, 108, 97, 119, 48, 55, 46, 66, 105, 110, 70, 105, 108, 108, 101, 100] : List Nat).map Char.ofNat
theorem head_chars : Tryz.prog.initOrder = String.ofList (([104, 97, 114, 110, 101, 115, 115, 32, 101, 99, 49, 57, 102, 53, 55, 48, 55, 98, 98, 50, 55, 51, 57, 53, 52, 99, 99, 99, 101, 55, 55, 54, 54, 53, 52, 53, 49, 53, 54, 52, 101, 48, 56, 53, 48, 56, 56, 56, 50, 48, 97, 99, 50, 55, 97, 98, 53, 51, 100, 101, 101, 99, 100, 99, 101, 48, 102, 54, 54, 49, 102, 99, 32, 99, 117, 116, 32, 97, 116, 32, 112, 97, 114, 97, 118, 97, 110, 101, 47, 112, 97, 114, 97, 118, 97, 110, 101, 108, 97, 119, 48, 55, 46, 66, 105, 110, 67, 101, 108, 108, 115, 32, 112, 97, 114, 97, 118, 97, 110, 101, 47, 112, 97, 114, 97, 118, 97, 110, 101, 108, 97, 119, 48, 55, 46, 66, 105, 110, 70, 111, 108, 100, 115, 32, 112, 97, 114, 97, 118, 97, 110, 101, 47, 112, 97, 114, 97, 118, 97, 110, 101, 108, 97, 119, 48, 55, 46, 66, 105, 110, 71, 97, 105, 110, 115, 32, 112, 97, 114, 97, 118, 97, 110, 101, 47, 112, 97, 114, 97, 118, 97, 110, 101, 108, 97, 119, 48, 55, 46, 66, 105, 110, 80, 114, 111, 111, 102, 115, 32, 112, 97, 114, 97, 118, 97, 110, 101, 47, 112, 97, 114, 97, 118, 97, 110, 101, 108, 97, 119, 48, 55, 46, 66, 105, 110, 66, 117, 105, 108, 100, 115, 32, 112, 97, 114, 97, 118, 97, 110, 101, 47, 112, 97, 114, 97, 118, 97, 110, 101, 108, 97, 119, 48, 55, 46, 66, 105, 110, 66, 101, 116, 116, 101, 114, 32, 112, 97, 114, 97, 118, 97, 110, 101, 47, 112, 97, 114, 97, 118, 97, 110, 101, 108, 97, 119, 48, 55, 46, 66, 105, 110, 70, 105, 108, 108, 101, 100] : List Nat).map Char.ofNat) := by
  unfold Tryz.prog
  dsimp only
  show (_ : String) = _
  kernel_rfl
theorem head_list : Tryz.prog.initOrder.toList = headL := (congrArg String.toList head_chars).trans String.toList_ofList

section
variable (P : Program) (h : P.initOrder.toList = headL)
include h
theorem make_of : P.make = some .cut := by
  unfold Program.make
  rw [h]
  kernel_rfl
theorem headLifts_of : P.headLifts = [] := by
  unfold Program.headLifts
  rw [h]
  kernel_rfl
theorem lifts_of : P.liftsFinal = false := by
  unfold Program.liftsFinal
  rw [h, headLifts_of P h]
  kernel_rfl
theorem may_of (h1 : P.laysLater = false) (h2 : P.bearsReflect = false) (h3 : P.doorFits [] = true) : P.mayEnter = true := by
  unfold Program.mayEnter
  rw [h, h1, h2]
  have e : behindMainWord (wordsSigns headL) = "cut".toList :: (behindMainWord (wordsSigns headL)).tail := by kernel_rfl
  have e2 : stripLifts liftWords ("cut".toList :: (behindMainWord (wordsSigns headL)).tail) = ([], "cut".toList :: (behindMainWord (wordsSigns headL)).tail) := by kernel_rfl
  rw [e]
  dsimp only
  rw [e2, h3]
  first | rfl | (show (_ : Bool) = true; kernel_rfl)
end

theorem may : Tryz.prog.mayEnter = true := may_of _ head_list (by kernel_rfl) (by kernel_rfl) (by kernel_rfl)
theorem lifts : Tryz.prog.liftsFinal = false := lifts_of _ head_list
theorem made : Tryz.prog.make = some .cut := make_of _ head_list
theorem heard : Tryz.prog.stopsHeard = true := by kernel_rfl
theorem plain : Tryz.prog.plainKeys = false := by kernel_rfl
theorem rowed : mapsRowed Tryz.prog = true := by kernel_rfl

end Go.Proofs.YtdejdblopmfjfaaGreatDoor


/-! What the package's variable holds where a statement begins. -/
set_option linter.unusedVariables false
set_option linter.unusedSimpArgs false
set_option maxRecDepth 100000
namespace Go.Proofs.YtdejdblopmfjfaaGreatDoor
open Go.Am Go.ChangeShapes Go.WideShapes Go.ChangeAt Go.RowKit

def laidV : List (String × DataW Unit) := [("paravane/bin.none", Rows.laid_paravane_bin_none)]

theorem none_cells {W : World} (h : laidMetH Tryz.prog laidV W) : W.var? Tryz.prog "paravane/bin.none" = some #[.int .i64 (-1), .int .i64 (-1)] := by
  rw [MakeChecks.laidMetH_plain _ _ _ (by kernel_rfl)] at h
  obtain ⟨ps, ⟨g, t, cs, fuel, p, q, hg, ht, hv, hd, _, _⟩, _, _⟩ := h
  obtain rfl := Option.some.inj ((show Tryz.prog.globalNamed "paravane/bin.none" = some 0 by kernel_rfl).symm.trans hg)
  obtain rfl := Option.some.inj ((show (Tryz.prog.globals[0]?).map (·.type) = some 39 by kernel_rfl).symm.trans ht)
  have ci : Tryz.prog.cellsOf 3 = 1 := by kernel_rfl
  have cc : Tryz.prog.cellsOf 39 = 2 := by kernel_rfl
  obtain ⟨y0, y1, n, ex, hlen, k0, k1⟩ := trod_struct2 Tryz.underlying39 hd
  rw [cc] at hlen
  obtain ⟨l⟩ := cs
  match l, hlen with
  | [a, b], _ =>
    have e3 := DataW.agg.inj (Prod.mk.inj ex).1
    simp only [List.cons.injEq, and_true] at e3
    simp only at k0 k1
    rw [ci] at k0 k1
    obtain ⟨z0, a0, b0, _⟩ := DataW.trod_int Tryz.underlying3 k0
    obtain ⟨z1, a1, b1, _⟩ := DataW.trod_int Tryz.underlying3 k1
    rw [b0, b1] at e3
    have e4 : (-1 : Int) = z0 ∧ (-1 : Int) = z1 := by simpa [Rows.laid_paravane_bin_none] using e3
    have a2 : a = .int .i64 z0 := by simpa using a0
    have a3 : b = .int .i64 z1 := by simpa using a1
    rw [hv, a2, a3, ← e4.1, ← e4.2]

theorem gl_of {W : World} (h : laidMetH Tryz.prog laidV W) : Gl W (phi W) := by
  have hc := fun j => World.var?_cell (show Tryz.prog.globalNamed "paravane/bin.none" = some 0 by kernel_rfl) (none_cells h) j
  intro p hp
  obtain rfl : p = (0, [.int .i64 (-1), .int .i64 (-1)]) := by simpa [globalsV] using hp
  refine .vptr _ 0 0 0 (fun _ => .int .i64 (-1)) (fun j v hj => ?_) (fun j v hj => ?_)
  · match j, hj with
    | 0, hj => cases hj; exact ⟨phi_lt (hc 0), hc 0, rfl⟩
    | 1, hj => cases hj; exact ⟨phi_lt (hc 1), hc 1, rfl⟩
  · match j, hj with
    | 0, hj => cases hj; exact .int _ _
    | 1, hj => cases hj; exact .int _ _

end Go.Proofs.YtdejdblopmfjfaaGreatDoor


/-! AM, part Zt: calls that leave an arena of which something is known. -/
set_option linter.unusedVariables false
set_option linter.unusedSimpArgs false
namespace Go.Am
open Go.RowKit

/-- Constants lie outside of the arena. -/
def InKD (E : Env) (K : List (Nat × List V)) : Prop := ∀ B stp M w φ, E.S (encA B) stp M w φ → ∀ p ∈ K, p.1 ∉ B.map (·.1)

section
variable {E : Env} {S0 : Sur} {l0 : List (List V)} {s0 : Bool} {A : Arena} {stp : Bool} {σ : FSt} {a : Act} {w : World} {h : Gh}

end
end Go.Am

