/-
  Parts of the proof, 6: the abstract machine, the compiled code, contracts of the functions, plain laws.
-/
import Derived.Test.YtdejdblopmfjfaaGreatDoorP5
import Derived.Test.YtdejdblopmfjfaaGreatDoorRows
import Derived.WalkKit
import Derived.ProofKit
import Derived.OpenShut
import Derived.ShutString
import Derived.ChangeOld
import Derived.Below
import Derived.Test.YtdejdblopmfjfaaGreatDoorTie
import Derived.LaidMore
import Derived.LaidOnce
import Derived.Lay
import Derived.ChangeSame


/-! Contract of the specification: read, Bound. -/
set_option linter.unusedVariables false
set_option linter.unusedSimpArgs false
set_option maxRecDepth 40000
set_option maxHeartbeats 4000000
namespace Go.Proofs.YtdejdblopmfjfaaGreatDoor
open Go.Am
attribute [local simp] cells scalar mkv splice under2 under dem dem1 eQ nfC intsV eC cutsV
theorem choiceN_nodup (c : Nat) : (choiceN c).Nodup := List.Nodup.sublist List.filter_sublist List.nodup_range

theorem Bits.push {x : Nf} {l : List Nat} {c i : Nat} (h : Bits x l c) (hx : x.passes.length ≤ 10) (hi : i < x.passes.length) (hb : c.testBit i = false) : Bits x (l ++ [i]) (c ||| 2 ^ i) := by
  refine ⟨?_, Nat.or_lt_two_pow h.lt (Nat.pow_lt_pow_right (by omega) hi)⟩
  have hn : (l ++ [i]).Nodup := by
    rw [List.nodup_append]
    refine ⟨h.p.nodup_iff.2 (choiceN_nodup c), by simp, fun a ha b hb' e => ?_⟩
    have hbi : b = i := by simpa using hb'
    rw [← e] at hbi
    subst hbi
    have := (mem_choice.1 (h.p.mem_iff.1 ha)).2
    rw [hb] at this; cases this
  refine (List.perm_ext_iff_of_nodup hn (choiceN_nodup _)).2 fun a => ?_
  rw [List.mem_append, h.p.mem_iff, mem_choice, mem_choice, Nat.testBit_or, Nat.testBit_two_pow, List.mem_singleton]
  constructor
  · rintro (⟨h1, h2⟩ | rfl)
    · exact ⟨h1, by rw [h2]; rfl⟩
    · exact ⟨by omega, by simp⟩
  · rintro ⟨h1, h2⟩
    rw [Bool.or_eq_true, decide_eq_true_eq] at h2
    rcases h2 with h2 | h2
    · exact .inl ⟨h1, h2⟩
    · exact .inr h2.symm

def subB (c d : Nat) : Prop := ∀ j, c.testBit j = true → d.testBit j = true

theorem subB.push {c d : Nat} (h : subB c d) (i : Nat) : subB (c ||| 2 ^ i) (d ||| 2 ^ i) ∧ subB c (d ||| 2 ^ i) := by
  constructor
  · intro j hj
    rw [Nat.testBit_or, Bool.or_eq_true] at hj ⊢
    exact hj.imp (h j) id
  · intro j hj
    rw [Nat.testBit_or, Bool.or_eq_true]
    exact .inl (h j hj)

theorem castL_snoc (l : List Nat) (i : Nat) : (castL l).map I ++ [I (i : Nat)] = (castL (l ++ [i])).map I := by simp [castL]

theorem c_read07 {x : Nf} (hx : nfOk x = true) {blk : Nat} : ∀ (n c d : Nat) (l dl : List Nat) (s : Rq), Bits x l c → Bits x dl d → subB c d → s.left.length ≤ n → s.leafs + s.left.length ≤ 4096 → (∀ k ∈ s.left, k.prices.length ≤ 9223372036854775807) →
    CA Tryz.prog F.ref07_Reader_read (rqA x blk s) [] [.rptr blk 0, intsV (castL l), intsV (castL dl)] (.tuple []) (rqA x blk (readQ x n c d s)) := by
  obtain ⟨⟨h16, h10⟩, hl1, hp1⟩ := nfOk_spec hx
  intro n
  induction n using Nat.strongRecOn with
  | ind n ih =>
  intro c d l dl s hc hd hsub hlen hlf hpl
  have hmem : ∀ s, (blk, Ob.cells (rqV x s)) ∈ rqA x blk s := fun s => List.mem_singleton.2 rfl
  refine CA_of mixed chk.ref07_Reader_read (by simp) fun S ok S1 hA hK => ?_
  obtain ⟨left, least, leafs, okk⟩ := s
  simp only at hlen hlf hpl
  refine Tr.seq (Tr.seq (Tr.reg (Steps.ldF hA (off := 2) rfl rfl (hmem _) rfl trivial rfl (Steps.fin rfl (by simp) ?_))))
  cases left with
  | nil =>
    rw [readQ_nil x (s := ⟨[], least, leafs, okk⟩) rfl]
    refine Tr.condT rfl ?_
    refine Tr.seq (Tr.reg (Steps.runN 1 rfl (by simp) (Steps.rnil rfl (Steps.rfaddr rfl (Steps.astore hA rfl rfl (hmem _) (by simp [rqV]) rfl rfl ?_)))))
    rw [setA1]
    refine Steps.fin rfl (by simp) ?_
    exact Tr.retX rfl rfl rfl rfl rfl
  | cons k t =>
  have hpk := hpl k (by simp)
  obtain ⟨n, rfl⟩ : ∃ m, n = m + 1 := ⟨n - 1, by simp at hlen; omega⟩
  have hlen : t.length ≤ n := by simpa using hlen
  have hlf : leafs + t.length + 1 ≤ 4096 := by simpa [Nat.add_assoc] using hlf
  rw [readQ_cons x (s := ⟨k :: t, least, leafs, okk⟩) rfl]
  have hcne : (((((k :: t).map eC).length : Nat) : Int) == 0) = false := by
    rw [beq_eq_false_iff_ne]; simp; omega
  refine Tr.condF (congrArg (fun b => some (V.bool b)) hcne) (Tr.skip ?_)
  refine Tr.seq (Tr.reg (Steps.ldF hA (off := 2) rfl rfl (hmem _) rfl trivial rfl (Steps.fin rfl (by simp <;> omega) ?_)))
  refine Tr.seq (Tr.reg (Steps.runN 1 rfl (by simp) (Steps.ldF hA (off := 2) rfl rfl (hmem _) rfl trivial rfl (Steps.runN 1 rfl (by simp <;> omega) ?_))))
  have hdr : (((k :: t).map eC).drop (1 : Int).toNat).take (((((k :: t).map eC).length : Nat) : Int).toNat - (1 : Int).toNat) = t.map eC := by
    simp
    exact List.take_of_length_le (by simp)
  rw [hdr]
  refine Steps.rnil rfl (Steps.rfaddr rfl (Steps.astore hA rfl rfl (hmem _) (by simp [rqV]) rfl rfl ?_))
  rw [setA1]
  refine Steps.fin rfl (by simp) ?_
  refine Tr.weak (s' := { env := [(0, .rptr blk 0), (1, intsV (castL l)), (2, intsV (castL dl)), (6, .ptr 6 0)], bx := [(6, ⟨[I k.split, intsV k.prices], false⟩)], rw := [], log := encA (rqA x blk ⟨t, least, leafs, okk⟩), stp := false }) (Wk.le (.cons rfl (.refl _) (.cons rfl (.refl _) (.cons rfl (.refl _) (.cons rfl (.refl _) .nil)))) (.cons rfl (LLe.refl _) .nil) .nil rfl rfl) ?_
  have hmem2 := hmem ⟨t, least, leafs, okk⟩
  refine Tr.seq (Tr.seqR rfl (by simp) ?_)
  by_cases hsp : k.split = -1
  · rw [if_pos hsp]
    refine Tr.condT (by show some (V.bool (k.split == -1)) = _; rw [hsp]; rfl) ?_
    refine Tr.seq (Tr.seq (Tr.drawP rfl rfl (A := rqA x blk ⟨t, least, leafs, okk⟩) rfl ?_))
    refine TraceK.runN 1 rfl (by simp) (TraceK.rnil rfl (TraceK.rfaddr rfl (TraceK.aload hA rfl rfl rfl hmem2 (by simp [rqV]) (TraceK.run rfl (by simp) (TraceK.call rfl rfl (c_prices07 (x := x) hpk) (TraceK.run rfl (by simp) (.done ⟨by kernel_rfl, by kernel_rfl, ?_⟩)))))))
    by_cases hpr : pricesOk x k.prices = true
    rotate_left
    · rw [if_neg hpr]
      have hpr : pricesOk x k.prices = false := by simpa using hpr
      refine Tr.condT (by show some (V.bool (!pricesOk x k.prices)) = _; rw [hpr]; rfl) ?_
      refine Tr.seq (Tr.reg (Steps.runN 1 rfl (by simp) (Steps.rnil rfl (Steps.rfaddr rfl (Steps.astore hA rfl rfl hmem2 (by simp [rqV]) rfl rfl ?_)))))
      rw [setA1]
      refine Steps.fin rfl (by simp) ?_
      exact Tr.retX rfl rfl rfl rfl rfl
    rw [if_pos hpr]
    refine Tr.condF (by show some (V.bool (!pricesOk x k.prices)) = _; rw [hpr]; rfl) (Tr.skip ?_)
    obtain ⟨hpl1, hpl2⟩ := pricesOk_spec hpr
    have kl := c_leaf07 hx hpl2 hpl1 hc hd
    unfold leafQ
    obtain ⟨v, hv⟩ : ∃ v, leafN x k.prices c d = v := ⟨_, rfl⟩
    rw [hv] at kl ⊢
    refine Tr.seq (Tr.drawP rfl rfl (A := rqA x blk ⟨t, least, leafs, okk⟩) rfl ?_)
    refine TraceK.runN 1 rfl (by simp) (TraceK.rnil rfl (TraceK.rfaddr rfl (TraceK.aload hA rfl rfl rfl hmem2 (by simp [rqV]) (TraceK.run rfl (by simp) (TraceK.call rfl rfl kl (TraceK.run rfl (by simp) (.done ⟨by kernel_rfl, by kernel_rfl, ?_⟩)))))))
    obtain ⟨L2, hL2⟩ : ∃ L2, (if leafs = 0 ∨ v < least then v else least) = L2 := ⟨_, rfl⟩
    have hL2' : (if (⟨k :: t, least, leafs, okk⟩ : Rq).leafs = 0 ∨ v < (⟨k :: t, least, leafs, okk⟩ : Rq).least then v else (⟨k :: t, least, leafs, okk⟩ : Rq).least) = L2 := hL2
    rw [hL2']
    refine Tr.meet { env := [(0, .rptr blk 0)], bx := [], rw := [], log := encA (rqA x blk ⟨t, L2, leafs, okk⟩), stp := false } ?_ ?_
    · refine Tr.seq (Tr.weak (s' := { env := [(0, .rptr blk 0), (7, I v)], bx := [], rw := [], log := encA (rqA x blk ⟨t, least, leafs, okk⟩), stp := false }) (Wk.le (.cons rfl (.refl _) (.cons rfl (.refl _) .nil)) .nil .nil rfl rfl) ?_)
      refine Tr.mono (Q1 := qThen (fun s' => Wk (env0 Tryz.prog mixed 129 S ok) s' { env := [(0, .rptr blk 0), (7, I v), (67, .bool (decide (leafs = 0 ∨ v < least)))], bx := [], rw := [], log := encA (rqA x blk ⟨t, least, leafs, okk⟩), stp := false }) (fun _ _ => False)) ?_ ?_
      · refine Tr.reg (Steps.ldF hA (off := 4) rfl rfl hmem2 rfl trivial rfl ?_)
        by_cases hz : leafs = 0
        · subst hz
          refine Steps.runN 2 rfl (by simp) (Steps.offN 6 rfl (Steps.fin rfl (by simp) ?_))
          exact Wk.le (.cons rfl (.refl _) (.cons rfl (.refl _) (.cons rfl (.of_eq (by simp)) .nil))) .nil .nil rfl rfl
        · have hz2 : (((leafs : Nat) : Int) == 0) = false := by rw [beq_eq_false_iff_ne]; omega
          refine Steps.runN 1 rfl (by simp) ?_
          rw [hz2]
          refine Steps.runN 1 rfl (by simp) (Steps.runGN 1 rfl (by simp) (Steps.ldF hA (off := 3) rfl rfl hmem2 rfl ⟨_, rfl, rfl⟩ rfl (Steps.runGN 1 rfl (by simp) (Steps.fin rfl (by simp) ?_))))
          exact Wk.le (.cons rfl (.refl _) (.cons rfl (.refl _) (.cons rfl (.of_eq (by simp [hz])) .nil))) .nil .nil rfl rfl
      · intro e s' hq
        cases e with
        | normal =>
          refine ⟨_, hq, ?_⟩
          refine Tr.cond rfl rfl (fun h => ?_) (fun h => Tr.skip ?_)
          · have h := of_decide_eq_true h
            rw [if_pos h] at hL2
            refine Tr.reg (Steps.runN 2 rfl (by simp) (Steps.rnil rfl (Steps.rfaddr rfl (Steps.astore hA rfl rfl hmem2 (by simp [rqV]) rfl rfl ?_))))
            rw [setA1]
            refine Steps.fin rfl (by simp) ?_
            rw [← hL2]
            exact Wk.le (.cons rfl (.refl _) .nil) .nil .nil rfl rfl
          · have h := of_decide_eq_false h
            rw [if_neg h] at hL2
            rw [← hL2]
            exact Wk.le (.cons rfl (.refl _) .nil) .nil .nil rfl rfl
        | _ => exact hq.elim
    · have hmem3 := hmem ⟨t, L2, leafs, okk⟩
      refine Tr.seq (Tr.reg (Steps.ldF hA (off := 4) rfl rfl hmem3 rfl trivial rfl (Steps.runN 1 rfl (by simp) ?_)))
      rw [show IntKind.wrap .i64 ((leafs : Int) + 1) = ((leafs + 1 : Nat) : Int) from w64 (by omega) (by omega)]
      refine Steps.rnil rfl (Steps.rfaddr rfl (Steps.astore hA rfl rfl hmem3 (by simp [rqV]) rfl rfl ?_))
      rw [setA1]
      refine Steps.fin rfl (by simp) ?_
      exact Tr.retX rfl rfl rfl rfl rfl
  rw [if_neg hsp]
  refine Tr.condF (by show some (V.bool (k.split == -1)) = _; simp [hsp]) (Tr.skip ?_)
  have hw1 : IntKind.wrap .i64 (((x.passes.map eQ).length : Int) - 1) = (x.passes.length : Int) - 1 := by rw [List.length_map, w64 (by omega) (by omega)]
  have kb := c_between k.split 0 (IntKind.wrap .i64 (((x.passes.map eQ).length : Int) - 1))
  have ki := c_Index (castL dl) k.split (by simp [castL]; have := hd.len; omega)
  refine Tr.seq (Tr.seq (Tr.drawP rfl rfl (A := rqA x blk ⟨t, least, leafs, okk⟩) rfl ?_))
  refine TraceK.runN 3 rfl (by simp) (TraceK.rnil rfl (TraceK.rfaddr rfl (TraceK.rfaddr rfl (TraceK.aload hA rfl rfl rfl hmem2 (by simp [rqV]) (TraceK.run rfl (by simp) (TraceK.call rfl rfl kb (TraceK.run rfl (by simp) ?_)))))))
  refine TraceK.gcall rfl rfl rfl rfl (by simp) (fun _ => ki) (TraceK.run rfl (by simp) (.done ⟨by kernel_rfl, by kernel_rfl, ?_⟩))
  have hcond : (bif (bif !btw k.split 0 (IntKind.wrap .i64 (((x.passes.map eQ).length : Int) - 1)) then true else decide (firstI (· == k.split) (castL dl) 0 ≥ 0)) then true else decide (((k.prices.map I).length : Int) > 0)) = !splitOk x k d := by
    rw [hw1, firstI_nn]
    unfold splitOk
    cases hb : btw k.split 0 ((x.passes.length : Int) - 1) with
    | false => rfl
    | true =>
      rw [btw_iff] at hb
      obtain ⟨i, hi⟩ : ∃ i : Nat, k.split = (i : Int) := ⟨k.split.toNat, by omega⟩
      rw [hi, Int.toNat_natCast, bits_any hd h10 i (by omega), List.length_map]
      have e : decide ((k.prices.length : Int) > 0) = !decide (k.prices.length = 0) := by
        cases h : decide (k.prices.length = 0) with
        | true => have := of_decide_eq_true h; simp [this]
        | false => have := of_decide_eq_false h; simp; omega
      rw [e]
      cases d.testBit i <;> cases decide (k.prices.length = 0) <;> rfl
  by_cases hso : splitOk x k d = true
  rotate_left
  · rw [if_neg hso]
    have hso : splitOk x k d = false := by simpa using hso
    rw [hso] at hcond
    refine Tr.condT (congrArg (fun b => some (V.bool b)) hcond) ?_
    refine Tr.seq (Tr.reg (Steps.runN 1 rfl (by simp) (Steps.rnil rfl (Steps.rfaddr rfl (Steps.astore hA rfl rfl hmem2 (by simp [rqV]) rfl rfl ?_)))))
    rw [setA1]
    refine Steps.fin rfl (by simp) ?_
    exact Tr.retX rfl rfl rfl rfl rfl
  rw [if_pos hso]
  rw [hso] at hcond
  refine Tr.condF (congrArg (fun b => some (V.bool b)) hcond) (Tr.skip ?_)
  have hso2 := hso
  simp only [splitOk, Bool.and_eq_true, btw_iff, Bool.not_eq_true', decide_eq_true_eq] at hso2
  obtain ⟨⟨⟨hs1, hs2⟩, hs3⟩, _⟩ := hso2
  obtain ⟨i, hi⟩ : ∃ i : Nat, k.split = (i : Int) := ⟨k.split.toNat, by omega⟩
  rw [hi, Int.toNat_natCast] at hs3
  rw [hi, Int.toNat_natCast]
  have hil : i < x.passes.length := by omega
  have hci : c.testBit i = false := by
    cases h : c.testBit i with
    | false => rfl
    | true => rw [hsub i h] at hs3; cases hs3
  have hcl := hc.len
  have hdl := hd.len
  have hc2 := hc.push h10 hil hci
  have hd2 := hd.push h10 hil hs3
  obtain ⟨hsub1, hsub2⟩ := hsub.push i
  have hcL : (castL l).length ≤ 10 := by simp [castL]; exact hcl
  have hdL : (castL dl).length ≤ 10 := by simp [castL]; exact hdl
  refine Tr.weak (s' := { env := [(0, .rptr blk 0), (1, intsV (castL l)), (2, intsV (castL dl)), (6, .ptr 6 0)], bx := [(6, ⟨[I (i : Nat), intsV k.prices], false⟩)], rw := [], log := encA (rqA x blk ⟨t, least, leafs, okk⟩), stp := false }) (Wk.le (.cons rfl (.refl _) (.cons rfl (.refl _) (.cons rfl (.refl _) (.cons rfl (.refl _) .nil)))) (.cons rfl (LLe.refl _) .nil) .nil rfl rfl) ?_
  refine Tr.seq (Tr.drawK (TraceK.runN 1 rfl (by simp) (TraceK.callG rfl (fun _ => rfl) (c_OwnG (l := castL dl) (by omega)) rfl (TraceK.run rfl (by simp; omega) (.done ⟨by kernel_rfl, by kernel_rfl, ?_⟩)))))
  refine Tr.weak (s' := { env := [(0, .rptr blk 0), (1, intsV (castL l)), (6, .ptr 6 0), (8, intsV (castL (dl ++ [i])))], bx := [(6, ⟨[I (i : Nat), intsV k.prices], false⟩)], rw := [], log := encA (rqA x blk ⟨t, least, leafs, okk⟩), stp := false }) (Wk.le (.cons rfl (.refl _) (.cons rfl (.refl _) (.cons rfl (.refl _) (.cons rfl (by unfold intsV; rw [← castL_snoc]; exact .dem _ _ _) .nil)))) (.cons rfl (LLe.refl _) .nil) .nil rfl rfl) ?_
  have k1 := ih n (by omega) (c ||| 2 ^ i) (d ||| 2 ^ i) (l ++ [i]) (dl ++ [i]) ⟨t, least, leafs, okk⟩ hc2 hd2 hsub1 hlen (by simp only; omega) (fun k hk => hpl k (by simp [hk]))
  have hinv := readQ_inv x n (c ||| 2 ^ i) (d ||| 2 ^ i) ⟨t, least, leafs, okk⟩
  simp only at hinv
  have e0 : ({ (⟨k :: t, least, leafs, okk⟩ : Rq) with left := t } : Rq) = ⟨t, least, leafs, okk⟩ := rfl
  have hsuf : ∀ (n c d : Nat) (s : Rq), (∀ k ∈ s.left, k.prices.length ≤ 9223372036854775807) → ∀ k ∈ (readQ x n c d s).left, k.prices.length ≤ 9223372036854775807 := by
    intro n
    induction n with
    | zero => intro c d s h; exact h
    | succ n ihn =>
      intro c d s h
      cases hl : s.left with
      | nil => rw [readQ_nil x hl]; exact h
      | cons k t =>
        have ht : ∀ k ∈ ({ s with left := t } : Rq).left, k.prices.length ≤ 9223372036854775807 := fun q hq => h q (by rw [hl]; exact List.mem_cons_of_mem _ hq)
        rw [readQ_cons x hl]
        split
        · split
          · exact ht
          · exact ht
        · split
          · split
            · exact ihn _ _ _ (ihn _ _ _ ht)
            · exact ihn _ _ _ ht
          · exact ht
  have hpl2 := hsuf n (c ||| 2 ^ i) (d ||| 2 ^ i) ⟨t, least, leafs, okk⟩ (fun k hk => hpl k (by simp [hk]))
  rw [e0]
  obtain ⟨s2, hs2e⟩ : ∃ s2, readQ x n (c ||| 2 ^ i) (d ||| 2 ^ i) ⟨t, least, leafs, okk⟩ = s2 := ⟨_, rfl⟩
  rw [hs2e] at k1 hinv hpl2 ⊢
  refine Tr.seq (Tr.drawK (TraceK.runN 2 rfl (by simp) (TraceK.callG rfl (fun _ => rfl) (c_OwnG (l := castL l) (by omega)) rfl (TraceK.run rfl (by simp; omega) (.done ⟨by kernel_rfl, by kernel_rfl, ?_⟩)))))
  rw [show (castL l).map intV = (castL l).map I from rfl, castL_snoc]
  refine Steps.callA (F := []) hA rfl rfl rfl k1 (.inl (by simp)) (Steps.fin rfl (by simp) ?_)
  have hmem4 := hmem s2
  refine Tr.seq (Tr.reg (Steps.ldF (A := rqA x blk s2) hA (off := 5) rfl rfl hmem4 rfl trivial rfl (Steps.fin rfl (by simp) ?_)))
  cases ho : s2.ok with
  | false =>
    rw [if_neg (by simp)]
    exact Tr.condF rfl (Tr.skip (And.intro rfl ⟨[], [], [], rfl, rfl, rfl⟩))
  | true =>
    rw [if_pos rfl]
    refine Tr.condT rfl (Tr.reg (Steps.runN 3 rfl (by simp) ?_))
    have k2 := ih n (by omega) c (d ||| 2 ^ i) l (dl ++ [i]) s2 hc hd2 hsub2 (by omega) (by omega) hpl2
    refine Steps.callA (F := []) hA rfl rfl rfl k2 (.inl (by simp)) (Steps.fin rfl (by simp) ?_)
    exact And.intro rfl ⟨[], [], [], rfl, rfl, rfl⟩

theorem c_Bound07 {x : Nf} (hs1 : x.lacks.length ≤ 9223372036854775807) (hs2 : x.passes.length ≤ 9223372036854775807) (hx : ∀ p ∈ x.passes, p.adds.length ≤ 9223372036854775807) {pf : List Ct} (hpf : pf.length ≤ 9223372036854775807) (hpl : ∀ k ∈ pf, k.prices.length ≤ 9223372036854775807) : C Tryz.prog F.ref07_Bound [.agg (nfC x), cutsV pf] (BoundR x pf) := by
  have kc := c_CheckInfill07 hs1 hs2 hx
  rw [← bound_same]
  unfold BoundQ
  refine C_of mixed chk.ref07_Bound (by simp) fun S ok => ?_
  refine Tr.seqR rfl (by simp) ?_
  by_cases hk : nfOk x = true
  rotate_left
  · rw [if_neg hk] at kc ⊢
    refine Tr.seq (Tr.seqC rfl (by simp) (Steps.call rfl rfl kc (Steps.fin rfl (by simp) (Tr.seqR rfl (by simp) (Tr.condT rfl (Tr.seqR rfl (by simp) ?_))))))
    exact Tr.retX rfl rfl rfl rfl trivial
  rw [if_pos hk] at kc ⊢
  refine Tr.seq (Tr.seqC rfl (by simp) (Steps.call rfl rfl kc (Steps.fin rfl (by simp) (Tr.seqR rfl (by simp) (Tr.condF rfl (Tr.skip ?_))))))
  have hlm : ((pf.map eC).length : Int) = (pf.length : Int) := by rw [List.length_map]
  refine Tr.seq (Tr.seqC rfl (by simp) (Steps.call rfl rfl (c_between ((pf.map eC).length : Int) 1 2048) (Steps.fin rfl (by simp) ?_)))
  rw [hlm]
  by_cases hb : btw (pf.length : Int) 1 2048 = true
  rotate_left
  · rw [if_neg hb]
    have hb : btw (pf.length : Int) 1 2048 = false := by simpa using hb
    rw [hb]
    refine Tr.condT rfl (Tr.seqR rfl (by simp) ?_)
    exact Tr.retX rfl rfl rfl rfl trivial
  rw [if_pos hb, hb]
  rw [btw_iff] at hb
  refine Tr.condF rfl (Tr.skip ?_)
  refine Tr.weak (s' := { env := [(1, cutsV pf), (2, .ptr 2 0)], bx := [(2, ⟨nfC x, false⟩)], rw := [], log := [], stp := false }) (Wk.le (.cons rfl (.refl _) (.cons rfl (.refl _) .nil)) (.cons rfl (LLe.refl _) .nil) .nil rfl rfl) ?_
  refine Tr.arena rfl rfl ?_
  have hA := InA.main (E := env0 Tryz.prog mixed 40 S ok) [] false
  refine Tr.seq (Tr.reg (Steps.runN 3 rfl (by simp) (Steps.abox hA rfl rfl rfl rfl fun b nb => Steps.fin rfl (by simp) ?_)))
  have hb0 : Bits x [] 0 := ⟨by decide, Nat.two_pow_pos _⟩
  have kr := c_read07 (blk := b) hk pf.length 0 0 [] [] ⟨pf, 0, 0, true⟩ hb0 hb0 (fun _ h => h) (Nat.le_refl _) (by simp only; omega) hpl
  have kr := kr.nils (us := [.rptr b 0, .nils, .nils]) ⟨.inl rfl, .inr ⟨rfl, 1, rfl⟩, .inr ⟨rfl, 1, rfl⟩, trivial⟩
  obtain ⟨q, hq⟩ : ∃ q, readQ x pf.length 0 0 ⟨pf, 0, 0, true⟩ = q := ⟨_, rfl⟩
  rw [hq] at kr ⊢
  refine Tr.seq (Tr.reg (Steps.runN 1 rfl (by simp) (Steps.callA (F := []) hA rfl rfl rfl kr (.inl (by simp)) (Steps.fin rfl (by simp) ?_))))
  have hmem : (b, Ob.cells (rqV x q)) ∈ rqA x b q := List.mem_singleton.2 rfl
  refine Tr.weak (s' := { env := [(7, .rptr b 0)], bx := [], rw := [], log := encA (rqA x b q), stp := false }) (Wk.le (.cons rfl (.refl _) .nil) .nil .nil rfl rfl) ?_
  have hok2 : (bif !q.ok then true else decide (((q.left.map eC).length : Int) > 0)) = !(q.ok && decide (q.left = [])) := by
    have e : decide (((q.left.map eC).length : Int) > 0) = !decide (q.left = []) := by
      cases q.left with
      | nil => rfl
      | cons a l => simp <;> omega
    rw [e]
    cases q.ok <;> cases decide (q.left = []) <;> rfl
  refine Tr.seq (Tr.seq (Tr.reg (Steps.ldF (A := rqA x b q) hA (off := 5) rfl rfl hmem rfl trivial rfl ?_)))
  cases ho : q.ok with
  | false =>
    rw [show (false && decide (q.left = [])) = false from rfl, if_neg (by simp)]
    refine Steps.runN 2 rfl (by simp) (Steps.offN 6 rfl (Steps.fin rfl (by simp) ?_))
    refine Tr.condT rfl (Tr.seqR rfl (by simp) ?_)
    exact Tr.retX rfl rfl rfl rfl trivial
  | true =>
    rw [ho] at hok2
    refine Steps.runN 2 rfl (by simp) (Steps.ldF (A := rqA x b q) hA (off := 2) rfl rfl hmem rfl ⟨_, rfl, rfl⟩ rfl (Steps.runGN 2 rfl (by simp) (Steps.fin rfl (by simp) ?_)))
    by_cases hl : q.left = []
    · rw [decide_eq_true hl] at hok2
      rw [if_pos (by simp [hl])]
      refine Tr.condF (congrArg (fun b => some (V.bool b)) hok2) (Tr.skip ?_)
      refine Tr.seq (Tr.reg (Steps.ldF (A := rqA x b q) hA (off := 3) rfl rfl hmem rfl trivial rfl (Steps.fin rfl (by simp) ?_)))
      exact Tr.retX rfl rfl rfl rfl trivial
    · rw [decide_eq_false hl] at hok2
      rw [if_neg (by simp [hl])]
      refine Tr.condT (congrArg (fun b => some (V.bool b)) hok2) (Tr.seqR rfl (by simp) ?_)
      exact Tr.retX rfl rfl rfl rfl trivial

end Go.Proofs.YtdejdblopmfjfaaGreatDoor


/-! Contract: Prove. -/
set_option linter.unusedVariables false
set_option linter.unusedSimpArgs false
set_option maxRecDepth 40000
set_option maxHeartbeats 4000000
namespace Go.Proofs.YtdejdblopmfjfaaGreatDoor
open Go.Am
attribute [local simp] cells scalar mkv splice under2 under dem dem1 eB eQ nfC intsV eC cutsV
def ProveR (x : Nf) : V := if nfOk x then (if coversB x (2 ^ x.passes.length - 1) then .tuple [cutsV (splitL x x.passes.length 0 0), I 0] else .tuple [cutsV [], I 4]) else .tuple [cutsV [], I 74]

theorem c_Prove {x : Nf} (hx : ∀ p ∈ x.passes, p.adds.length ≤ 9223372036854775807) : C Tryz.prog F.bin_Prove [.agg (nfC x)] (ProveR x) := by
  have kc := c_CheckInfill hx
  unfold ProveR
  refine C_of mixed chk.bin_Prove (by simp) fun S ok => ?_
  refine Tr.seqR rfl (by simp) ?_
  by_cases hk : nfOk x = true
  rotate_left
  · rw [if_neg hk] at kc ⊢
    refine Tr.seq (Tr.seqC rfl (by simp) (Steps.call rfl rfl kc (Steps.fin rfl (by simp) (Tr.seqR rfl (by simp) (Tr.condT rfl (Tr.seqR rfl (by simp) ?_))))))
    exact Tr.weak (s' := { env := [(2, cutsV []), (3, I 74)], bx := [], rw := [], log := [], stp := false }) (Wk.le (.cons rfl (.nil 0 2) (.cons rfl (.refl _) .nil)) .nil .nil rfl rfl) (Tr.retX rfl rfl rfl rfl trivial)
  rw [if_pos hk] at kc ⊢
  refine Tr.seq (Tr.seqC rfl (by simp) (Steps.call rfl rfl kc (Steps.fin rfl (by simp) (Tr.seqR rfl (by simp) (Tr.condF rfl (Tr.skip ?_))))))
  obtain ⟨⟨h16, h10⟩, hl1, hp1⟩ := nfOk_spec hk
  have hp10 : 2 ^ x.passes.length ≤ 1024 := Nat.pow_le_pow_right (n := 2) (by omega) h10
  have hpos := Nat.two_pow_pos x.passes.length
  have hf : 2 ^ x.passes.length - 1 < 2 ^ x.passes.length := by omega
  have kv := c_covers hk hf
  have ew : IntKind.wrap .i64 (IntKind.wrap .i64 (1 * 2 ^ (min (((x.passes.map eQ).length : Int)).toNat 64)) - 1) = ((2 ^ x.passes.length - 1 : Nat) : Int) := by
    rw [List.length_map, bit_shl x.passes.length (by omega), w64 (by omega) (by omega)]
    omega
  rw [← ew] at kv
  refine Tr.seq (Tr.seq (Tr.drawK (TraceK.run rfl (by simp) (TraceK.call rfl rfl kv (TraceK.run rfl (by simp) (.done ⟨by kernel_rfl, by kernel_rfl, ?_⟩))))))
  by_cases hc : coversB x (2 ^ x.passes.length - 1) = true
  rotate_left
  · rw [if_neg hc]
    have hc : coversB x (2 ^ x.passes.length - 1) = false := by simpa using hc
    rw [hc]
    refine Tr.condT rfl (Tr.seqR rfl (by simp) ?_)
    exact Tr.weak (s' := { env := [(2, cutsV []), (3, I 4)], bx := [], rw := [], log := [], stp := false }) (Wk.le (.cons rfl (.nil 0 2) (.cons rfl (.refl _) .nil)) .nil .nil rfl rfl) (Tr.retX rfl rfl rfl rfl trivial)
  rw [if_pos hc, hc]
  refine Tr.condF rfl (Tr.skip ?_)
  refine Tr.weak (s' := { env := [(1, .ptr 1 0)], bx := [(1, ⟨nfC x, false⟩)], rw := [], log := [], stp := false }) (Wk.le (.cons rfl (.refl _) .nil) (.cons rfl (LLe.refl _) .nil) .nil rfl rfl) ?_
  refine Tr.weak (wkData (t := 1) (u := .vptr (nfC x) 0) (ids := [1]) rfl rfl) ?_
  refine Tr.weak (s' := { env := [(1, .vptr (nfC x) 0)], bx := [], rw := [], log := [], stp := false }) (Wk.le (.cons rfl (.refl _) .nil) .nil .nil rfl rfl) ?_
  refine Tr.arena rfl rfl ?_
  have hA := InA.main (E := env0 Tryz.prog mixed 24 S ok) [] false
  refine Tr.seq (Tr.reg (Steps.aalloc hA rfl fun b5 n5 => Steps.fin rfl (by simp) ?_))
  refine Tr.seq (Tr.reg (Steps.aalloc hA rfl fun b6 n6 => Steps.fin rfl (by simp) ?_))
  have h56 : b6 ≠ b5 := by simpa using n6
  refine Tr.seq (Tr.reg (Steps.runN 1 rfl (by simp) ?_))
  refine Steps.astoreD (blk := b6) (off := 0) (cs := [.nilf]) (v := proveV x b5 b6) hA rfl rfl (by simp) (by simp) rfl rfl ?_
  rw [setA_head n6]
  refine Steps.fin rfl (by simp) ?_
  have hlen := (splitL_len x x.passes.length 0 0).2
  have hp11 : 2 ^ (x.passes.length + 1) ≤ 2 ^ 11 := Nat.pow_le_pow_right (by omega) (by omega)
  have ka := c_prove1 (b5 := b5) (b6 := b6) hk x.passes.length 0 0 [] .nils [(b5, .cells [.nils])] (by omega) (Nat.two_pow_pos _) (by simp; omega) (by simp) (.inl ⟨rfl, rfl⟩) (fun _ _ _ _ e => by cases e)
  refine Tr.seq (Tr.reg (Steps.aload (blk := b6) (off := 0) (cs := [proveV x b5 b6]) hA rfl rfl (by simp) rfl ?_))
  refine Steps.callvE (F := [(b6, .cells [proveV x b5 b6])]) hA rfl rfl rfl ka (.inl (by simp)) fun B hB => Steps.fin rfl (by simp) ?_
  obtain ⟨v, q1, q2, q3⟩ := hB
  rw [List.nil_append] at q2
  have hm : (b5, Ob.cells [v]) ∈ [(b6, Ob.cells [proveV x b5 b6])] ++ B := List.mem_append.2 (.inr q1)
  refine Tr.seq (Tr.reg (Steps.aload (off := 0) hA rfl rfl hm rfl (Steps.fin rfl (by simp) ?_)))
  have hne := (splitL_len x x.passes.length 0 0).1
  generalize splitL x x.passes.length 0 0 = cuts at q2 hne ⊢
  rcases q2 with ⟨h, _⟩ | ⟨blk, cap, cs, rfl, a1, a2, a3, a4⟩
  · rw [List.map_eq_nil_iff] at h
    rw [h] at hne; simp at hne
  refine Tr.weak (Wk.close hA (t := 2) (blk := blk) (cap := cap) (sz := 2) (cs := cs) (xs := cuts.map eC) rfl rfl (List.mem_append.2 (.inr a1)) (by omega) a3 (fun u hu => by obtain ⟨k, _, rfl⟩ := List.mem_map.1 hu; rfl) a4) ?_
  exact Tr.retX rfl rfl rfl rfl trivial

theorem prove_form {x : Nf} : ∃ P e c a f, ProveR x = .tuple [cutsV P, I e] ∧ BestR x = .tuple [intsV a, I c, I f] ∧ e = f ∧ (e = 0 → BoundR x P = .tuple [I c, I 0]) ∧ (e ≠ 0 → P = []) ∧ (∀ k ∈ P, k.prices.length ≤ 9223372036854775807) ∧ a.length ≤ 10 := by
  unfold ProveR BestR
  by_cases hx : nfOk x = true
  rotate_left
  · rw [if_neg hx, if_neg hx]
    exact ⟨[], 74, 0, [], 74, rfl, rfl, rfl, fun h => by omega, fun _ => rfl, fun k h => by simp at h, by simp⟩
  rw [if_pos hx, if_pos hx, ← some_all hx]
  have h16 := (nfOk_spec hx).1.1
  by_cases hs : (bestN x 0).2 = true
  · rw [if_pos hs, if_pos hs]
    refine ⟨_, 0, _, _, 0, rfl, rfl, rfl, fun _ => prove_bound hx hs, fun h => absurd rfl h, fun k hk => ?_, choiceL_len _⟩
    have key : ∀ (m i c : Nat), ∀ k ∈ splitL x m i c, k.prices.length ≤ 16 := by
      intro m
      induction m with
      | zero =>
        intro i c k hk
        obtain rfl := List.mem_singleton.1 hk
        simp [leafC]; exact h16
      | succ m ih =>
        intro i c k hk
        unfold splitL at hk
        split at hk
        · obtain rfl := List.mem_singleton.1 hk
          simp [leafC]; exact h16
        · rcases List.mem_cons.1 hk with rfl | hk
          · simp
          · rcases List.mem_append.1 hk with hk | hk
            · exact ih _ _ k hk
            · exact ih _ _ k hk
    have := key _ _ _ k hk
    omega
  · rw [if_neg hs, if_neg hs]
    exact ⟨[], 4, 0, [], 4, rfl, rfl, rfl, fun h => by omega, fun _ => rfl, fun k h => by simp at h, by simp⟩

theorem bound_form {x : Nf} (pf : List Ct) : ∃ n g, BoundR x pf = .tuple [I n, I g] ∧ (g ≠ 0 → n = 0) ∧ (g = 0 → nfOk x = true ∧ ∀ b < 2 ^ x.passes.length, coversB x b = true → n ≤ costB x b) := by
  unfold BoundR
  by_cases hx : nfOk x = true
  rotate_left
  · rw [if_neg hx]; exact ⟨0, 74, rfl, fun _ => rfl, fun h => by omega⟩
  rw [if_pos hx]
  split
  rotate_left
  · exact ⟨0, 76, rfl, fun _ => rfl, fun h => by omega⟩
  split
  rotate_left
  · exact ⟨0, 76, rfl, fun _ => rfl, fun h => by omega⟩
  rename_i h
  rw [Bool.and_eq_true] at h
  exact ⟨_, 0, rfl, fun h => absurd rfl h, fun _ => ⟨hx, fun b hb hc => (read_weak hx hb hc pf.length 0 0 ⟨true, 0, false, 0⟩ (by simp) h.1).2⟩⟩

end Go.Proofs.YtdejdblopmfjfaaGreatDoor


/-! From the reading of a row's arguments to values. -/
set_option linter.unusedVariables false
set_option linter.unusedSimpArgs false
set_option maxRecDepth 20000
namespace Go.Proofs.YtdejdblopmfjfaaGreatDoor
open Go.Am Go.ChangeShapes Go.WideShapes Go.ChangeAt Go.RowKit

/-- Everything that was there is stable. -/
def phi (W : World) : Nat → Nat := fun b => match W.heap[b]? with
  | some (.cells cs _ _) => cs.size
  | _ => 0

theorem phi_top {W : World} : ∀ b, W.heap.size ≤ b → phi W b = 0 := fun b hb => by
  unfold phi
  rw [Array.getElem?_eq_none hb]

theorem phi_lt {W : World} {b o : Nat} {z : Value} (h : W.cell? ⟨b, o, none⟩ = some z) : o < phi W b := by
  unfold World.cell? at h
  unfold phi
  cases hb : W.heap[b]? with
  | none => rw [hb] at h; simp at h
  | some ob =>
    rw [hb] at h
    cases ob with
    | cells c e m => simp only at h ⊢; exact (Array.getElem?_eq_some_iff.1 h).1
    | _ => simp at h

section
variable {H : Type} (enc : TypeId × Value → H) (W : World)

def Got (Pr : List V → Prop) (cs : List Value) : Prop := ∃ vs, Pr vs ∧ vs.length = cs.length ∧ ∀ (i : Nat) v c, vs[i]? = some v → cs[i]? = some c → RepD W (phi W) v c ∧ scalar v = true

/-- Whatever reads as this type has such values. -/
def Reads (t : TypeId) (Pr : List V → Prop) : Prop := ∀ fuel cs x, DataW.trod enc Tryz.prog W 0 (fun _ => true) true fuel t cs = some x → Got W Pr cs

def trods (fuel : Nat) : List TypeId → List Value → Prop
  | [], cs => cs = []
  | t :: ts, cs => (∃ x, DataW.trod enc Tryz.prog W 0 (fun _ => true) true fuel t (cs.take (Tryz.prog.cellsOf t)) = some x) ∧ Tryz.prog.cellsOf t ≤ cs.length ∧ trods fuel ts (cs.drop (Tryz.prog.cellsOf t))

def ReadsL (ts : List TypeId) (Pr : List V → Prop) : Prop := ∀ fuel cs, trods enc W fuel ts cs → Got W Pr cs

variable {enc W}

theorem Got.mono {P Q : List V → Prop} {cs : List Value} (h : Got W P cs) (k : ∀ vs, P vs → Q vs) : Got W Q cs := let ⟨vs, a, b⟩ := h; ⟨vs, k vs a, b⟩
theorem Reads.mono {t : TypeId} {P Q : List V → Prop} (h : Reads enc W t P) (k : ∀ vs, P vs → Q vs) : Reads enc W t Q := fun fuel cs x hx => (h fuel cs x hx).mono k

theorem readsL_nil : ReadsL enc W [] (fun vs => vs = []) := fun fuel cs h => by
  have h : cs = [] := h
  subst h
  exact ⟨[], rfl, rfl, fun i v c h => by simp at h⟩

theorem readsL_cons {t : TypeId} {ts : List TypeId} {P Q : List V → Prop} (h : Reads enc W t P) (k : ReadsL enc W ts Q) : ReadsL enc W (t :: ts) (fun vs => ∃ a b, P a ∧ Q b ∧ vs = a ++ b) := fun fuel cs ht => by
  obtain ⟨⟨x, hx⟩, hle, hr⟩ := ht
  obtain ⟨a, ha, la, ra⟩ := h _ _ _ hx
  obtain ⟨b, hb, lb, rb⟩ := k _ _ hr
  rw [List.length_take] at la
  rw [List.length_drop] at lb
  refine ⟨a ++ b, ⟨a, b, ha, hb, rfl⟩, by simp; omega, fun i v c hv hc => ?_⟩
  by_cases hi : i < a.length
  · rw [List.getElem?_append_left hi] at hv
    exact ra i v c hv (by rw [List.getElem?_take, if_pos (by omega)]; exact hc)
  · rw [List.getElem?_append_right (by omega)] at hv
    refine rb (i - a.length) v c hv ?_
    rw [List.getElem?_drop, show Tryz.prog.cellsOf t + (i - a.length) = i by omega]
    exact hc

theorem reads_int {t : TypeId} (ht : Tryz.prog.underlying t = some (.int .i64)) : Reads enc W t (fun vs => ∃ n : Int, vs = [I n] ∧ -9223372036854775808 ≤ n ∧ n ≤ 9223372036854775807) := fun fuel cs x hx => by
  obtain ⟨n, rfl, _, hw⟩ := DataW.trod_int ht hx
  have hb := Go.bounds_i64 hw
  refine ⟨[I n], ⟨n, rfl, by omega, by omega⟩, rfl, fun i v c hv hc => ?_⟩
  cases i with
  | zero => cases hv; cases hc; exact ⟨.int _ _, rfl⟩
  | succ i => cases hv

/-- Fields one behind the other. -/
noncomputable def offsB : List Field → Nat → Nat → Bool
  | [], o, n => o == n
  | f :: r, o, n => f.offset == o && offsB r (o + Tryz.prog.cellsOf f.type) n

theorem trods_of {fuel : Nat} : ∀ (fs : List Field) (o n : Nat) (cs : List Value), offsB fs o n = true → cs.length = n → o ≤ n → (∀ f ∈ fs, ∃ x, DataW.trod enc Tryz.prog W 0 (fun _ => true) true fuel f.type ((cs.drop f.offset).take (Tryz.prog.cellsOf f.type)) = some x) → trods enc W fuel (fs.map (·.type)) (cs.drop o)
  | [], o, n, cs, h, hl, _, _ => by
    simp only [offsB, beq_iff_eq] at h
    show cs.drop o = []
    rw [List.drop_eq_nil_of_le (by omega)]
  | f :: r, o, n, cs, h, hl, ho, hf => by
    simp only [offsB, Bool.and_eq_true, beq_iff_eq] at h
    have hle : o + Tryz.prog.cellsOf f.type ≤ n := by
      have : ∀ (fs : List Field) (o n : Nat), offsB fs o n = true → o ≤ n := by
        intro fs
        induction fs with
        | nil => intro o n h; simp only [offsB, beq_iff_eq] at h; omega
        | cons g r ih => intro o n h; simp only [offsB, Bool.and_eq_true, beq_iff_eq] at h; have := ih _ _ h.2; omega
      exact this _ _ _ h.2
    refine ⟨?_, by rw [List.length_drop]; show Tryz.prog.cellsOf f.type ≤ _; omega, ?_⟩
    · have := hf f (by simp)
      rw [h.1] at this
      exact this
    · rw [List.drop_drop]
      exact trods_of r _ n cs h.2 hl hle fun g hg => hf g (by simp [hg])

theorem reads_struct {t : TypeId} {fs : Array Field} {Pr : List V → Prop} (ht : Tryz.prog.underlying t = some (.struct fs)) (ho : offsB fs.toList 0 (Tryz.prog.cellsOf t) = true) (h : ReadsL enc W (fs.toList.map (·.type)) Pr) : Reads enc W t Pr := fun fuel cs x hx => by
  obtain ⟨xs, n, _, _, hl, hxs, hf⟩ := DataW.trod_struct ht hx
  refine h n cs ?_
  have := trods_of (enc := enc) (W := W) (fuel := n) fs.toList 0 _ cs ho hl (Nat.zero_le _) fun f hm => by
    obtain ⟨i, hi, rfl⟩ := List.mem_iff_getElem.1 hm
    have h1 := hf i fs.toList[i] (by simp at hi ⊢)
    rw [h1]
    have : i < xs.length := by simp at hi; omega
    exact ⟨_, List.getElem?_eq_getElem this⟩
  simpa using this

def wrapV (agg : Bool) (x : List V) : V := bif agg then .agg x else x.headD nothing

theorem cells_wrap {agg : Bool} {x : List V} {sz : Nat} (hx : x.length = sz) (hs : ∀ v ∈ x, scalar v = true) (ha : agg = false → sz = 1) : cells (wrapV agg x) = x := by
  cases agg with
  | true => rfl
  | false =>
    have := ha rfl
    subst this
    match x, hx with
    | [v], _ =>
      have hv := hs v (by simp)
      show cells v = [v]
      cases v <;> simp [scalar] at hv <;> rfl

theorem cell_spot {a : Addr} {z : Value} (h : W.cell? a = some z) : a = ⟨a.block, a.off, none⟩ := by
  have := World.cell?_spot h
  obtain ⟨b, o, s⟩ := a
  simp only at this
  subst this; rfl

theorem reads_slice {t e : TypeId} {sz : Nat} {Pe : List V → Prop} (agg : Bool) (ht : Tryz.prog.underlying t = some (.slice e)) (hc : Tryz.prog.cellsOf e = sz) (h0 : 0 < sz) (ha : agg = false → sz = 1) (h : Reads enc W e Pe) :
    Reads enc W t (fun vs => ∃ xs : List (List V), (∀ x ∈ xs, Pe x) ∧ xs.length ≤ 9223372036854775807 ∧ vs = [.slice 0 sz (xs.map (wrapV agg))]) := fun fuel cs x hx => by
  subst hc
  rcases DataW.trod_slice ht hx with ⟨rfl, _⟩ | ⟨a, len, cap, elems, rest, n, _, rfl, _, _, hlc, hcm, hel, hE, _⟩
  · refine ⟨[.slice 0 _ []], ⟨[], fun x hx => by simp at hx, by simp, rfl⟩, rfl, fun i v c hv hc => ?_⟩
    cases i with
    | zero => cases hv; cases hc; exact ⟨.slice0 _ _ _, rfl⟩
    | succ i => cases hv
  · have hcm' : cap ≤ 9223372036854775807 := by unfold maxLen at hcm; omega
    -- the elements, one by one
    have step : ∀ m, m ≤ len → ∃ xs : List (List V), xs.length = m ∧ (∀ x ∈ xs, Pe x ∧ x.length = Tryz.prog.cellsOf e) ∧
        ∀ (i : Nat) x (j : Nat) v, xs[i]? = some x → x[j]? = some v → ∃ c, W.cell? (a.add (i * Tryz.prog.cellsOf e + j)) = some c ∧ RepD W (phi W) v c ∧ scalar v = true := by
      intro m
      induction m with
      | zero => exact fun _ => ⟨[], rfl, fun x hx => by simp at hx, fun i x j v hx => by simp at hx⟩
      | succ m ih =>
        intro hm
        obtain ⟨xs, l1, l2, l3⟩ := ih (by omega)
        have h1 := hE m (by omega)
        rw [List.getElem?_eq_getElem (by omega)] at h1
        rw [Option.bind_eq_some_iff] at h1
        obtain ⟨ccs, h2, h3⟩ := h1
        obtain ⟨vs, v1, v2, v3⟩ := h _ _ _ h3
        have hcc : ccs.length = Tryz.prog.cellsOf e ∧ ∀ (j : Nat) c, ccs[j]? = some c → W.cell? (a.add (m * Tryz.prog.cellsOf e + j)) = some c := by
          unfold World.cells? at h2
          rw [if_pos (Nat.zero_le _)] at h2
          refine ⟨by simpa using mapM_some_length h2, fun j c hj => ?_⟩
          have hjl : j < Tryz.prog.cellsOf e := by
            have := (List.getElem?_eq_some_iff.1 hj).1
            have hh := mapM_some_length h2
            simp at hh; omega
          have := mapM_some_get h2 j j (by simp [hjl])
          rw [hj] at this
          rw [← this, Addr.add_add]
        refine ⟨xs ++ [vs], by simp [l1], fun x hx => ?_, fun i x j v hx hj => ?_⟩
        · rcases List.mem_append.1 hx with hx | hx
          · exact l2 x hx
          · simp at hx; subst hx; exact ⟨v1, by omega⟩
        · by_cases hi : i < xs.length
          · rw [List.getElem?_append_left hi] at hx
            exact l3 i x j v hx hj
          · have hi' : i = xs.length := by
              have := (List.getElem?_eq_some_iff.1 hx).1
              simp at this; omega
            subst hi'
            rw [List.getElem?_append_right (by omega)] at hx
            simp at hx; subst hx
            have hjl : j < ccs.length := by have := (List.getElem?_eq_some_iff.1 hj).1; omega
            rw [l1]
            exact ⟨ccs[j], hcc.2 j _ (List.getElem?_eq_getElem hjl), v3 j v _ hj (List.getElem?_eq_getElem hjl)⟩
    obtain ⟨xs, l1, l2, l3⟩ := step len (Nat.le_refl _)
    have hsc : ∀ x ∈ xs, ∀ v ∈ x, scalar v = true := fun x hx v hv => by
      obtain ⟨i, hi, rfl⟩ := List.mem_iff_getElem.1 hx
      obtain ⟨j, hj, rfl⟩ := List.mem_iff_getElem.1 hv
      obtain ⟨c, _, _, hs⟩ := l3 i _ j _ (List.getElem?_eq_getElem hi) (List.getElem?_eq_getElem hj)
      exact hs
    have hcw : ∀ x ∈ xs, cells (wrapV agg x) = x := fun x hx => cells_wrap (l2 x hx).2 (hsc x hx) ha
    refine ⟨[.slice 0 _ (xs.map (wrapV agg))], ⟨xs, fun x hx => (l2 x hx).1, by omega, rfl⟩, rfl, fun i v c hv hc => ?_⟩
    cases i with
    | succ i => cases hv
    | zero =>
      cases hv; cases hc
      refine ⟨?_, rfl⟩
      by_cases hl0 : len = 0
      · subst hl0
        have : xs = [] := List.eq_nil_of_length_eq_zero l1
        subst this
        exact .slice0 _ _ _
      · -- the place of the first cell
        have hx0 : 0 < xs.length := by omega
        have hlen0 := (l2 _ (List.getElem_mem hx0)).2
        obtain ⟨c0, hc0, _⟩ := l3 0 xs[0] 0 (xs[0][0]'(by omega)) (List.getElem?_eq_getElem hx0) (List.getElem?_eq_getElem (by omega))
        have hsp := cell_spot hc0
        obtain ⟨b, off, sp⟩ := a
        have : sp = none := by simpa [Addr.add] using hsp
        subst this
        have hwl : ∀ y ∈ xs.map (wrapV agg), (cells y).length = Tryz.prog.cellsOf e := fun y hy => by
          obtain ⟨x, hx, rfl⟩ := List.mem_map.1 hy
          rw [hcw x hx, (l2 x hx).2]
        have at_ : ∀ (j : Nat) v, ((xs.map (wrapV agg)).flatMap cells)[j]? = some v → ∃ c, W.cell? ⟨b, off + j, none⟩ = some c ∧ RepD W (phi W) v c ∧ scalar v = true := fun j v hj => by
          obtain ⟨i, u, k, hu, hk, rfl⟩ := flat_split h0 hwl j v hj
          rw [List.getElem?_map, Option.map_eq_some_iff] at hu
          obtain ⟨x, hx, rfl⟩ := hu
          rw [hcw x (List.mem_of_getElem? hx)] at hk
          obtain ⟨c, q1, q2⟩ := l3 i x k v hx hk
          refine ⟨c, ?_, q2⟩
          rw [← q1]
          unfold Addr.add
          split
          · rename_i h; rw [h]; rfl
          · rfl
        refine .slice _ _ b off len cap (fun j => (W.cell? ⟨b, off + j, none⟩).getD undef) h0 (by simp [l1]) hlc hwl (fun j v hj => ?_) (fun j v hj => ?_)
        · obtain ⟨c, q1, q2, q3⟩ := at_ j v hj
          exact ⟨phi_lt q1, by rw [q1]; rfl, q3⟩
        · obtain ⟨c, q1, q2, q3⟩ := at_ j v hj
          rw [q1]; exact q2

/-! ### Arguments -/
theorem arg_agg {t : TypeId} {Pr : List V → Prop} {v : Value} {d : DataW H} {p : List MemPlace} (ha : aggB Tryz.prog t = true) (h : Reads enc W t Pr) (hv : Value.okWide Tryz.prog W .any 0 t v) (ht : DataW.Trod enc Tryz.prog W 0 (fun _ => true) true t v d p) : ∃ vs, Pr vs ∧ RepD W (phi W) (.agg vs) v := by
  obtain ⟨fuel, hf⟩ := ht
  obtain ⟨vs, h1, h2, h3⟩ := h _ _ _ hf
  obtain ⟨cs, rfl, _⟩ : ∃ cs, v = .agg cs ∧ True := by
    unfold aggB at ha
    unfold Value.okWide at hv
    split at ha
    · rename_i hu; rw [hu] at hv; obtain ⟨cs, rfl, _⟩ := hv; exact ⟨cs, rfl, trivial⟩
    · rename_i hu; rw [hu] at hv; obtain ⟨cs, rfl, _⟩ := hv; exact ⟨cs, rfl, trivial⟩
    · cases ha
  refine ⟨vs, h1, .agg _ _ (by simpa [Value.cells] using h2) fun i v x hv hx => (h3 i v x hv ?_).1⟩
  simpa [Value.cells] using hx

theorem arg_one {t : TypeId} {Pr : List V → Prop} {v : Value} {d : DataW H} {p : List MemPlace} (hc : v.cells = #[v]) (h : Reads enc W t Pr) (ht : DataW.Trod enc Tryz.prog W 0 (fun _ => true) true t v d p) : ∃ u, Pr [u] ∧ RepD W (phi W) u v := by
  obtain ⟨fuel, hf⟩ := ht
  obtain ⟨vs, h1, h2, h3⟩ := h _ _ _ hf
  rw [hc] at h2 h3
  match vs, h2 with
  | [u], _ => exact ⟨u, h1, (h3 0 u v rfl rfl).1⟩

theorem exists_list {α : Type} {xs : List (List V)} {R : α → Prop} {g : α → List V} (h : ∀ x ∈ xs, ∃ a, R a ∧ x = g a) : ∃ l : List α, xs = l.map g ∧ ∀ a ∈ l, R a := by
  induction xs with
  | nil => exact ⟨[], rfl, fun a ha => by simp at ha⟩
  | cons x r ih =>
    obtain ⟨a, ha, rfl⟩ := h x (by simp)
    obtain ⟨l, rfl, hl⟩ := ih fun y hy => h y (by simp [hy])
    exact ⟨a :: l, rfl, fun b hb => by
      rcases List.mem_cons.1 hb with rfl | hb
      · exact ha
      · exact hl b hb⟩

end
end Go.Proofs.YtdejdblopmfjfaaGreatDoor


/-! What the arguments of the statements of the bin chapter read as. -/
set_option linter.unusedVariables false
set_option linter.unusedSimpArgs false
set_option maxRecDepth 20000
namespace Go.Proofs.YtdejdblopmfjfaaGreatDoor
open Go.Am Go.ChangeShapes Go.WideShapes Go.ChangeAt Go.RowKit

section
variable {H : Type} {enc : TypeId × Value → H} {W : World}

theorem rd_int : Reads enc W 3 (fun vs => ∃ n : Int, vs = [I n] ∧ -9223372036854775808 ≤ n ∧ n ≤ 9223372036854775807) := reads_int Tryz.underlying3

theorem rd_ints : Reads enc W 48 (fun vs => ∃ l : List Int, l.length ≤ 9223372036854775807 ∧ vs = [intsV l]) := by
  refine (reads_slice (sz := 1) false Tryz.underlying48 (by kernel_rfl) (by decide) (fun _ => rfl) rd_int).mono ?_
  rintro vs ⟨xs, h1, h2, rfl⟩
  obtain ⟨l, rfl, _⟩ := exists_list (R := fun _ => True) (g := fun n : Int => [I n]) fun x hx => by obtain ⟨b, rfl, _⟩ := h1 x hx; exact ⟨b, trivial, rfl⟩
  refine ⟨l, by simpa using h2, ?_⟩
  simp [intsV, wrapV, Function.comp_def]

def nfSane (x : Nf) : Prop := (x.lacks.length ≤ 9223372036854775807 ∧ x.passes.length ≤ 9223372036854775807) ∧ ∀ p ∈ x.passes, p.adds.length ≤ 9223372036854775807

theorem rd_pass : Reads enc W 147 (fun vs => ∃ p : Ps, p.adds.length ≤ 9223372036854775807 ∧ vs = [I p.cost, intsV p.adds]) := by
  refine (reads_struct Tryz.underlying147 (by kernel_rfl) (readsL_cons rd_int (readsL_cons rd_ints readsL_nil))).mono ?_
  rintro vs ⟨a, b, ⟨n, rfl, _⟩, ⟨c, d, ⟨l, hl, rfl⟩, rfl, rfl⟩, rfl⟩
  exact ⟨⟨n, l⟩, hl, rfl⟩

theorem rd_passes : Reads enc W 61 (fun vs => ∃ l : List Ps, l.length ≤ 9223372036854775807 ∧ (∀ p ∈ l, p.adds.length ≤ 9223372036854775807) ∧ vs = [.slice 0 2 (l.map eQ)]) := by
  refine (reads_slice (sz := 2) true Tryz.underlying61 (by kernel_rfl) (by decide) (by decide) rd_pass).mono ?_
  rintro vs ⟨xs, h1, h2, rfl⟩
  obtain ⟨l, rfl, hl⟩ := exists_list (R := fun p : Ps => p.adds.length ≤ 9223372036854775807) (g := fun p : Ps => [I p.cost, intsV p.adds]) fun x hx => by obtain ⟨b, hb, rfl⟩ := h1 x hx; exact ⟨b, hb, rfl⟩
  refine ⟨l, by simpa using h2, hl, ?_⟩
  simp [wrapV, Function.comp_def, eQ]

theorem rd_infill : Reads enc W 63 (fun vs => ∃ x : Nf, nfSane x ∧ vs = nfC x) := by
  refine (reads_struct Tryz.underlying63 (by kernel_rfl) (readsL_cons rd_ints (readsL_cons rd_passes readsL_nil))).mono ?_
  rintro vs ⟨a, b, ⟨l, hl, rfl⟩, ⟨c, d, ⟨m, hm, hm2, rfl⟩, rfl, rfl⟩, rfl⟩
  exact ⟨⟨l, m⟩, ⟨⟨hl, hm⟩, hm2⟩, rfl⟩

theorem rd_cut : Reads enc W 115 (fun vs => ∃ p : Ct, p.prices.length ≤ 9223372036854775807 ∧ vs = [I p.split, intsV p.prices]) := by
  refine (reads_struct Tryz.underlying115 (by kernel_rfl) (readsL_cons rd_int (readsL_cons rd_ints readsL_nil))).mono ?_
  rintro vs ⟨a, b, ⟨n, rfl, _⟩, ⟨c, d, ⟨l, hl, rfl⟩, rfl, rfl⟩, rfl⟩
  exact ⟨⟨n, l⟩, hl, rfl⟩

theorem rd_cuts : Reads enc W 64 (fun vs => ∃ l : List Ct, l.length ≤ 9223372036854775807 ∧ (∀ p ∈ l, p.prices.length ≤ 9223372036854775807) ∧ vs = [cutsV l]) := by
  refine (reads_slice (sz := 2) true Tryz.underlying64 (by kernel_rfl) (by decide) (by decide) rd_cut).mono ?_
  rintro vs ⟨xs, h1, h2, rfl⟩
  obtain ⟨l, rfl, hl⟩ := exists_list (R := fun p : Ct => p.prices.length ≤ 9223372036854775807) (g := fun p : Ct => [I p.split, intsV p.prices]) fun x hx => by obtain ⟨b, hb, rfl⟩ := h1 x hx; exact ⟨b, hb, rfl⟩
  refine ⟨l, by simpa using h2, hl, ?_⟩
  simp [cutsV, wrapV, Function.comp_def, eC]

end

theorem repR_bool {w : World} {φ : Nat → Nat} {b : Bool} {x : Value} (h : RepR w φ (.bool b) x) : x = .bool b := by
  cases h with
  | data r => cases r; rfl

theorem repL2 {w : World} {φ : Nat → Nat} {a b : V} {x y : Value} (h : RepD w φ a x) (k : RepD w φ b y) : RepL w φ [a, b] #[x, y] := ⟨rfl, fun i v y h1 h2 => by
  match i with
  | 0 => cases h1; cases h2; exact h
  | 1 => cases h1; cases h2; exact k
  | i + 2 => simp at h1⟩
/-- From a contract to the walk that a row asks for. -/
theorem walk_of {f : FuncId} {args : List V} {xs : Array Value} {W : World} (hc : C Tryz.prog f args (.bool true)) (hg : Gl W (phi W)) (hr : RepL W (phi W) args xs) : Calls Tryz.prog f xs W fun e W' => e = .returned (.bool true) ∧ Below W.heap.size W W' :=
  (hc.2 W (phi W) xs phi_top hg hr).mono fun e w' ⟨φ', x, he, hx, hb, _⟩ => ⟨by rw [he, repR_bool hx], hb⟩

theorem own : ownKnob Tryz.prog.godebug = none := by kernel_rfl
theorem laidOut : laidOutB Tryz.prog = true := by kernel_rfl

end Go.Proofs.YtdejdblopmfjfaaGreatDoor


/-! Contract of the law BinProofs. -/
set_option linter.unusedVariables false
set_option linter.unusedSimpArgs false
set_option maxRecDepth 40000
set_option maxHeartbeats 4000000
namespace Go.Proofs.YtdejdblopmfjfaaGreatDoor
open Go.Am
attribute [local simp] cells scalar mkv splice under2 under dem dem1 eB eQ nfC intsV eC cutsV
theorem c_BinProofs {x : Nf} (hx : nfSane x) {pf : List Ct} (hpf : pf.length ≤ 9223372036854775807) (hpl : ∀ k ∈ pf, k.prices.length ≤ 9223372036854775807) : C Tryz.prog F.law07_BinProofs [.agg (nfC x), cutsV pf] (.bool true) := by
  have kP := c_Prove hx.2
  have kB := c_Best07 hx.1.1 hx.1.2 hx.2
  rw [best_same] at kB
  obtain ⟨P, e, c, a, f, h1, h2, hef, h4, h5, h6, h7⟩ := prove_form (x := x)
  obtain ⟨n, g, h8, _⟩ := bound_form (x := x) pf
  rw [h1] at kP
  rw [h2] at kB
  have kR := c_Bound hx.2 hpl
  have kR7 := c_Bound07 hx.1.1 hx.1.2 hx.2 hpf hpl
  rw [h8] at kR kR7
  subst hef
  refine C_of mixed chk.law07_BinProofs (by simp) fun S ok => ?_
  refine Tr.seqR rfl (by simp) ?_
  refine Tr.seqC rfl (by simp) (Steps.call rfl rfl kP (Steps.fin rfl (by simp) ?_))
  refine Tr.seqC rfl (by simp) (Steps.call rfl rfl kB (Steps.fin rfl (by simp) ?_))
  refine Tr.seq (Tr.seqR rfl (by simp) (Tr.condF (by show some (V.bool (e != e)) = _; simp) (Tr.skip ?_)))
  refine Tr.meet { env := [(1, cutsV pf), (2, .ptr 2 0)], bx := [(2, ⟨nfC x, false⟩)], rw := [], log := [], stp := false } (Tr.seqR rfl (by simp) (Tr.cond rfl rfl (fun h => ?_) (fun h => ?_))) ?_
  · have h : (e == 0) = true := h
    have he : e = 0 := by simpa using h
    have hP := h4 he
    have hPl : P.length ≤ 2048 := by
      unfold BoundR at hP
      split at hP
      · split at hP
        · assumption
        · simp at hP
      · simp at hP
    have kQ := c_Bound07 hx.1.1 hx.1.2 hx.2 (pf := P) (by omega) h6
    rw [hP] at kQ
    refine Tr.seqC rfl (by simp) (Steps.call rfl rfl kQ (Steps.fin rfl (by simp) ?_))
    refine Tr.seqR rfl (by simp) (Tr.condF ?_ (Tr.skip ?_))
    · show some (V.bool (bif (c != c) then true else ((0 : Int) != 0))) = _
      simp
    · exact Wk.le (.cons rfl (.refl _) (.cons rfl (.refl _) .nil)) (.cons rfl (LLe.refl _) .nil) .nil rfl rfl
  · have h : (e == 0) = false := h
    have he : e ≠ 0 := by simpa using h
    have hP := h5 he
    subst hP
    refine Tr.seqR rfl (by simp) (Tr.condF rfl (Tr.skip ?_))
    exact Wk.le (.cons rfl (.refl _) (.cons rfl (.refl _) .nil)) (.cons rfl (LLe.refl _) .nil) .nil rfl rfl
  refine Tr.seqC rfl (by simp) (Steps.call rfl rfl kR (Steps.fin rfl (by simp) ?_))
  refine Tr.seqC rfl (by simp) (Steps.call rfl rfl kR7 (Steps.fin rfl (by simp) ?_))
  refine Tr.seqC rfl (by simp) (Steps.gcall rfl rfl rfl rfl (by simp) (fun _ => c_works) (Steps.fin rfl (by simp) (Tr.retX rfl rfl rfl ?_ trivial)))
  show V.bool true = V.bool (bif (bif (n == n) then (g == g) else false) then true else false)
  simp

end Go.Proofs.YtdejdblopmfjfaaGreatDoor


/-! Facts on the rows: what the load's head says. -/
set_option linter.unusedVariables false
set_option linter.unusedSimpArgs false
set_option maxRecDepth 100000
namespace Go.Proofs.YtdejdblopmfjfaaGreatDoor
open Go.Am Go.ChangeShapes Go.WideShapes Go.ChangeAt Go.RowKit

noncomputable def headL : List Char := ([104, 97, 114, 110, 101, 115, 115, 32, 101, 99, 49, 57, 102, 53, 55, 48, 55, 98, 98, 50, 55, 51, 57, 53, 52, 99, 99, 99, 101, 55, 55, 54, 54, 53, 52, 53, 49, 53, 54, 52, 101, 48, 56, 53, 48, 56, 56, 56, 50, 48, 97, 99, 50, 55, 97, 98, 53, 51, 100, 101, 101, 99, 100, 99, 101, 48, 102, 54, 54, 49, 102, 99, 32, 99, 117, 116, 32, 97, 116, 32, 112, 97, 114, 97, 118, 97, 110, 101, 47, 112, 97, 114, 97, 118, 97, 110, 101, 108, 97, 119, 48, 55, 46, 66, 105, 110, 67, 101, 108, 108, 115, 32, 112, 97, 114, 97, 118, 97, 110, 101, 47, 112, 97, 114, 97, 118, 97, 110, 101, 108, 97, 119, 48, 55, 46, 66, 105, 110, 70, 111, 108, 100, 115, 32, 112, 97, 114, 97, 118, 97, 110, 101, 47, 112, 97, 114, 97, 118, 97, 110, 101, 108, 97, 119, 48, 55, 46, 66, 105, 110, 71, 97, 105, 110, 115, 32, 112, 97, 114, 97, 118, 97, 110, 101, 47, 112, 97, 114, 97, 118, 97, 110, 101, 108, 97, 119, 48, 55, 46, 66, 105, 110, 80, 114, 111, 111, 102, 115, 32, 112, 97, 114, 97, 118, 97, 110, 101, 47, 112, 97, 114, 97, 118, 97, 110, 101, 108, 97, 119, 48, 55, 46, 66, 105, 110, 66, 117, 105, 108, 100, 115, 32, 112, 97, 114, 97, 118, 97, 110, 101, 47, 112, 97, 114, 97, 118, 97, 110, 101, 108, 97, 119, 48, 55, 46, 66, 105, 110, 66, 101, 116, 116, 101, 114, 32, 112, 97, 114, 97, 118, 97, 110, 101, 47, 112, 97, 114, 97, 118, 97, 110, 101, 108, 97, 119, 48, 55, 46, 66, 105, 110, 70, 105, 108, 108, 101, 100] : List Nat).map Char.ofNat
theorem head_chars : Tryz.prog.initOrder = String.ofList (([104, 97, 114, 110, 101, 115, 115, 32, 101, 99, 49, 57, 102, 53, 55, 48, 55, 98, 98, 50, 55, 51, 57, 53, 52, 99, 99, 99, 101, 55, 55, 54, 54, 53, 52, 53, 49, 53, 54, 52, 101, 48, 56, 53, 48, 56, 56, 56, 50, 48, 97, 99, 50, 55, 97, 98, 53, 51, 100, 101, 101, 99, 100, 99, 101, 48, 102, 54, 54, 49, 102, 99, 32, 99, 117, 116, 32, 97, 116, 32, 112, 97, 114, 97, 118, 97, 110, 101, 47, 112, 97, 114, 97, 118, 97, 110, 101, 108, 97, 119, 48, 55, 46, 66, 105, 110, 67, 101, 108, 108, 115, 32, 112, 97, 114, 97, 118, 97, 110, 101, 47, 112, 97, 114, 97, 118, 97, 110, 101, 108, 97, 119, 48, 55, 46, 66, 105, 110, 70, 111, 108, 100, 115, 32, 112, 97, 114, 97, 118, 97, 110, 101, 47, 112, 97, 114, 97, 118, 97, 110, 101, 108, 97, 119, 48, 55, 46, 66, 105, 110, 71, 97, 105, 110, 115, 32, 112, 97, 114, 97, 118, 97, 110, 101, 47, 112, 97, 114, 97, 118, 97, 110, 101, 108, 97, 119, 48, 55, 46, 66, 105, 110, 80, 114, 111, 111, 102, 115, 32, 112, 97, 114, 97, 118, 97, 110, 101, 47, 112, 97, 114, 97, 118, 97, 110, 101, 108, 97, 119, 48, 55, 46, 66, 105, 110, 66, 117, 105, 108, 100, 115, 32, 112, 97, 114, 97, 118, 97, 110, 101, 47, 112, 97, 114, 97, 118, 97, 110, 101, 108, 97, 119, 48, 55, 46, 66, 105, 110, 66, 101, 116, 116, 101, 114, 32, 112, 97, 114, 97, 118, 97, 110, 101, 47, 112, 97, 114, 97, 118, 97, 110, 101, 108, 97, 119, 48, 55, 46, 66, 105, 110, 70, 105, 108, 108, 101, 100] : List Nat).map Char.ofNat) := by
  unfold Tryz.prog
  dsimp only
  show (_ : String) = _
  kernel_rfl
theorem head_list : Tryz.prog.initOrder.toList = headL := (congrArg String.toList head_chars).trans String.toList_ofList

section
variable (P : Program) (h : P.initOrder.toList = headL)
include h
theorem make_of : P.make = some .cut := by
  unfold Program.make
  rw [h]
  kernel_rfl
theorem headLifts_of : P.headLifts = [] := by
  unfold Program.headLifts
  rw [h]
  kernel_rfl
theorem lifts_of : P.liftsFinal = false := by
  unfold Program.liftsFinal
  rw [h, headLifts_of P h]
  kernel_rfl
theorem may_of (h1 : P.laysLater = false) (h2 : P.bearsReflect = false) (h3 : P.doorFits [] = true) : P.mayEnter = true := by
  unfold Program.mayEnter
  rw [h, h1, h2]
  have e : behindMainWord (wordsSigns headL) = "cut".toList :: (behindMainWord (wordsSigns headL)).tail := by kernel_rfl
  have e2 : stripLifts liftWords ("cut".toList :: (behindMainWord (wordsSigns headL)).tail) = ([], "cut".toList :: (behindMainWord (wordsSigns headL)).tail) := by kernel_rfl
  rw [e]
  dsimp only
  rw [e2, h3]
  first | rfl | (show (_ : Bool) = true; kernel_rfl)
end

theorem may : Tryz.prog.mayEnter = true := may_of _ head_list (by kernel_rfl) (by kernel_rfl) (by kernel_rfl)
theorem lifts : Tryz.prog.liftsFinal = false := lifts_of _ head_list
theorem made : Tryz.prog.make = some .cut := make_of _ head_list
theorem heard : Tryz.prog.stopsHeard = true := by kernel_rfl
theorem plain : Tryz.prog.plainKeys = false := by kernel_rfl
theorem rowed : mapsRowed Tryz.prog = true := by kernel_rfl

end Go.Proofs.YtdejdblopmfjfaaGreatDoor


/-! What the package's variable holds where a statement begins. -/
set_option linter.unusedVariables false
set_option linter.unusedSimpArgs false
set_option maxRecDepth 100000
namespace Go.Proofs.YtdejdblopmfjfaaGreatDoor
open Go.Am Go.ChangeShapes Go.WideShapes Go.ChangeAt Go.RowKit

def laidV : List (String × DataW Unit) := [("paravane/bin.none", Rows.laid_paravane_bin_none)]

theorem none_cells {W : World} (h : laidMetH Tryz.prog laidV W) : W.var? Tryz.prog "paravane/bin.none" = some #[.int .i64 (-1), .int .i64 (-1)] := by
  rw [MakeChecks.laidMetH_plain _ _ _ (by kernel_rfl)] at h
  obtain ⟨ps, ⟨g, t, cs, fuel, p, q, hg, ht, hv, hd, _, _⟩, _, _⟩ := h
  obtain rfl := Option.some.inj ((show Tryz.prog.globalNamed "paravane/bin.none" = some 0 by kernel_rfl).symm.trans hg)
  obtain rfl := Option.some.inj ((show (Tryz.prog.globals[0]?).map (·.type) = some 39 by kernel_rfl).symm.trans ht)
  have ci : Tryz.prog.cellsOf 3 = 1 := by kernel_rfl
  have cc : Tryz.prog.cellsOf 39 = 2 := by kernel_rfl
  obtain ⟨y0, y1, n, ex, hlen, k0, k1⟩ := trod_struct2 Tryz.underlying39 hd
  rw [cc] at hlen
  obtain ⟨l⟩ := cs
  match l, hlen with
  | [a, b], _ =>
    have e3 := DataW.agg.inj (Prod.mk.inj ex).1
    simp only [List.cons.injEq, and_true] at e3
    simp only at k0 k1
    rw [ci] at k0 k1
    obtain ⟨z0, a0, b0, _⟩ := DataW.trod_int Tryz.underlying3 k0
    obtain ⟨z1, a1, b1, _⟩ := DataW.trod_int Tryz.underlying3 k1
    rw [b0, b1] at e3
    have e4 : (-1 : Int) = z0 ∧ (-1 : Int) = z1 := by simpa [Rows.laid_paravane_bin_none] using e3
    have a2 : a = .int .i64 z0 := by simpa using a0
    have a3 : b = .int .i64 z1 := by simpa using a1
    rw [hv, a2, a3, ← e4.1, ← e4.2]

theorem gl_of {W : World} (h : laidMetH Tryz.prog laidV W) : Gl W (phi W) := by
  have hc := fun j => World.var?_cell (show Tryz.prog.globalNamed "paravane/bin.none" = some 0 by kernel_rfl) (none_cells h) j
  intro p hp
  obtain rfl : p = (0, [.int .i64 (-1), .int .i64 (-1)]) := by simpa [globalsV] using hp
  refine .vptr _ 0 0 0 (fun _ => .int .i64 (-1)) (fun j v hj => ?_) (fun j v hj => ?_)
  · match j, hj with
    | 0, hj => cases hj; exact ⟨phi_lt (hc 0), hc 0, rfl⟩
    | 1, hj => cases hj; exact ⟨phi_lt (hc 1), hc 1, rfl⟩
  · match j, hj with
    | 0, hj => cases hj; exact .int _ _
    | 1, hj => cases hj; exact .int _ _

end Go.Proofs.YtdejdblopmfjfaaGreatDoor

