/-
  Parts of the proof, 4: the abstract machine, the compiled code, contracts of the functions, plain laws.
-/
import Derived.Test.YtggifklgpdladaaGreatX3


/-! AM, part Zo: calls by name over an arena; what lies in an arena becomes data. -/
set_option linter.unusedVariables false
set_option linter.unusedSimpArgs false
namespace Go.Am
open Go.RowKit

section
variable {E : Env} {S0 : Sur} {l0 : List (List V)} {s0 : Bool} {A : Arena}

theorem Steps.callA (hE : InA E S0 l0 s0) {K : St → Prop} {Ks : List (Nat × List V)} {s : St} {d : Option Nat} {f : FuncId} {xs : List X} {rest : List Ins} {vs us : List V} {ids : List Nat} {r : V} {F A1 B : Arena} (hx : evXs s.env xs = some vs) (hd : toDs s.fs.b vs = some (us, ids)) (hl : s.log = encA (F ++ A1))
    (hC : CA E.P f A1 Ks us r B) (hKs : (∀ p ∈ Ks, (p.1, Ob.cells p.2) ∈ F) ∨ InK E Ks ∧ ∀ p ∈ Ks, p.1 ∉ A1.map (·.1))
    (hk : Steps E rest K { (s.eff { v := r, wb := freeze s.fs.b ids }).put d r with log := encA (F ++ B) }) : Steps E (⟨d, .call f, xs, none⟩ :: rest) K s := by
  refine Step1.raw fun slots ops o i ro n a w h hc hs hi R Q next hn => ?_
  obtain ⟨os, cc⟩ := comp_of hc
  have hgo := guard_none cc rfl
  obtain ⟨c, e1, e2, rfl⟩ := opK_call cc.op
  have R' : E.relF (encA (F ++ A1)) s.stp s.fs a w h := by rw [← hl]; exact R
  have hAr := hE.ar R'
  have hnd := hAr.nd
  rw [List.map_append, List.nodup_append] at hnd
  obtain ⟨l1, l2⟩ := opds_args (opds_of R.1 cc.xs (evXs_ok hx))
  refine wp_callA hE R' cc hd hC (fun h' R1 => ?_) (fun p hp => ?_) _ l1 l2 hi (wanted_none hgo) (run_call hC.1 e2 e1) fun a' w' h' R2 hy => hn _ a' w' h' hk ?_ hy
  · rcases hKs with hKs | hKs
    · intro p hp
      have := (hE.ar R1)
      exact ⟨this.ok _ (List.mem_append.2 (.inl (hKs p hp))), this.lt _ (List.mem_append.2 (.inl (hKs p hp)))⟩
    · exact hKs.1 _ _ _ _ _ R1.1.sur
  · rcases hKs with hKs | hKs
    · exact fun h => hnd.2.2 _ (List.mem_map.2 ⟨_, hKs p hp, rfl⟩) _ h rfl
    · exact hKs.2 p hp
  · show E.relF _ _ _ _ _ _
    have e : ({ (s.eff { v := r, wb := freeze s.fs.b ids }).put d r with log := encA (F ++ B) } : St).fs = ((s.fs.eff { v := r, wb := freeze s.fs.b ids }).put d r) := by
      cases d with
      | none => exact fs_eff s _
      | some d => show ((s.eff _).put (some d) r).fs = _; rw [fs_put, fs_eff]; rfl
    have e2 : ({ (s.eff { v := r, wb := freeze s.fs.b ids }).put d r with log := encA (F ++ B) } : St).stp = s.stp := by
      show ((s.eff _).put d r).stp = _
      rw [(put_log _ _ _).2, (eff_log _ _).2]
    rw [e, e2]
    exact R2

/-- A block's cells are frozen. -/
def cut (φ : Nat → Nat) (blk len : Nat) : Nat → Nat := fun b => if b = blk then len else φ b

theorem InA.close (hE : InA E S0 l0 s0) {stp : Bool} {σ : FSt} {a : Act} {w : World} {h : Gh} (R : E.relF (encA A) stp σ a w h) {blk : Nat} {o : Ob} (hA : (blk, o) ∈ A) (len : Nat) {B : Arena} (hkeys : ∀ p ∈ B, p.1 ∈ A.map (·.1) ∧ p.1 ≠ blk) (hnd : (B.map (·.1)).Nodup)
    (hB : Ext w h.φ w (cut h.φ blk len) → ∀ p ∈ B, ObOk w (cut h.φ blk len) p.1 p.2) : Ext w h.φ w (cut h.φ blk len) ∧ E.relF (encA B) stp σ a w { h with φ := cut h.φ blk len } := by
  obtain ⟨M1, hM1, hlt1, ⟨A0, e, hs, hAr, hS⟩, back⟩ := hE.sub _ _ _ _ _ R.1.sur R.1.mine
  obtain rfl := encA_inj e
  have hz := hAr.z _ hA
  simp only at hz
  have other : ∀ b, b ≠ blk → cut h.φ blk len b = h.φ b := fun b hb => by unfold cut; rw [if_neg hb]
  have ext : Ext w h.φ w (cut h.φ blk len) := fun b o ho => by
    have hb : b ≠ blk := fun e => by rw [e, hz] at ho; omega
    exact ⟨by rw [other b hb]; exact ho, rfl, rfl⟩
  have top' : ∀ b, w.heap.size ≤ b → cut h.φ blk len b = 0 := fun b hb => by
    have := hAr.lt _ hA
    simp only at this
    rw [other b (by omega)]; exact R.1.top b hb
  have own : ∀ b, M1 b → w.heap[b]? = w.heap[b]? ∧ cut h.φ blk len b = h.φ b := fun b hb => ⟨rfl, other b fun e => by
    have := hAr.fr _ hA
    exact this (e ▸ hb)⟩
  have keyOld : ∀ p ∈ B, ∃ q ∈ A, q.1 = p.1 := fun p hp => by
    obtain ⟨q, hq, e⟩ := List.mem_map.1 (hkeys p hp).1
    exact ⟨q, hq, e⟩
  have sa : SA S0 l0 s0 (encA B) stp M1 w (cut h.φ blk len) := by
    refine ⟨B, rfl, hs, ⟨hnd, hB ext, fun p hp hM => ?_, fun p hp => ?_, fun p hp => ?_⟩, hE.ok _ _ _ _ _ _ _ _ hS ⟨ext, fun b hb hn => ⟨rfl, other b fun e => hn (.inr (List.mem_map.2 ⟨_, hA, e.symm⟩))⟩, Nat.le_refl _, rfl, rfl, rfl, fun b hb => .inl ?_, top'⟩⟩
    · obtain ⟨q, hq, e⟩ := keyOld p hp
      exact hAr.fr q hq (e ▸ hM)
    · obtain ⟨q, hq, e⟩ := keyOld p hp
      rw [← e]; exact hAr.lt q hq
    · obtain ⟨q, hq, e⟩ := keyOld p hp
      rw [other _ (hkeys p hp).2, ← e]; exact hAr.z q hq
    · rcases hb with hb | hb
      · exact .inl hb
      · obtain ⟨p, hp, rfl⟩ := List.mem_map.1 hb
        exact .inr (hkeys p hp).1
  have sur' := back (encA B) stp w (cut h.φ blk len) sa ext own (Nat.le_refl _) top' rfl rfl rfl
  exact ⟨ext, rel_round R.1 ext (fun b hb => own b (hM1 b hb)) (Nat.le_refl _) top' sur', R.2⟩

/-- A block's cells, as a slice of data. -/
theorem close_rep {w : World} {φ : Nat → Nat} {blk cap sz : Nat} {cs xs : List V} (ho : ObOk w φ blk (.cells cs)) (h0 : 0 < sz) (hcap : xs.length ≤ cap) (hxs : ∀ x ∈ xs, (cells x).length = sz) (htk : cs.take (xs.length * sz) = xs.flatMap cells) (ext : Ext w φ w (cut φ blk (xs.length * sz))) :
    RepD w (cut φ blk (xs.length * sz)) (.slice 0 sz xs) (.slice (some ⟨blk, 0, none⟩) xs.length cap) := by
  obtain ⟨vs, et, h1, h2, h3⟩ := ho
  have fl := flat_len hxs
  have at' : ∀ (j : Nat) v, (xs.flatMap cells)[j]? = some v → j < xs.length * sz ∧ j < vs.size ∧ cs[j]? = some v := fun j v hv => by
    have hj : j < xs.length * sz := by have := (List.getElem?_eq_some_iff.1 hv).1; omega
    rw [← htk, List.getElem?_take_of_lt hj] at hv
    have := (List.getElem?_eq_some_iff.1 hv).1
    exact ⟨hj, by omega, hv⟩
  refine .slice sz xs blk 0 xs.length cap (fun j => vs.getD j undef) h0 rfl hcap hxs (fun j v hv => ?_) (fun j v hv => ?_)
  · obtain ⟨a1, a2, a3⟩ := at' j v hv
    have e : vs[j]? = some (vs.getD j undef) := by simp [a2]
    refine ⟨by unfold cut; rw [if_pos rfl]; omega, ?_, (h3 j v _ a3 e).2⟩
    rw [Nat.zero_add, cell_of_row w blk j vs et (0, 0) h1, e]
  · obtain ⟨a1, a2, a3⟩ := at' j v hv
    have e : vs[j]? = some (vs.getD j undef) := by simp [a2]
    exact (h3 j v _ a3 e).1.mono ext

def dropA (A : Arena) (blk : Nat) : Arena := A.filter fun p => p.1 != blk

theorem dropA_mem {A : Arena} {blk : Nat} {p : Nat × Ob} : p ∈ dropA A blk ↔ p ∈ A ∧ p.1 ≠ blk := by
  unfold dropA; rw [List.mem_filter]; simp

theorem dropA_nd {A : Arena} {blk : Nat} (h : (A.map (·.1)).Nodup) : ((dropA A blk).map (·.1)).Nodup := h.sublist (List.Sublist.map _ List.filter_sublist)

/-- A slice of an arena becomes data. -/
theorem Wk.close (hE : InA E S0 l0 s0) {s : St} {t blk cap sz : Nat} {cs xs : List V} (ht : get s.env t = some (.sref blk 0 xs.length cap)) (hl : s.log = encA A) (hA : (blk, Ob.cells cs) ∈ A) (h0 : 0 < sz) (hcap : xs.length ≤ cap) (hxs : ∀ x ∈ xs, (cells x).length = sz) (htk : cs.take (xs.length * sz) = xs.flatMap cells) :
    Wk E s { s.put (some t) (.slice 0 sz xs) with log := encA (dropA A blk) } := by
  intro a w h R
  obtain ⟨q1, q2, _⟩ := R.1.env t _ (by rw [fs_g]; exact ht)
  have R' : E.relF (encA A) s.stp s.fs a w h := by rw [← hl]; exact R
  have hAr := hE.ar R'
  obtain ⟨ext, R2⟩ := hE.close R' hA (xs.length * sz) (B := dropA A blk) (fun p hp => ⟨List.mem_map.2 ⟨p, (dropA_mem.1 hp).1, rfl⟩, (dropA_mem.1 hp).2⟩) (dropA_nd hAr.nd) (fun ext p hp => (hAr.ok p (dropA_mem.1 hp).1).mono rfl ext)
  have rd := close_rep (cap := cap) (hAr.ok _ hA) h0 hcap hxs htk ext
  have e : a.tmps.getD t undef = .slice (some ⟨blk, 0, none⟩) xs.length cap := by
    revert q2
    generalize a.tmps.getD t undef = x1
    intro q2
    cases q2 with
    | data r => cases r; rfl
  have R3 := R2.1.put (d := t) (v := .slice 0 sz xs) (x := a.tmps.getD t undef) q1 (by rw [e]; exact .data rd) (by rw [e]; exact GrowV.of_data rd)
  rw [put_self (by rw [R.1.size]; exact q1)] at R3
  refine ⟨_, ⟨?_, R2.2⟩, rfl⟩
  show Rel E.nt E.S _ s.stp (s.put (some t) (.slice 0 sz xs)).fs _ _ _
  rw [fs_put]
  exact R3

/-- Less of an arena, in whatever order. -/
theorem Wk.keep (hE : InA E S0 l0 s0) {s : St} {B : Arena} (hl : s.log = encA A) (hsub : ∀ p ∈ B, p ∈ A) (hnd : (B.map (·.1)).Nodup) : Wk E s { s with log := encA B } := by
  intro a w h R
  have R' : E.relF (encA A) s.stp s.fs a w h := by rw [← hl]; exact R
  obtain ⟨M1, hM1, hlt1, ⟨A0, e, hs, hAr, hS⟩, back⟩ := hE.sub _ _ _ _ _ R'.1.sur R'.1.mine
  obtain rfl := encA_inj e
  have sa : SA S0 l0 s0 (encA B) s.stp M1 w h.φ := by
    refine ⟨B, rfl, hs, ⟨hnd, fun p hp => hAr.ok p (hsub p hp), fun p hp => hAr.fr p (hsub p hp), fun p hp => hAr.lt p (hsub p hp), fun p hp => hAr.z p (hsub p hp)⟩, hE.ok _ _ _ _ _ _ _ _ hS ⟨Ext.refl _ _, fun _ _ _ => ⟨rfl, rfl⟩, Nat.le_refl _, rfl, rfl, rfl, fun b hb => .inl ?_, R'.1.top⟩⟩
    rcases hb with hb | hb
    · exact .inl hb
    · obtain ⟨p, hp, rfl⟩ := List.mem_map.1 hb
      exact .inr (List.mem_map.2 ⟨p, hsub p hp, rfl⟩)
  have sur' := back (encA B) s.stp w h.φ sa (Ext.refl _ _) (fun _ _ => ⟨rfl, rfl⟩) (Nat.le_refl _) R'.1.top rfl rfl rfl
  exact ⟨h, ⟨{ R'.1 with sur := sur' }, R'.2⟩, rfl⟩

/-- An append to a slice of one's own. -/
theorem Steps.appendOwn (hE : InA E S0 l0 s0) {K : St → Prop} {s : St} {d : Nat} {x y : X} {v : V} {sz bytes e r : Nat} {xs ys zs : List V} {rest : List Ins} (hx : evXs s.env [x, y] = some [v, .slice r sz ys]) (hl : s.log = encA A) (hO : OwnS A sz xs v) (hz0 : zeroOf E.P e = some zs) (h0 : 0 < sz) (hb : (xs.length + ys.length) * bytes ≤ 2 ^ 47) (hm : xs.length + ys.length ≤ 2 ^ 47) (hne : ys ≠ [])
    (hk : ∀ v' A', OwnS A' sz (xs ++ ys) v' → (∀ p ∈ A, offS v p.1 → p ∈ A' ∧ offS v' p.1) → Steps E rest K { s.put (some d) v' with log := encA A' }) : Steps E (⟨some d, .append sz bytes e, [x, y], none⟩ :: rest) K s := by
  rcases hO with ⟨rfl, rfl⟩ | ⟨blk, cap, cs, rfl, h2, h3, h4, h5⟩
  · refine Steps.appendA0 hE hx hl hz0 h0 (by simpa using hb) (by simpa using hm) hne fun blk cap A' hO hp => hk _ A' hO fun p hpA _ => ⟨(hp p hpA).1, fun b o n c e => ?_⟩
    cases e; exact (hp p hpA).2
  · refine Steps.appendA hE hx hl (.inr ⟨blk, cap, cs, rfl, h2, h3, h4, h5⟩) hz0 h0 hb hm hne fun blk' cap' A' hO hp => hk _ A' hO fun p hpA hoff => ?_
    have := hp p hpA (hoff _ _ _ _ rfl)
    refine ⟨this.1, fun b o n c e => ?_⟩
    cases e; exact this.2

end
end Go.Am


/-! AM, part Zt: calls that leave an arena of which something is known. -/
set_option linter.unusedVariables false
set_option linter.unusedSimpArgs false
namespace Go.Am
open Go.RowKit

/-- Constants lie outside of the arena. -/
def InKD (E : Env) (K : List (Nat × List V)) : Prop := ∀ B stp M w φ, E.S (encA B) stp M w φ → ∀ p ∈ K, p.1 ∉ B.map (·.1)

section
variable {E : Env} {S0 : Sur} {l0 : List (List V)} {s0 : Bool} {A : Arena} {stp : Bool} {σ : FSt} {a : Act} {w : World} {h : Gh}

end
end Go.Am


/-! AM, part Zv: calls that return what lies in an arena. -/
set_option linter.unusedVariables false
set_option linter.unusedSimpArgs false
namespace Go.Am
open Go.RowKit

/-- At the end of a body: of the result something is known. -/
def qRetX (P : Program) (rs : List ResultVar) (K : V → St → Prop) : Exit → St → Prop
  | .ret, s | .normal, s => ∃ r, K r s ∧ ∃ vs us ids, rs.mapM (resV P s) = some vs ∧ toDs s.fs.b vs = some (us, ids) ∧ r = packR us
  | _, _ => False

theorem Tr.retZ {E : Env} {ro : Option Nat} {Q : Exit → St → Prop} {s : St} {P : Program} {rs : List ResultVar} {K : V → St → Prop} {vs us : List V} {ids : List Nat} (hQ : Q .ret = qRetX P rs K .ret) (h : resVs P s rs = some vs) (hd : toDs s.fs.b vs = some (us, ids)) (hk : K (packR us) s) : Tr E ro .ret Q s :=
  Tr.ret (by rw [hQ]; exact ⟨_, hk, vs, us, ids, resVs_ok h, hd, rfl⟩)

theorem calls_bodyX {E : Env} {f : FuncId} {fn : Func} {c : Code} {ic : IC} (hf : E.P.funcs[f]? = some fn) (hb : fn.body = some c) (hc : compC E.P E.nt c = some ic) (hnt : fn.ntmps = E.nt) {args : List V} {xs : Array Value} {w : World} {φ : Nat → Nat} {y : Option Nat}
    (hlen : args.length ≤ E.nt) (hl : args.length = xs.size) (hrep : ∀ (i : Nat) v x, args[i]? = some v → xs[i]? = some x → Rep w φ (fun _ => none) y v x ∧ ∀ σ h, GrowV σ h w v x)
    (hS : E.S [] false (fun _ => False) w φ) (htop : ∀ b, w.heap.size ≤ b → φ b = 0) (hy : ∀ l, y = some l → Yields E.P E.S E.ys l ∧ E.lk l) {K : V → St → Prop} (hT : Tr E none ic (qRetX E.P fn.results.toList K) (entry args)) :
    Calls E.P f xs w fun e w' => ∃ (r : V) (s' : St) (h' : Gh) (x : Value), e = .returned x ∧ RepR w' h'.φ r x ∧ E.S s'.log s'.stp h'.M w' h'.φ ∧ (∀ b, w'.heap.size ≤ b → h'.φ b = 0) ∧ K r s' := by
  rw [← callsIn_wide (n := 0)]
  refine callsIn_of_wp_marks hf hb trivial ?_
  have R0 : E.rel (entry args) { tmps := xs ++ Array.replicate (fn.ntmps - xs.size) undef, defers := [] } w { φ := φ, β := fun _ => none, γ := fun _ => none, M := fun _ => False, y := ⟨y, fun _ => none⟩ } := by
    refine ⟨{ size := by simp; omega, env := fun t v hv => ?_, bx := fun i bo hb => ?_, dom := fun _ _ h => ((by cases h)), inj := fun _ _ _ h => ((by cases h)), rows := fun r n sz e hr => ?_, rdom := fun _ _ h => ((by cases h)), rinj := fun _ _ _ h => ((by cases h)), apart := fun _ _ _ h => ((by cases h)), pins := fun _ _ h => ((by cases h)), mine := fun _ h => ((by cases h)), top := htop, marks := trivial, sur := hS }, hy, fun _ h => ((by cases h))⟩
    · rw [fs_g] at hv
      obtain ⟨_, h1⟩ := get_entryL 0 args t v hv
      simp only [Nat.sub_zero] at h1
      have ht : t < args.length := (List.getElem?_eq_some_iff.1 h1).1
      have ht' : t < xs.size := by omega
      have e : (xs ++ Array.replicate (fn.ntmps - xs.size) undef).getD t undef = xs[t] := by
        simp [Array.getElem?_append_left ht', ht']
      rw [e]
      obtain ⟨h2, h3⟩ := hrep t v _ h1 (Array.getElem?_eq_getElem ht')
      exact ⟨by omega, h2, h3 _ _⟩
    · rw [fs_b] at hb; simp [entry, get] at hb
    · rw [fs_r] at hr; simp [entry, get] at hr
  refine hT c hc 0 _ w _ R0 _ fun e s' a' w' h' k R' ey => ?_
  have fin : (∃ r, K r s' ∧ ∃ vs us ids, fn.results.toList.mapM (resV E.P s') = some vs ∧ toDs s'.fs.b vs = some (us, ids) ∧ r = packR us) → LeavesInM Fence.wide 0 E.P fn a'.tmps
      (fun e w' => ∃ (r : V) (s' : St) (h' : Gh) (x : Value), e = .returned x ∧ RepR w' h'.φ r x ∧ E.S s'.log s'.stp h'.M w' h'.φ ∧ (∀ b, w'.heap.size ≤ b → h'.φ b = 0) ∧ K r s') a'.defers .returning w' := by
    rintro ⟨_, hk, vs, us, ids, e1, e2, rfl⟩
    refine leave a'.defers a' w' rfl R' fun a2 w2 ht R2 => ?_
    -- the values of the results
    have hx : ∃ xs : List Value, vs.length = xs.length ∧ fn.results.toList.length = xs.length ∧ (∀ (i : Nat) r x, fn.results.toList[i]? = some r → xs[i]? = some x → (match r with | .tmp t => (pure (a2.tmps.getD t undef) : Sem Value) | .cell b t => do loadVar t (← asAddr (a2.tmps.getD b undef))).run E.P w2 = .ok x w2) ∧
        (∀ (i : Nat) v x, vs[i]? = some v → xs[i]? = some x → Rep w2 h'.φ h'.β h'.y.l v x) := by
      clear e2
      generalize fn.results.toList = rl at e1
      induction rl generalizing vs with
      | nil => simp at e1; subst e1; exact ⟨[], rfl, rfl, fun i r x h => by simp at h, fun i r x h => by simp at h⟩
      | cons rv rl ih =>
        simp only [List.mapM_cons, Option.bind_eq_bind, Option.bind_eq_some_iff, Option.pure_def, Option.some.injEq] at e1
        obtain ⟨v, hv, vs', hvs, rfl⟩ := e1
        obtain ⟨x, hx1, hx2⟩ := resV_ok R2 hv
        obtain ⟨xs, l1, l2, l3, l4⟩ := ih vs' hvs
        refine ⟨x :: xs, by simp [l1], by simp [l2], fun i r z h1 h2 => ?_, fun i v z h1 h2 => ?_⟩
        · cases i with
          | zero => simp at h1 h2; subst h1 h2; exact hx1
          | succ i => simp at h1 h2; exact l3 i r z h1 h2
        · cases i with
          | zero => simp at h1 h2; subst h1 h2; exact hx2
          | succ i => simp at h1 h2; exact l4 i v z h1 h2
    obtain ⟨xs, l1, l2, l3, l4⟩ := hx
    obtain ⟨h3, R3, ext, q1, q2, q3, hrepL⟩ := args_data R2.1 e2
    have hL := hrepL xs.toArray (by simpa using l1) (fun i v x h1 h2 => l4 i v x h1 (by simpa using h2))
    have hrun := run_results (P := E.P) (w := w2) (fn := fn) (tmps := a2.tmps) l2 l3
    rw [ht] at hrun
    refine ⟨_, hrun, _, s', h3, _, rfl, ?_, R3.sur, R3.top, hk⟩
    obtain ⟨m1, m2⟩ := hL
    cases us with
    | nil =>
      cases xs with
      | nil => exact .tuple [] #[] rfl (fun i v x h => by simp at h)
      | cons x xs => simp at m1
    | cons u us =>
      cases xs with
      | nil => simp at m1
      | cons x xs =>
        cases us with
        | nil =>
          cases xs with
          | nil => exact .data (m2 0 u x rfl rfl)
          | cons y xs => simp at m1
        | cons u2 us =>
          cases xs with
          | nil => simp at m1
          | cons y xs => exact .tuple _ _ (by simpa using m1) (fun i v z h1 h2 => m2 i v z h1 h2)
  cases e with
  | normal => exact fin k
  | ret => exact fin k
  | _ => exact k.elim

/-- **A CONTRACT OVER AN ARENA, OF WHICH AND OF THE RESULT SOMETHING IS KNOWN THEN**. -/
def CX (P : Program) (f : FuncId) (A : Arena) (K : List (Nat × List V)) (args : List V) (Φ : V → Arena → Prop) : Prop :=
  callable P f = true ∧ ∀ (w : World) (φ : Nat → Nat) (xs : Array Value), (∀ b, w.heap.size ≤ b → φ b = 0) → Gl w φ → Ar w φ (fun _ => False) A → Kons w φ K → (∀ p ∈ K, p.1 ∉ A.map (·.1)) → RepL w φ args xs →
    Calls P f xs w fun e w' => ∃ φ' x r B, Φ r B ∧ e = .returned x ∧ RepR w' φ' r x ∧ Ar w' φ' (fun _ => False) B ∧ Moved (fun b => b ∈ A.map (·.1)) w φ (fun b => b ∈ B.map (·.1)) w' φ'

theorem CX_of {P : Program} {f nt : Nat} {ic : IC} {rs : List ResultVar} (hmix : P.follows .mixedOrders = true) (hch : chkF P f = some (nt, ic, rs)) {A : Arena} {K : List (Nat × List V)} {args : List V} {Φ : V → Arena → Prop} (hlen : args.length ≤ nt)
    (hT : ∀ (S : Sur) (ok : S.ok) (S1 : Sur), InA (env0 P hmix nt S ok) S1 [] false → InK (env0 P hmix nt S ok) K → InKD (env0 P hmix nt S ok) K → Tr (env0 P hmix nt S ok) none ic (qRetX P rs fun r s => ∃ B, s.log = encA B ∧ Φ r B) { entry args with log := encA A }) : CX P f A K args Φ := by
  obtain ⟨fn, c, hf, hb, hnt, hc, rfl, hcall⟩ := chkF_ok hch
  refine ⟨hcall, fun w φ xs htop hgl hA hK hKA hrep => ?_⟩
  have okI := SQ_ok w φ A hgl
  have hInK : InK (env0 P hmix nt (SA (SQ w φ A) [] false) (SA_ok okI [] false)) K := by
    rintro log stp M w' φ' ⟨B', _, _, _, hm⟩ p hp
    obtain ⟨h1, h2⟩ := hK p hp
    have := hm.old p.1 h2 (hKA p hp)
    exact ⟨h1.mono this.1 hm.ext, Nat.lt_of_lt_of_le h2 hm.size⟩
  have hKD : InKD (env0 P hmix nt (SA (SQ w φ A) [] false) (SA_ok okI [] false)) K := by
    rintro B stp M w' φ' ⟨B', e, _, _, hm⟩ p hp hb
    obtain rfl := encA_inj e
    rcases hm.mine p.1 (.inr hb) with h | h
    · exact hKA p hp h
    · have := (hK p hp).2; omega
  have hT1 := hT (SA (SQ w φ A) [] false) (SA_ok okI [] false) (SQ w φ A) (⟨Sub.refl _, okI⟩) hInK hKD
  have e0 : (fun b => False ∨ b ∈ A.map (·.1)) = fun b => b ∈ A.map (·.1) := by funext b; simp
  have hT2 : Tr (env0 P hmix nt (SQ1 w φ A) (SQ1_ok w φ A hgl)) none ic (qRetX P fn.results.toList fun r s => ∃ B, s.log = encA B ∧ Φ r B) (entry args) := by
    intro c hc n a w1 g R Q' hq
    obtain ⟨B0, h1, h2, h3, h4⟩ := R.1.sur
    have hB0 : B0 = A := by
      rcases h1 with ⟨_, h⟩ | h
      · exact h
      · exact absurd h.symm (encA_ne _)
    subst hB0
    have R1 : (env0 P hmix nt (SA (SQ w φ B0) [] false) (SA_ok okI [] false)).rel { entry args with log := encA B0 } a w1 g := by
      refine ⟨{ R.1 with sur := ⟨B0, rfl, rfl, h3, h4⟩ }, fun l hl => ⟨?_, trivial⟩, R.2.2⟩
      intro log x M w φ xs hp
      exact False.elim hp
    refine hT1 c hc n a w1 g R1 Q' fun e t a' w' h' hQ R' hy => ?_
    refine hq e t a' w' h' hQ ?_ hy
    obtain ⟨B', k1, k2, k3, k4⟩ := R'.1.sur
    refine ⟨{ R'.1 with sur := ⟨B', .inr k1, k2, k3, k4⟩ }, fun l hl => ⟨?_, trivial⟩, R'.2.2⟩
    intro log x M w φ xs hp
    exact False.elim hp
  refine (calls_bodyX (E := env0 P hmix nt (SQ1 w φ A) (SQ1_ok w φ A hgl)) (φ := φ) (y := none) hf hb hc hnt hlen hrep.1 (fun i v x h1 h2 => ⟨.data (hrep.2 i v x h1 h2), fun σ h => GrowV.of_data (hrep.2 i v x h1 h2)⟩)
    ⟨A, .inl ⟨rfl, rfl⟩, rfl, hA, by rw [e0]; exact Moved.refl _ htop⟩ htop (fun _ h => ((by cases h))) hT2).mono ?_
  rintro e w' ⟨r, s', h', x, rfl, hr, ⟨B', k1, k2, k3, k4⟩, ht, hk⟩
  obtain ⟨B, hk, hΦ⟩ := hk
  have hB : B' = B := by
    rw [hk] at k1
    rcases k1 with ⟨h, _⟩ | h
    · exact absurd h (encA_ne _)
    · exact (encA_inj h).symm
  subst hB
  exact ⟨h'.φ, x, r, B', hΦ, rfl, hr, ⟨k3.nd, k3.ok, fun _ _ h => h, k3.lt, k3.z⟩, ⟨k4.ext, k4.old, k4.size, k4.os, k4.tape, k4.output, fun b hb => k4.mine b (.inr hb), k4.top⟩⟩

section
variable {E : Env} {S0 : Sur} {l0 : List (List V)} {s0 : Bool} {A : Arena} {stp : Bool} {σ : FSt} {a : Act} {w : World} {h : Gh}

/-- A call over an arena. -/
theorem wp_callX (hE : InA E S0 l0 s0) {F A1 : Arena} {K : List (Nat × List V)} {ro : Option Nat} {n i : Nat} {ops : Array Oper} {slots : List (Option Nat)} {o : Oper} {ins : Ins} (R : E.relF (encA (F ++ A1)) stp σ a w h) {f : FuncId} {vs us : List V} {ids : List Nat} {Φ : V → Arena → Prop} {os : List Operand} (cc : Comp E.P E.nt slots o ins os) (hd : toDs σ.b vs = some (us, ids)) (hC : CX E.P f A1 K us Φ)
    (hK : ∀ h', E.relF (encA (F ++ A1)) stp ((freeze σ.b ids).foldl (fun τ p => τ.set (.bx p.1) (.b p.2)) σ) a w h' → Kons w h'.φ K) (hKA : ∀ p ∈ K, p.1 ∉ A1.map (·.1)) (xs : Array Value) (hl : vs.length = xs.size)
    (hr : ∀ (i : Nat) v x, vs[i]? = some v → xs[i]? = some x → Rep w h.φ h.β h.y.l v x) (hi : ops[i]? = some o) (hw : Region.wanted o (yielded ops a.tmps) = true) (hrun : (execOp a.eval o).run E.P w = .ok (.enter f xs) w)
    {Q : Exit → Act → World → Prop} {next : Act → World → Prop} (hn : ∀ r B, Φ r B → ∀ a' w' h', E.relF (encA (F ++ B)) stp ((σ.eff { v := r, wb := freeze σ.b ids }).put ins.d r) a' w' h' → h'.y = h.y → next a' w') : wpOpIn (wideR ro) n E.P ops Q i next a w := by
  unfold wpOpIn
  simp only [hi, hw, if_true, Oper.wpIn]
  refine ⟨fun _ _ => trivial, ?_⟩
  rw [Oper.semAt_eq _ _ _ (opK_defer cc.op), hrun]
  simp only [Oper.uponIn]
  refine ⟨fun e => by simp [wideR, Fence.wide] at e, ?_⟩
  obtain ⟨h1, R1, ext1, q1, q2, q3, hrep⟩ := args_data R.1 hd
  have R1' : E.relF (encA (F ++ A1)) stp ((freeze σ.b ids).foldl (fun τ p => τ.set (.bx p.1) (.b p.2)) σ) a w h1 := ⟨R1, by rw [q3]; exact R.2⟩
  have hAr := hE.ar R1'
  have hnd := hAr.nd
  rw [List.map_append, List.nodup_append] at hnd
  have arA : Ar w h1.φ (fun _ => False) A1 := ⟨hnd.2.1, fun p hp => hAr.ok p (List.mem_append.2 (.inr hp)), fun _ _ h => h, fun p hp => hAr.lt p (List.mem_append.2 (.inr hp)), fun p hp => hAr.z p (List.mem_append.2 (.inr hp))⟩
  refine (callsIn_wideR (hC.2 w h1.φ xs R1.top (E.ok.gl _ _ _ _ _ R1.sur) arA (hK h1 R1') hKA (hrep xs hl hr))).mono ?_
  rintro e w' ⟨φ', x, r, B, hΦ, rfl, hres, hB, hm⟩
  have R2 := hE.moved R1' hm hB
  have hx : Rep w' φ' h1.β h1.y.l r x ∧ ∀ σ h w0, GrowV σ h w0 r x := by
    cases hres with
    | data hh => exact ⟨.data hh, fun σ h w0 => GrowV.of_data hh⟩
    | tuple vs xs hl hh =>
      refine ⟨.tuple vs xs hl hh, fun σ h w0 j u z hu hz => ?_⟩
      cases j with
      | zero => simp [cells] at hu; subst hu; intro r' sz xs' e; cases e
      | succ j => simp [cells] at hu
  have fin : Ok (σ.eff { v := r, wb := freeze σ.b ids }) { h1 with φ := φ' } w' r x := ⟨hx.1, hx.2 _ _ _⟩
  refine hn r B hΦ _ _ { h1 with φ := φ' } ⟨?_, ?_⟩ (by simpa using q3)
  · rw [cc.d]
    cases hd : o.dst with
    | none => exact R2.1
    | some d => exact R2.1.put (cc.dst d hd) fin.1 fin.2
  · exact R2.2

theorem Steps.callX (hE : InA E S0 l0 s0) {K : St → Prop} {Ks : List (Nat × List V)} {s : St} {d : Option Nat} {f : FuncId} {xs : List X} {rest : List Ins} {vs us : List V} {ids : List Nat} {Φ : V → Arena → Prop} {F A1 : Arena} (hx : evXs s.env xs = some vs) (hd : toDs s.fs.b vs = some (us, ids)) (hl : s.log = encA (F ++ A1))
    (hC : CX E.P f A1 Ks us Φ) (hKs : (∀ p ∈ Ks, (p.1, Ob.cells p.2) ∈ F) ∨ InK E Ks ∧ ∀ p ∈ Ks, p.1 ∉ A1.map (·.1))
    (hk : ∀ r B, Φ r B → Steps E rest K { (s.eff { v := r, wb := freeze s.fs.b ids }).put d r with log := encA (F ++ B) }) : Steps E (⟨d, .call f, xs, none⟩ :: rest) K s := by
  refine Step1.raw fun slots ops o i ro n a w h hc hs hi R Q next hn => ?_
  obtain ⟨os, cc⟩ := comp_of hc
  have hgo := guard_none cc rfl
  obtain ⟨c, e1, e2, rfl⟩ := opK_call cc.op
  have R' : E.relF (encA (F ++ A1)) s.stp s.fs a w h := by rw [← hl]; exact R
  have hAr := hE.ar R'
  have hnd := hAr.nd
  rw [List.map_append, List.nodup_append] at hnd
  obtain ⟨l1, l2⟩ := opds_args (opds_of R.1 cc.xs (evXs_ok hx))
  refine wp_callX hE R' cc hd hC (fun h' R1 => ?_) (fun p hp => ?_) _ l1 l2 hi (wanted_none hgo) (run_call hC.1 e2 e1) fun r B hΦ a' w' h' R2 hy => hn _ a' w' h' (hk r B hΦ) ?_ hy
  · rcases hKs with hKs | hKs
    · intro p hp
      have := (hE.ar R1)
      exact ⟨this.ok _ (List.mem_append.2 (.inl (hKs p hp))), this.lt _ (List.mem_append.2 (.inl (hKs p hp)))⟩
    · exact hKs.1 _ _ _ _ _ R1.1.sur
  · rcases hKs with hKs | hKs
    · exact fun h => hnd.2.2 _ (List.mem_map.2 ⟨_, hKs p hp, rfl⟩) _ h rfl
    · exact hKs.2 p hp
  · show E.relF _ _ _ _ _ _
    have e : ({ (s.eff { v := r, wb := freeze s.fs.b ids }).put d r with log := encA (F ++ B) } : St).fs = ((s.fs.eff { v := r, wb := freeze s.fs.b ids }).put d r) := by
      cases d with
      | none => exact fs_eff s _
      | some d => show ((s.eff _).put (some d) r).fs = _; rw [fs_put, fs_eff]; rfl
    have e2 : ({ (s.eff { v := r, wb := freeze s.fs.b ids }).put d r with log := encA (F ++ B) } : St).stp = s.stp := by
      show ((s.eff _).put d r).stp = _
      rw [(put_log _ _ _).2, (eff_log _ _).2]
    rw [e, e2]
    exact R2


end
end Go.Am


/-! AM, part Zz: bytes and parts of strings. -/
set_option linter.unusedVariables false
set_option linter.unusedSimpArgs false
namespace Go.Am
open Go.RowKit

section
variable {P : Program}

theorem eqKind_tag {op : BinOp} {t : TypeId} {x y : Operand} {k : K} {os : List Operand} (h : eqKind P op t x y = some (k, os)) : tagOf k < 9 := by
  unfold eqKind at h
  split at h
  · split at h
    · cases h; simp [tagOf]
    · cases h
  · split at h
    · cases h; simp [tagOf]
    · cases h
  · cases h; simp [tagOf]
  · cases h; simp [tagOf]
  · cases h; simp [tagOf]
  · cases h; simp [tagOf]
  · cases h

theorem opK0_tag {o : Op} {k : K} {os : List Operand} (h : opK0 P o = some (k, os)) : tagOf k < 9 := by
  cases o <;> simp only [opK0] at h <;> (try (cases h; done)) <;> (try (repeat' (split at h <;> (try (cases h; done)))))
  all_goals first
    | (cases h; simp [tagOf]; done)
    | (simp only [Option.map_eq_some_iff, Prod.mk.injEq] at h; obtain ⟨_, _, rfl, _⟩ := h; simp [tagOf]; done)
    | (simp only [Option.some.injEq, Prod.mk.injEq] at h; obtain ⟨rfl, _⟩ := h; simp [tagOf]; done)
    | exact eqKind_tag h

theorem opKr_of {o : Op} {k : K} {os : List Operand} (h : opK P o = some (k, os)) (ht : 9 ≤ tagOf k) : opKr P o = some (k, os) := by
  rcases opK_split h with h | h
  · have := opK0_tag h; omega
  · exact h

theorem opK_raw9 {o : Op} {t u : Nat} {os : List Operand} (h : opK P o = some (.raw 9 t u, os)) : ∃ x i, o = .index t x i ∧ P.underlying t = some .string ∧ os = [x, i] := by
  have h := opKr_of h (by simp [tagOf])
  cases o <;> simp only [opKr] at h <;> (try (cases h; done)) <;> (try (repeat' (split at h <;> (try (cases h; done)))))
  all_goals first
    | (cases h; exact ⟨_, _, rfl, by assumption, rfl⟩)
    | (simp at h; done)
    | contradiction

theorem opK_raw10 {o : Op} {t f : Nat} {os : List Operand} (h : opK P o = some (.raw 10 f t, os)) : ∃ x lo hi, o = .slice t x lo hi none ∧ P.underlying t = some .string ∧ f = lo.toList.length + 2 * hi.toList.length ∧ os = x :: (lo.toList ++ hi.toList) := by
  have h := opKr_of h (by simp [tagOf])
  unfold opKr at h
  split at h
  · split at h <;> simp at h
  · split at h
    · rename_i hu
      simp only [Option.some.injEq, Prod.mk.injEq, K.raw.injEq, true_and] at h
      obtain ⟨⟨rfl, rfl⟩, rfl⟩ := h
      exact ⟨_, _, _, rfl, hu, rfl, rfl⟩
    · cases h
  all_goals first
    | (simp at h; done)
    | (split at h <;> first | (simp at h; done) | (split at h <;> simp at h))

end

section
variable {E : Env} {σ : FSt}

/-- A byte of a string. -/
theorem does_stridx {d t u : Nat} {x y : X} {k : IntKind} {l : List UInt8} {i : Int} {j : Nat} (hx : [x, y].mapM (evX σ) = some [.str ⟨l.toArray⟩, .int k i]) (hi : i = (j : Int)) (hj : j < l.length) : Does E σ ⟨some d, .raw 9 t u, [x, y], none⟩ { v := .int .u8 l[j].toNat } (xslots [x, y]) := by
  subst hi
  refine .ext rfl hx fun o os log stp σ' a w h ho R hO => ?_
  obtain ⟨p, q, e, e1, rfl⟩ := opK_raw9 ho
  obtain ⟨v1, v2, huv, hu, hv'⟩ := hO.two
  cases huv
  refine ⟨.int .u8 l[j].toNat, ?_, .data (.int _ _), GrowV.of_data (w0 := w) (φ0 := h.φ) (.int _ _)⟩
  have h2 : (⟨l.toArray⟩ : ByteArray)[j]? = some l[j] := by
    have : j < (⟨l.toArray⟩ : ByteArray).size := by simpa [ByteArray.size] using hj
    rw [getElem?_pos _ j this]; rfl
  simp only [execOp, e, ok_str hu, ok_int hv']
  simp [Instr.index, asIntOf, run_underlying e1, h2]

theorem Steps.stridx {s : St} {K : St → Prop} {d t u : Nat} {k : IntKind} {l : List UInt8} {i : Int} {j : Nat} {x y : X} {rest : List Ins} (hx : evXs s.env [x, y] = some [.str ⟨l.toArray⟩, .int k i]) (hi : i = (j : Int)) (hj : j < l.length) (hk : Steps E rest K (s.put (some d) (.int .u8 l[j].toNat))) : Steps E (⟨some d, .raw 9 t u, [x, y], none⟩ :: rest) K s :=
  Step1.does (ins := ⟨some d, .raw 9 t u, [x, y], none⟩) (does_stridx (evXs_ok hx) hi hj) hk

theorem TraceK.stridx {s : St} {K : List (List Loc × List Loc) → St → List Ins → Prop} {d t u : Nat} {k : IntKind} {l : List UInt8} {i : Int} {j : Nat} {x y : X} {rest : List Ins} (hx : evXs s.env [x, y] = some [.str ⟨l.toArray⟩, .int k i]) (hi : i = (j : Int)) (hj : j < l.length)
    (tr : TraceK E (s.put (some d) (.int .u8 l[j].toNat)) rest fun fp s' r' => K (([.slot d], xslots [x, y]) :: fp) s' r') : TraceK E s (⟨some d, .raw 9 t u, [x, y], none⟩ :: rest) K :=
  .step (ins := ⟨some d, .raw 9 t u, [x, y], none⟩) (eff := { v := .int .u8 l[j].toNat }) (does_stridx (evXs_ok hx) hi hj) tr

theorem str_extract (l : List UInt8) (a b : Nat) : (⟨l.toArray⟩ : ByteArray).extract a b = ⟨((l.take b).drop a).toArray⟩ := by
  apply ByteArray.ext
  rw [ByteArray.data_extract]
  apply Array.ext'
  simp [List.drop_take]

/-- A part of a string. -/
theorem does_strsl {d t : Nat} {x y z : X} {k1 k2 : IntKind} {l : List UInt8} {i j : Int} {a b : Nat} (hx : [x, y, z].mapM (evX σ) = some [.str ⟨l.toArray⟩, .int k1 i, .int k2 j]) (hi : i = (a : Int)) (hj : j = (b : Int)) (hab : a ≤ b) (hb : b ≤ l.length) :
    Does E σ ⟨some d, .raw 10 3 t, [x, y, z], none⟩ { v := .str ⟨((l.take b).drop a).toArray⟩ } (xslots [x, y, z]) := by
  subst hi hj
  refine .ext rfl hx fun o os log stp σ' a' w h ho R hO => ?_
  obtain ⟨p, lo, hi, e, e1, ef, rfl⟩ := opK_raw10 ho
  cases lo with
  | none => cases hi <;> simp at ef
  | some lo =>
    cases hi with
    | none => simp at ef
    | some hi =>
      obtain ⟨v1, v2, v3, huv, hu, hv', hw'⟩ := Opds.three hO
      cases huv
      refine ⟨.string ⟨((l.take b).drop a).toArray⟩, ?_, .data (.str _), GrowV.of_data (w0 := w) (φ0 := h.φ) (.str _)⟩
      have hs : (⟨l.toArray⟩ : ByteArray).size = l.length := by simp [ByteArray.size]
      have h1 : b ≤ (⟨l.toArray⟩ : ByteArray).size := by rw [hs]; exact hb
      simp only [execOp, e, ok_str hu, ok_int hv', ok_int hw', Option.map_some]
      simp [Instr.sliceAt, Instr.slice, Instr.sliceBounds, Instr.sliceBound, asIntOf, run_underlying e1, h1, hab, str_extract]

theorem Steps.strsl {s : St} {K : St → Prop} {d t : Nat} {k1 k2 : IntKind} {l : List UInt8} {i j : Int} {a b : Nat} {x y z : X} {rest : List Ins} (hx : evXs s.env [x, y, z] = some [.str ⟨l.toArray⟩, .int k1 i, .int k2 j]) (hi : i = (a : Int)) (hj : j = (b : Int)) (hab : a ≤ b) (hb : b ≤ l.length)
    (hk : Steps E rest K (s.put (some d) (.str ⟨((l.take b).drop a).toArray⟩))) : Steps E (⟨some d, .raw 10 3 t, [x, y, z], none⟩ :: rest) K s :=
  Step1.does (ins := ⟨some d, .raw 10 3 t, [x, y, z], none⟩) (does_strsl (evXs_ok hx) hi hj hab hb) hk

theorem TraceK.strsl {s : St} {K : List (List Loc × List Loc) → St → List Ins → Prop} {d t : Nat} {k1 k2 : IntKind} {l : List UInt8} {i j : Int} {a b : Nat} {x y z : X} {rest : List Ins} (hx : evXs s.env [x, y, z] = some [.str ⟨l.toArray⟩, .int k1 i, .int k2 j]) (hi : i = (a : Int)) (hj : j = (b : Int)) (hab : a ≤ b) (hb : b ≤ l.length)
    (tr : TraceK E (s.put (some d) (.str ⟨((l.take b).drop a).toArray⟩)) rest fun fp s' r' => K (([.slot d], xslots [x, y, z]) :: fp) s' r') : TraceK E s (⟨some d, .raw 10 3 t, [x, y, z], none⟩ :: rest) K :=
  .step (ins := ⟨some d, .raw 10 3 t, [x, y, z], none⟩) (eff := { v := .str ⟨((l.take b).drop a).toArray⟩ }) (does_strsl (evXs_ok hx) hi hj hab hb) tr

end
end Go.Am


/-! The tape: samples, bytes, the check of bytes. -/
set_option linter.unusedVariables false
set_option linter.unusedSimpArgs false
set_option maxRecDepth 40000
set_option maxHeartbeats 4000000
namespace Go.Proofs.YtggifklgpdladaaGreat
open Go.Am
attribute [local simp] cells scalar mkv splice under2 under dem dem1
def strV (l : List UInt8) : V := .str ⟨l.toArray⟩
def byV (b : UInt8) : V := .int .u8 b.toNat
def bysV (l : List UInt8) : V := .slice 0 1 (l.map byV)

def knownB (n : Int) : Bool := btw n (-32767) 32767
def sampB (n : Int) : Bool := knownB n || (n == 40000 || n == 40001)

theorem c_twithinT (n lo hi : Int) : C Tryz.prog F.tape_within [I n, I lo, I hi] (.bool (btw n lo hi)) := by
  refine C_of mixed chk.tape_within (by simp) fun S ok => ?_
  refine Tr.seqR rfl (by simp) ?_
  refine Tr.seqR rfl (by simp) ?_
  refine Tr.retQ rfl rfl ?_ trivial
  simp [packR, btw]

theorem c_knownT (n : Int) : C Tryz.prog F.tape_known [I n] (.bool (knownB n)) := by
  refine C_of mixed chk.tape_known (by simp) fun S ok => ?_
  exact Tr.seqR rfl (by simp) (Tr.seqC rfl (by simp) (Steps.call rfl rfl (c_twithinT n _ _) (Steps.fin rfl (by simp) (Tr.retX rfl rfl rfl rfl trivial))))

theorem c_sampleT (n : Int) : C Tryz.prog F.tape_sample [I n] (.bool (sampB n)) := by
  refine C_of mixed chk.tape_sample (by simp) fun S ok => ?_
  refine Tr.seqR rfl (by simp) (Tr.seqC rfl (by simp) (Steps.call rfl rfl (c_knownT n) (Steps.fin rfl (by simp) (Tr.retX rfl rfl rfl ?_ trivial))))
  show V.bool (sampB n) = V.bool (bif (bif knownB n then true else n == 40000) then true else n == 40001)
  unfold sampB
  cases knownB n <;> cases (n == 40000) <;> rfl

theorem c_must : C Tryz.prog F.tape_must [.bool true] (.tuple []) := by
  refine C_of mixed chk.tape_must (by simp) fun S ok => ?_
  exact Tr.seqR rfl (by simp) (Tr.condF rfl (Tr.skip ⟨trivial, _, _, _, resVs_ok rfl, rfl, rfl⟩))

/-! ### The check of bytes -/
def crc1 (c : Nat) : Nat := if 65535 < 2 * c then ((2 * c) &&& 65535) ^^^ 4129 else 2 * c
def crcI (c : Nat) : Nat → Nat
  | 0 => c
  | j + 1 => crc1 (crcI c j)
def crcB (c : Nat) (b : UInt8) : Nat := crcI (c ^^^ (b.toNat * 256)) 8
def crcN (l : List UInt8) : Nat := l.foldl crcB 65535

theorem crc1_lt {c : Nat} (h : c < 65536) : crc1 c < 65536 := by
  unfold crc1
  split
  · have h1 : (2 * c) &&& 65535 < 2 ^ 16 := Nat.and_lt_two_pow _ (by decide)
    exact Nat.xor_lt_two_pow h1 (by decide)
  · omega
theorem crcI_lt {c : Nat} (h : c < 65536) : ∀ j, crcI c j < 65536
  | 0 => h
  | j + 1 => crc1_lt (crcI_lt h j)
theorem crcX_lt {c : Nat} (h : c < 65536) (b : UInt8) : c ^^^ (b.toNat * 256) < 65536 := by
  have hb := b.toNat_lt
  exact Nat.xor_lt_two_pow (n := 16) (by simpa using h) (by simp at hb ⊢; omega)
theorem crcB_eq (c : Nat) (b : UInt8) : crcB c b = crcI (c ^^^ (b.toNat * 256)) 8 := rfl
theorem crcB_lt {c : Nat} (h : c < 65536) (b : UInt8) : crcB c b < 65536 := crcI_lt (crcX_lt h b) 8
attribute [irreducible] crcB
theorem crcF_lt (l : List UInt8) : ∀ c, c < 65536 → l.foldl crcB c < 65536 := by
  induction l with
  | nil => intro c h; exact h
  | cons b l ih => intro c h; rw [List.foldl_cons]; exact ih _ (crcB_lt h b)
theorem crcN_lt (l : List UInt8) : crcN l < 65536 := crcF_lt l _ (by omega)

theorem bits_xor (a b : Nat) (ha : a < 2 ^ 62) (hb : b < 2 ^ 62) : bitsV .xor .i64 a b = ((a ^^^ b : Nat) : Int) := by
  have hlt : a ^^^ b < 2 ^ 62 := Nat.xor_lt_two_pow ha hb
  show IntKind.wrap .i64 ((BitVec.ofInt 64 (a : Int) ^^^ BitVec.ofInt 64 (b : Int)).toNat : Int) = _
  have e : (BitVec.ofInt 64 (a : Int) ^^^ BitVec.ofInt 64 (b : Int)).toNat = a ^^^ b := by
    rw [BitVec.toNat_xor, BitVec.ofInt_natCast, BitVec.ofInt_natCast, BitVec.toNat_ofNat, BitVec.toNat_ofNat, Nat.mod_eq_of_lt (by omega), Nat.mod_eq_of_lt (by omega)]
  rw [e, w64 (by omega) (by omega)]
theorem bits_andT (a b : Nat) (ha : a < 2 ^ 62) (hb : b < 2 ^ 62) : bitsV .and .i64 a b = ((a &&& b : Nat) : Int) := by
  have hlt : a &&& b < 2 ^ 62 := Nat.lt_of_le_of_lt Nat.and_le_left ha
  show IntKind.wrap .i64 ((BitVec.ofInt 64 (a : Int) &&& BitVec.ofInt 64 (b : Int)).toNat : Int) = _
  have e : (BitVec.ofInt 64 (a : Int) &&& BitVec.ofInt 64 (b : Int)).toNat = a &&& b := by
    rw [BitVec.toNat_and, BitVec.ofInt_natCast, BitVec.ofInt_natCast, BitVec.toNat_ofNat, BitVec.toNat_ofNat, Nat.mod_eq_of_lt (by omega), Nat.mod_eq_of_lt (by omega)]
  rw [e, w64 (by omega) (by omega)]

theorem c_Crc {l : List UInt8} (hl : l.length ≤ 65536) : C Tryz.prog F.tape_Crc [strV l] (I (crcN l : Nat)) := by
  have hsz : (⟨l.toArray⟩ : ByteArray).size = l.length := by simp [ByteArray.size]
  refine C_of mixed chk.tape_Crc (by simp) fun S ok => ?_
  refine Tr.seqR rfl (by simp) (Tr.seqR rfl (by simp) (Tr.seq (Tr.seqR rfl (by simp) (Tr.block ?_))))
  refine Tr.loop (fun (k : Nat) st => k ≤ l.length ∧ st = { env := [(0, strV l), (3, I ((l.take k).foldl crcB 65535 : Nat)), (6, I (l.length : Nat)), (7, I (k : Nat))], bx := [], rw := [], log := [], stp := false }) (fun k => l.length - k) 0
    (Wk.le (.cons rfl (.refl _) (.cons rfl (.refl _) (.cons rfl (VLe.i (by show ((⟨l.toArray⟩ : ByteArray).size : Int) = _; rw [hsz])) (.cons rfl (.refl _) .nil)))) .nil .nil rfl rfl) ⟨by omega, rfl⟩ ?_
  rintro k st ⟨hk, rfl⟩
  refine Tr.seqR rfl (by simp) (Tr.seqI rfl (fun h1 => ?_) (fun h1 => ?_))
  rotate_left
  · have h1 : k = l.length := by simp at h1; omega
    subst h1
    rw [List.take_length]
    exact Tr.exit (Tr.seqR rfl (by simp) (Tr.retX rfl rfl rfl rfl trivial))
  have h1 : k < l.length := by simpa using h1
  have hclt := crcF_lt (l.take k) 65535 (by omega)
  have hsuc : (l.take (k + 1)).foldl crcB 65535 = crcB ((l.take k).foldl crcB 65535) l[k] := by
    rw [List.take_add_one, List.getElem?_eq_getElem h1, List.foldl_append]; rfl
  obtain ⟨c, hc⟩ : ∃ c, (l.take k).foldl crcB 65535 = c := ⟨_, rfl⟩
  rw [hc] at hclt hsuc ⊢
  obtain ⟨b, hb⟩ : ∃ b, l[k] = b := ⟨_, rfl⟩
  have hbl := b.toNat_lt
  have hxl := crcX_lt hclt b
  refine Tr.skipT (Tr.seq (Tr.block (Tr.seqR rfl (by simp) (Tr.seq (Tr.reg (Steps.runN 3 rfl (by simp) (Steps.stridx (l := l) (j := k) rfl rfl h1 ?_)))))))
  rw [hb] at hsuc ⊢
  refine Steps.fin rfl (by simp) ?_
  have e1 : IntKind.wrap .i64 (IntKind.wrap .i64 ((b.toNat : Nat) : Int) * 2 ^ (min (8 : Int).toNat IntKind.i64.bits)) = ((b.toNat * 256 : Nat) : Int) := by
    show IntKind.wrap .i64 (IntKind.wrap .i64 ((b.toNat : Nat) : Int) * 256) = _
    rw [w64 (n := ((b.toNat : Nat) : Int)) (by omega) (by omega), w64 (by omega) (by omega)]; omega
  have e2 : bitsV .xor .i64 (c : Int) (IntKind.wrap .i64 (IntKind.wrap .i64 ((b.toNat : Nat) : Int) * 2 ^ (min (8 : Int).toNat IntKind.i64.bits))) = ((c ^^^ (b.toNat * 256) : Nat) : Int) := by
    rw [e1]; exact bits_xor _ _ (by omega) (by omega)
  obtain ⟨x, hx⟩ : ∃ x, c ^^^ (b.toNat * 256) = x := ⟨_, rfl⟩
  rw [hx] at e2 hxl
  have hcB : crcB c b = crcI x 8 := by rw [crcB_eq, hx]
  refine Tr.seqR rfl (by simp) (Tr.block ?_)
  refine Tr.loop (fun (j : Nat) st => j ≤ 8 ∧ st = { env := [(0, strV l), (3, I (crcI x j : Nat)), (6, I (l.length : Nat)), (7, I (k : Nat)), (17, I (j : Nat))], bx := [], rw := [], log := [], stp := false }) (fun j => 8 - j) 0
    (Wk.le (.cons rfl (.refl _) (.cons rfl (VLe.i e2) (.cons rfl (.refl _) (.cons rfl (.refl _) (.cons rfl (.refl _) .nil))))) .nil .nil rfl rfl) ⟨by omega, rfl⟩ ?_
  rintro j st ⟨hj, rfl⟩
  refine Tr.seqR rfl (by simp) (Tr.seqI rfl (fun h2 => ?_) (fun h2 => ?_))
  rotate_left
  · have h2 : j = 8 := by simp at h2; omega
    subst h2
    refine Tr.exit (Tr.regR rfl (by simp) ?_)
    exact ⟨k + 1, _, Wk.le (.cons rfl (.refl _) (.cons rfl (VLe.i (by rw [hsuc, hcB])) (.cons rfl (.refl _) (.cons rfl (VLe.i (w64 (by omega) (by omega))) .nil)))) .nil .nil rfl rfl, ⟨h1, rfl⟩, by omega⟩
  have h2 : j < 8 := by simp at h2; omega
  have hil := crcI_lt hxl j
  have hi1 : crcI x (j + 1) = crc1 (crcI x j) := rfl
  obtain ⟨y, hy⟩ : ∃ y, crcI x j = y := ⟨_, rfl⟩
  rw [hy] at hil hi1 ⊢
  have e3 : IntKind.wrap .i64 ((y : Int) * 2 ^ (min (1 : Int).toNat IntKind.i64.bits)) = ((2 * y : Nat) : Int) := by
    show IntKind.wrap .i64 ((y : Int) * 2) = _
    rw [w64 (by omega) (by omega)]; omega
  refine Tr.skipT (Tr.meet { env := [(0, strV l), (3, I (crcI x (j + 1) : Nat)), (6, I (l.length : Nat)), (7, I (k : Nat)), (17, I (j : Nat))], bx := [], rw := [], log := [], stp := false } (Tr.block (Tr.seqR rfl (by simp) ?_)) (Tr.regR rfl (by simp) ?_))
  rotate_left
  · exact ⟨j + 1, _, Wk.le (.cons rfl (.refl _) (.cons rfl (.refl _) (.cons rfl (.refl _) (.cons rfl (.refl _) (.cons rfl (VLe.i (w64 (by omega) (by omega))) .nil))))) .nil .nil rfl rfl, ⟨h2, rfl⟩, by omega⟩
  rw [e3]
  refine Tr.seqR rfl (by simp) (Tr.cond rfl rfl (fun h3 => Tr.regR rfl (by simp) ?_) (fun h3 => Tr.skip ?_))
  · have h3 : 65535 < 2 * y := by
      have h3 : decide (((2 * y : Nat) : Int) > 65535) = true := h3
      have := of_decide_eq_true h3; omega
    refine Wk.le (.cons rfl (.refl _) (.cons rfl (VLe.i ?_) (.cons rfl (.refl _) (.cons rfl (.refl _) (.cons rfl (.refl _) .nil))))) .nil .nil rfl rfl
    show bitsV .xor .i64 (bitsV .and .i64 ((2 * y : Nat) : Int) ((65535 : Nat) : Int)) ((4129 : Nat) : Int) = _
    have h4 : (2 * y) &&& 65535 < 2 ^ 62 := Nat.lt_of_le_of_lt Nat.and_le_left (by omega)
    rw [bits_andT _ _ (by omega) (by omega), bits_xor _ _ h4 (by omega), hi1]
    unfold crc1
    rw [if_pos h3]
  · have h3 : ¬ 65535 < 2 * y := by
      have h3 : decide (((2 * y : Nat) : Int) > 65535) = false := h3
      have := of_decide_eq_false h3; omega
    refine Wk.le (.cons rfl (.refl _) (.cons rfl (VLe.i ?_) (.cons rfl (.refl _) (.cons rfl (.refl _) (.cons rfl (.refl _) .nil))))) .nil .nil rfl rfl
    rw [hi1]
    unfold crc1
    rw [if_neg h3]

/-! ### Numbers as two bytes -/
def twoL (n : Nat) : List UInt8 := [UInt8.ofNat (n / 256), UInt8.ofNat n]

theorem wrap_u8 (n : Nat) : IntKind.wrap .u8 (n : Int) = ((UInt8.ofNat n).toNat : Int) := by
  have e : ∀ m : Int, m = (n : Int) % 256 → (if (false && decide (m ≥ 128)) = true then m - 256 else m) = (((UInt8.ofNat n).toNat : Nat) : Int) := by
    intro m hm
    simp only [Bool.false_and, Bool.false_eq_true, if_false]
    rw [hm, UInt8.toNat_ofNat']; simp
  exact e _ rfl

theorem c_two {n : Nat} (hn : n < 65536) : C Tryz.prog F.tape_two [I (n : Nat)] (bysV (twoL n)) := by
  refine C_of mixed chk.tape_two (by simp) fun S ok => ?_
  refine Tr.seqR rfl (by simp) (Tr.seqR rfl (by simp) (Tr.retX rfl rfl rfl ?_ trivial))
  have e1 : (n : Int).fdiv (2 ^ (min (8 : Int).toNat IntKind.i64.bits)) = ((n / 256 : Nat) : Int) := by
    show (n : Int).fdiv 256 = _
    rw [Int.fdiv_eq_ediv_of_nonneg _ (by omega)]; omega
  show V.slice 0 1 [byV (UInt8.ofNat (n / 256)), byV (UInt8.ofNat n)] = V.slice 0 1 [.int .u8 (IntKind.wrap .u8 ((n : Int).fdiv (2 ^ (min (8 : Int).toNat IntKind.i64.bits)))), .int .u8 (IntKind.wrap .u8 (n : Int))]
  rw [e1, wrap_u8, wrap_u8]; rfl

/-- A byte of some bytes. -/
theorem c_at {l : List UInt8} (hl : l.length ≤ 65536) {j : Nat} (hj : j < l.length) : C Tryz.prog F.tape_bytes_at [strV l, I (j : Nat)] (.tuple [I (l[j].toNat : Nat), .bool true]) := by
  have hsz : (⟨l.toArray⟩ : ByteArray).size = l.length := by simp [ByteArray.size]
  refine C_of mixed chk.tape_bytes_at (by simp) fun S ok => ?_
  refine Tr.seqR rfl (by simp) (Tr.seq (Tr.seqR rfl (by simp) (Tr.condF (congrArg (fun b => some (V.bool b)) (show decide ((j : Int) ≥ ((⟨l.toArray⟩ : ByteArray).size : Int)) = false by rw [hsz]; exact decide_eq_false (by omega))) (Tr.skip ?_))))
  have hb := l[j].toNat_lt
  refine Tr.seq (Tr.reg (Steps.runN 2 rfl (by simp) (Steps.stridx (l := l) (j := j) rfl rfl hj (Steps.fin rfl (by simp) (Tr.retX rfl rfl rfl ?_ trivial)))))
  show V.tuple [I (l[j].toNat : Nat), .bool true] = V.tuple [I (IntKind.wrap .i64 ((l[j].toNat : Nat) : Int)), .bool true]
  rw [w64 (by omega) (by omega)]

end Go.Proofs.YtggifklgpdladaaGreat


/-! AM, part Zu: drawn regions that read an arena. -/
set_option linter.unusedVariables false
set_option linter.unusedSimpArgs false
namespace Go.Am
open Go.RowKit

/-- The surroundings while the arena is this one. -/
def pinS (S : Sur) (A : Arena) : Sur := fun log stp M w φ => log = encA A ∧ S log stp M w φ

theorem pinS_ok {S : Sur} (h : S.ok) (A : Arena) : (pinS S A).ok := ⟨fun _ _ _ _ _ _ _ _ h1 mv => ⟨h1.1, h.move _ _ _ _ _ _ _ _ h1.2 mv⟩, fun _ _ _ _ _ h1 => h.gl _ _ _ _ _ h1.2⟩

abbrev Env.pinA (E : Env) (A : Arena) : Env := { E with S := pinS E.S A, ok := pinS_ok E.ok A }

theorem to_pin {E : Env} (hys : E.ys = noYs) (hlk : E.lk = fun _ => True) {A : Arena} {log : List (List V)} {stp : Bool} {σ : FSt} {a : Act} {w : World} {h : Gh} (hl : log = encA A) (R : E.relF log stp σ a w h) : (E.pinA A).relF log stp σ a w h := by
  refine ⟨{ R.1 with sur := ⟨hl, R.1.sur⟩ }, fun l hl => ⟨?_, by show E.lk l; rw [hlk]; trivial⟩, R.2.2⟩
  intro log x M w φ xs hp
  have hp : E.ys _ := hp
  rw [hys] at hp
  exact False.elim hp

theorem of_pin {E : Env} (hys : E.ys = noYs) (hlk : E.lk = fun _ => True) {A : Arena} {log : List (List V)} {stp : Bool} {σ : FSt} {a : Act} {w : World} {h : Gh} (R : (E.pinA A).relF log stp σ a w h) : E.relF log stp σ a w h := by
  refine ⟨{ R.1 with sur := R.1.sur.2 }, fun l hl => ⟨?_, by rw [hlk]; trivial⟩, R.2.2⟩
  intro log x M w φ xs hp
  rw [hys] at hp
  exact False.elim hp

theorem opK_nilckZ {P : Program} {o : Oper} {os : List Operand} (hk : opK P o.op = some (.nilck, os)) : ∃ p, o.op = .nilCheck p ∧ os = [p] := by
  replace hk := opK0_of hk (by simp [tagOf])
  cases ho : o.op <;> rw [ho] at hk <;> simp only [opK0] at hk <;> (try (cases hk; done)) <;> (try (repeat' (split at hk <;> (try (cases hk; done)))))
  all_goals first
    | (simp only [Option.map_eq_some_iff, Prod.mk.injEq] at hk; obtain ⟨_, _, h1, _⟩ := hk; cases h1; done)
    | (simp only [eqKind] at hk; repeat' (split at hk <;> (try (cases hk; done))))
    | (cases hk; exact ⟨_, rfl, rfl⟩)

theorem opK_faddrZ {P : Program} {o : Oper} {os : List Operand} {off : Nat} (hk : opK P o.op = some (.faddr off, os)) : ∃ t p f fs fd n, o.op = .fieldAddr t p f ∧ P.underlying t = some (.struct fs) ∧ fs[f]? = some fd ∧ szOf P fd.type = some n ∧ n ≠ 0 ∧ fd.offset = off ∧ os = [p] := by
  replace hk := opK0_of hk (by simp [tagOf])
  cases ho : o.op <;> rw [ho] at hk <;> simp only [opK0] at hk <;> (try (cases hk; done)) <;> (try (repeat' (split at hk <;> (try (cases hk; done)))))
  all_goals first
    | (simp only [Option.map_eq_some_iff, Prod.mk.injEq] at hk; obtain ⟨_, _, h1, _⟩ := hk; cases h1; done)
    | (simp only [eqKind] at hk; repeat' (split at hk <;> (try (cases hk; done))))
    | (cases hk; exact ⟨_, _, _, _, _, _, rfl, by assumption, by assumption, by assumption, by assumption, rfl, rfl⟩)

section
variable {E : Env} {ro : Option Nat} {n : Nat} {ops : Array Oper}

theorem prefix_okP (hys : E.ys = noYs) (hlk : E.lk = fun _ => True) {A : Arena} {K : St → Prop} {il1 il2 : List Ins} {s s1 : St} {fp : List (List Loc × List Loc)} (hc : compR E.P E.nt ops = some (il1 ++ il2)) (hl : lexed ops = true) (t : Trace (E.pinA A) s il1 fp s1) (hlog : s.log = encA A)
    (hok : okPlan (befs ops) fp = true) (ht : totTail (befs ops) il1.length ops.size = true) (hst : Steps E il2 K s1) {Q : Exit → Act → World → Prop} (y : Pin)
    (hn : ∀ s' a' w' h', K s' → E.rel s' a' w' h' → h'.y = y → Q .normal a' w') :
    ∃ us : List FSt, ∀ (fuel : Nat) (listed : Array Bool) (a : Act) (w : World) (h : Gh), listed.toList.count false = fuel → listed.size = ops.size → Closed ops (fun i => listed.getD i false) → (∀ i, il1.length ≤ i → listed.getD i false = false) →
      E.relF s.log s.stp (FL us (fun i => listed.getD i false) s.fs il1.length) a w h → h.y = y → wpAnyIn (wideR ro) n E.P .any ops Q fuel listed a w := by
  obtain ⟨t1, t2, t3, us, t4, t5, t6⟩ := trace_spec t
  obtain ⟨hlen, hg⟩ := compR_spec hc
  have hle : il1.length ≤ ops.size := by simp at hlen; omega
  have tot : ∀ k i, il1.length ≤ k → k < ops.size → i < k → ((befs ops).getD k 0).testBit i = true := by
    intro k i h1 h2 h3
    unfold totTail at ht
    rw [List.all_eq_true] at ht
    have := ht (k - il1.length) (by simp; omega)
    rw [List.all_eq_true] at this
    have := this i (by simp; omega)
    rwa [show il1.length + (k - il1.length) = k by omega] at this
  have ap : ∀ i j, i < j → j < il1.length → ((befs ops).getD j 0).testBit i = false → apartFp (fp.getD i ([], [])) (fp.getD j ([], [])) = true := by
    intro i j h1 h2 h3
    unfold okPlan at hok
    rw [List.all_eq_true] at hok
    have := hok j (by simp; omega)
    rw [List.all_eq_true] at this
    have := this i (by simp; omega)
    rw [h3] at this
    simpa using this
  refine ⟨us, ?_⟩
  intro fuel
  induction fuel with
  | zero =>
    intro listed a w h hcn hs hcl hpre R hy
    have all : ∀ i, i < ops.size → listed.getD i false = true := by
      intro i hi
      cases hL : listed.getD i false with
      | true => rfl
      | false =>
        have : false ∈ listed.toList := by
          simp only [Array.getD_eq_getD_getElem?, Array.getElem?_eq_getElem (show i < listed.size by omega), Option.getD_some] at hL
          rw [← hL]; simp
        exact absurd this (List.count_eq_zero.1 hcn)
    have hm : il1.length = ops.size := by
      rcases Nat.lt_or_ge il1.length ops.size with h1 | h1
      · have := all il1.length h1
        rw [hpre il1.length (Nat.le_refl _)] at this; cases this
      · omega
    refine tail_ok hc hl ht y hn 0 ops.size listed s1 a w h (by omega) (by omega) hs hcl (fun i hi => by rw [all i hi]; simp [hi]) ?_ ?_ hy
    · rw [List.drop_append_of_le_length (by omega), List.drop_eq_nil_of_le (by omega)]; simpa using hst
    · show E.relF _ _ _ a w h
      rw [t2, t3, t5]
      have e : FL us (fun i => listed.getD i false) s.fs il1.length = FL us (fun _ => true) s.fs il1.length := by
        funext l
        refine FL_at (i := il1.length) (fun k hk hL => ?_) (fun k hk hL => ?_) _ (Nat.le_refl _)
        · rw [all k (by omega)] at hL; cases hL
        · rw [hpre k hk] at hL; cases hL
      rw [e] at R; exact R
  | succ fuel ih =>
    intro listed a w h hcn hs hcl hpre R hy
    by_cases hall : ∀ i, i < il1.length → listed.getD i false = true
    · have e : FL us (fun i => listed.getD i false) s.fs il1.length = FL us (fun _ => true) s.fs il1.length := by
        funext l
        refine FL_at (i := il1.length) (fun k hk hL => ?_) (fun k hk hL => ?_) _ (Nat.le_refl _)
        · rw [hall k hk] at hL; cases hL
        · rw [hpre k hk] at hL; cases hL
      rw [e] at R
      have hLk : ∀ i, i < ops.size → listed.getD i false = decide (i < il1.length) := fun i hi => by
        rcases Nat.lt_or_ge i il1.length with h1 | h1
        · rw [hall i h1]; simp [h1]
        · rw [hpre i h1]; simp; omega
      have hfuel : il1.length + (fuel + 1) = ops.size := by
        have e1 : listed.toList = List.replicate il1.length true ++ List.replicate (ops.size - il1.length) false := by
          apply List.ext_getElem?
          intro k
          have hk : listed.toList[k]? = if k < ops.size then some (listed.getD k false) else none := by
            by_cases h1 : k < ops.size
            · simp [h1, show k < listed.size by omega]
            · simp [h1, show listed.size ≤ k by omega]
          rw [hk, List.getElem?_append]
          simp only [List.length_replicate]
          by_cases h1 : k < il1.length
          · rw [if_pos h1, if_pos (by omega), hall k h1, List.getElem?_replicate, if_pos h1]
          · rw [if_neg h1, List.getElem?_replicate]
            by_cases h2 : k < ops.size
            · rw [if_pos h2, if_pos (by omega), hpre k (by omega)]
            · rw [if_neg h2, if_neg (by omega)]
        rw [e1] at hcn
        simp [List.count_append, List.count_replicate] at hcn
        omega
      refine tail_ok hc hl ht y hn (fuel + 1) il1.length listed s1 a w h hfuel (Nat.le_refl _) hs hcl hLk ?_ ?_ hy
      · simpa using hst
      · show E.relF _ _ _ a w h
        rw [t2, t3, t5]; exact R
    · obtain ⟨k0, hk0, hk0'⟩ : ∃ k, k < il1.length ∧ listed.getD k false = false := by
        apply Classical.byContradiction
        intro hno
        exact hall fun i hi => by
          cases hL : listed.getD i false with
          | true => rfl
          | false => exact absurd ⟨i, hi, hL⟩ hno
      refine ⟨fun hr => ?_, fun i hi => ?_⟩
      · have := ready_some hl hs hr k0 (by omega)
        rw [hk0'] at this; cases this
      · obtain ⟨h1, h2, o, ho, h3⟩ := (mem_ready hs).1 hi
        have him : i < il1.length := by
          rcases Nat.lt_or_ge i il1.length with h4 | h4
          · exact h4
          · have := befs_ok hcl ho h3 (tot i k0 h4 h1 (by omega))
            rw [hk0'] at this; cases this
        obtain ⟨ins, eff, rd, g1, g2, g3, g4⟩ := t6 i him
        obtain ⟨ins', e1, e2⟩ := hg i o ho
        rw [List.getElem?_append_left him, g1] at e1; cases e1
        -- what may not meet
        have below : ∀ k, k < i → listed.getD k false = false → ∀ l, (l ∈ rd ∨ l ∈ wrOf ins eff) → us.getD k nof l = none := by
          intro k hk hL l hlm
          obtain ⟨insk, effk, rdk, q1, q2, q3, q4⟩ := t6 k (by omega)
          have hb : ((befs ops).getD i 0).testBit k = false := by
            cases hb : ((befs ops).getD i 0).testBit k with
            | false => rfl
            | true => have := befs_ok hcl ho h3 hb; rw [hL] at this; cases this
          have := ap k i hk him hb
          simp only [List.getD_eq_getElem?_getD, q2, g2, Option.getD_some, apartFp, Bool.and_eq_true, Bool.not_eq_true'] at this
          rw [List.getD_eq_getElem?_getD, q3, Option.getD_some]
          refine wrF_out fun hm => ?_
          rcases hlm with h5 | h5
          · exact meets_false this.1.2 l hm h5
          · exact meets_false this.1.1 l hm h5
        have above : ∀ k, i < k → listed.getD k false = true → k < il1.length ∧ ∃ insk effk rdk, fp[k]? = some (wrOf insk effk, rdk) ∧ us[k]? = some (wrF insk effk nof) ∧ apartFp (wrOf ins eff, rd) (wrOf insk effk, rdk) = true := by
          intro k hk hL
          have hkm : k < il1.length := by
            rcases Nat.lt_or_ge k il1.length with h4 | h4
            · exact h4
            · rw [hpre k h4] at hL; cases hL
          obtain ⟨insk, effk, rdk, q1, q2, q3, q4⟩ := t6 k hkm
          have hks : k < ops.size := by omega
          have hb : ((befs ops).getD k 0).testBit i = false := by
            cases hb : ((befs ops).getD k 0).testBit i with
            | false => rfl
            | true =>
              have := befs_ok hcl (Array.getElem?_eq_getElem hks) (hcl k _ (Array.getElem?_eq_getElem hks) hL) hb
              rw [h2] at this; cases this
          have := ap i k hk hkm hb
          simp only [List.getD_eq_getElem?_getD, q2, g2, Option.getD_some] at this
          exact ⟨hkm, insk, effk, rdk, q2, q3, this⟩
        have at_i : ∀ l, (l ∈ rd ∨ l ∈ wrOf ins eff) → FL us (fun i => listed.getD i false) s.fs il1.length l = FL us (fun _ => true) s.fs i l := by
          intro l hlm
          refine FL_at (fun k hk hL => below k hk hL l hlm) (fun k hk hL => ?_) _ (by omega)
          rcases Nat.lt_or_ge i k with h5 | h5
          · obtain ⟨_, insk, effk, rdk, q2, q3, q4⟩ := above k h5 hL
            rw [List.getD_eq_getElem?_getD, q3, Option.getD_some]
            simp only [apartFp, Bool.and_eq_true, Bool.not_eq_true'] at q4
            refine wrF_out fun hm => ?_
            rcases hlm with h6 | h6
            · exact meets_false q4.2 l h6 hm
            · exact meets_false q4.1.1 l h6 hm
          · obtain rfl : k = i := by omega
            rw [h2] at hL; cases hL
        have hd := does_reads (τ := FL us (fun i => listed.getD i false) s.fs il1.length) g4 (fun l hl => at_i l (.inl hl))
        have R2 : (E.pinA A).relF s.log s.stp (FL us (fun i => listed.getD i false) s.fs il1.length) a w h := to_pin hys hlk hlog R
        refine does_ok (E := E.pinA A) e2 rfl ho hd R2 fun a' w' h' R' hy' => ih _ a' w' h' (count_step (by omega) h2 hcn) (by simpa using hs) ?_ ?_ ?_ (hy'.trans hy)
        · intro j o' ho' hj d hd
          simp only [getD_setD (show i < listed.size by omega), Bool.or_eq_true, beq_iff_eq] at hj ⊢
          rcases hj with hj | rfl
          · exact .inl (hcl j o' ho' hj d hd)
          · rw [ho] at ho'; cases ho'; exact .inl (h3 d hd)
        · intro j hj
          rw [getD_setD (show i < listed.size by omega), hpre j hj]
          have : (j == i) = false := by simpa using (show j ≠ i by omega)
          rw [this]; rfl
        · have e : (fun k => (listed.setIfInBounds i true).getD k false) = fun k => listed.getD k false || k == i := by
            funext k; exact getD_setD (by omega)
          rw [e, FL_add h2 (fun k hk hL l => ?_) _ him]
          · rw [List.getD_eq_getElem?_getD, g3, Option.getD_some, ← wrF_nof]; exact of_pin hys hlk R'
          · obtain ⟨_, insk, effk, rdk, q2, q3, q4⟩ := above k hk hL
            simp only [List.getD_eq_getElem?_getD, q3, g3, Option.getD_some]
            simp only [apartFp, Bool.and_eq_true, Bool.not_eq_true'] at q4
            by_cases hm : l ∈ wrOf insk effk
            · right
              exact wrF_out fun hm' => meets_false q4.1.1 l hm' hm
            · left
              exact wrF_out hm

theorem drawn_okP (hys : E.ys = noYs) (hlk : E.lk = fun _ => True) {A : Arena} {K : St → Prop} {il1 il2 : List Ins} {s s1 : St} {fp : List (List Loc × List Loc)} {id : Nat} {a : Act} {w : World} {h : Gh} (hc : compR E.P E.nt ops = some (il1 ++ il2)) (hl : lexed ops = true) (t : Trace (E.pinA A) s il1 fp s1) (hlog : s.log = encA A)
    (hok : okPlan (befs ops) fp = true) (ht : totTail (befs ops) il1.length ops.size = true) (hst : Steps E il2 K s1) (R : E.rel s a w h) {Q : Exit → Act → World → Prop}
    (hn : ∀ s' a' w' h', K s' → E.rel s' a' w' h' → h'.y = h.y → Q .normal a' w') : (Code.region id ops true).wpIn (wideR ro) n E.P Q a w := by
  obtain ⟨us, key⟩ := prefix_okP (ro := ro) (n := n) hys hlk hc hl t hlog hok ht hst h.y hn
  refine wpIn_region_any E.mixed ?_
  have e0 : ∀ i, (Array.replicate ops.size false).getD i false = false := fun i => by
    simp only [Array.getD_eq_getD_getElem?, Array.getElem?_replicate]
    by_cases h : i < ops.size <;> simp [h]
  refine key ops.size _ a _ h (by simp [List.count_replicate]) (by simp) ?_ (fun i _ => e0 i) ⟨?_, R.2⟩ rfl
  · intro j o ho hj
    have hj : (Array.replicate ops.size false).getD j false = true := hj
    rw [e0] at hj; cases hj
  · have : FL us (fun i => (Array.replicate ops.size false).getD i false) s.fs il1.length = s.fs := by
      have : ∀ m, FL us (fun i => (Array.replicate ops.size false).getD i false) s.fs m = s.fs := by
        intro m
        induction m with
        | zero => rfl
        | succ m ih =>
          have e : FL us (fun i => (Array.replicate ops.size false).getD i false) s.fs (m + 1) = if (Array.replicate ops.size false).getD m false then upF (us.getD m nof) (FL us (fun i => (Array.replicate ops.size false).getD i false) s.fs m) else FL us (fun i => (Array.replicate ops.size false).getD i false) s.fs m := rfl
          rw [e, e0 m, ih]; rfl
      exact this _
    rw [this]
    exact R.1.drew E.ok

end

/-- **A DRAWN REGION THAT READS AN ARENA**. -/
theorem Tr.drawP {E : Env} {ro : Option Nat} {Q : Exit → St → Prop} {s : St} {bef : List Nat} {il : List Ins} (hys : E.ys = noYs) (hlk : E.lk = fun _ => True) {A : Arena} (hlog : s.log = encA A)
    (t : TraceK (E.pinA A) s il fun fp s' r => okPlan bef fp = true ∧ totTail bef (il.length - r.length) il.length = true ∧ Steps E r (Q .normal) s') : Tr E ro (.draw bef il) Q s := by
  obtain ⟨il1, fp, s', il2, e, t', hok, ht, h⟩ := t.spec
  subst e
  intro c hc n a w g R Q' hq
  obtain ⟨id, ops, rfl, h1, hl, rfl⟩ := compC_inv hc
  have hlen := (compR_spec h1).1
  have ht : totTail (befs ops) il1.length (il1 ++ il2).length = true := by simpa using ht
  rw [hlen] at ht
  exact drawn_okP hys hlk h1 hl t' hlog hok ht h R fun s' a' w' h' k R' e => hq _ s' a' w' h' k R' e

section
variable {E : Env} {σ : FSt}

theorem does_rnil {d : Nat} {x : X} {blk off : Nat} (hx : [x].mapM (evX σ) = some [.rptr blk off]) : Does E σ ⟨some d, .nilck, [x], none⟩ { v := .rptr blk off } (xslots [x]) := by
  refine .sem fun τ hτ slots ops i o ro n log stp a w h hc hs hi R Q next hn => ?_
  have hx' : [x].mapM (evX τ) = some [.rptr blk off] := evX_reads hx fun l hl => hτ l hl
  obtain ⟨os, cc⟩ := comp_of hc
  obtain ⟨p, ho, rfl⟩ := opK_nilckZ cc.op
  obtain ⟨u, hu, o1⟩ := (opds_of R.1 cc.xs hx').one
  simp only [List.cons.injEq, and_true] at hu
  subst hu
  have ep := ok_rptr o1
  have hex : (execOp a.eval o).run E.P w = .ok (.value (.pointer (some ⟨blk, off, none⟩))) w := by simp [execOp, ho, ep]
  exact wpOp_done hi (wanted_none (guard_none cc rfl)) (opK_defer cc.op) (.inl hex) (hn _ _ h (rel_after (eff := { v := .rptr blk off }) cc R R.1 (.data (.rptr _ _)) rfl) rfl)

theorem does_rfaddr {d f : Nat} {x : X} {blk off : Nat} (hx : [x].mapM (evX σ) = some [.rptr blk off]) : Does E σ ⟨some d, .faddr f, [x], none⟩ { v := .rptr blk (off + f) } (xslots [x]) := by
  refine .sem fun τ hτ slots ops i o ro n log stp a w h hc hs hi R Q next hn => ?_
  have hx' : [x].mapM (evX τ) = some [.rptr blk off] := evX_reads hx fun l hl => hτ l hl
  obtain ⟨os, cc⟩ := comp_of hc
  obtain ⟨t, p, g, fs, fd, m, ho, h1, h2, h3, h4, rfl, rfl⟩ := opK_faddrZ cc.op
  obtain ⟨u, hu, o1⟩ := (opds_of R.1 cc.xs hx').one
  simp only [List.cons.injEq, and_true] at hu
  subst hu
  have ep := ok_rptr o1
  have hex : (execOp a.eval o).run E.P w = .ok (.value (.pointer (some ⟨blk, off + fd.offset, none⟩))) w := by
    simp only [execOp, ho, ep, Sem.run_bind, run_fieldAt h1 h2 h3 h4]; rfl
  exact wpOp_done hi (wanted_none (guard_none cc rfl)) (opK_defer cc.op) (.inl hex) (hn _ _ h (rel_after (eff := { v := .rptr blk (off + fd.offset) }) cc R R.1 (.data (.rptr _ _)) rfl) rfl)

theorem does_aload {S0 : Sur} {l0 : List (List V)} {s0 : Bool} {A : Arena} (hE : InA E S0 l0 s0) (hys : E.ys = noYs) (hlk : E.lk = fun _ => True) {d n : Nat} {agg : Bool} {x : X} {blk off : Nat} {cs : List V} (hx : [x].mapM (evX σ) = some [.rptr blk off]) (hA : (blk, Ob.cells cs) ∈ A) (hv : off + n ≤ cs.length) :
    Does (E.pinA A) σ ⟨some d, .load n agg, [x], none⟩ { v := mkv agg n (cs.drop off) } (xslots [x]) := by
  refine .sem fun τ hτ slots ops i o ro n' log stp a w h hc hs hi R Q next hn => ?_
  have hx' : [x].mapM (evX τ) = some [.rptr blk off] := evX_reads hx fun l hl => hτ l hl
  obtain ⟨os, cc⟩ := comp_of hc
  have hll : log = encA A := R.1.sur.1
  have R' : E.relF (encA A) stp τ a w h := by rw [← hll]; exact of_pin hys hlk R
  obtain ⟨vs, et, h1, h2, h3⟩ := (hE.ar R').ok _ hA
  have hop : ∃ t p dd, o.op = .load t p ∧ szOf E.P t = some n ∧ E.P.underlying t = some dd ∧ aggB E.P t = agg ∧ os = [p] ∧ (agg = false → n = 1) := by
    have hk := cc.op
    replace hk := opK0_of hk (by simp [tagOf])
    cases ho : o.op <;> rw [ho] at hk <;> simp only [opK0] at hk <;> (try (cases hk; done)) <;> (try (repeat' (split at hk <;> (try (cases hk; done)))))
    all_goals first
      | (simp only [Option.map_eq_some_iff, Prod.mk.injEq] at hk; obtain ⟨_, _, h1, _⟩ := hk; cases h1; done)
      | (simp only [eqKind] at hk; repeat' (split at hk <;> (try (cases hk; done))))
      | (cases hk; exact ⟨_, _, _, rfl, by assumption, by assumption, by assumption, rfl, by simp⟩)
      | (rename_i q1 q2 q3 q4; subst q4; cases hk; exact ⟨_, _, _, rfl, by assumption, by assumption, Bool.eq_false_iff.2 q3, rfl, by simp⟩)
  obtain ⟨t, p, dd, e1, e2, e3, e4, rfl, e5⟩ := hop
  obtain ⟨u, hu, o1⟩ := (opds_of R.1 cc.xs hx').one
  simp only [List.cons.injEq, and_true] at hu
  subst hu
  have ep := ok_rptr o1
  obtain ⟨y, hy1, hy2⟩ := ok_mkv (σ := τ) (h := h) (w := w) (agg := agg) (n := n) (l := cs.drop off) (f := fun j => vs.getD (off + j) undef) (by simp; omega) e5 (fun j v hv => by
    rw [List.getElem?_drop] at hv
    have hlt : off + j < vs.size := by
      have := (List.getElem?_eq_some_iff.1 hv).1; omega
    have := h3 (off + j) v vs[off + j] hv (by simp [hlt])
    have e : vs.getD (off + j) undef = vs[off + j] := by simp [hlt]
    rw [e]
    exact ⟨.data this.1, Grow.of_data this.1, this.2⟩)
  have hex : (execOp a.eval o).run E.P w = .ok (.value y) w := by
    simp only [execOp, e1, ep, Sem.run_bind]
    rw [run_loadAt (cs := (List.range n).map fun j => vs.getD (off + j) undef) e2 e3 (by simp) (fun j v hv => by
      obtain ⟨hj, rfl⟩ := range_map_get hv
      rw [cell_of_row w blk (off + j) vs et (0, 0) h1]
      have : off + j < vs.size := by omega
      simp [this]) (by rw [e4]; exact hy1)]
    rfl
  exact wpOp_done hi (wanted_none (guard_none cc rfl)) (opK_defer cc.op) (.inl hex) (hn _ _ h (rel_after (eff := { v := mkv agg n (cs.drop off) }) cc R R.1 hy2 rfl) rfl)

theorem TraceK.rnil {s : St} {K : List (List Loc × List Loc) → St → List Ins → Prop} {d : Nat} {x : X} {blk off : Nat} {rest : List Ins} (hx : evXs s.env [x] = some [.rptr blk off])
    (tr : TraceK E (s.put (some d) (.rptr blk off)) rest fun fp s' r' => K (([.slot d], xslots [x]) :: fp) s' r') : TraceK E s (⟨some d, .nilck, [x], none⟩ :: rest) K :=
  .step (ins := ⟨some d, .nilck, [x], none⟩) (eff := { v := .rptr blk off }) (does_rnil (evXs_ok hx)) tr

theorem TraceK.rfaddr {s : St} {K : List (List Loc × List Loc) → St → List Ins → Prop} {d f : Nat} {x : X} {blk off : Nat} {rest : List Ins} (hx : evXs s.env [x] = some [.rptr blk off])
    (tr : TraceK E (s.put (some d) (.rptr blk (off + f))) rest fun fp s' r' => K (([.slot d], xslots [x]) :: fp) s' r') : TraceK E s (⟨some d, .faddr f, [x], none⟩ :: rest) K :=
  .step (ins := ⟨some d, .faddr f, [x], none⟩) (eff := { v := .rptr blk (off + f) }) (does_rfaddr (evXs_ok hx)) tr

theorem TraceK.aload {S0 : Sur} {l0 : List (List V)} {s0 : Bool} {A : Arena} (hE : InA E S0 l0 s0) (hys : E.ys = noYs) (hlk : E.lk = fun _ => True) {s : St} {K : List (List Loc × List Loc) → St → List Ins → Prop} {d n : Nat} {agg : Bool} {x : X} {blk off : Nat} {cs : List V} {rest : List Ins} (hx : evXs s.env [x] = some [.rptr blk off]) (hA : (blk, Ob.cells cs) ∈ A) (hv : off + n ≤ cs.length)
    (tr : TraceK (E.pinA A) (s.put (some d) (mkv agg n (cs.drop off))) rest fun fp s' r' => K (([.slot d], xslots [x]) :: fp) s' r') : TraceK (E.pinA A) s (⟨some d, .load n agg, [x], none⟩ :: rest) K :=
  .step (ins := ⟨some d, .load n agg, [x], none⟩) (eff := { v := mkv agg n (cs.drop off) }) (does_aload hE hys hlk (evXs_ok hx) hA hv) tr

end

section
variable {E : Env} {S0 : Sur} {l0 : List (List V)} {s0 : Bool} {A : Arena}

theorem splice_nth {α : Type} {l m : List α} {off : Nat} (h : off + m.length ≤ l.length) (j : Nat) : (l.take off ++ m ++ l.drop (off + m.length))[j]? = if j < off then l[j]? else if j < off + m.length then m[j - off]? else l[j]? := by
  rw [List.append_assoc, List.getElem?_append, List.length_take, Nat.min_eq_left (by omega)]
  by_cases h1 : j < off
  · rw [if_pos h1, if_pos h1, List.getElem?_take_of_lt h1]
  · rw [if_neg h1, if_neg h1, List.getElem?_append]
    by_cases h2 : j < off + m.length
    · rw [if_pos (by omega), if_pos h2]
    · rw [if_neg (by omega), if_neg h2, List.getElem?_drop]
      congr 1; omega

/-- Several cells of an arena's block are written. -/
theorem Steps.astoreT (hE : InA E S0 l0 s0) {K : St → Prop} {s : St} {n : Nat} {x y : X} {rest : List Ins} {blk off : Nat} {cs ds : List V} (hx : evXs s.env [x, y] = some [.rptr blk off, .agg ds]) (hl : s.log = encA A) (hA : (blk, Ob.cells cs) ∈ A) (hn : ds.length = n) (hoff : off + ds.length ≤ cs.length) (hd : ds.all isD = true) (hsc : ds.all scalar = true)
    (hk : Steps E rest K { s with log := encA (setA A blk (.cells (splice cs off ds))) }) : Steps E (⟨none, .store n, [x, y], none⟩ :: rest) K s := by
  refine Step1.raw fun slots ops o i ro n' a w h hc hs hi R Q next hn' => ?_
  obtain ⟨os, cc⟩ := comp_of hc
  obtain ⟨t, p, q, e1, e2, rfl⟩ := opK_store1 cc.op
  obtain ⟨u, u', hu, o1, o2⟩ := (opds_of R.1 cc.xs (evXs_ok hx)).two
  simp only [List.cons.injEq, and_true] at hu
  obtain ⟨hu1, hu2⟩ := hu
  subst hu1 hu2
  have ep := ok_rptr o1
  have R' : E.relF (encA A) s.stp s.fs a w h := by rw [← hl]; exact R
  have hAr := hE.ar R'
  obtain ⟨vs, et, h1, h2, h3⟩ := hAr.ok _ hA
  obtain ⟨ws, hw, hlen, hh⟩ := ok_agg o2
  have hwl : ws.toList.length = ds.length := by simpa using hlen.symm
  have hall : ∀ (j : Nat) v z, ds[j]? = some v → ws.toList[j]? = some z → RepD w h.φ v z ∧ scalar v = true := fun j v z hv hz => by
    rw [List.all_eq_true] at hd hsc
    exact ⟨rep_isD (hd v (List.mem_of_getElem? hv)) (hh j v z hv (by simpa using hz)).1, hsc v (List.mem_of_getElem? hv)⟩
  have hone : ∀ z ∈ ws.toList, z.oneCell' = true := fun z hz => by
    obtain ⟨j, hj, rfl⟩ := List.getElem_of_mem hz
    have hjd : j < ds.length := by omega
    obtain ⟨r, sc⟩ := hall j _ _ (List.getElem?_eq_getElem hjd) (List.getElem?_eq_getElem hj)
    exact (scalar_value (.data r : Rep w h.φ h.β h.y.l _ _) sc).1
  have hc1 : (a.eval q).cells = ws := by rw [hw]; rfl
  have hrun := run_storeCells_at E.P blk off et ws.toList 0 vs w h1 (by omega) hone
  simp only [Nat.add_zero] at hrun
  have R2 := hE.step R' (B := setA A blk (.cells (splice cs off ds)))
    (fun b hb hn => setRow_other w blk b (vs.toList.take off ++ ws.toList ++ vs.toList.drop (off + ws.toList.length)).toArray (fun e => hn (e ▸ List.mem_map.2 ⟨_, hA, rfl⟩))) (by simp) rfl rfl rfl
    (fun p hp => .inl (by rw [← setA_keys A blk (.cells (splice cs off ds))]; exact List.mem_map.2 ⟨p, hp, rfl⟩)) (fun p hp => by rw [setA_keys]; exact List.mem_map.2 ⟨p, hp, rfl⟩) (by rw [setA_keys]; exact hAr.nd)
    (fun ext p hp => by
      rcases setA_mem hp with ⟨e, e'⟩ | ⟨hne, hp⟩
      · rw [e, e']
        refine ⟨_, et, setRow_heap w blk vs _ et (0, 0) h1, by simp [splice]; omega, fun j u z hu hz => ?_⟩
        rw [List.getElem?_toArray, splice_nth (by simp; omega)] at hz
        unfold splice at hu
        rw [splice_nth (by omega)] at hu
        by_cases c1 : j < off
        · rw [if_pos c1] at hu hz
          have hz' : vs[j]? = some z := by simpa using hz
          exact ⟨(h3 j u z hu hz').1.mono ext, (h3 j u z hu hz').2⟩
        · rw [if_neg c1] at hu hz
          by_cases c2 : j < off + ds.length
          · rw [if_pos c2] at hu
            rw [if_pos (by omega)] at hz
            exact ⟨(hall _ u z hu hz).1.mono ext, (hall _ u z hu hz).2⟩
          · rw [if_neg c2] at hu
            rw [if_neg (by omega)] at hz
            have hz' : vs[j]? = some z := by simpa using hz
            exact ⟨(h3 j u z hu hz').1.mono ext, (h3 j u z hu hz').2⟩
      · exact (hAr.ok p hp).mono (setRow_other w blk p.1 _ hne) ext) (fun p hp => by
      have hk : p.1 ∈ A.map (·.1) := by rw [← setA_keys A blk (.cells (splice cs off ds))]; exact List.mem_map.2 ⟨p, hp, rfl⟩
      obtain ⟨q', hq', e⟩ := List.mem_map.1 hk
      have := hAr.lt q' hq'
      rw [← e]; simpa using this)
  have hdn : o.dst = none := cc.d.symm
  have R3 : E.rel { s with log := encA (setA A blk (.cells (splice cs off ds))) } (a.put o.dst undef) (w.setRow blk (vs.toList.take off ++ ws.toList ++ vs.toList.drop (off + ws.toList.length)).toArray) h := by rw [hdn]; exact R2
  refine wpOp_done (x := undef) hi (wanted_none (guard_none cc rfl)) (opK_defer cc.op) (.inr ⟨?_, rfl⟩) (hn' _ _ _ h hk R3 rfl)
  simp only [execOp, e1, ep, Instr.storeAt, Instr.sureAddr, Sem.run_bind, Sem.run_pure, Result.andThen_ok, storeVar, run_szOf e2]
  rw [if_neg (by rw [hc1]; simp; omega), hc1]
  rw [hrun]
  rfl

end
end Go.Am


/-! AM: pointers to structs in an arena: nil checks, fields, loads. -/
set_option linter.unusedVariables false
set_option linter.unusedSimpArgs false
namespace Go.Am
open Go.RowKit

theorem opK_nilck0 {P : Program} {o : Oper} {os : List Operand} (hk : opK P o.op = some (.nilck, os)) : ∃ p, o.op = .nilCheck p ∧ os = [p] := by
  replace hk := opK0_of hk (by simp [tagOf])
  cases ho : o.op <;> rw [ho] at hk <;> simp only [opK0] at hk <;> (try (cases hk; done)) <;> (try (repeat' (split at hk <;> (try (cases hk; done)))))
  all_goals first
    | (simp only [Option.map_eq_some_iff, Prod.mk.injEq] at hk; obtain ⟨_, _, h1, _⟩ := hk; cases h1; done)
    | (simp only [eqKind] at hk; repeat' (split at hk <;> (try (cases hk; done))))
    | (cases hk; exact ⟨_, rfl, rfl⟩)

theorem opK_faddr0 {P : Program} {o : Oper} {os : List Operand} {off : Nat} (hk : opK P o.op = some (.faddr off, os)) : ∃ t p f fs fd n, o.op = .fieldAddr t p f ∧ P.underlying t = some (.struct fs) ∧ fs[f]? = some fd ∧ szOf P fd.type = some n ∧ n ≠ 0 ∧ fd.offset = off ∧ os = [p] := by
  replace hk := opK0_of hk (by simp [tagOf])
  cases ho : o.op <;> rw [ho] at hk <;> simp only [opK0] at hk <;> (try (cases hk; done)) <;> (try (repeat' (split at hk <;> (try (cases hk; done)))))
  all_goals first
    | (simp only [Option.map_eq_some_iff, Prod.mk.injEq] at hk; obtain ⟨_, _, h1, _⟩ := hk; cases h1; done)
    | (simp only [eqKind] at hk; repeat' (split at hk <;> (try (cases hk; done))))
    | (cases hk; exact ⟨_, _, _, _, _, _, rfl, by assumption, by assumption, by assumption, by assumption, rfl, rfl⟩)

theorem opK_box0 {P : Program} {o : Oper} {os : List Operand} (hk : opK P o.op = some (.box, os)) : ∃ e p, o.op = .box e p ∧ os = [p] := by
  replace hk := opK0_of hk (by simp [tagOf])
  cases ho : o.op <;> rw [ho] at hk <;> simp only [opK0] at hk <;> (try (cases hk; done)) <;> (try (repeat' (split at hk <;> (try (cases hk; done)))))
  all_goals first
    | (simp only [Option.map_eq_some_iff, Prod.mk.injEq] at hk; obtain ⟨_, _, h1, _⟩ := hk; cases h1; done)
    | (simp only [eqKind] at hk; repeat' (split at hk <;> (try (cases hk; done))))
    | (cases hk; exact ⟨_, _, rfl, rfl⟩)

theorem opK_loadT {P : Program} {o : Oper} {os : List Operand} {n : Nat} (hk : opK P o.op = some (.load n true, os)) : ∃ t p d, o.op = .load t p ∧ szOf P t = some n ∧ P.underlying t = some d ∧ aggB P t = true ∧ os = [p] := by
  replace hk := opK0_of hk (by simp [tagOf])
  cases ho : o.op <;> rw [ho] at hk <;> simp only [opK0] at hk <;> (try (cases hk; done)) <;> (try (repeat' (split at hk <;> (try (cases hk; done)))))
  all_goals first
    | (simp only [Option.map_eq_some_iff, Prod.mk.injEq] at hk; obtain ⟨_, _, h1, _⟩ := hk; cases h1; done)
    | (simp only [eqKind] at hk; repeat' (split at hk <;> (try (cases hk; done))))
    | (cases hk; exact ⟨_, _, _, rfl, by assumption, by assumption, by assumption, rfl⟩)

section
variable {E : Env} {S0 : Sur} {l0 : List (List V)} {s0 : Bool} {A : Arena}

/-- A pointer of an arena is not nil. -/
theorem Steps.rnil {K : St → Prop} {s : St} {d : Nat} {x : X} {rest : List Ins} {blk off : Nat} (hx : evXs s.env [x] = some [.rptr blk off]) (hk : Steps E rest K (s.put (some d) (.rptr blk off))) : Steps E (⟨some d, .nilck, [x], none⟩ :: rest) K s := by
  refine Step1.raw fun slots ops o i ro n a w h hc hs hi R Q next hn => ?_
  obtain ⟨os, cc⟩ := comp_of hc
  obtain ⟨p, ho, rfl⟩ := opK_nilck0 cc.op
  obtain ⟨u, hu, o1⟩ := (opds_of R.1 cc.xs (evXs_ok hx)).one
  simp only [List.cons.injEq, and_true] at hu
  subst hu
  have ep := ok_rptr o1
  have hex : (execOp a.eval o).run E.P w = .ok (.value (.pointer (some ⟨blk, off, none⟩))) w := by simp [execOp, ho, ep]
  refine wpOp_done hi (wanted_none (guard_none cc rfl)) (opK_defer cc.op) (.inl hex) (hn _ _ _ h hk ?_ rfl)
  show E.relF _ _ _ _ _ _
  rw [(put_log _ _ _).1, (put_log _ _ _).2, fs_put]
  exact rel_after (eff := { v := _ }) cc R R.1 (.data (.rptr _ _)) rfl

/-- The address of a field. -/
theorem Steps.rfaddr {K : St → Prop} {s : St} {d f : Nat} {x : X} {rest : List Ins} {blk off : Nat} (hx : evXs s.env [x] = some [.rptr blk off]) (hk : Steps E rest K (s.put (some d) (.rptr blk (off + f)))) : Steps E (⟨some d, .faddr f, [x], none⟩ :: rest) K s := by
  refine Step1.raw fun slots ops o i ro n a w h hc hs hi R Q next hn => ?_
  obtain ⟨os, cc⟩ := comp_of hc
  obtain ⟨t, p, g, fs, fd, m, ho, h1, h2, h3, h4, rfl, rfl⟩ := opK_faddr0 cc.op
  obtain ⟨u, hu, o1⟩ := (opds_of R.1 cc.xs (evXs_ok hx)).one
  simp only [List.cons.injEq, and_true] at hu
  subst hu
  have ep := ok_rptr o1
  have hex : (execOp a.eval o).run E.P w = .ok (.value (.pointer (some ⟨blk, off + fd.offset, none⟩))) w := by
    simp only [execOp, ho, ep, Sem.run_bind, run_fieldAt h1 h2 h3 h4]; rfl
  refine wpOp_done hi (wanted_none (guard_none cc rfl)) (opK_defer cc.op) (.inl hex) (hn _ _ _ h hk ?_ rfl)
  show E.relF _ _ _ _ _ _
  rw [(put_log _ _ _).1, (put_log _ _ _).2, fs_put]
  exact rel_after (eff := { v := _ }) cc R R.1 (.data (.rptr _ _)) rfl

/-- Several cells of an arena's block are read. -/
theorem Steps.aloadT (hE : InA E S0 l0 s0) {K : St → Prop} {s : St} {d n : Nat} {x : X} {rest : List Ins} {blk off : Nat} {cs : List V} (hx : evXs s.env [x] = some [.rptr blk off]) (hl : s.log = encA A) (hA : (blk, .cells cs) ∈ A) (hv : off + n ≤ cs.length)
    (hk : Steps E rest K (s.put (some d) (.agg ((cs.drop off).take n)))) : Steps E (⟨some d, .load n true, [x], none⟩ :: rest) K s := by
  refine Step1.raw fun slots ops o i ro n' a w h hc hs hi R Q next hn => ?_
  obtain ⟨os, cc⟩ := comp_of hc
  obtain ⟨t, p, dd, e1, e2, e3, e4, rfl⟩ := opK_loadT cc.op
  obtain ⟨u, hu, o1⟩ := (opds_of R.1 cc.xs (evXs_ok hx)).one
  simp only [List.cons.injEq, and_true] at hu
  subst hu
  have ep := ok_rptr o1
  have R' : E.relF (encA A) s.stp s.fs a w h := by rw [← hl]; exact R
  obtain ⟨vs, et, h1, h2, h3⟩ := (hE.ar R').ok _ hA
  obtain ⟨y, hy1, hy2⟩ := ok_mkv (σ := s.fs) (h := h) (w := w) (agg := true) (n := n) (l := cs.drop off) (f := fun j => vs.getD (off + j) undef) (by simp; omega) (by simp) (fun j v hv => by
    rw [List.getElem?_drop] at hv
    have hlt : off + j < vs.size := by
      have := (List.getElem?_eq_some_iff.1 hv).1; omega
    have := h3 (off + j) v vs[off + j] hv (by simp [hlt])
    have e : vs.getD (off + j) undef = vs[off + j] := by simp [hlt]
    rw [e]
    exact ⟨.data this.1, Grow.of_data this.1, this.2⟩)
  have hex : (execOp a.eval o).run E.P w = .ok (.value y) w := by
    simp only [execOp, e1, ep, Sem.run_bind]
    rw [run_loadAt (cs := (List.range n).map fun j => vs.getD (off + j) undef) e2 e3 (by simp) (fun j v hv => by
      obtain ⟨hj, rfl⟩ := range_map_get hv
      rw [cell_of_row w blk (off + j) vs et (0, 0) h1]
      have : off + j < vs.size := by omega
      simp [this]) (by rw [e4]; exact hy1)]
    rfl
  refine wpOp_done hi (wanted_none (guard_none cc rfl)) (opK_defer cc.op) (.inl hex) (hn _ _ _ h hk ?_ rfl)
  show E.relF _ _ _ _ _ _
  rw [(put_log _ _ _).1, (put_log _ _ _).2, fs_put]
  exact rel_after (eff := { v := _ }) cc R R.1 hy2 rfl

/-- A new struct of an arena. -/
theorem Steps.abox (hE : InA E S0 l0 s0) {K : St → Prop} {s : St} {d : Nat} {x : X} {rest : List Ins} {v : V} (hx : evXs s.env [x] = some [v]) (hl : s.log = encA A) (hs : (cells v).all scalar = true) (hd : (cells v).all isD = true)
    (hk : ∀ b, b ∉ A.map (·.1) → Steps E rest K { s.put (some d) (.rptr b 0) with log := encA ((b, .cells (cells v)) :: A) }) : Steps E (⟨some d, .box, [x], none⟩ :: rest) K s := by
  refine Step1.raw fun slots ops o i ro n a w h hc hsl hi R Q next hn => ?_
  obtain ⟨os, cc⟩ := comp_of hc
  obtain ⟨e, p, ho, rfl⟩ := opK_box0 cc.op
  obtain ⟨u, hu, o1⟩ := (opds_of R.1 cc.xs (evXs_ok hx)).one
  simp only [List.cons.injEq, and_true] at hu
  subst hu
  have R' : E.relF (encA A) s.stp s.fs a w h := by rw [← hl]; exact R
  obtain ⟨q1, q2⟩ := o1.cells hs
  obtain ⟨R2, hnm⟩ := hE.fresh R' (.cells (a.eval p).cells e) (.cells (cells v)) (fun ext => ⟨(a.eval p).cells, e, heap_alloc_new w _, by omega, fun j u z hu hz => by
    obtain ⟨r1, _, r3⟩ := q2 j u z hu hz
    have hD : isD u = true := by
      rw [List.all_eq_true] at hd
      exact hd u (List.mem_of_getElem? hu)
    exact ⟨(rep_isD hD r1).mono ext, r3⟩⟩)
  refine wpOp_done hi (wanted_none (guard_none cc rfl)) (opK_defer cc.op) (.inl ?_) (hn _ _ _ h (hk _ hnm) (rel_putA cc R2 (.data (.rptr _ _)) rfl) rfl)
  simp [execOp, ho, Instr.box, newVar, newRow]

theorem Steps.mov {K : St → Prop} {s : St} {d : Nat} {x : X} {rest : List Ins} {v : V} (hx : evXs s.env [x] = some [v]) (hk : Steps E rest K (s.put (some d) v)) : Steps E (⟨some d, .mov, [x], none⟩ :: rest) K s :=
  Step1.does (ins := ⟨some d, .mov, [x], none⟩) (eff := { v := v }) (.op rfl (evXs_ok hx) rfl trivial (fun e => by cases e)) hk

end
end Go.Am


/-! The tape's reader: bytes, numbers of two bytes, codes. -/
set_option linter.unusedVariables false
set_option linter.unusedSimpArgs false
set_option maxRecDepth 40000
set_option maxHeartbeats 4000000
namespace Go.Proofs.YtggifklgpdladaaGreat
open Go.Am
attribute [local simp] cells scalar mkv splice under2 under dem dem1
/-- A reader of bytes, at a place. -/
abbrev rdA (b : Nat) (s : List UInt8) (p : Nat) : Arena := [(b, .cells [strV s, I (p : Nat)])]
theorem rd_mem (b : Nat) (s : List UInt8) (p : Nat) : (b, Ob.cells [strV s, I (p : Nat)]) ∈ rdA b s p := List.mem_singleton.2 rfl
theorem setA1T (b : Nat) (o o' : Ob) : setA [(b, o)] b o' = [(b, o')] := by simp [setA]

theorem ca_one {b : Nat} {s : List UInt8} (hs : s.length ≤ 65536) {p : Nat} (hp : p < s.length) : CA Tryz.prog F.tape_reader_one (rdA b s p) [] [.rptr b 0] (I (s[p].toNat : Nat)) (rdA b s (p + 1)) := by
  refine CA_of mixed chk.tape_reader_one (by simp) fun S ok S1 hA hK => ?_
  have hm := rd_mem b s p
  refine Tr.seqR rfl (by simp) ?_
  refine Tr.seq (Tr.drawP rfl rfl (A := rdA b s p) rfl ?_)
  refine TraceK.runN 1 rfl (by simp) (TraceK.rnil rfl (TraceK.rfaddr rfl (TraceK.aload hA rfl rfl rfl hm (by simp) (TraceK.runN 1 rfl (by simp) (TraceK.rnil rfl (TraceK.rfaddr rfl (TraceK.aload hA rfl rfl rfl hm (by simp) (TraceK.call rfl rfl (c_at hs hp) (TraceK.run rfl (by simp) (.done ⟨by kernel_rfl, by kernel_rfl, ?_⟩))))))))))
  refine Tr.seqC rfl (by simp) (Steps.call rfl rfl c_must (Steps.fin rfl (by simp) ?_))
  refine Tr.seq (Tr.reg (Steps.runN 1 rfl (by simp) (Steps.rnil rfl (Steps.rfaddr rfl (Steps.aload hA rfl rfl hm rfl (Steps.runN 1 rfl (by simp) (Steps.rnil rfl (Steps.rfaddr rfl (Steps.astore hA rfl rfl hm (by simp) rfl rfl ?_)))))))))
  rw [setA1T]
  refine Steps.fin rfl (by simp) ?_
  have e : IntKind.wrap .i64 ((p : Int) + 1) = ((p + 1 : Nat) : Int) := w64 (by omega) (by omega)
  refine Tr.weak (s' := { env := [(3, I (s[p].toNat : Nat))], bx := [], rw := [], log := encA (rdA b s (p + 1)), stp := false }) (Wk.leL (.cons rfl (.refl _) .nil) .nil .nil rfl rfl (congrArg (fun n => encA [(b, Ob.cells [strV s, I n])]) e)) ?_
  exact Tr.seqR rfl (by simp) (Tr.retX rfl rfl rfl rfl rfl)

theorem ca_two {b : Nat} {s : List UInt8} (hs : s.length ≤ 65536) {p : Nat} (hp : p + 1 < s.length) : CA Tryz.prog F.tape_reader_two (rdA b s p) [] [.rptr b 0] (I (s[p].toNat * 256 + s[p + 1].toNat : Nat)) (rdA b s (p + 2)) := by
  have h1 := s[p].toNat_lt
  have h2 := s[p + 1].toNat_lt
  refine CA_of mixed chk.tape_reader_two (by simp) fun S ok S1 hA hK => ?_
  refine Tr.seqR rfl (by simp) ?_
  refine Tr.seq (Tr.reg (Steps.runN 1 rfl (by simp) (Steps.callA (F := []) hA rfl rfl rfl (ca_one hs (by omega)) (.inl (by simp)) (Steps.fin rfl (by simp) ?_))))
  refine Tr.seq (Tr.reg (Steps.runN 3 rfl (by simp) (Steps.callA (F := []) hA rfl rfl rfl (ca_one hs hp) (.inl (by simp)) (Steps.fin rfl (by simp) ?_))))
  refine Tr.retX rfl rfl rfl ?_ rfl
  show I _ = I (IntKind.wrap .i64 (IntKind.wrap .i64 (((s[p].toNat : Nat) : Int) * 256) + ((s[p + 1].toNat : Nat) : Int)))
  rw [w64 (n := ((s[p].toNat : Nat) : Int) * 256) (by omega) (by omega), w64 (by omega) (by omega)]
  congr 1

/-! ### Codes as bytes -/
def varF : Nat → Nat → List UInt8
  | 0, n => [UInt8.ofNat n]
  | f + 1, n => if n < 128 then [UInt8.ofNat n] else UInt8.ofNat (n % 128 + 128) :: varF f (n / 128)
def varL (n : Nat) : List UInt8 := varF 2 n

theorem u8_of {n : Nat} (h : n < 256) : (UInt8.ofNat n).toNat = n := by
  rw [UInt8.toNat_ofNat']; exact Nat.mod_eq_of_lt h

theorem get_pre {s a r : List UInt8} {p i : Nat} (h : s.drop p = a ++ r) (hi : i < a.length) : ∃ hp : p + i < s.length, s[p + i] = a[i] := by
  have h1 : (s.drop p)[i]? = some a[i] := by rw [h, List.getElem?_append_left hi, List.getElem?_eq_getElem hi]
  rw [List.getElem?_drop] at h1
  have hp := (List.getElem?_eq_some_iff.1 h1).1
  rw [List.getElem?_eq_getElem hp] at h1
  exact ⟨hp, Option.some.inj h1⟩

theorem varF_small {f m : Nat} (h : m < 128) : varF f m = [UInt8.ofNat m] := by
  cases f with
  | zero => rfl
  | succ f => simp [varF, h]

theorem drop_next {s r : List UInt8} {x : UInt8} {p : Nat} (h : s.drop p = x :: r) : s.drop (p + 1) = r := by
  have : (s.drop p).drop 1 = r := by rw [h]; rfl
  rwa [List.drop_drop] at this

def unitF (f : Nat) : Nat := 128 ^ (2 - f)

/-- Where the reading of a code stands. -/
structure CodeSt where
  f : Nat
  m : Nat
  acc : Nat
  p : Nat

def codeOk (s r : List UInt8) (n q : Nat) (c : CodeSt) : Prop :=
  (c.f ≤ 2 ∧ c.m < 128 ^ (c.f + 1)) ∧ s.drop c.p = varF c.f c.m ++ r ∧ c.acc + unitF c.f * c.m = n ∧ (unitF c.f = 1 ∨ 0 < c.m) ∧ c.p + (varF c.f c.m).length = q

theorem ca_code {b : Nat} {s r : List UInt8} (hs : s.length ≤ 65536) {n p : Nat} (hn : n < 2097152) (hd : s.drop p = varL n ++ r) : CA Tryz.prog F.tape_reader_code (rdA b s p) [] [.rptr b 0] (I (n : Nat)) (rdA b s (p + (varL n).length)) := by
  refine CA_of mixed chk.tape_reader_code (by simp) fun S ok S1 hA hK => ?_
  obtain ⟨q, hq⟩ : ∃ q, p + (varL n).length = q := ⟨_, rfl⟩
  rw [hq]
  refine Tr.seqR rfl (by simp) (Tr.seqR rfl (by simp) (Tr.block ?_))
  refine Tr.loop (α := CodeSt) (fun c st => codeOk s r n q c ∧ st = { env := [(0, .rptr b 0), (3, I (c.acc : Nat)), (4, I (unitF c.f : Nat))], bx := [], rw := [], log := encA (rdA b s c.p), stp := false }) (fun c => c.f) ⟨2, n, 0, p⟩
    (Wk.le (.cons rfl (.refl _) (.cons rfl (.refl _) (.cons rfl (.refl _) .nil))) .nil .nil rfl rfl) ⟨⟨⟨Nat.le_refl _, by simpa using hn⟩, hd, by simp [unitF], .inl rfl, hq⟩, rfl⟩ ?_
  rintro ⟨f, m, acc, p⟩ st ⟨⟨⟨hf, hm⟩, hdr, hsum, hlast, hend⟩, rfl⟩
  simp only at hf hm hdr hsum hlast hend
  have hu : unitF f ≤ 16384 := by
    unfold unitF
    have : 2 - f ≤ 2 := by omega
    exact Nat.le_trans (Nat.pow_le_pow_right (by omega) this) (by decide)
  have hacc : acc ≤ n := by omega
  by_cases h0 : m < 128
  · rw [varF_small h0] at hdr hend
    obtain ⟨hp, hg⟩ := get_pre (i := 0) hdr (by simp)
    simp only [Nat.add_zero, List.getElem_cons_zero] at hp hg
    have hb : (s[p]).toNat = m := by rw [hg]; exact u8_of (by omega)
    have k1 := ca_one (b := b) hs hp
    rw [hb] at k1
    have hmul : m * unitF f ≤ 128 * 16384 := Nat.mul_le_mul (by omega) hu
    refine Tr.block (Tr.seq (Tr.reg (Steps.runN 1 rfl (by simp) (Steps.callA (F := []) hA rfl rfl rfl k1 (.inl (by simp)) (Steps.fin rfl (by simp) ?_)))))
    refine Tr.seqR rfl (by simp) ?_
    refine Tr.seq (Tr.seqR rfl (by simp) (Tr.condT (congrArg (fun b => some (V.bool b)) (show decide ((m : Int) < 128) = true from decide_eq_true (by omega))) ?_))
    have hmust : (bif decide ((m : Int) > 0) then true else ((unitF f : Nat) : Int) == 1) = true := by
      rcases hlast with h | h
      · rw [h]; cases decide ((m : Int) > 0) <;> rfl
      · rw [decide_eq_true (by omega)]; rfl
    have k2 : C Tryz.prog F.tape_must [.bool (bif decide ((m : Int) > 0) then true else ((unitF f : Nat) : Int) == 1)] (.tuple []) := by rw [hmust]; exact c_must
    refine Tr.seqC rfl (by simp) (Steps.call rfl rfl k2 (Steps.fin rfl (by simp) ?_))
    refine Tr.seqR rfl (by simp) ?_
    have e : p + 1 = q := by simpa using hend
    refine Tr.retX rfl rfl rfl ?_ (by rw [← e]; rfl)
    show I (n : Nat) = I (IntKind.wrap .i64 ((acc : Int) + IntKind.wrap .i64 ((m : Int).tmod 128 * ((unitF f : Nat) : Int))))
    have e1 : (m : Int).tmod 128 = m := by rw [Int.tmod_eq_emod_of_nonneg (by omega)]; omega
    have e2 : (m : Int) * ((unitF f : Nat) : Int) = ((m * unitF f : Nat) : Int) := by push_cast; rfl
    have e3 : unitF f * m = m * unitF f := Nat.mul_comm _ _
    rw [e1, e2, w64 (n := ((m * unitF f : Nat) : Int)) (by omega) (by omega), w64 (by omega) (by omega)]
    congr 1; omega
  · cases f with
    | zero => exfalso; simp at hm; omega
    | succ f =>
      have hv : varF (f + 1) m = UInt8.ofNat (m % 128 + 128) :: varF f (m / 128) := by simp [varF, h0]
      rw [hv] at hdr hend
      obtain ⟨hp, hg⟩ := get_pre (i := 0) hdr (by simp)
      simp only [Nat.add_zero, List.getElem_cons_zero] at hp hg
      obtain ⟨d, hd'⟩ : ∃ d, m % 128 = d := ⟨_, rfl⟩
      have hdl : d < 128 := by omega
      rw [hd'] at hdr hg
      have hb : (s[p]).toNat = d + 128 := by rw [hg]; exact u8_of (by omega)
      have k1 := ca_one (b := b) hs hp
      rw [hb] at k1
      have hun : unitF f = unitF (f + 1) * 128 := by
        unfold unitF
        rw [show 2 - f = (2 - (f + 1)) + 1 by omega, Nat.pow_succ]
      have hu2 : unitF f ≤ 16384 := by
        unfold unitF
        exact Nat.le_trans (Nat.pow_le_pow_right (by omega) (show 2 - f ≤ 2 by omega)) (by decide)
      obtain ⟨u, hu'⟩ : ∃ u, unitF (f + 1) = u := ⟨_, rfl⟩
      rw [hu'] at hun hu hsum hlast ⊢
      have hmul : d * u ≤ 128 * 16384 := Nat.mul_le_mul (by omega) hu
      refine Tr.block (Tr.seq (Tr.reg (Steps.runN 1 rfl (by simp) (Steps.callA (F := []) hA rfl rfl rfl k1 (.inl (by simp)) (Steps.fin rfl (by simp) ?_)))))
      refine Tr.seqR rfl (by simp) ?_
      refine Tr.seq (Tr.seqR rfl (by simp) (Tr.condF (congrArg (fun b => some (V.bool b)) (show decide (((d + 128 : Nat) : Int) < 128) = false from decide_eq_false (by omega))) (Tr.skip ?_)))
      refine Tr.seqR rfl (by simp) ?_
      have e4 : IntKind.wrap .i64 ((u : Int) * 128) = ((unitF f : Nat) : Int) := by rw [w64 (by omega) (by omega)]; omega
      have k2 : C Tryz.prog F.tape_must [.bool (decide (IntKind.wrap .i64 ((u : Int) * 128) ≤ 16384))] (.tuple []) := by
        rw [e4, decide_eq_true (by omega)]; exact c_must
      refine Tr.reg (Steps.runN 2 rfl (by simp) (Steps.call rfl rfl k2 (Steps.fin rfl (by simp) ?_)))
      have e1 : (((d + 128 : Nat)) : Int).tmod 128 = d := by rw [Int.tmod_eq_emod_of_nonneg (by omega)]; omega
      have e5 : (((d : Nat) : Int) * ((u : Nat) : Int)) = ((d * u : Nat) : Int) := by push_cast; rfl
      have e6 : IntKind.wrap .i64 ((acc : Int) + IntKind.wrap .i64 ((((d + 128 : Nat)) : Int).tmod 128 * ((u : Nat) : Int))) = ((acc + d * u : Nat) : Int) := by
        rw [e1, e5, w64 (n := ((d * u : Nat) : Int)) (by omega) (by omega), w64 (by omega) (by omega)]; omega
      refine ⟨⟨f, m / 128, acc + d * u, p + 1⟩, _, Wk.le (.cons rfl (.refl _) (.cons rfl (VLe.i e6) (.cons rfl (VLe.i e4) .nil))) .nil .nil rfl rfl, ⟨⟨⟨by simp only; omega, ?_⟩, drop_next hdr, ?_, .inr ?_, ?_⟩, rfl⟩, by simp only; omega⟩
      · simp only
        rw [Nat.div_lt_iff_lt_mul (by omega)]
        rw [Nat.pow_succ] at hm; exact hm
      · simp only
        rw [hun, ← hsum]
        have : m = 128 * (m / 128) + d := by omega
        generalize m / 128 = t at this
        rw [this, Nat.mul_add, Nat.mul_assoc, Nat.mul_comm d u]; omega
      · simp only; omega
      · simp only; simp only [List.length_cons] at hend; omega

end Go.Proofs.YtggifklgpdladaaGreat


/-! The tape's reader: samples. -/
set_option linter.unusedVariables false
set_option linter.unusedSimpArgs false
set_option maxRecDepth 40000
set_option maxHeartbeats 4000000
namespace Go.Proofs.YtggifklgpdladaaGreat
open Go.Am
attribute [local simp] cells scalar mkv splice under2 under dem dem1
def intsT (l : List Int) : V := .slice 0 1 (l.map I)
def codeN (last n : Int) : Nat := if n - last < 0 then (1 - 2 * (n - last)).toNat else (2 * (n - last) + 2).toNat
def encF : Int → List Int → List UInt8
  | _, [] => []
  | last, n :: l => varL (codeN last n) ++ encF n l
def lastF : Int → List Int → Int
  | last, [] => last
  | _, n :: l => lastF n l

theorem encF_app : ∀ (l m : List Int) (last : Int), encF last (l ++ m) = encF last l ++ encF (lastF last l) m
  | [], m, last => rfl
  | n :: l, m, last => by
    show varL _ ++ encF n (l ++ m) = (varL _ ++ encF n l) ++ encF (lastF n l) m
    rw [encF_app l m n, List.append_assoc]

theorem lastF_known : ∀ (l : List Int) (last : Int), knownB last = true → (∀ n ∈ l, knownB n = true) → knownB (lastF last l) = true
  | [], last, h, _ => h
  | n :: l, last, h, hl => lastF_known l n (hl n (by simp)) fun m hm => hl m (by simp [hm])

theorem known_bd {n : Int} (h : knownB n = true) : -32767 ≤ n ∧ n ≤ 32767 := by
  simp only [knownB, btw, Bool.and_eq_true, decide_eq_true_eq] at h; omega

theorem lastF_snoc (l : List Int) (n : Int) : ∀ last, lastF last (l ++ [n]) = n := by
  induction l with
  | nil => intro _; rfl
  | cons a l ih => intro _; exact ih a

theorem ca_samples {b : Nat} {s r : List UInt8} (hs : s.length ≤ 65536) {l : List Int} (hl : l.length ≤ 64) (hk : ∀ n ∈ l, knownB n = true) {p : Nat} (hd : s.drop p = encF 0 l ++ r) : CA Tryz.prog F.tape_reader_samples (rdA b s p) [] [.rptr b 0, I (l.length : Nat)] (intsT l) (rdA b s (p + (encF 0 l).length)) := by
  refine CA_of mixed chk.tape_reader_samples (by simp) fun S ok S1 hA hK => ?_
  refine Tr.seqR rfl (by simp) (Tr.seqR rfl (by simp) (Tr.seqR rfl (by simp) (Tr.seq (Tr.seqR rfl (by simp) (Tr.block ?_)))))
  refine Tr.loop (fun (k : Nat) st => k ≤ l.length ∧ st = { env := [(0, .rptr b 0), (5, .slice 45 1 ((l.take k).map I)), (6, I (lastF 0 (l.take k))), (8, I (l.length : Nat)), (9, I (k : Nat))], bx := [], rw := [(44, k, 1, 3)], log := encA (rdA b s (p + (encF 0 (l.take k)).length)), stp := false }) (fun k => l.length - k) 0
    (Wk.le (.cons rfl (.refl _) (.cons rfl (.nil 45 1) (.cons rfl (.refl _) (.cons rfl (.refl _) (.cons rfl (.refl _) .nil))))) .nil (.new rfl .nil) rfl rfl) ⟨by omega, rfl⟩ ?_
  rintro k st ⟨hk1, rfl⟩
  refine Tr.seqR rfl (by simp) (Tr.seqI rfl (fun h1 => ?_) (fun h1 => ?_))
  rotate_left
  · have h1 : k = l.length := by simp at h1; omega
    subst h1
    rw [List.take_length]
    refine Tr.exit (Tr.seqR rfl (by simp) (Tr.weak (s' := { env := [(4, intsT l)], bx := [], rw := [], log := encA (rdA b s (p + (encF 0 l).length)), stp := false }) (Wk.le (.cons rfl (.dem _ _ _) .nil) .nil .nil rfl rfl) (Tr.retX rfl rfl rfl rfl rfl)))
  have h1 : k < l.length := by simpa using h1
  have hkn := hk _ (List.getElem_mem h1)
  have hla := lastF_known (l.take k) 0 (by decide) fun n hn => hk n (List.mem_of_mem_take hn)
  have htk : l.take (k + 1) = l.take k ++ [l[k]] := by rw [List.take_add_one, List.getElem?_eq_getElem h1]; rfl
  have hsnd : lastF 0 (l.take (k + 1)) = l[k] := by rw [htk]; exact lastF_snoc _ _ _
  have henc : encF 0 (l.take (k + 1)) = encF 0 (l.take k) ++ varL (codeN (lastF 0 (l.take k)) l[k]) := by
    rw [htk, encF_app]; simp [encF]
  have hdk : s.drop (p + (encF 0 (l.take k)).length) = varL (codeN (lastF 0 (l.take k)) l[k]) ++ (encF l[k] (l.drop (k + 1)) ++ r) := by
    have e : l = l.take k ++ l[k] :: l.drop (k + 1) := by rw [← List.drop_eq_getElem_cons h1, List.take_append_drop]
    have e2 : encF 0 l = encF 0 (l.take k) ++ (varL (codeN (lastF 0 (l.take k)) l[k]) ++ encF l[k] (l.drop (k + 1))) := by
      conv => lhs; rw [e]
      rw [encF_app]; rfl
    rw [← List.drop_drop, hd, e2, List.append_assoc, List.drop_left, List.append_assoc]
  obtain ⟨la, hla'⟩ : ∃ la, lastF 0 (l.take k) = la := ⟨_, rfl⟩
  obtain ⟨n, hn'⟩ : ∃ n, l[k] = n := ⟨_, rfl⟩
  rw [hla'] at hla hdk ⊢
  rw [hn'] at hkn hdk htk
  have b1 := known_bd hla
  have b2 := known_bd hkn
  obtain ⟨P, hP⟩ : ∃ P, p + (encF 0 (l.take k)).length = P := ⟨_, rfl⟩
  rw [hP] at hdk ⊢
  have hc : codeN la n < 2097152 := by unfold codeN; split <;> omega
  have kc := ca_code (b := b) hs hc hdk
  obtain ⟨P2, hP2⟩ : ∃ P2, P + (varL (codeN la n)).length = P2 := ⟨_, rfl⟩
  rw [hP2] at kc
  obtain ⟨c, hcc⟩ : ∃ c, codeN la n = c := ⟨_, rfl⟩
  have hcv : (¬ n - la < 0 ∧ (c : Int) = 2 * (n - la) + 2) ∨ (n - la < 0 ∧ (c : Int) = 1 - 2 * (n - la)) := by
    rw [← hcc]; unfold codeN; split <;> omega
  rw [hcc] at kc hc
  have hlen : ((l.take k).map I).length = k := by simp; omega
  have kn : C Tryz.prog F.tape_known [I n] (.bool true) := hkn ▸ c_knownT n
  refine Tr.skipT (Tr.seq (Tr.block (Tr.seq (Tr.reg (Steps.runN 1 rfl (by simp) (Steps.callA (F := []) hA rfl rfl rfl kc (.inl (by simp)) (Steps.fin rfl (by simp) ?_)))))))
  refine Tr.meet { env := [(0, .rptr b 0), (5, .slice 45 1 ((l.take k).map I)), (6, I n), (8, I (l.length : Nat)), (9, I (k : Nat))], bx := [], rw := [(44, k, 1, 3)], log := encA (rdA b s P2), stp := false } ?_ ?_
  · refine Tr.block (Tr.seqR rfl (by simp) (Tr.condF (congrArg (fun b => some (V.bool b)) (show ((c : Int) == 0) = false by rw [beq_eq_false_iff_ne]; omega)) ?_))
    refine Tr.seqR rfl (by simp) (Tr.condF (congrArg (fun b => some (V.bool b)) (show ((c : Int) == 1) = false by rw [beq_eq_false_iff_ne]; omega)) ?_)
    rcases hcv with ⟨h2, h3⟩ | ⟨h2, h3⟩
    · have e1 : (c : Int).tmod 2 = 0 := by rw [Int.tmod_eq_emod_of_nonneg (by omega)]; omega
      have e2 : (c : Int).tdiv 2 = n - la + 1 := by rw [Int.tdiv_eq_ediv_of_nonneg (by omega)]; omega
      refine Tr.seqR rfl (by simp) (Tr.condT (congrArg (fun b => some (V.bool b)) (show ((c : Int).tmod 2 == 0) = true by rw [e1]; rfl)) (Tr.regR rfl (by simp) ?_))
      refine Wk.le (.cons rfl (.refl _) (.cons rfl (.refl _) (.cons rfl (VLe.i ?_) (.cons rfl (.refl _) (.cons rfl (.refl _) .nil))))) .nil (.cons rfl .nil) rfl rfl
      show IntKind.wrap .i64 (la + IntKind.wrap .i64 (IntKind.wrap .i64 ((c : Int).tdiv 2) - 1)) = n
      rw [e2, w64 (n := n - la + 1) (by omega) (by omega), w64 (n := n - la + 1 - 1) (by omega) (by omega), w64 (by omega) (by omega)]; omega
    · have e1 : (c : Int).tmod 2 = 1 := by rw [Int.tmod_eq_emod_of_nonneg (by omega)]; omega
      have e2 : (c : Int).tdiv 2 = la - n := by rw [Int.tdiv_eq_ediv_of_nonneg (by omega)]; omega
      refine Tr.seqR rfl (by simp) (Tr.condF (congrArg (fun b => some (V.bool b)) (show ((c : Int).tmod 2 == 0) = false by rw [e1]; rfl)) (Tr.regR rfl (by simp) ?_))
      refine Wk.le (.cons rfl (.refl _) (.cons rfl (.refl _) (.cons rfl (VLe.i ?_) (.cons rfl (.refl _) (.cons rfl (.refl _) .nil))))) .nil (.cons rfl .nil) rfl rfl
      show IntKind.wrap .i64 (la - IntKind.wrap .i64 ((c : Int).tdiv 2)) = n
      rw [e2, w64 (n := la - n) (by omega) (by omega), w64 (by omega) (by omega)]; omega
  · refine Tr.seqC rfl (by simp) (Steps.call rfl rfl kn (Steps.run rfl (by simp) (Steps.call rfl rfl c_must (Steps.fin rfl (by simp) ?_))))
    refine Tr.regR rfl (by simp; omega) (Tr.regR rfl (by simp) ?_)
    refine ⟨k + 1, _, Wk.leL (.cons rfl (.refl _) (.cons rfl (.of_eq ?_) (.cons rfl (VLe.i ?_) (.cons rfl (.refl _) (.cons rfl (VLe.i (w64 (by omega) (by omega))) .nil))))) .nil (.cons ?_ .nil) rfl rfl ?_, ⟨h1, rfl⟩, by omega⟩
    · rw [htk, List.map_append]; rfl
    · rw [hsnd, hn']
    · show some _ = some _
      simp; omega
    · show encA (rdA b s P2) = _
      have e : P2 = p + (encF 0 (l.take (k + 1))).length := by
        rw [henc, hla', hn', List.length_append]; omega
      rw [e]

end Go.Proofs.YtggifklgpdladaaGreat


/-! Contracts: roots and times. -/
set_option linter.unusedVariables false
set_option linter.unusedSimpArgs false
set_option maxRecDepth 20000
namespace Go.Proofs.YtggifklgpdladaaGreat
open Go.Am

def rootR (n : Int) : V := if btw n 0 1099511627776 then .tuple [I (isq n), I 0] else .tuple [I 0, I 7]

theorem c_Root (n : Int) : C Tryz.prog F.region_Root [I n] (rootR n) := by
  refine C_of mixed chk.region_Root (by simp) fun S ok => ?_
  refine Tr.seqR rfl (by simp) ?_
  refine Tr.seq (Tr.seqC rfl (by simp) (Steps.call rfl rfl (c_rwithin _ _ _) (Steps.fin rfl (by simp) ?_)))
  refine Tr.cond rfl rfl (fun h => ?_) (fun h => ?_)
  · refine Tr.seqR rfl (by simp) (Tr.retT rfl rfl ?_ trivial)
    have h : btw n 0 1099511627776 = false := by simpa using h
    simp [rootR, h, packR]
  · refine Tr.skipT (Tr.seqC rfl (by simp) (Steps.call rfl rfl (c_root _) (Steps.fin rfl (by simp) (Tr.retQ rfl rfl ?_ trivial))))
    have h : btw n 0 1099511627776 = true := by simpa using h
    simp [rootR, h, packR]

end Go.Proofs.YtggifklgpdladaaGreat


/-! Contracts: times, places of the grid. -/
set_option linter.unusedVariables false
set_option linter.unusedSimpArgs false
set_option maxRecDepth 20000
namespace Go.Proofs.YtggifklgpdladaaGreat
open Go.Am

/-- The number in front, of what a root hands back. -/
def rootN (n : Int) : Int := if btw n 0 1099511627776 then isq n else 0

theorem rootR_eq (n : Int) : ∃ e : Int, rootR n = .tuple [I (rootN n), I e] := by
  unfold rootR rootN
  cases btw n 0 1099511627776
  · exact ⟨7, rfl⟩
  · exact ⟨0, rfl⟩

/-- The time of a depth and a distance. -/
def timeN (z d slow : Int) : Int := rootN (IntKind.wrap .i64 (IntKind.wrap .i64 (z * z) + IntKind.wrap .i64 ((IntKind.wrap .i64 (slow * d)).tdiv 64)))

theorem c_time (z d slow : Int) : C Tryz.prog F.volume_time [I z, I d, I slow] (I (timeN z d slow)) := by
  refine C_of mixed chk.volume_time (by simp) fun S ok => ?_
  refine Tr.seqR rfl (by simp) ?_
  obtain ⟨e, he⟩ := rootR_eq (IntKind.wrap .i64 (IntKind.wrap .i64 (z * z) + IntKind.wrap .i64 ((IntKind.wrap .i64 (slow * d)).tdiv 64)))
  have hc := c_Root (IntKind.wrap .i64 (IntKind.wrap .i64 (z * z) + IntKind.wrap .i64 ((IntKind.wrap .i64 (slow * d)).tdiv 64)))
  rw [he] at hc
  refine Tr.seqC rfl (by simp) (Steps.call rfl rfl hc (Steps.fin rfl (by simp) ?_))
  exact Tr.seqR rfl (by simp) (Tr.retQ rfl rfl rfl trivial)

/-- Time. -/
def timeOk (z d slow : Int) : Bool := btw z 0 64 && btw d 0 32768 && btw slow 0 4096
def TimeR (z d slow : Int) : V := if timeOk z d slow then .tuple [I (timeN z d slow), I 0] else .tuple [I 0, I 7]

theorem c_Time (z d slow : Int) : C Tryz.prog F.volume_Time [I z, I d, I slow] (TimeR z d slow) := by
  refine C_of mixed chk.volume_Time (by simp) fun S ok => ?_
  refine Tr.seqR rfl (by simp) ?_
  refine Tr.seq (Tr.seqC rfl (by simp) (Steps.call rfl rfl (c_within _ _ _) (Steps.run rfl (by simp) ?_)))
  refine Steps.gcall rfl rfl rfl rfl (by simp) (fun _ => c_within _ _ _) (Steps.run rfl (by simp) ?_)
  refine Steps.gcall rfl rfl rfl rfl (by simp) (fun _ => c_within _ _ _) (Steps.fin rfl (by simp) ?_)
  refine Tr.cond rfl rfl (fun h => ?_) (fun h => ?_)
  · refine Tr.seqR rfl (by simp) (Tr.retT rfl rfl ?_ trivial)
    have h : timeOk z d slow = false := by
      unfold timeOk
      revert h
      cases btw z 0 64 <;> cases btw d 0 32768 <;> cases btw slow 0 4096 <;> simp
    simp [TimeR, h, packR]
  · refine Tr.skipT (Tr.seqC rfl (by simp) (Steps.call rfl rfl (c_time _ _ _) (Steps.fin rfl (by simp) (Tr.retQ rfl rfl ?_ trivial))))
    have h : timeOk z d slow = true := by
      unfold timeOk
      revert h
      cases btw z 0 64 <;> cases btw d 0 32768 <;> cases btw slow 0 4096 <;> simp
    simp [TimeR, h, packR]

end Go.Proofs.YtggifklgpdladaaGreat


/-! Contracts: echoes. -/
set_option linter.unusedVariables false
set_option linter.unusedSimpArgs false
set_option maxRecDepth 20000
namespace Go.Proofs.YtggifklgpdladaaGreat
open Go.Am

structure Echo where
  x : Int
  y : Int
  s : List (Int × Int)

def eB (b : Int × Int) : V := .agg [I b.1, I b.2]
def sB (l : List (Int × Int)) : V := .slice 0 2 (l.map eB)
def eE (e : Echo) : V := .agg [I e.x, I e.y, sB e.s]
def sE (l : List Echo) : V := .slice 0 3 (l.map eE)

theorem getD_map {α : Type} {e : α → V} {l : List α} {k : Nat} (h : k < l.length) : (l.map e).getD (Int.toNat (k : Int)) nothing = e l[k] := by
  simp [h]

/-- The first index at which p holds. -/
def firstI {α : Type} (p : α → Bool) : List α → Nat → Int
  | [], _ => -1
  | x :: l, k => if p x then k else firstI p l (k + 1)

theorem firstI_nn {α : Type} (p : α → Bool) : ∀ (l : List α) (k : Nat), decide (firstI p l k ≥ 0) = l.any p
  | [], k => by simp [firstI]
  | x :: l, k => by
    simp only [firstI, List.any_cons]
    by_cases h : p x = true
    · simp [h]
    · simp only [h, if_false, Bool.false_eq_true]
      rw [firstI_nn p l (k + 1)]
      simp [h]

theorem firstI_drop {α : Type} (p : α → Bool) (l : List α) {k : Nat} (h : k < l.length) : firstI p (l.drop k) k = if p l[k] then (k : Int) else firstI p (l.drop (k + 1)) (k + 1) := by
  rw [List.drop_eq_getElem_cons h]; rfl

theorem c_indexB {l : List (Int × Int)} {p : Int × Int → Bool} {f : FuncId} (hl : l.length ≤ 9223372036854775807) (hp : ∀ b ∈ l, C Tryz.prog f [eB b] (.bool (p b))) :
    C Tryz.prog F.slices_IndexFunc_api_Bound_api_Bound [sB l, .func (.func f) [] []] (I (firstI p l 0)) := by
  refine C_of mixed chk.slices_IndexFunc_api_Bound_api_Bound (by simp) fun S ok => ?_
  refine Tr.seqR rfl (by simp) ?_
  refine Tr.seq (Tr.seqR rfl (by simp) (Tr.block ?_))
  refine Tr.loop (fun k s => (k ≤ l.length ∧ firstI p l 0 = firstI p (l.drop k) k) ∧ s = { env := [(0, sB l), (1, .func (.func f) [] []), (7, I l.length), (8, I k)], bx := [], rw := [], log := [], stp := false }) (fun k => l.length - k) 0
    (Wk.le (.cons rfl (.refl _) (.cons rfl (.refl _) (.cons rfl (VLe.i (by simp)) (.cons rfl (.refl _) .nil)))) .nil .nil rfl rfl) ⟨⟨by omega, by simp⟩, rfl⟩ ?_
  rintro k s ⟨⟨hk, hf⟩, rfl⟩
  refine Tr.seqR rfl (by simp) (Tr.seqI rfl (fun h1 => ?_) (fun h1 => ?_))
  · have h1 : k < l.length := by simpa using h1
    refine Tr.skipT (Tr.seq (Tr.block (Tr.seqR rfl (by simp) (Tr.seqC rfl ?_ ?_))))
    · rw [getD_map h1]; simp [eB, cells]; omega
    · rw [getD_map h1]
      refine Steps.callv rfl rfl (hp l[k] (List.getElem_mem h1)) (Steps.fin rfl (by simp) ?_)
      refine Tr.cond rfl rfl (fun h2 => ?_) (fun h2 => ?_)
      · refine Tr.seqR rfl (by simp) (Tr.ret ?_)
        refine ⟨trivial, _, _, _, resVs_ok rfl, rfl, ?_⟩
        rw [hf, firstI_drop p l h1, if_pos h2]; rfl
      · refine Tr.skip (Tr.regR rfl (by simp) ?_)
        refine ⟨k + 1, _, ?_, ⟨⟨by omega, ?_⟩, rfl⟩, by omega⟩
        · exact Wk.le (.cons rfl (.refl _) (.cons rfl (.refl _) (.cons rfl (.refl _) (.cons rfl (VLe.i (w64 (by omega) (by omega))) .nil)))) .nil .nil rfl rfl
        · rw [hf, firstI_drop p l h1, if_neg (by simp [h2])]
  · have h1 : k = l.length := by simp at h1; omega
    subst h1
    refine Tr.exit (Tr.seqR rfl (by simp) (Tr.retQ rfl rfl ?_ trivial))
    rw [hf, List.drop_length]; rfl

theorem c_containsB {l : List (Int × Int)} {p : Int × Int → Bool} {f : FuncId} (hl : l.length ≤ 9223372036854775807) (hp : ∀ b ∈ l, C Tryz.prog f [eB b] (.bool (p b))) :
    C Tryz.prog F.slices_ContainsFunc_api_Bound_api_Bound [sB l, .func (.func f) [] []] (.bool (l.any p)) := by
  refine C_of mixed chk.slices_ContainsFunc_api_Bound_api_Bound (by simp) fun S ok => ?_
  refine Tr.seqR rfl (by simp) ?_
  refine Tr.seqC rfl (by simp) (Steps.call rfl rfl (c_indexB hl hp) (Steps.fin rfl (by simp) (Tr.retQ rfl rfl ?_ trivial)))
  rw [← firstI_nn p l 0]; rfl

def loud (b : Int × Int) : Bool := decide (b.1 ≥ -16777216) && decide (b.1 ≤ b.2) && decide (b.2 ≤ 16777216)

theorem c_quiet (b : Int × Int) : C Tryz.prog F.volume_CheckEchoes_1 [eB b] (.bool (!loud b)) := by
  refine C_of mixed chk.volume_CheckEchoes_1 (by simp) fun S ok => ?_
  refine Tr.seqR rfl (by simp [eB, cells, scalar]) ?_
  refine Tr.seqR rfl (by simp [eB, cells]) (Tr.retQ rfl rfl ?_ trivial)
  simp only [packR, loud, V.bool.injEq]
  by_cases h1 : b.1 > b.2 <;> by_cases h2 : b.1 < -16777216 <;> by_cases h3 : b.2 > 16777216 <;> simp [h1, h2, h3] <;> omega

def cellOk (x y z : Int) : Bool := btw x (-64) 64 && btw y (-64) 64 && btw z 0 64

theorem c_cellValid (x y z : Int) : C Tryz.prog F.volume_cell_valid [.agg [I x, I y, I z]] (.bool (cellOk x y z)) := by
  refine C_of mixed chk.volume_cell_valid (by simp) fun S ok => ?_
  refine Tr.seqR rfl (by simp [cells, scalar]) ?_
  refine Tr.seqC rfl (by simp [cells]) (Steps.call rfl rfl (c_within _ _ _) (Steps.run rfl (by simp [cells]) ?_))
  refine Steps.gcall rfl rfl rfl rfl (by simp [cells]) (fun _ => c_within _ _ _) (Steps.run rfl (by simp [cells]) ?_)
  refine Steps.gcall rfl rfl rfl rfl (by simp [cells]) (fun _ => c_within _ _ _) (Steps.fin rfl (by simp [cells]) (Tr.retQ rfl rfl ?_ trivial))
  simp only [packR, cellOk, V.bool.injEq]
  cases btw x (-64) 64 <;> cases btw y (-64) 64 <;> cases btw z 0 64 <;> rfl

end Go.Proofs.YtggifklgpdladaaGreat


/-! Contracts: CheckEchoes. -/
set_option linter.unusedVariables false
set_option linter.unusedSimpArgs false
set_option maxRecDepth 20000
namespace Go.Proofs.YtggifklgpdladaaGreat
open Go.Am

def echoOk (e : Echo) : Bool := btw e.x (-64) 64 && btw e.y (-64) 64 && btw e.s.length 1 64 && e.s.all loud
def echoesOk (l : List Echo) : Bool := decide (l.length ≤ 32) && l.all echoOk
/-- Lengths that slices may have. -/
def sane (l : List Echo) : Prop := l.length ≤ 9223372036854775807 ∧ ∀ e ∈ l, e.s.length ≤ 9223372036854775807
def CheckR (l : List Echo) : V := I (if echoesOk l then 0 else 100)

theorem c_CheckEchoes {l : List Echo} (hl : sane l) : C Tryz.prog F.volume_CheckEchoes [sE l] (CheckR l) := by
  refine C_of mixed chk.volume_CheckEchoes (by simp) fun S ok => ?_
  refine Tr.seqR rfl (by simp) ?_
  refine Tr.seq (Tr.seqR rfl (by simp) (Tr.cond rfl rfl (fun h => ?_) (fun h => ?_)))
  · refine Tr.seqR rfl (by simp) (Tr.retT rfl rfl ?_ trivial)
    have h : ¬ l.length ≤ 32 := by simp at h; omega
    simp [CheckR, echoesOk, h, packR]
  have h32 : l.length ≤ 32 := by simp at h; omega
  refine Tr.skipT (Tr.seq (Tr.seqR rfl (by simp) (Tr.block ?_)))
  refine Tr.loop (fun k s => (k ≤ l.length ∧ (l.take k).all echoOk = true) ∧ s = { env := [(0, sE l), (9, sE l), (10, I l.length), (11, I k)], bx := [], rw := [], log := [], stp := false }) (fun k => l.length - k) 0
    (Wk.le (.cons rfl (.refl _) (.cons rfl (.refl _) (.cons rfl (VLe.i (by simp)) (.cons rfl (.refl _) .nil)))) .nil .nil rfl rfl) ⟨⟨by omega, by simp⟩, rfl⟩ ?_
  rintro k s ⟨⟨hk, hf⟩, rfl⟩
  refine Tr.seqR rfl (by simp) (Tr.seqI rfl (fun h1 => ?_) (fun h1 => ?_))
  · have h1 : k < l.length := by simpa using h1
    have hmem := List.getElem_mem h1
    refine Tr.skipT (Tr.seq (Tr.block (Tr.seqR rfl ?_ ?_)))
    · rw [getD_map h1]; simp [eE, cells, scalar, sB, mkv, splice]; omega
    rw [getD_map h1]
    refine Tr.seqC rfl (by simp [eE, cells, scalar, sB, mkv, splice]) ?_
    refine Steps.call rfl rfl (c_containsB (hl.2 _ hmem) fun b _ => c_quiet b) (Steps.fin rfl (by simp) ?_)
    refine Tr.seqC rfl (by simp [eE, cells, scalar, sB, mkv, splice, under2, under, dem, dem1]) ?_
    refine Steps.gcall rfl rfl rfl rfl (by simp) (fun _ => c_cellValid _ _ _) (Steps.run rfl (by simp [eE, cells, scalar, sB, mkv, splice]) ?_)
    refine Steps.gcall rfl rfl rfl rfl (by simp) (fun _ => c_within _ _ _) (Steps.fin rfl (by simp [eE, cells, scalar, sB, mkv, splice]) ?_)
    have hE : echoOk l[k] = (btw l[k].x (-64) 64 && btw l[k].y (-64) 64 && btw l[k].s.length 1 64 && l[k].s.all loud) := rfl
    have hany : (l[k].s.any fun b => !loud b) = !l[k].s.all loud := by rw [List.all_eq_not_any_not]; simp
    refine Tr.cond rfl rfl (fun h2 => ?_) (fun h2 => ?_)
    · refine Tr.seqR rfl (by simp) (Tr.ret ?_)
      refine ⟨trivial, _, _, _, resVs_ok rfl, rfl, ?_⟩
      have hno : echoOk l[k] = false := by
        rw [hE]
        revert h2
        simp only [hany, cellOk, List.length_map]
        cases btw l[k].x (-64) 64 <;> cases btw l[k].y (-64) 64 <;> cases btw l[k].s.length 1 64 <;> cases l[k].s.all loud <;> simp [btw]
      have : l.all echoOk = false := by
        rw [List.all_eq_false]
        exact ⟨l[k], hmem, by simp [hno]⟩
      simp [CheckR, echoesOk, this, packR]
    · refine Tr.skip (Tr.regR rfl (by simp) ?_)
      have hyes : echoOk l[k] = true := by
        rw [hE]
        revert h2
        simp only [hany, cellOk, List.length_map]
        cases btw l[k].x (-64) 64 <;> cases btw l[k].y (-64) 64 <;> cases btw l[k].s.length 1 64 <;> cases l[k].s.all loud <;> simp [btw]
      refine ⟨k + 1, _, ?_, ⟨⟨by omega, ?_⟩, rfl⟩, by omega⟩
      · exact Wk.le (.cons rfl (.refl _) (.cons rfl (.refl _) (.cons rfl (.refl _) (.cons rfl (VLe.i (w64 (by omega) (by omega))) .nil)))) .nil .nil rfl rfl
      · rw [List.take_add_one, List.all_append, hf, List.getElem?_eq_getElem h1]
        simp [hyes]
  · have h1 : k = l.length := by simp at h1; omega
    subst h1
    refine Tr.exit (Tr.seqR rfl (by simp) (Tr.retQ rfl rfl ?_ trivial))
    have : l.all echoOk = true := by simpa using hf
    simp [CheckR, echoesOk, h32, this, packR]

end Go.Proofs.YtggifklgpdladaaGreat


/-! Contracts: sums over what is produced. -/
set_option linter.unusedVariables false
set_option linter.unusedSimpArgs false
set_option maxRecDepth 20000
namespace Go.Proofs.YtggifklgpdladaaGreat
open Go.Am

/-- Captured data that stand for themselves. -/
structure Plain (us : List V) : Prop where
  d : ∀ b, toDs b us = some (us, [])
  r : ∀ B R, us.all (refsOk B R 5) = true

theorem refs_plain {us : List V} (h : Plain us) {fn : Fn} {B : Nat → Bool} {R : Nat → Option (Nat × Nat × Nat)} : refsOk B R 6 (.func fn [] us) = true := by
  show (([] : List V).all (refsOk B R 5) && us.all (refsOk B R 5)) = true
  rw [h.r]; rfl

theorem c_fold {f g : FuncId} {us : List V} {step : Int × Int → Int × Int → Int × Int} (first : Int × Int) {l : List (Int × Int)} (hus : Plain us) (hit : Iter Tryz.prog f us (l.map fun b => [eB b])) (hg : ∀ a b, C Tryz.prog g [eB a, eB b] (eB (step a b))) :
    C Tryz.prog F.volume_fold_volume_sum [eB first, .func (.func f) [] us, .func (.func g) [] []] (eB (l.foldl step first)) := by
  refine C_of mixed chk.volume_fold_volume_sum (by simp) fun S ok => ?_
  refine Tr.seqR rfl (by simp [eB, cells, scalar]) ?_
  refine Tr.seq (Tr.seqR rfl (by simp) (Tr.block ?_))
  refine Tr.weak (s' := { env := [(8, .func (.func f) [] us), (3, .ptr 3 0), (5, .ptr 5 0), (6, .ptr 6 0)], bx := [(3, ⟨[I first.1, I first.2], false⟩), (5, ⟨[.func (.func g) [] []], false⟩), (6, ⟨[I 0, I 0], false⟩)], rw := [], log := [], stp := false })
    (Wk.le (.cons rfl (.refl _) (.cons rfl (.refl _) (.cons rfl (.refl _) (.cons rfl (.refl _) .nil)))) (.cons rfl (LLe.refl _) (.cons rfl (LLe.refl _) (.cons rfl (LLe.refl _) .nil))) .nil (by simp only [okRefs, List.all_cons, refs_plain hus]; rfl) rfl) ?_
  refine Tr.range rfl (hus.d _) hit rfl (by simp only [List.all_cons, refs_plain hus]; rfl) rfl (by intro x hx; obtain ⟨b, _, rfl⟩ := List.mem_map.1 hx; rfl)
    (fun pre t => ∃ m, m ≤ l.length ∧ pre = (l.take m).map (fun b => [eB b]) ∧ t.bx = [(3, ⟨[I ((l.take m).foldl step first).1, I ((l.take m).foldl step first).2], false⟩), (5, ⟨[.func (.func g) [] []], false⟩), (6, ⟨[I 0, I 0], false⟩)] ∧ t.rw = [] ∧ t.log = [])
    (fun _ _ => False) ⟨0, by omega, rfl, rfl, rfl, rfl⟩ ?_ ?_ ?_
  · rintro a0 L0 rc0 h0 S1 S2 ok1 ok2 pre x t lp hpre ⟨m, hm, rfl, hbx, hrw, hlog⟩ henv hstp
    obtain ⟨env, bx, rw, log, stp⟩ := t
    simp only at hbx hrw hlog henv hstp
    subst hbx hrw hlog henv hstp
    have hmx : m < l.length ∧ ∃ b, l[m]? = some b ∧ x = [eB b] := by
      have h1 : ((l.take m).map fun b => [eB b]).length = m := by simp; omega
      have h2 := hpre.length_le
      simp at h2
      have hml : m < l.length := by omega
      refine ⟨hml, l[m], List.getElem?_eq_getElem hml, ?_⟩
      have h3 := List.IsPrefix.getElem hpre (i := m) (by simp; omega)
      simp only [List.getElem_map] at h3
      rw [List.getElem_append_right (by omega)] at h3
      simpa using h3
    obtain ⟨hml, b, hb, rfl⟩ := hmx
    refine Tr.regR rfl (by simp [eB, cells, scalar, splice]) ?_
    refine Tr.block (Tr.regP rfl (by simp [cells, eB, splice]) ?_)
    refine Steps.callv rfl rfl (hg ((l.take m).foldl step first) b) (Steps.fin rfl (by simp [eB, cells, scalar, splice]) ?_)
    refine ⟨{ env := [], bx := [(3, ⟨[I ((l.take (m + 1)).foldl step first).1, I ((l.take (m + 1)).foldl step first).2], false⟩), (5, ⟨[.func (.func g) [] []], false⟩), (6, ⟨[I 0, I 0], false⟩)], rw := [], log := [], stp := false }, ?_, ⟨m + 1, by omega, ?_, rfl, rfl, rfl⟩, rfl⟩
    · have e : (l.take (m + 1)).foldl step first = step ((l.take m).foldl step first) b := by
        rw [List.take_add_one, hb]; simp
      rw [e]
      exact Wk.le .nil (.cons rfl (LLe.refl _) (.cons rfl (LLe.refl _) (.cons rfl (LLe.refl _) .nil))) .nil rfl rfl
    · rw [List.take_add_one, hb]; simp
  · rintro ⟨env, bx, rw, log, stp⟩ henv hstp ⟨m, hm, hpre, hbx, hrw, hlog⟩
    simp only at hbx hrw hlog henv hstp
    subst hbx hrw hlog henv hstp
    have hml : m = l.length := by
      have := congrArg List.length hpre
      simp at this; omega
    subst hml
    refine Tr.seqR rfl (by simp [cells, scalar, splice, mkv]) (Tr.retQ rfl rfl ?_ trivial)
    rw [List.take_length]; rfl
  · intro e t _ h; exact h.elim

end Go.Proofs.YtggifklgpdladaaGreat


/-! Contracts: what is heard at a place. -/
set_option linter.unusedVariables false
set_option linter.unusedSimpArgs false
set_option maxRecDepth 20000
namespace Go.Proofs.YtggifklgpdladaaGreat
open Go.Am

abbrev w (n : Int) : Int := IntKind.wrap .i64 n

structure Ear where
  l : List Echo
  aper : Int
  slow : Int × Int

def earC (h : Ear) : List V := [sE h.l, I h.aper, I h.slow.1, I h.slow.2]
def cellC (x y z : Int) : List V := [I x, I y, I z]

def dst (x y : Int) (e : Echo) : Int := w (w (w (x - e.x) * w (x - e.x)) + w (w (y - e.y) * w (y - e.y)))
def hears (aper x y : Int) (e : Echo) : Bool := decide (dst x y e ≤ w (aper * aper))
def nears (aper x y : Int) : List Echo → Nat → List (Int × Int)
  | [], _ => []
  | e :: r, k => if hears aper x y e then ((k : Int), dst x y e) :: nears aper x y r (k + 1) else nears aper x y r (k + 1)

def eP (p : Int × Int) : List V := [I p.1, I p.2]

theorem nears_drop (aper x y : Int) (l : List Echo) {k : Nat} (h : k < l.length) : nears aper x y (l.drop k) k = if hears aper x y l[k] then ((k : Int), dst x y l[k]) :: nears aper x y (l.drop (k + 1)) (k + 1) else nears aper x y (l.drop (k + 1)) (k + 1) := by
  rw [List.drop_eq_getElem_cons h]; rfl

theorem c_near (h : Ear) (x y z : Int) : C Tryz.prog F.volume_ear_near [.agg (earC h), .agg (cellC x y z)] (.func (.func F.volume_ear_near_1) [] [.vptr (earC h) 0, .vptr (cellC x y z) 0]) := by
  refine C_of mixed chk.volume_ear_near (by simp) fun S ok => ?_
  refine Tr.seqR rfl (by simp [cells, scalar, earC, cellC, sE]) ?_
  exact Tr.seqR rfl (by simp [scalar]) (Tr.retQ rfl rfl rfl trivial)

theorem i_near (h : Ear) (x y z : Int) (hl : h.l.length ≤ 9223372036854775807) : Iter Tryz.prog F.volume_ear_near_1 [.vptr (earC h) 0, .vptr (cellC x y z) 0] ((nears h.aper x y h.l 0).map eP) := by
  refine Iter_of mixed chk.volume_ear_near_1 (by simp) fun S ok => ?_
  refine Tr.seqR rfl (by simp [earC]) (Tr.block ?_)
  refine Tr.loop (α := Nat × List (List V)) (fun p s => (p.1 ≤ h.l.length ∧ p.2 ++ (nears h.aper x y (h.l.drop p.1) p.1).map eP = (nears h.aper x y h.l 0).map eP) ∧
      s = { env := [(0, .yld), (1, .vptr (earC h) 0), (2, .vptr (cellC x y z) 0), (8, sE h.l), (9, I h.l.length), (10, I p.1)], bx := [], rw := [], log := p.2, stp := false }) (fun p => h.l.length - p.1) (0, [])
    (Wk.le (.cons rfl (.refl _) (.cons rfl (.refl _) (.cons rfl (.refl _) (.cons rfl (.refl _) (.cons rfl (VLe.i (by simp)) (.cons rfl (.refl _) .nil)))))) .nil .nil rfl rfl) ⟨⟨by simp, by simp⟩, rfl⟩ ?_
  rintro ⟨k, lg⟩ s ⟨⟨hk, hf⟩, rfl⟩
  simp only at hk hf
  refine Tr.seqR rfl (by simp) (Tr.seqI rfl (fun h1 => ?_) (fun h1 => ?_))
  · have h1 : k < h.l.length := by simpa using h1
    refine Tr.skipT (Tr.seq (Tr.block (Tr.seqR rfl ?_ ?_)))
    · rw [getD_map h1]; simp [eE, cells, scalar, sB, mkv, splice]; omega
    rw [getD_map h1]
    refine Tr.seqR rfl (by simp [eE, cells, scalar, sB, mkv, splice, cellC]) ?_
    refine Tr.seqC rfl (by simp [earC]) ?_
    have hd := nears_drop h.aper x y h.l h1
    by_cases hh : hears h.aper x y h.l[k] = true
    · rw [if_pos hh] at hd
      have hp : lg ++ [eP ((k : Int), dst x y h.l[k])] ++ (nears h.aper x y (h.l.drop (k + 1)) (k + 1)).map eP = (nears h.aper x y h.l 0).map eP := by
        rw [← hf, hd]; simp
      refine Steps.gyield (want := true) rfl rfl ?_ rfl ?_ rfl ⟨_, hp⟩ rfl (fun b => ?_)
      · show some (hears h.aper x y h.l[k] == true) = some true
        rw [hh]; rfl
      · show (hears h.aper x y h.l[k] == true) = true ∧ (hears h.aper x y h.l[k] == true) = true ∧ (hears h.aper x y h.l[k] == true) = true ∧ True
        rw [hh]; simp
      refine Steps.fin rfl (by simp) ?_
      refine Tr.cond rfl rfl (fun h2 => ?_) (fun h2 => ?_)
      · refine Tr.ret ⟨.inl ?_, [], [], [], rfl, rfl, rfl⟩
        have h2 : (bif hears h.aper x y h.l[k] then !b else false) = true := h2
        rw [hh] at h2
        exact h2
      · have h2 : (bif hears h.aper x y h.l[k] then !b else false) = false := h2
        rw [hh] at h2
        have hb : b = true := by simpa using h2
        subst hb
        refine Tr.skip (Tr.regR rfl (by simp) ?_)
        refine ⟨(k + 1, lg ++ [eP ((k : Int), dst x y h.l[k])]), _, ?_, ⟨⟨by simp; omega, hp⟩, rfl⟩, by simp; omega⟩
        exact Wk.le (.cons rfl (.refl _) (.cons rfl (.refl _) (.cons rfl (.refl _) (.cons rfl (.refl _) (.cons rfl (.refl _) (.cons rfl (VLe.i (w64 (by omega) (by omega))) .nil)))))) .nil .nil rfl rfl
    · have hh : hears h.aper x y h.l[k] = false := by simpa using hh
      rw [hh, if_neg (by simp)] at hd
      refine Steps.off (want := true) (.bool true) rfl rfl ?_ ?_
      · show some (hears h.aper x y h.l[k] == true) = some false
        rw [hh]; rfl
      refine Steps.fin rfl ?_ ?_
      · have e : (decide (dst x y h.l[k] ≤ w (h.aper * h.aper))) = false := hh
        have e2 := Int.lt_of_not_ge (of_decide_eq_false e)
        simp
        exact e2
      refine Tr.cond rfl rfl (fun h2 => ?_) (fun h2 => ?_)
      · have h2 : (bif hears h.aper x y h.l[k] then !true else false) = true := h2
        rw [hh] at h2; cases h2
      · refine Tr.skip (Tr.regR rfl (by simp) ?_)
        refine ⟨(k + 1, lg), _, ?_, ⟨⟨by simp; omega, ?_⟩, rfl⟩, by simp; omega⟩
        · exact Wk.le (.cons rfl (.refl _) (.cons rfl (.refl _) (.cons rfl (.refl _) (.cons rfl (.refl _) (.cons rfl (.refl _) (.cons rfl (VLe.i (w64 (by omega) (by omega))) .nil)))))) .nil .nil rfl rfl
        · simp only; rw [← hd]; exact hf
  · have h1 : k = h.l.length := by simp at h1; omega
    subst h1
    refine Tr.exit ?_
    refine ⟨.inr ?_, [], [], [], rfl, rfl, rfl⟩
    rw [List.drop_length] at hf
    have e : lg = (nears h.aper x y h.l 0).map eP := by simpa [nears] using hf
    exact e

end Go.Proofs.YtggifklgpdladaaGreat


/-! Contracts: sums of bounds, distances. -/
set_option linter.unusedVariables false
set_option linter.unusedSimpArgs false
set_option maxRecDepth 20000
namespace Go.Proofs.YtggifklgpdladaaGreat
open Go.Am

def plusB (a b : Int × Int) : Int × Int := (w (a.1 + b.1), w (a.2 + b.2))

theorem c_plus (a b : Int × Int) : C Tryz.prog F.volume_sum_plus [eB a, eB b] (eB (plusB a b)) := by
  refine C_of mixed chk.volume_sum_plus (by simp) fun S ok => ?_
  refine Tr.seqR rfl (by simp [eB, cells, scalar]) ?_
  exact Tr.seqR rfl (by simp [eB, cells, scalar, splice]) (Tr.retQ rfl rfl rfl trivial)

end Go.Proofs.YtggifklgpdladaaGreat


/-! Contracts: what a place names. -/
set_option linter.unusedVariables false
set_option linter.unusedSimpArgs false
set_option maxRecDepth 20000
namespace Go.Proofs.YtggifklgpdladaaGreat
open Go.Am

theorem nears_mem {aper x y : Int} : ∀ {l : List Echo} {k : Nat} {p : Int × Int}, p ∈ nears aper x y l k → ∃ i : Nat, p.1 = ((k + i : Nat) : Int) ∧ i < l.length
  | [], k, p, h => by simp [nears] at h
  | e :: r, k, p, h => by
    simp only [nears] at h
    have rest : p ∈ nears aper x y r (k + 1) → ∃ i : Nat, p.1 = ((k + i : Nat) : Int) ∧ i < (e :: r).length := fun h => by
      obtain ⟨i, h1, h2⟩ := nears_mem h
      exact ⟨i + 1, by rw [h1]; congr 1; omega, by simpa using h2⟩
    split at h
    · rcases List.mem_cons.1 h with rfl | h
      · exact ⟨0, by simp, by simp⟩
      · exact rest h
    · exact rest h

def refOf (h : Ear) (z : Int) (p : Int × Int) : Option (Int × Int) :=
  if timeN z p.2 h.slow.1 < ((h.l[p.1.toNat]?.map fun e => e.s.length).getD 0 : Nat) then some (p.1, timeN z p.2 h.slow.1) else none

def namedL (h : Ear) (x y z : Int) : List (Int × Int) := (nears h.aper x y h.l 0).filterMap (refOf h z)

theorem plain_near (h : Ear) (x y z : Int) : Plain [.vptr (earC h) 0, .vptr (cellC x y z) 0] := ⟨fun b => rfl, fun B R => rfl⟩

theorem nears_len {aper x y : Int} : ∀ {l : List Echo} {k : Nat}, (nears aper x y l k).length ≤ l.length
  | [], k => by simp [nears]
  | e :: r, k => by
    have := nears_len (aper := aper) (x := x) (y := y) (l := r) (k := k + 1)
    simp only [nears]
    split <;> simp <;> omega

theorem c_named (h : Ear) (x y z : Int) (hl : h.l.length ≤ 32) (hs : ∀ e ∈ h.l, e.s.length ≤ 9223372036854775807) :
    C Tryz.prog F.volume_ear_named [.agg (earC h), .agg (cellC x y z)] (.slice 0 2 ((namedL h x y z).map eB)) := by
  refine C_of mixed chk.volume_ear_named (by simp) fun S ok => ?_
  refine Tr.seqR rfl (by simp [cells, scalar, earC, cellC, sE]) ?_
  refine Tr.seqR rfl (by simp) ?_
  refine Tr.seq (Tr.seqC rfl (by simp [cells, earC, cellC]) (Steps.call rfl rfl (c_near h x y z) (Steps.fin rfl (by simp) (Tr.block ?_))))
  refine Tr.weak (s' := { env := [(11, .func (.func F.volume_ear_near_1) [] [.vptr (earC h) 0, .vptr (cellC x y z) 0]), (2, .ptr 2 0), (3, .ptr 3 0), (5, .ptr 5 0)], bx := [(2, ⟨earC h, false⟩), (3, ⟨cellC x y z, false⟩), (5, ⟨[.slice 36 2 []], false⟩)], rw := [(35, 0, 2, 89)], log := [], stp := false })
    (Wk.le (.cons rfl (.refl _) (.cons rfl (.refl _) (.cons rfl (.refl _) (.cons rfl (.refl _) .nil)))) (.cons rfl (LLe.refl _) (.cons rfl (LLe.refl _) (.cons rfl (.cons (.nil 36 2) .nil) .nil))) (.new rfl .nil) rfl rfl) ?_
  refine Tr.range rfl rfl (i_near h x y z (by omega)) rfl rfl rfl (by intro x hx; obtain ⟨b, _, rfl⟩ := List.mem_map.1 hx; rfl)
    (fun pre t => ∃ m, m ≤ (nears h.aper x y h.l 0).length ∧ pre = ((nears h.aper x y h.l 0).take m).map eP ∧ t.bx = [(2, ⟨earC h, false⟩), (3, ⟨cellC x y z, false⟩), (5, ⟨[.slice 36 2 ((((nears h.aper x y h.l 0).take m).filterMap (refOf h z)).map eB)], false⟩)] ∧ t.rw = [(35, (((nears h.aper x y h.l 0).take m).filterMap (refOf h z)).length, 2, 89)] ∧ t.log = [])
    (fun _ _ => False) ⟨0, by omega, rfl, rfl, rfl, rfl⟩ ?_ ?_ ?_
  · rintro a0 L0 rc0 h0 S1 S2 ok1 ok2 pre q t lp hpre ⟨m, hm, rfl, hbx, hrw, hlog⟩ henv hstp
    obtain ⟨env, bx, rw, log, stp⟩ := t
    simp only at hbx hrw hlog henv hstp
    subst hbx hrw hlog henv hstp
    have hmx : m < (nears h.aper x y h.l 0).length ∧ ∃ b, (nears h.aper x y h.l 0)[m]? = some b ∧ q = eP b := by
      have h1 : (((nears h.aper x y h.l 0).take m).map eP).length = m := by simp; omega
      have h2 := hpre.length_le
      simp at h2
      have hml : m < (nears h.aper x y h.l 0).length := by omega
      refine ⟨hml, _, List.getElem?_eq_getElem hml, ?_⟩
      have h3 := List.IsPrefix.getElem hpre (i := m) (by simp; omega)
      simp only [List.getElem_map] at h3
      rw [List.getElem_append_right (by omega)] at h3
      simpa using h3
    obtain ⟨hml, ⟨p1, p2⟩, hb, rfl⟩ := hmx
    obtain ⟨i, hi, hil⟩ := nears_mem (List.mem_of_getElem? hb)
    have hi : p1 = (i : Int) := by simpa using hi
    subst hi
    have hsl := hs _ (List.getElem_mem hil)
    have eref : refOf h z ((i : Int), p2) = if timeN z p2 h.slow.1 < (h.l[i].s.length : Int) then some ((i : Int), timeN z p2 h.slow.1) else none := by
      simp [refOf, List.getElem?_eq_getElem hil]
    have etk : ((nears h.aper x y h.l 0).take (m + 1)).filterMap (refOf h z) = ((nears h.aper x y h.l 0).take m).filterMap (refOf h z) ++ (refOf h z ((i : Int), p2)).toList := by
      rw [List.take_add_one, hb, List.filterMap_append]
      clear eref
      cases hr : refOf h z ((i : Int), p2) <;> simp [List.filterMap_cons, hr]
    refine Tr.seqR rfl (by simp) (Tr.regR rfl (by simp) ?_)
    refine Tr.block (Tr.seqC rfl (by simp [earC, cellC]) (Steps.call rfl rfl (c_time _ _ _) (Steps.fin rfl (by simp) ?_)))
    refine Tr.seqN 5 rfl (by simp [earC]; omega) ?_
    rw [getD_map hil]
    refine Steps.fin rfl (by simp [eE, cells]) ?_
    refine Tr.cond rfl rfl (fun h2 => ?_) (fun h2 => ?_)
    · have h2 : timeN z p2 h.slow.1 < (h.l[i].s.length : Int) := by simpa using h2
      have hlen : (((nears h.aper x y h.l 0).take m).filterMap (refOf h z)).length ≤ 32 := by
        have h5 := List.length_filterMap_le (refOf h z) ((nears h.aper x y h.l 0).take m)
        have h6 := nears_len (aper := h.aper) (x := x) (y := y) (l := h.l) (k := 0)
        simp at h5
        omega
      refine Tr.regR rfl (by simp [cells, scalar, splice]; omega) ?_
      refine ⟨{ env := [], bx := [(2, ⟨earC h, false⟩), (3, ⟨cellC x y z, false⟩), (5, ⟨[.slice 36 2 ((((nears h.aper x y h.l 0).take m).filterMap (refOf h z)).map eB ++ [eB ((i : Int), timeN z p2 h.slow.1)])], false⟩)], rw := [(35, (((nears h.aper x y h.l 0).take m).filterMap (refOf h z)).length + 1, 2, 89)], log := [], stp := false }, ?_, ⟨m + 1, by omega, ?_, ?_, ?_, rfl⟩, rfl⟩
      · refine Wk.le .nil (.cons rfl (LLe.refl _) (.cons rfl (LLe.refl _) (.cons rfl (LLe.refl _) .nil))) (.cons ?_ .nil) rfl rfl
        show some _ = some _
        simp
      · rw [List.take_add_one, hb]; simp
      · rw [etk, eref, if_pos h2]; simp
      · rw [etk, eref, if_pos h2]; simp
    · have h2 : ¬ timeN z p2 h.slow.1 < (h.l[i].s.length : Int) := by simpa using h2
      refine Tr.skip ?_
      refine ⟨{ env := [], bx := [(2, ⟨earC h, false⟩), (3, ⟨cellC x y z, false⟩), (5, ⟨[.slice 36 2 ((((nears h.aper x y h.l 0).take m).filterMap (refOf h z)).map eB)], false⟩)], rw := [(35, (((nears h.aper x y h.l 0).take m).filterMap (refOf h z)).length, 2, 89)], log := [], stp := false }, ?_, ⟨m + 1, by omega, ?_, ?_, ?_, rfl⟩, rfl⟩
      · exact Wk.le .nil (.cons rfl (LLe.refl _) (.cons rfl (LLe.refl _) (.cons rfl (LLe.refl _) .nil))) (.cons rfl .nil) rfl rfl
      · rw [List.take_add_one, hb]; simp
      · rw [etk, eref, if_neg h2]; simp
      · rw [etk, eref, if_neg h2]; simp
  · rintro ⟨env, bx, rw, log, stp⟩ henv hstp ⟨m, hm, hpre, hbx, hrw, hlog⟩
    simp only at hbx hrw hlog henv hstp
    subst hbx hrw hlog henv hstp
    have hml : m = (nears h.aper x y h.l 0).length := by
      have := congrArg List.length hpre
      simp at this; omega
    subst hml
    refine Tr.seqR rfl (by simp) (Tr.retQ rfl rfl ?_ trivial)
    rw [List.take_length]; rfl
  · intro e t _ h; exact h.elim

end Go.Proofs.YtggifklgpdladaaGreat


/-! Contracts: values. -/
set_option linter.unusedVariables false
set_option linter.unusedSimpArgs false
set_option maxRecDepth 20000
namespace Go.Proofs.YtggifklgpdladaaGreat
open Go.Am

theorem timeN_nn (z d slow : Int) : 0 ≤ timeN z d slow := by
  unfold timeN rootN
  split
  · exact (isqL_le _ 21 (by omega)).1
  · omega

def boundAt (h : Ear) (r : Int × Int) : Int × Int := (((h.l[r.1.toNat]?.map fun e => e.s).getD [])[r.2.toNat]?).getD (0, 0)

theorem named_mem {h : Ear} {x y z : Int} {r : Int × Int} (hr : r ∈ namedL h x y z) : ∃ (i j : Nat) (hi : i < h.l.length) (hj : j < h.l[i].s.length), r = ((i : Int), (j : Int)) ∧ boundAt h r = h.l[i].s[j] := by
  unfold namedL at hr
  obtain ⟨p, hp, hr⟩ := List.mem_filterMap.1 hr
  obtain ⟨i, h1, h2⟩ := nears_mem hp
  have h1 : p.1 = (i : Int) := by simpa using h1
  unfold refOf at hr
  rw [h1] at hr
  simp only [Int.toNat_natCast, List.getElem?_eq_getElem h2, Option.map_some, Option.getD_some] at hr
  split at hr
  · rename_i h3
    cases hr
    have h4 := timeN_nn z p.2 h.slow.1
    refine ⟨i, (timeN z p.2 h.slow.1).toNat, h2, by omega, by simp [Int.toNat_of_nonneg h4], ?_⟩
    have h5 : (timeN z p.2 h.slow.1).toNat < h.l[i].s.length := by omega
    simp [boundAt, List.getElem?_eq_getElem h2, List.getElem?_eq_getElem h5]
  · cases hr

theorem i_value (h : Ear) (x y z : Int) (hl : h.l.length ≤ 32) (hs : ∀ e ∈ h.l, e.s.length ≤ 9223372036854775807) :
    Iter Tryz.prog F.volume_ear_value_1 [.vptr (earC h) 0, .vptr (cellC x y z) 0] (((namedL h x y z).map (boundAt h)).map fun b => [eB b]) := by
  refine Iter_of mixed chk.volume_ear_value_1 (by simp) fun S ok => ?_
  refine Tr.seqC rfl (by simp [earC, cellC]) (Steps.call rfl rfl (c_named h x y z hl hs) (Steps.fin rfl (by simp) (Tr.block ?_)))
  have hlen : (namedL h x y z).length ≤ 32 := by
    have h5 := List.length_filterMap_le (refOf h z) (nears h.aper x y h.l 0)
    have h6 := nears_len (aper := h.aper) (x := x) (y := y) (l := h.l) (k := 0)
    unfold namedL; omega
  refine Tr.loop (fun k s => k ≤ (namedL h x y z).length ∧ s = { env := [(0, .yld), (1, .vptr (earC h) 0), (2, .vptr (cellC x y z) 0), (8, .slice 0 2 ((namedL h x y z).map eB)), (9, I (namedL h x y z).length), (10, I k)], bx := [], rw := [], log := (((namedL h x y z).take k).map (boundAt h)).map (fun b => [eB b]), stp := false }) (fun k => (namedL h x y z).length - k) 0
    (Wk.le (.cons rfl (.refl _) (.cons rfl (.refl _) (.cons rfl (.refl _) (.cons rfl (.refl _) (.cons rfl (VLe.i (by simp)) (.cons rfl (.refl _) .nil)))))) .nil .nil rfl rfl) ⟨by omega, rfl⟩ ?_
  rintro k s ⟨hk, rfl⟩
  refine Tr.seqR rfl (by simp) (Tr.seqI rfl (fun h1 => ?_) (fun h1 => ?_))
  · have h1 : k < (namedL h x y z).length := by simpa using h1
    obtain ⟨i, j, hi, hj, hr, hbd⟩ := named_mem (List.getElem_mem h1)
    refine Tr.skipT (Tr.seq (Tr.block (Tr.seqR rfl ?_ ?_)))
    · rw [getD_map h1]; simp [eB, cells, scalar, mkv, splice]; omega
    rw [getD_map h1, hr]
    refine Tr.seq (Tr.drawK (TraceK.runN 7 rfl (by simp [earC, eB, cells, splice]; omega) ?_))
    rw [getD_map hi]
    refine TraceK.runN 4 rfl (by simp [eE, eB, cells, splice]; omega) ?_
    rw [getD_map hj]
    refine TraceK.runN 1 rfl (by simp [eB, cells]) (.done ⟨by kernel_rfl, by kernel_rfl, ?_⟩)
    have hlog : (((namedL h x y z).take (k + 1)).map (boundAt h)).map (fun b => [eB b]) = (((namedL h x y z).take k).map (boundAt h)).map (fun b => [eB b]) ++ [[eB h.l[i].s[j]]] := by
      rw [List.take_add_one, List.getElem?_eq_getElem h1, hr]
      simp [← hbd, hr]
    have hp : List.IsPrefix ((((namedL h x y z).take k).map (boundAt h)).map (fun b => [eB b]) ++ [[eB h.l[i].s[j]]]) (((namedL h x y z).map (boundAt h)).map fun b => [eB b]) := by
      rw [← hlog]
      exact ((List.take_prefix _ _).map _).map _
    refine Steps.yield rfl (by simp [eB, cells, mkv]) rfl hp rfl (fun b => Steps.fin rfl (by simp) ?_)
    refine Tr.cond rfl rfl (fun h2 => ?_) (fun h2 => ?_)
    · exact Tr.ret ⟨.inl h2, [], [], [], rfl, rfl, rfl⟩
    · have hb : b = true := by simpa using h2
      subst hb
      refine Tr.skip (Tr.regR rfl (by simp) ?_)
      refine ⟨k + 1, _, ?_, ⟨by omega, rfl⟩, by omega⟩
      rw [hlog]
      exact Wk.le (.cons rfl (.refl _) (.cons rfl (.refl _) (.cons rfl (.refl _) (.cons rfl (.refl _) (.cons rfl (.refl _) (.cons rfl (VLe.i (w64 (by omega) (by omega))) .nil)))))) .nil .nil rfl rfl
  · have h1 : k = (namedL h x y z).length := by simp at h1; omega
    subst h1
    refine Tr.exit ?_
    refine ⟨.inr ?_, [], [], [], rfl, rfl, rfl⟩
    have e : (((namedL h x y z).take (namedL h x y z).length).map (boundAt h)).map (fun b => [eB b]) = ((namedL h x y z).map (boundAt h)).map fun b => [eB b] := by rw [List.take_length]
    exact e

def valueB (h : Ear) (x y z : Int) : Int × Int := ((namedL h x y z).map (boundAt h)).foldl plusB (0, 0)

theorem c_value (h : Ear) (x y z : Int) (hl : h.l.length ≤ 32) (hs : ∀ e ∈ h.l, e.s.length ≤ 9223372036854775807) :
    C Tryz.prog F.volume_ear_value [.agg (earC h), .agg (cellC x y z)] (eB (valueB h x y z)) := by
  refine C_of mixed chk.volume_ear_value (by simp) fun S ok => ?_
  refine Tr.seqR rfl (by simp [cells, scalar, earC, cellC, sE]) ?_
  refine Tr.seqC rfl (by simp [scalar]) (Steps.call rfl rfl (c_fold (0, 0) (plain_near h x y z) (i_value h x y z hl hs) c_plus) (Steps.fin rfl (by simp [eB, cells, scalar, splice]) ?_))
  exact Tr.retQ rfl rfl rfl trivial

end Go.Proofs.YtggifklgpdladaaGreat


/-! Contracts: what an echo may give. -/
set_option linter.unusedVariables false
set_option linter.unusedSimpArgs false
set_option maxRecDepth 20000
namespace Go.Proofs.YtggifklgpdladaaGreat
open Go.Am

def stepB (is : Bool) (out b : Int × Int) : Int × Int := if is then (min out.1 b.1, max out.2 b.2) else b

def reachG (to : Int) : List (Int × Int) → Nat → Bool → Int × Int → Int × Int
  | [], _, _, out => out
  | b :: r, t, is, out => if (t : Int) ≤ to then reachG to r (t + 1) true (stepB is out b) else out

def reachB (s : List (Int × Int)) (z d : Int) (slow : Int × Int) : Int × Int :=
  reachG (timeN z d slow.2) (s.drop (timeN z d slow.1).toNat) (timeN z d slow.1).toNat (decide (timeN z d slow.2 ≥ s.length)) (0, 0)

theorem reachG_drop {to : Int} {s : List (Int × Int)} {t : Nat} (h : t < s.length) (is : Bool) (out : Int × Int) : reachG to (s.drop t) t is out = if (t : Int) ≤ to then reachG to (s.drop (t + 1)) (t + 1) true (stepB is out s[t]) else out := by
  rw [List.drop_eq_getElem_cons h]; rfl

theorem c_reach (h : Ear) (s : List (Int × Int)) (z d : Int) (hs : s.length ≤ 9223372036854775807) : C Tryz.prog F.volume_ear_reach [.agg (earC h), sB s, I z, I d] (eB (reachB s z d h.slow)) := by
  refine C_of mixed chk.volume_ear_reach (by simp) fun S ok => ?_
  refine Tr.seqR rfl (by simp [cells, scalar, earC, sE]) ?_
  refine Tr.seq (Tr.drawK (TraceK.run rfl (by simp [cells, earC]) (TraceK.call rfl rfl (c_time _ _ _) (TraceK.run rfl (by simp [cells, earC]) (TraceK.call rfl rfl (c_time _ _ _) (TraceK.run rfl (by simp) (.done ⟨by kernel_rfl, by kernel_rfl, ?_⟩)))))))
  refine Tr.seqR rfl (by simp) (Tr.seqR rfl (by simp) ?_)
  refine Tr.seq (Tr.seqR rfl (by simp) (Tr.block ?_))
  have hf0 := timeN_nn z d h.slow.1
  refine Tr.loop (α := Nat × Bool × (Int × Int)) (fun p st => reachG (timeN z d h.slow.2) (s.drop p.1) p.1 p.2.1 p.2.2 = reachB s z d h.slow ∧
      st = { env := [(1, sB s), (8, .ptr 8 0), (10, I (timeN z d h.slow.2)), (11, .ptr 11 0), (12, .bool p.2.1), (13, I p.1)], bx := [(8, ⟨[I 0, I 0], false⟩), (11, ⟨[I p.2.2.1, I p.2.2.2], false⟩)], rw := [], log := [], stp := false }) (fun p => s.length - p.1)
    ((timeN z d h.slow.1).toNat, decide (timeN z d h.slow.2 ≥ s.length), (0, 0))
    (Wk.le (.cons rfl (.refl _) (.cons rfl (.refl _) (.cons rfl (.refl _) (.cons rfl (.refl _) (.cons rfl (.of_eq (by simp)) (.cons rfl (VLe.i (by simp [Int.toNat_of_nonneg hf0])) .nil)))))) (.cons rfl (LLe.refl _) (.cons rfl (LLe.refl _) .nil)) .nil rfl rfl) ⟨rfl, rfl⟩ ?_
  rintro ⟨t, is, out⟩ st ⟨hinv, rfl⟩
  simp only at hinv
  have hcond : ∀ c : Bool, (bif decide ((t : Int) ≤ timeN z d h.slow.2) then decide ((t : Int) < (s.map eB).length) else false) = c → (c = true ↔ (t : Int) ≤ timeN z d h.slow.2 ∧ t < s.length) := by
    rintro c rfl
    by_cases h1 : (t : Int) ≤ timeN z d h.slow.2 <;> simp [h1]
  refine Tr.seq (Tr.seqR rfl (by simp [sB]) (Tr.cond rfl rfl (fun h1 => ?_) (fun h1 => ?_)))
  · obtain ⟨h2, h3⟩ := (hcond true h1).1 rfl
    rw [reachG_drop h3, if_pos h2] at hinv
    refine Tr.skipT (Tr.seq (Tr.block (Tr.seq (Tr.seqR rfl (by simp) (Tr.cond rfl rfl (fun h4 => ?_) (fun h4 => ?_))))))
    · have h4 : is = false := by simpa using h4
      subst h4
      refine Tr.reg (Steps.runN 3 rfl (by simp [sB]; omega) ?_)
      rw [getD_map h3]
      refine Steps.fin rfl (by simp [eB, cells, mkv, scalar, splice]) ?_
      refine Tr.drawK (TraceK.runN 5 rfl (by simp [eB, cells, mkv, scalar, splice]; omega) ?_)
      rw [getD_map h3]
      refine TraceK.runN 8 rfl (by simp [eB, cells, mkv, scalar, splice]; omega) ?_
      rw [getD_map h3]
      refine TraceK.run rfl (by simp [eB, cells, mkv, scalar, splice]) (.done ⟨by kernel_rfl, by kernel_rfl, ?_⟩)
      refine Tr.regR rfl (by simp) ?_
      refine ⟨(t + 1, true, stepB false out s[t]), _, ?_, ⟨hinv, rfl⟩, by simp; omega⟩
      refine Wk.le (.cons rfl (.refl _) (.cons rfl (.refl _) (.cons rfl (.refl _) (.cons rfl (.refl _) (.cons rfl (.refl _) (.cons rfl (VLe.i (w64 (by omega) (by omega))) .nil)))))) (.cons rfl (LLe.refl _) (.cons rfl (.cons (VLe.i ?_) (.cons (VLe.i ?_) .nil)) .nil)) .nil rfl rfl
      · simp [stepB]
      · simp [stepB]
    · have h4 : is = true := by simpa using h4
      subst h4
      refine Tr.skip ?_
      refine Tr.drawK (TraceK.runN 5 rfl (by simp [sB]; omega) ?_)
      rw [getD_map h3]
      refine TraceK.runN 8 rfl (by simp [eB, cells, mkv, scalar, splice, sB]; omega) ?_
      rw [getD_map h3]
      refine TraceK.run rfl (by simp [eB, cells, mkv, scalar, splice]) (.done ⟨by kernel_rfl, by kernel_rfl, ?_⟩)
      refine Tr.regR rfl (by simp) ?_
      refine ⟨(t + 1, true, stepB true out s[t]), _, ?_, ⟨hinv, rfl⟩, by simp; omega⟩
      refine Wk.le (.cons rfl (.refl _) (.cons rfl (.refl _) (.cons rfl (.refl _) (.cons rfl (.refl _) (.cons rfl (.refl _) (.cons rfl (VLe.i (w64 (by omega) (by omega))) .nil)))))) (.cons rfl (LLe.refl _) (.cons rfl (.cons (VLe.i ?_) (.cons (VLe.i ?_) .nil)) .nil)) .nil rfl rfl
      · simp only [stepB, if_true, cond_false]; split <;> omega
      · simp only [stepB, if_true, cond_true]; split <;> omega
  · have h1 := (hcond false h1)
    have hfin : out = reachB s z d h.slow := by
      rw [← hinv]
      by_cases h3 : t < s.length
      · rw [reachG_drop h3, if_neg (by intro h2; simpa using h1.2 ⟨h2, h3⟩)]
      · rw [List.drop_eq_nil_of_le (by omega)]; rfl
    subst hfin
    refine Tr.exit (Tr.seqR rfl (by simp [eB, cells, scalar, splice, mkv]) (Tr.retQ rfl rfl rfl trivial))

end Go.Proofs.YtggifklgpdladaaGreat


/-! Contracts: enclosures. -/
set_option linter.unusedVariables false
set_option linter.unusedSimpArgs false
set_option maxRecDepth 20000
namespace Go.Proofs.YtggifklgpdladaaGreat
open Go.Am

def sAt (h : Ear) (i : Int) : List (Int × Int) := (h.l[i.toNat]?.map fun e => e.s).getD []
def reachOf (h : Ear) (z : Int) (p : Int × Int) : Int × Int := reachB (sAt h p.1) z p.2 h.slow

theorem i_enclosure (h : Ear) (x y z : Int) (hl : h.l.length ≤ 32) (hs : ∀ e ∈ h.l, e.s.length ≤ 9223372036854775807) :
    Iter Tryz.prog F.volume_ear_enclosure_1 [.vptr (earC h) 0, .vptr (cellC x y z) 0] (((nears h.aper x y h.l 0).map (reachOf h z)).map fun b => [eB b]) := by
  refine Iter_of mixed chk.volume_ear_enclosure_1 (by simp) fun S ok => ?_
  refine Tr.seqR rfl (by simp [cells, scalar]) ?_
  refine Tr.seqC rfl (by simp [earC, cellC]) (Steps.call rfl rfl (c_near h x y z) (Steps.fin rfl (by simp) (Tr.block ?_)))
  refine Tr.weak (s' := { env := [(8, .func (.func F.volume_ear_near_1) [] [.vptr (earC h) 0, .vptr (cellC x y z) 0]), (1, .vptr (earC h) 0), (2, .vptr (cellC x y z) 0), (3, .ptr 3 0)], bx := [(3, ⟨[.yld], false⟩)], rw := [], log := [], stp := false })
    (Wk.le (.cons rfl (.refl _) (.cons rfl (.refl _) (.cons rfl (.refl _) (.cons rfl (.refl _) .nil)))) (.cons rfl (LLe.refl _) .nil) .nil rfl rfl) ?_
  refine Tr.range rfl rfl (i_near h x y z (by omega)) rfl rfl rfl (by intro x hx; obtain ⟨b, _, rfl⟩ := List.mem_map.1 hx; rfl)
    (fun pre t => ∃ m, m ≤ (nears h.aper x y h.l 0).length ∧ pre = ((nears h.aper x y h.l 0).take m).map eP ∧ t.bx = [(3, ⟨[.yld], false⟩)] ∧ t.rw = [] ∧ t.log = (((nears h.aper x y h.l 0).take m).map (reachOf h z)).map fun b => [eB b])
    (fun e t => e = .ret ∧ t.stp = true) ⟨0, by omega, rfl, rfl, rfl, rfl⟩ ?_ ?_ ?_
  · rintro a0 L0 rc0 h0 S1 S2 ok1 ok2 pre q t lp hpre ⟨m, hm, rfl, hbx, hrw, hlog⟩ henv hstp
    obtain ⟨env, bx, rw, log, stp⟩ := t
    simp only at hbx hrw hlog henv hstp
    subst hbx hrw hlog henv hstp
    have hmx : m < (nears h.aper x y h.l 0).length ∧ ∃ b, (nears h.aper x y h.l 0)[m]? = some b ∧ q = eP b := by
      have h1 : (((nears h.aper x y h.l 0).take m).map eP).length = m := by simp; omega
      have h2 := hpre.length_le
      simp at h2
      have hml : m < (nears h.aper x y h.l 0).length := by omega
      refine ⟨hml, _, List.getElem?_eq_getElem hml, ?_⟩
      have h3 := List.IsPrefix.getElem hpre (i := m) (by simp; omega)
      simp only [List.getElem_map] at h3
      rw [List.getElem_append_right (by omega)] at h3
      simpa using h3
    obtain ⟨hml, ⟨p1, p2⟩, hb, rfl⟩ := hmx
    obtain ⟨i, hi, hil⟩ := nears_mem (List.mem_of_getElem? hb)
    have hi : p1 = (i : Int) := by simpa using hi
    subst hi
    have hsl := hs _ (List.getElem_mem hil)
    have er : reachOf h z ((i : Int), p2) = reachB h.l[i].s z p2 h.slow := by simp [reachOf, sAt, List.getElem?_eq_getElem hil]
    have hlog : (((nears h.aper x y h.l 0).take (m + 1)).map (reachOf h z)).map (fun b => [eB b]) = (((nears h.aper x y h.l 0).take m).map (reachOf h z)).map (fun b => [eB b]) ++ [[eB (reachB h.l[i].s z p2 h.slow)]] := by
      rw [List.take_add_one, hb]; simp [er]
    have hp : List.IsPrefix ((((nears h.aper x y h.l 0).take m).map (reachOf h z)).map (fun b => [eB b]) ++ [[eB (reachB h.l[i].s z p2 h.slow)]]) (((nears h.aper x y h.l 0).map (reachOf h z)).map fun b => [eB b]) := by
      rw [← hlog]
      exact ((List.take_prefix _ _).map _).map _
    refine Tr.seqR rfl (by simp) (Tr.regR rfl (by simp) ?_)
    refine Tr.block (Tr.seq (Tr.drawK (TraceK.runN 6 rfl (by simp [earC, cells]; omega) ?_)))
    rw [getD_map hil]
    refine TraceK.run rfl (by simp [eE, cells, cellC, earC]) ?_
    refine TraceK.call rfl rfl (c_reach h h.l[i].s z p2 hsl) ?_
    refine .done ⟨by kernel_rfl, by kernel_rfl, ?_⟩
    refine Steps.yield rfl (by simp [eB, cells, mkv]) rfl hp rfl (fun b => Steps.fin rfl (by simp) ?_)
    refine Tr.cond rfl rfl (fun h2 => ?_) (fun h2 => ?_)
    · have hb : b = false := by simpa using h2
      subst hb
      exact Tr.ret ⟨{ env := [], bx := [(3, ⟨[.yld], false⟩)], rw := [], log := _, stp := true }, Wk.le .nil (.cons rfl (LLe.refl _) .nil) .nil rfl rfl, rfl, rfl⟩
    · have hb : b = true := by simpa using h2
      subst hb
      refine Tr.skip ?_
      refine ⟨{ env := [], bx := [(3, ⟨[.yld], false⟩)], rw := [], log := _, stp := false }, Wk.le .nil (.cons rfl (LLe.refl _) .nil) .nil rfl rfl, ⟨m + 1, by omega, ?_, rfl, rfl, ?_⟩, rfl⟩
      · rw [List.take_add_one, hb]; simp
      · exact hlog.symm
  · rintro ⟨env, bx, rw, log, stp⟩ henv hstp ⟨m, hm, hpre, hbx, hrw, hlog⟩
    simp only at hbx hrw hlog henv hstp
    subst hbx hrw hlog henv hstp
    have hml : m = (nears h.aper x y h.l 0).length := by
      have := congrArg List.length hpre
      simp at this; omega
    subst hml
    refine ⟨.inr ?_, [], [], [], rfl, rfl, rfl⟩
    simp only [List.take_length]
  · rintro e t _ ⟨rfl, h⟩
    exact ⟨.inl h, [], [], [], rfl, rfl, rfl⟩

def encB (h : Ear) (x y z : Int) : Int × Int := ((nears h.aper x y h.l 0).map (reachOf h z)).foldl plusB (0, 0)

theorem c_enclosure (h : Ear) (x y z : Int) (hl : h.l.length ≤ 32) (hs : ∀ e ∈ h.l, e.s.length ≤ 9223372036854775807) :
    C Tryz.prog F.volume_ear_enclosure [.agg (earC h), .agg (cellC x y z)] (eB (encB h x y z)) := by
  refine C_of mixed chk.volume_ear_enclosure (by simp) fun S ok => ?_
  refine Tr.seqR rfl (by simp [cells, scalar, earC, cellC, sE]) ?_
  refine Tr.seqC rfl (by simp [scalar]) (Steps.call rfl rfl (c_fold (0, 0) (plain_near h x y z) (i_enclosure h x y z hl hs) c_plus) (Steps.fin rfl (by simp [eB, cells, scalar, splice]) ?_))
  exact Tr.retQ rfl rfl rfl trivial

end Go.Proofs.YtggifklgpdladaaGreat


/-! Contracts: boxes. -/
set_option linter.unusedVariables false
set_option linter.unusedSimpArgs false
set_option maxRecDepth 20000
namespace Go.Proofs.YtggifklgpdladaaGreat
open Go.Am

@[simp] theorem wr1 : IntKind.i64.wrap 1 = 1 := by decide
@[simp] theorem wr2 : IntKind.i64.wrap 2 = 2 := by decide
@[simp] theorem wr3 : IntKind.i64.wrap 3 = 3 := by decide

structure Bx where
  x : Int
  y : Int
  z : Int
  a : Int
  b : Int
  c : Int

def boxC (b : Bx) : List V := [I b.x, I b.y, I b.z, I b.a, I b.b, I b.c]

attribute [local simp] cells scalar mkv splice under2 under dem dem1 boxC earC cellC eB
/-- Sizes that are small enough to reckon with. -/
def Bx.mid (b : Bx) : Prop := (-1000 ≤ b.x ∧ b.x ≤ 1000) ∧ (-1000 ≤ b.y ∧ b.y ≤ 1000) ∧ (-1000 ≤ b.z ∧ b.z ≤ 1000) ∧ (0 ≤ b.a ∧ b.a ≤ 1000) ∧ (0 ≤ b.b ∧ b.b ≤ 1000) ∧ (0 ≤ b.c ∧ b.c ≤ 1000)

theorem c_many (b : Bx) (h : (0 ≤ b.a ∧ b.a ≤ 1000) ∧ (0 ≤ b.b ∧ b.b ≤ 1000) ∧ (0 ≤ b.c ∧ b.c ≤ 1000)) : C Tryz.prog F.volume_box_many [.agg (boxC b)] (I (b.a * b.b * b.c)) := by
  obtain ⟨⟨h1, h2⟩, ⟨h3, h4⟩, h5, h6⟩ := h
  refine C_of mixed chk.volume_box_many (by simp) fun S ok => ?_
  refine Tr.seqR rfl (by simp [cells, scalar, boxC]) (Tr.seqR rfl (by simp [boxC, cells]) (Tr.retQ rfl rfl ?_ trivial))
  have h7 : 0 ≤ b.a * b.b := Int.mul_nonneg h1 h3
  have h8 : b.a * b.b ≤ 1000 * 1000 := Int.mul_le_mul h2 h4 h3 (by omega)
  have h9 : 0 ≤ b.a * b.b * b.c := Int.mul_nonneg h7 h5
  have h10 : b.a * b.b * b.c ≤ 1000 * 1000 * 1000 := Int.mul_le_mul h8 h6 h5 (by omega)
  have e1 : IntKind.i64.wrap (b.a * b.b) = b.a * b.b := w64 (by omega) (by omega)
  have e2 : IntKind.i64.wrap (b.a * b.b * b.c) = b.a * b.b * b.c := w64 (by omega) (by omega)
  simp [packR, e1, e2]

theorem c_last (b : Bx) (h : b.mid) : C Tryz.prog F.volume_box_last [.agg (boxC b)] (.agg [I (b.x + b.a - 1), I (b.y + b.b - 1), I (b.z + b.c - 1)]) := by
  obtain ⟨h1, h2, h3, h4, h5, h6⟩ := h
  refine C_of mixed chk.volume_box_last (by simp) fun S ok => ?_
  refine Tr.seqR rfl (by simp [cells, scalar, boxC]) (Tr.seqR rfl (by simp) ?_)
  refine Tr.seq (Tr.seqR rfl (by simp) (Tr.block ?_))
  refine Tr.rounds 4 (TrN.succ ?_)
  iterate 3
    refine Tr.seqR rfl (by simp) (Tr.seq (Tr.condT rfl (Tr.skip ?_)))
    refine Tr.seq (Tr.block (Tr.seqR rfl (by simp) ?_))
    refine Tr.drawR rfl (by simp [boxC, cells, scalar, mkv, splice]) (by kernel_rfl) (Tr.regR rfl (by simp) ?_)
    refine TrN.succ ?_
  refine Tr.seqR rfl (by simp) (Tr.seq (Tr.condF rfl (Tr.exit ?_)))
  refine Tr.seqR rfl (by simp [boxC, cells, scalar, mkv, splice]) (Tr.retQ rfl rfl ?_ trivial)
  simp (disch := omega) [packR, w64]

def smallB (b : Bx) : Bool := btw b.a 1 16 && btw b.b 1 16 && btw b.c 1 16 && decide (b.a * b.b * b.c ≤ 1024)

theorem c_small (b : Bx) : C Tryz.prog F.volume_box_small [.agg (boxC b)] (.bool (smallB b)) := by
  refine C_of mixed chk.volume_box_small (by simp) fun S ok => ?_
  refine Tr.seqR rfl (by simp [cells, scalar, boxC]) (Tr.seq (Tr.seqR rfl (by simp [boxC, cells]) (Tr.block ?_)))
  refine Tr.rounds 4 (TrN.succ ?_)
  refine Tr.seqR rfl (by simp) (Tr.seq (Tr.condT rfl (Tr.skip ?_)))
  refine Tr.seq (Tr.block (Tr.seqR rfl (by simp [cells, scalar]) (Tr.seqC rfl (by simp) (Steps.call rfl rfl (c_within _ _ _) (Steps.fin rfl (by simp) ?_)))))
  refine Tr.cond rfl rfl (fun h1 => Tr.seqR rfl (by simp) (Tr.retX rfl rfl rfl ?_ trivial)) (fun h1 => Tr.skip (Tr.regR rfl (by simp) (TrN.succ ?_)))
  · have h1 : btw b.a 1 16 = false := by simpa using h1
    simp [packR, smallB, h1]
  have h1 : btw b.a 1 16 = true := by simpa using h1
  refine Tr.seqR rfl (by simp) (Tr.seq (Tr.condT rfl (Tr.skip ?_)))
  refine Tr.seq (Tr.block (Tr.seqR rfl (by simp [cells, scalar]) (Tr.seqC rfl (by simp) (Steps.call rfl rfl (c_within _ _ _) (Steps.fin rfl (by simp) ?_)))))
  refine Tr.cond rfl rfl (fun h2 => Tr.seqR rfl (by simp) (Tr.retX rfl rfl rfl ?_ trivial)) (fun h2 => Tr.skip (Tr.regR rfl (by simp) (TrN.succ ?_)))
  · have h2 : btw b.b 1 16 = false := by simpa using h2
    simp [packR, smallB, h2]
  have h2 : btw b.b 1 16 = true := by simpa using h2
  refine Tr.seqR rfl (by simp) (Tr.seq (Tr.condT rfl (Tr.skip ?_)))
  refine Tr.seq (Tr.block (Tr.seqR rfl (by simp [cells, scalar]) (Tr.seqC rfl (by simp) (Steps.call rfl rfl (c_within _ _ _) (Steps.fin rfl (by simp) ?_)))))
  refine Tr.cond rfl rfl (fun h3 => Tr.seqR rfl (by simp) (Tr.retX rfl rfl rfl ?_ trivial)) (fun h3 => Tr.skip (Tr.regR rfl (by simp) (TrN.succ ?_)))
  · have h3 : btw b.c 1 16 = false := by simpa using h3
    simp [packR, smallB, h3]
  have h3 : btw b.c 1 16 = true := by simpa using h3
  refine Tr.seqR rfl (by simp) (Tr.seq (Tr.condF rfl (Tr.exit ?_)))
  have k1 := (by simpa [btw] using h1 : 1 ≤ b.a ∧ b.a ≤ 16)
  have k2 := (by simpa [btw] using h2 : 1 ≤ b.b ∧ b.b ≤ 16)
  have k3 := (by simpa [btw] using h3 : 1 ≤ b.c ∧ b.c ≤ 16)
  refine Tr.seqC rfl (by simp [boxC]) (Steps.call rfl rfl (c_many b (by omega)) (Steps.fin rfl (by simp) (Tr.retX rfl rfl rfl ?_ trivial)))
  simp [packR, smallB, h1, h2, h3]

def boxOk (b : Bx) : Bool := smallB b && cellOk b.x b.y b.z && cellOk (b.x + b.a - 1) (b.y + b.b - 1) (b.z + b.c - 1)

theorem small_spec {b : Bx} (h : smallB b = true) : (1 ≤ b.a ∧ b.a ≤ 16) ∧ (1 ≤ b.b ∧ b.b ≤ 16) ∧ (1 ≤ b.c ∧ b.c ≤ 16) ∧ b.a * b.b * b.c ≤ 1024 := by
  simp only [smallB, Bool.and_eq_true, decide_eq_true_eq, btw] at h
  omega

theorem small_mid {b : Bx} (h : smallB b = true) (hx : cellOk b.x b.y b.z = true) : b.mid := by
  have := small_spec h
  simp only [cellOk, Bool.and_eq_true, btw, decide_eq_true_eq] at hx
  unfold Bx.mid; omega

theorem c_boxValid (b : Bx) : C Tryz.prog F.volume_box_valid [.agg (boxC b)] (.bool (boxOk b)) := by
  refine C_of mixed chk.volume_box_valid (by simp) fun S ok => ?_
  refine Tr.seqR rfl (by simp) ?_
  refine Tr.seqC rfl (by simp) (Steps.call rfl rfl (c_small b) (Steps.run rfl (by simp) ?_))
  refine Steps.gcall (r := .bool (cellOk b.x b.y b.z)) rfl rfl rfl rfl (by simp) (fun _ => c_cellValid _ _ _) (Steps.run rfl (by simp) ?_)
  by_cases hs : smallB b = true
  · by_cases hx : cellOk b.x b.y b.z = true
    · refine Steps.gcall (gb := true) rfl rfl (by simp [guardOf, hs, hx]) rfl (by simp [hs, hx]) (fun _ => c_last b (small_mid hs hx)) (Steps.run rfl (by simp) ?_)
      refine Steps.gcall (gb := true) rfl rfl (by simp [guardOf, hs, hx]) rfl (by simp) (fun _ => c_cellValid _ _ _) (Steps.fin rfl (by simp) (Tr.retQ rfl rfl ?_ trivial))
      simp [packR, boxOk, hs, hx]
    · have hx : cellOk b.x b.y b.z = false := by simpa using hx
      refine Steps.gcall (gb := false) (r := .agg [I 0, I 0, I 0]) rfl rfl (by simp [guardOf, hs, hx]) rfl (fun e => (by cases e)) (fun e => (by cases e)) (Steps.run rfl (by simp) ?_)
      refine Steps.gcall (gb := false) (r := .bool false) rfl rfl (by simp [guardOf, hs, hx]) rfl (fun e => (by cases e)) (fun e => (by cases e)) (Steps.fin rfl (by simp [hs, hx]) (Tr.retQ rfl rfl ?_ trivial))
      simp [packR, boxOk, hs, hx]
  · have hs : smallB b = false := by simpa using hs
    refine Steps.gcall (gb := false) (r := .agg [I 0, I 0, I 0]) rfl rfl (by simp [guardOf, hs]) rfl (fun e => (by cases e)) (fun e => (by cases e)) (Steps.run rfl (by simp) ?_)
    refine Steps.gcall (gb := false) (r := .bool false) rfl rfl (by simp [guardOf, hs]) rfl (fun e => (by cases e)) (fun e => (by cases e)) (Steps.fin rfl (by simp [hs]) (Tr.retQ rfl rfl ?_ trivial))
    simp [packR, boxOk, hs]

theorem mul_bd {a b A B : Int} (ha : -A ≤ a ∧ a ≤ A) (hb : 0 ≤ b ∧ b ≤ B) : -(A * B) ≤ a * b ∧ a * b ≤ A * B := by
  have hA : 0 ≤ A := by omega
  have h1 : a * b ≤ A * b := Int.mul_le_mul_of_nonneg_right ha.2 hb.1
  have h2 : A * b ≤ A * B := Int.mul_le_mul_of_nonneg_left hb.2 hA
  have h3 : -A * b ≤ a * b := Int.mul_le_mul_of_nonneg_right ha.1 hb.1
  have h4 : -A * b = -(A * b) := Int.neg_mul ..
  omega

def idxOf (b : Bx) (x y z : Int) : Int := ((x - b.x) * b.b + y - b.y) * b.c + z - b.z

theorem c_index (b : Bx) (x y z : Int) (h : b.mid) (hx : (-1000 ≤ x ∧ x ≤ 1000) ∧ (-1000 ≤ y ∧ y ≤ 1000) ∧ (-1000 ≤ z ∧ z ≤ 1000)) :
    C Tryz.prog F.volume_box_index [.agg (boxC b), .agg (cellC x y z)] (I (idxOf b x y z)) := by
  obtain ⟨h1, h2, h3, h4, h5, h6⟩ := h
  obtain ⟨k1, k2, k3⟩ := hx
  refine C_of mixed chk.volume_box_index (by simp) fun S ok => ?_
  refine Tr.seqR rfl (by simp) (Tr.seqR rfl (by simp) (Tr.retQ rfl rfl ?_ trivial))
  have b1 := mul_bd (a := x - b.x) (b := b.b) (A := 2000) (B := 1000) (by omega) (by omega)
  have b2 := mul_bd (a := (x - b.x) * b.b + y - b.y) (b := b.c) (A := 3000000) (B := 1000) (by omega) (by omega)
  simp (disch := omega) [packR, w64, idxOf]

def hasB (b : Bx) (x y z : Int) : Bool := btw x b.x (b.x + b.a - 1) && btw y b.y (b.y + b.b - 1) && btw z b.z (b.z + b.c - 1)

theorem c_has (b : Bx) (x y z : Int) (h : b.mid) : C Tryz.prog F.volume_box_has [.agg (boxC b), .agg (cellC x y z)] (.bool (hasB b x y z)) := by
  refine C_of mixed chk.volume_box_has (by simp) fun S ok => ?_
  refine Tr.seqR rfl (by simp) (Tr.seq (Tr.seqC rfl (by simp) (Steps.call rfl rfl (c_last b h) (Steps.fin rfl (by simp) (Tr.block ?_)))))
  refine Tr.rounds 4 (TrN.succ ?_)
  refine Tr.seqR rfl (by simp) (Tr.seq (Tr.condT rfl (Tr.skip ?_)))
  refine Tr.seq (Tr.block (Tr.seqR rfl (by simp) (Tr.seq (Tr.drawK (TraceK.run rfl (by simp) (TraceK.call rfl rfl (c_within _ _ _) (TraceK.run rfl (by simp) (.done ⟨by kernel_rfl, by kernel_rfl, ?_⟩))))))))
  refine Tr.cond rfl rfl (fun h1 => Tr.seqR rfl (by simp) (Tr.retX rfl rfl rfl ?_ trivial)) (fun h1 => Tr.skip (Tr.regR rfl (by simp) (TrN.succ ?_)))
  · have h1 : btw x b.x (b.x + b.a - 1) = false := by simpa using h1
    simp [packR, hasB, h1]
  have h1 : btw x b.x (b.x + b.a - 1) = true := by simpa using h1
  refine Tr.seqR rfl (by simp) (Tr.seq (Tr.condT rfl (Tr.skip ?_)))
  refine Tr.seq (Tr.block (Tr.seqR rfl (by simp) (Tr.seq (Tr.drawK (TraceK.run rfl (by simp) (TraceK.call rfl rfl (c_within _ _ _) (TraceK.run rfl (by simp) (.done ⟨by kernel_rfl, by kernel_rfl, ?_⟩))))))))
  refine Tr.cond rfl rfl (fun h2 => Tr.seqR rfl (by simp) (Tr.retX rfl rfl rfl ?_ trivial)) (fun h2 => Tr.skip (Tr.regR rfl (by simp) (TrN.succ ?_)))
  · have h2 : btw y b.y (b.y + b.b - 1) = false := by simpa using h2
    simp [packR, hasB, h2]
  have h2 : btw y b.y (b.y + b.b - 1) = true := by simpa using h2
  refine Tr.seqR rfl (by simp) (Tr.seq (Tr.condT rfl (Tr.skip ?_)))
  refine Tr.seq (Tr.block (Tr.seqR rfl (by simp) (Tr.seq (Tr.drawK (TraceK.run rfl (by simp) (TraceK.call rfl rfl (c_within _ _ _) (TraceK.run rfl (by simp) (.done ⟨by kernel_rfl, by kernel_rfl, ?_⟩))))))))
  refine Tr.cond rfl rfl (fun h3 => Tr.seqR rfl (by simp) (Tr.retX rfl rfl rfl ?_ trivial)) (fun h3 => Tr.skip (Tr.regR rfl (by simp) (TrN.succ ?_)))
  · have h3 : btw z b.z (b.z + b.c - 1) = false := by simpa using h3
    simp [packR, hasB, h3]
  have h3 : btw z b.z (b.z + b.c - 1) = true := by simpa using h3
  refine Tr.seqR rfl (by simp) (Tr.seq (Tr.condF rfl (Tr.exit ?_)))
  refine Tr.seqR rfl (by simp) (Tr.retX rfl rfl rfl ?_ trivial)
  simp [packR, hasB, h1, h2, h3]

def cut1 (p q x y : Int) : Int := max 0 (min p q - max x y + 1)

theorem ite_max (a b : Int) : (if b > a then b else a) = max a b := by split <;> omega
theorem ite_min (a b : Int) : (if b < a then b else a) = min a b := by split <;> omega

theorem c_common (b o : Bx) (h : b.mid) (h' : o.mid) : C Tryz.prog F.volume_box_common [.agg (boxC b), .agg (boxC o)]
    (I (cut1 (b.x + b.a - 1) (o.x + o.a - 1) b.x o.x * cut1 (b.y + b.b - 1) (o.y + o.b - 1) b.y o.y * cut1 (b.z + b.c - 1) (o.z + o.c - 1) b.z o.z)) := by
  refine C_of mixed chk.volume_box_common (by simp) fun S ok => ?_
  refine Tr.seqR rfl (by simp) (Tr.seqR rfl (by simp) ?_)
  refine Tr.seq (Tr.drawK (TraceK.run rfl (by simp) (TraceK.call rfl rfl (c_last b h) (TraceK.run rfl (by simp) (TraceK.call rfl rfl (c_last o h') (TraceK.run rfl (by simp) (.done ⟨by kernel_rfl, by kernel_rfl, ?_⟩)))))))
  refine Tr.seq (Tr.seqR rfl (by simp) (Tr.block ?_))
  refine Tr.rounds 4 (TrN.succ ?_)
  iterate 3
    refine Tr.seqR rfl (by simp) (Tr.seq (Tr.condT rfl (Tr.skip ?_)))
    refine Tr.seq (Tr.block (Tr.seqR rfl (by simp) ?_))
    refine Tr.drawR rfl (by simp) (by kernel_rfl) (Tr.regR rfl (by simp) ?_)
    refine TrN.succ ?_
  refine Tr.seqR rfl (by simp) (Tr.seq (Tr.condF rfl (Tr.exit ?_)))
  refine Tr.seqR rfl (by simp) (Tr.retX rfl rfl rfl ?_ trivial)
  obtain ⟨h1, h2, h3, h4, h5, h6⟩ := h
  obtain ⟨k1, k2, k3, k4, k5, k6⟩ := h'
  simp (disch := omega) only [packR, cond_true, cond_false, ite_max, ite_min, w64, Int.one_mul]
  have c1 : 0 ≤ cut1 (b.x + b.a - 1) (o.x + o.a - 1) b.x o.x ∧ cut1 (b.x + b.a - 1) (o.x + o.a - 1) b.x o.x ≤ 4000 := by unfold cut1; omega
  have c2 : 0 ≤ cut1 (b.y + b.b - 1) (o.y + o.b - 1) b.y o.y ∧ cut1 (b.y + b.b - 1) (o.y + o.b - 1) b.y o.y ≤ 4000 := by unfold cut1; omega
  have c3 : 0 ≤ cut1 (b.z + b.c - 1) (o.z + o.c - 1) b.z o.z ∧ cut1 (b.z + b.c - 1) (o.z + o.c - 1) b.z o.z ≤ 4000 := by unfold cut1; omega
  have d1 := mul_bd (A := 4000) (by omega) c2 (a := cut1 (b.x + b.a - 1) (o.x + o.a - 1) b.x o.x)
  have d2 := mul_bd (A := 4000 * 4000) (by omega) c3 (a := cut1 (b.x + b.a - 1) (o.x + o.a - 1) b.x o.x * cut1 (b.y + b.b - 1) (o.y + o.b - 1) b.y o.y)
  show I _ = I (IntKind.i64.wrap (IntKind.i64.wrap (cut1 (b.x + b.a - 1) (o.x + o.a - 1) b.x o.x * cut1 (b.y + b.b - 1) (o.y + o.b - 1) b.y o.y) * cut1 (b.z + b.c - 1) (o.z + o.c - 1) b.z o.z))
  rw [w64 (n := cut1 (b.x + b.a - 1) (o.x + o.a - 1) b.x o.x * cut1 (b.y + b.b - 1) (o.y + o.b - 1) b.y o.y) (by omega) (by omega), w64 (by omega) (by omega)]


theorem lle6 {a b c d e f a' b' c' d' e' f' : Int} (h1 : a = a') (h2 : b = b') (h3 : c = c') (h4 : d = d') (h5 : e = e') (h6 : f = f') : LLe [I a, I b, I c, I d, I e, I f] [I a', I b', I c', I d', I e', I f'] :=
  .cons (VLe.i h1) (.cons (VLe.i h2) (.cons (VLe.i h3) (.cons (VLe.i h4) (.cons (VLe.i h5) (.cons (VLe.i h6) .nil)))))

def aroundB (b o : Bx) : Bx := ⟨min b.x o.x, min b.y o.y, min b.z o.z, max (b.x + b.a - 1) (o.x + o.a - 1) - min b.x o.x + 1, max (b.y + b.b - 1) (o.y + o.b - 1) - min b.y o.y + 1, max (b.z + b.c - 1) (o.z + o.c - 1) - min b.z o.z + 1⟩

theorem c_around (b o : Bx) (h : b.mid) (h' : o.mid) : C Tryz.prog F.volume_box_around [.agg (boxC b), .agg (boxC o)] (.agg (boxC (aroundB b o))) := by
  refine C_of mixed chk.volume_box_around (by simp) fun S ok => ?_
  refine Tr.seqR rfl (by simp) (Tr.seqR rfl (by simp) ?_)
  refine Tr.seq (Tr.drawK (TraceK.run rfl (by simp) (TraceK.call rfl rfl (c_last b h) (TraceK.run rfl (by simp) (TraceK.call rfl rfl (c_last o h') (TraceK.run rfl (by simp) (.done ⟨by kernel_rfl, by kernel_rfl, ?_⟩)))))))
  obtain ⟨h1, h2, h3, h4, h5, h6⟩ := h
  obtain ⟨k1, k2, k3, k4, k5, k6⟩ := h'
  refine Tr.seq (Tr.seqR rfl (by simp) (Tr.block ?_))
  refine Tr.rounds 4 (TrN.succ ?_)
  refine Tr.seqR rfl (by simp) (Tr.seq (Tr.condT rfl (Tr.skip ?_)))
  refine Tr.seq (Tr.block (Tr.seqR rfl (by simp) ?_))
  refine Tr.seqD rfl (by simp) (by kernel_rfl) ?_
  refine Tr.drawR rfl (by simp) (by kernel_rfl) (Tr.regR rfl (by simp) ?_)
  refine TrN.succ (Tr.weak (s' := { env := [(2, .ptr 2 0), (3, .ptr 3 0), (4, .ptr 4 0), (5, .ptr 5 0), (6, .ptr 6 0), (7, .ptr 7 0), (13, I 1)], bx := [(2, ⟨boxC b, false⟩), (3, ⟨boxC o, false⟩), (4, ⟨[I 0, I 0, I 0, I 0, I 0, I 0], false⟩), (5, ⟨[I (aroundB b o).x, I 0, I 0, I (aroundB b o).a, I 0, I 0], false⟩), (6, ⟨[I (b.x + b.a - 1), I (b.y + b.b - 1), I (b.z + b.c - 1)], false⟩), (7, ⟨[I (o.x + o.a - 1), I (o.y + o.b - 1), I (o.z + o.c - 1)], false⟩)], rw := [], log := [], stp := false })
    (Wk.le (.cons rfl (.refl _) (.cons rfl (.refl _) (.cons rfl (.refl _) (.cons rfl (.refl _) (.cons rfl (.refl _) (.cons rfl (.refl _) (.cons rfl (VLe.i (by simp)) .nil)))))))
      (.cons rfl (LLe.refl _) (.cons rfl (LLe.refl _) (.cons rfl (LLe.refl _) (.cons rfl (lle6 ?_ ?_ ?_ ?_ ?_ ?_) (.cons rfl (LLe.refl _) (.cons rfl (LLe.refl _) .nil)))))) .nil rfl rfl) ?_)
  iterate 6
    · simp (disch := omega) [aroundB, w64, ite_max, ite_min] <;> (split <;> omega)
  refine Tr.seqR rfl (by simp) (Tr.seq (Tr.condT rfl (Tr.skip ?_)))
  refine Tr.seq (Tr.block (Tr.seqR rfl (by simp) ?_))
  refine Tr.seqD rfl (by simp) (by kernel_rfl) ?_
  refine Tr.drawR rfl (by simp) (by kernel_rfl) (Tr.regR rfl (by simp) ?_)
  refine TrN.succ (Tr.weak (s' := { env := [(2, .ptr 2 0), (3, .ptr 3 0), (4, .ptr 4 0), (5, .ptr 5 0), (6, .ptr 6 0), (7, .ptr 7 0), (13, I 2)], bx := [(2, ⟨boxC b, false⟩), (3, ⟨boxC o, false⟩), (4, ⟨[I 0, I 0, I 0, I 0, I 0, I 0], false⟩), (5, ⟨[I (aroundB b o).x, I (aroundB b o).y, I 0, I (aroundB b o).a, I (aroundB b o).b, I 0], false⟩), (6, ⟨[I (b.x + b.a - 1), I (b.y + b.b - 1), I (b.z + b.c - 1)], false⟩), (7, ⟨[I (o.x + o.a - 1), I (o.y + o.b - 1), I (o.z + o.c - 1)], false⟩)], rw := [], log := [], stp := false })
    (Wk.le (.cons rfl (.refl _) (.cons rfl (.refl _) (.cons rfl (.refl _) (.cons rfl (.refl _) (.cons rfl (.refl _) (.cons rfl (.refl _) (.cons rfl (VLe.i (by simp)) .nil)))))))
      (.cons rfl (LLe.refl _) (.cons rfl (LLe.refl _) (.cons rfl (LLe.refl _) (.cons rfl (lle6 ?_ ?_ ?_ ?_ ?_ ?_) (.cons rfl (LLe.refl _) (.cons rfl (LLe.refl _) .nil)))))) .nil rfl rfl) ?_)
  iterate 6
    · simp (disch := omega) [aroundB, w64, ite_max, ite_min] <;> (split <;> omega)
  refine Tr.seqR rfl (by simp) (Tr.seq (Tr.condT rfl (Tr.skip ?_)))
  refine Tr.seq (Tr.block (Tr.seqR rfl (by simp) ?_))
  refine Tr.seqD rfl (by simp) (by kernel_rfl) ?_
  refine Tr.drawR rfl (by simp) (by kernel_rfl) (Tr.regR rfl (by simp) ?_)
  refine TrN.succ (Tr.weak (s' := { env := [(2, .ptr 2 0), (3, .ptr 3 0), (4, .ptr 4 0), (5, .ptr 5 0), (6, .ptr 6 0), (7, .ptr 7 0), (13, I 3)], bx := [(2, ⟨boxC b, false⟩), (3, ⟨boxC o, false⟩), (4, ⟨[I 0, I 0, I 0, I 0, I 0, I 0], false⟩), (5, ⟨[I (aroundB b o).x, I (aroundB b o).y, I (aroundB b o).z, I (aroundB b o).a, I (aroundB b o).b, I (aroundB b o).c], false⟩), (6, ⟨[I (b.x + b.a - 1), I (b.y + b.b - 1), I (b.z + b.c - 1)], false⟩), (7, ⟨[I (o.x + o.a - 1), I (o.y + o.b - 1), I (o.z + o.c - 1)], false⟩)], rw := [], log := [], stp := false })
    (Wk.le (.cons rfl (.refl _) (.cons rfl (.refl _) (.cons rfl (.refl _) (.cons rfl (.refl _) (.cons rfl (.refl _) (.cons rfl (.refl _) (.cons rfl (VLe.i (by simp)) .nil)))))))
      (.cons rfl (LLe.refl _) (.cons rfl (LLe.refl _) (.cons rfl (LLe.refl _) (.cons rfl (lle6 ?_ ?_ ?_ ?_ ?_ ?_) (.cons rfl (LLe.refl _) (.cons rfl (LLe.refl _) .nil)))))) .nil rfl rfl) ?_)
  iterate 6
    · simp (disch := omega) [aroundB, w64, ite_max, ite_min] <;> (split <;> omega)
  refine Tr.seqR rfl (by simp) (Tr.seq (Tr.condF rfl (Tr.exit ?_)))
  exact Tr.seqR rfl (by simp) (Tr.retX rfl rfl rfl rfl trivial)

end Go.Proofs.YtggifklgpdladaaGreat


/-! Contracts: the places of a box, in order; images. -/
set_option linter.unusedVariables false
set_option linter.unusedSimpArgs false
set_option maxRecDepth 20000
namespace Go.Proofs.YtggifklgpdladaaGreat
open Go.Am
attribute [local simp] cells scalar mkv splice under2 under dem dem1 boxC earC cellC eB
def zsC (b : Bx) (x y n : Nat) : List (Int × Int × Int) := (List.range n).map fun (z : Nat) => (b.x + (x : Int), b.y + (y : Int), b.z + (z : Int))
def ysC (b : Bx) (x n : Nat) : List (Int × Int × Int) := (List.range n).flatMap fun y => zsC b x y b.c.toNat
def xsC (b : Bx) (n : Nat) : List (Int × Int × Int) := (List.range n).flatMap fun x => ysC b x b.b.toNat
def boxCells (b : Bx) : List (Int × Int × Int) := xsC b b.a.toNat

def cellV (p : Int × Int × Int) : List V := [.agg (cellC p.1 p.2.1 p.2.2)]

theorem zsC_succ (b : Bx) (x y n : Nat) : zsC b x y (n + 1) = zsC b x y n ++ [(b.x + x, b.y + y, b.z + n)] := by simp [zsC, List.range_succ]
theorem ysC_succ (b : Bx) (x n : Nat) : ysC b x (n + 1) = ysC b x n ++ zsC b x n b.c.toNat := by simp [ysC, List.range_succ]
theorem xsC_succ (b : Bx) (n : Nat) : xsC b (n + 1) = xsC b n ++ ysC b n b.b.toNat := by simp [xsC, List.range_succ]

theorem zsC_pre (b : Bx) (x y : Nat) {n m : Nat} (h : n ≤ m) : List.IsPrefix (zsC b x y n) (zsC b x y m) := by
  induction m with
  | zero => rw [show n = 0 by omega]; exact List.prefix_refl _
  | succ m ih =>
    by_cases e : n = m + 1
    · subst e; exact List.prefix_refl _
    · rw [zsC_succ]; exact (ih (by omega)).trans (List.prefix_append _ _)
theorem ysC_pre (b : Bx) (x : Nat) {n m : Nat} (h : n ≤ m) : List.IsPrefix (ysC b x n) (ysC b x m) := by
  induction m with
  | zero => rw [show n = 0 by omega]; exact List.prefix_refl _
  | succ m ih =>
    by_cases e : n = m + 1
    · subst e; exact List.prefix_refl _
    · rw [ysC_succ]; exact (ih (by omega)).trans (List.prefix_append _ _)
theorem xsC_pre (b : Bx) {n m : Nat} (h : n ≤ m) : List.IsPrefix (xsC b n) (xsC b m) := by
  induction m with
  | zero => rw [show n = 0 by omega]; exact List.prefix_refl _
  | succ m ih =>
    by_cases e : n = m + 1
    · subst e; exact List.prefix_refl _
    · rw [xsC_succ]; exact (ih (by omega)).trans (List.prefix_append _ _)

theorem cells_pre (b : Bx) {x y z : Nat} (hx : x < b.a.toNat) (hy : y < b.b.toNat) (hz : z < b.c.toNat) : List.IsPrefix (xsC b x ++ ysC b x y ++ zsC b x y z ++ [(b.x + (x : Int), b.y + (y : Int), b.z + (z : Int))]) (boxCells b) := by
  have h1 : List.IsPrefix (zsC b x y z ++ [(b.x + (x : Int), b.y + (y : Int), b.z + (z : Int))]) (zsC b x y b.c.toNat) := by
    rw [← zsC_succ]; exact zsC_pre b x y hz
  have h2 : List.IsPrefix (ysC b x y ++ (zsC b x y z ++ [(b.x + (x : Int), b.y + (y : Int), b.z + (z : Int))])) (ysC b x b.b.toNat) := by
    refine List.IsPrefix.trans ((List.prefix_append_right_inj _).2 h1) ?_
    rw [← ysC_succ]; exact ysC_pre b x hy
  have h3 : List.IsPrefix (xsC b x ++ (ysC b x y ++ (zsC b x y z ++ [(b.x + (x : Int), b.y + (y : Int), b.z + (z : Int))]))) (xsC b b.a.toNat) := by
    refine List.IsPrefix.trans ((List.prefix_append_right_inj _).2 h2) ?_
    rw [← xsC_succ]; exact xsC_pre b hx
  simpa [List.append_assoc, boxCells] using h3

theorem zsC_len (b : Bx) (x y n : Nat) : (zsC b x y n).length = n := by simp [zsC]
theorem ysC_len (b : Bx) (x n : Nat) : (ysC b x n).length = n * b.c.toNat := by
  induction n with
  | zero => simp [ysC]
  | succ n ih => rw [ysC_succ, List.length_append, ih, zsC_len, Nat.succ_mul]
theorem xsC_len (b : Bx) (n : Nat) : (xsC b n).length = n * (b.b.toNat * b.c.toNat) := by
  induction n with
  | zero => simp [xsC]
  | succ n ih => rw [xsC_succ, List.length_append, ih, ysC_len, Nat.succ_mul]

theorem boxCells_len {b : Bx} (h : smallB b = true) : (boxCells b).length ≤ 4096 := by
  have := small_spec h
  unfold boxCells
  rw [xsC_len]
  calc b.a.toNat * (b.b.toNat * b.c.toNat) ≤ 16 * (16 * 16) := Nat.mul_le_mul (by omega) (Nat.mul_le_mul (by omega) (by omega))
    _ = 4096 := rfl

theorem i_cells (b : Bx) (h : b.mid) : Iter Tryz.prog F.volume_box_cells_1 [.vptr (boxC b) 0] ((boxCells b).map cellV) := by
  obtain ⟨h1, h2, h3, h4, h5, h6⟩ := h
  refine Iter_of mixed chk.volume_box_cells_1 (by simp) fun S ok => ?_
  refine Tr.seqR rfl (by simp) (Tr.block ?_)
  refine Tr.loop (fun k s => k ≤ b.a.toNat ∧ s = { env := [(0, .yld), (1, .vptr (boxC b) 0), (8, I b.a), (9, I k)], bx := [], rw := [], log := (xsC b k).map cellV, stp := false }) (fun k => b.a.toNat - k) 0
    (Wk.le (.cons rfl (.refl _) (.cons rfl (.refl _) (.cons rfl (.refl _) (.cons rfl (.refl _) .nil)))) .nil .nil rfl rfl) ⟨by omega, rfl⟩ ?_
  rintro k s ⟨hk, rfl⟩
  refine Tr.seqR rfl (by simp) (Tr.seqI rfl (fun e1 => ?_) (fun e1 => ?_))
  · have e1 : (k : Int) < b.a := by simpa using e1
    refine Tr.skipT (Tr.seq (Tr.block (Tr.seqR rfl (by simp) (Tr.seqR rfl (by simp) (Tr.block ?_)))))
    refine Tr.loop (fun j s => j ≤ b.b.toNat ∧ s = { env := [(0, .yld), (1, .vptr (boxC b) 0), (8, I b.a), (9, I k), (3, I k), (14, I b.b), (15, I j)], bx := [], rw := [], log := (xsC b k ++ ysC b k j).map cellV, stp := false }) (fun j => b.b.toNat - j) 0
      (Wk.leL (.cons rfl (.refl _) (.cons rfl (.refl _) (.cons rfl (.refl _) (.cons rfl (.refl _) (.cons rfl (.refl _) (.cons rfl (.refl _) (.cons rfl (.refl _) .nil))))))) .nil .nil rfl rfl ?_) ⟨by omega, rfl⟩ ?_
    · show List.map cellV (xsC b k) = List.map cellV (xsC b k ++ ysC b k 0)
      simp [ysC]
    rintro j s ⟨hj, rfl⟩
    refine Tr.seqR rfl (by simp) (Tr.seqI rfl (fun e2 => ?_) (fun e2 => ?_))
    · have e2 : (j : Int) < b.b := by simpa using e2
      refine Tr.skipT (Tr.seq (Tr.block (Tr.seqR rfl (by simp) (Tr.seqR rfl (by simp) (Tr.block ?_)))))
      refine Tr.loop (fun m s => m ≤ b.c.toNat ∧ s = { env := [(0, .yld), (1, .vptr (boxC b) 0), (8, I b.a), (9, I k), (3, I k), (14, I b.b), (15, I j), (4, I j), (20, I b.c), (21, I m)], bx := [], rw := [], log := (xsC b k ++ ysC b k j ++ zsC b k j m).map cellV, stp := false }) (fun m => b.c.toNat - m) 0
        (Wk.leL (.cons rfl (.refl _) (.cons rfl (.refl _) (.cons rfl (.refl _) (.cons rfl (.refl _) (.cons rfl (.refl _) (.cons rfl (.refl _) (.cons rfl (.refl _) (.cons rfl (.refl _) (.cons rfl (.refl _) (.cons rfl (.refl _) .nil)))))))))) .nil .nil rfl rfl ?_) ⟨by omega, rfl⟩ ?_
      · show List.map cellV (xsC b k ++ ysC b k j) = List.map cellV (xsC b k ++ ysC b k j ++ zsC b k j 0)
        simp [zsC]
      rintro m s ⟨hm, rfl⟩
      refine Tr.seqR rfl (by simp) (Tr.seqI rfl (fun e3 => ?_) (fun e3 => ?_))
      · have e3 : (m : Int) < b.c := by simpa using e3
        have w1 : IntKind.i64.wrap (b.x + k) = b.x + k := w64 (by omega) (by omega)
        have w2 : IntKind.i64.wrap (b.y + j) = b.y + j := w64 (by omega) (by omega)
        have w3 : IntKind.i64.wrap (b.z + m) = b.z + m := w64 (by omega) (by omega)
        have hp : List.IsPrefix ((xsC b k ++ ysC b k j ++ zsC b k j m).map cellV ++ [cellV (IntKind.i64.wrap (b.x + k), IntKind.i64.wrap (b.y + j), IntKind.i64.wrap (b.z + m))]) ((boxCells b).map cellV) := by
          rw [w1, w2, w3]
          have := (cells_pre b (x := k) (y := j) (z := m) (by omega) (by omega) (by omega)).map cellV
          simpa using this
        refine Tr.skipT (Tr.seq (Tr.block (Tr.seqR rfl (by simp) (Tr.seqC rfl (by simp) ?_))))
        refine Steps.yield rfl (by simp) rfl hp rfl (fun c => Steps.fin rfl (by simp) ?_)
        refine Tr.cond rfl rfl (fun e4 => ?_) (fun e4 => ?_)
        · exact Tr.ret ⟨.inl e4, [], [], [], rfl, rfl, rfl⟩
        · have hc : c = true := by simpa using e4
          subst hc
          refine Tr.skip (Tr.regR rfl (by simp) ?_)
          refine ⟨m + 1, _, Wk.leL (.cons rfl (.refl _) (.cons rfl (.refl _) (.cons rfl (.refl _) (.cons rfl (.refl _) (.cons rfl (.refl _) (.cons rfl (.refl _) (.cons rfl (.refl _) (.cons rfl (.refl _) (.cons rfl (.refl _) (.cons rfl (VLe.i (w64 (by omega) (by omega))) .nil)))))))))) .nil .nil rfl rfl ?_, ⟨by omega, rfl⟩, by omega⟩
          show List.map cellV (xsC b k ++ ysC b k j ++ zsC b k j m) ++ [cellV (IntKind.i64.wrap (b.x + k), IntKind.i64.wrap (b.y + j), IntKind.i64.wrap (b.z + m))] = List.map cellV (xsC b k ++ ysC b k j ++ zsC b k j (m + 1))
          rw [w1, w2, w3, zsC_succ]
          simp
      · have e3 : m = b.c.toNat := by simp at e3; omega
        subst e3
        refine Tr.exit (Tr.regR rfl (by simp) ?_)
        refine ⟨j + 1, _, Wk.leL (.cons rfl (.refl _) (.cons rfl (.refl _) (.cons rfl (.refl _) (.cons rfl (.refl _) (.cons rfl (.refl _) (.cons rfl (.refl _) (.cons rfl (VLe.i (w64 (by omega) (by omega))) .nil))))))) .nil .nil rfl rfl ?_, ⟨by omega, rfl⟩, by omega⟩
        show List.map cellV (xsC b k ++ ysC b k j ++ zsC b k j b.c.toNat) = _
        rw [ysC_succ]
        simp
    · have e2 : j = b.b.toNat := by simp at e2; omega
      subst e2
      refine Tr.exit (Tr.regR rfl (by simp) ?_)
      refine ⟨k + 1, _, Wk.leL (.cons rfl (.refl _) (.cons rfl (.refl _) (.cons rfl (.refl _) (.cons rfl (VLe.i (w64 (by omega) (by omega))) .nil)))) .nil .nil rfl rfl ?_, ⟨by omega, rfl⟩, by omega⟩
      show List.map cellV (xsC b k ++ ysC b k b.b.toNat) = _
      rw [xsC_succ]
  · have e1 : k = b.a.toNat := by simp at e1; omega
    subst e1
    refine Tr.exit ?_
    exact ⟨.inr rfl, [], [], [], rfl, rfl, rfl⟩

theorem c_cells (b : Bx) : C Tryz.prog F.volume_box_cells [.agg (boxC b)] (.func (.func F.volume_box_cells_1) [] [.vptr (boxC b) 0]) := by
  refine C_of mixed chk.volume_box_cells (by simp) fun S ok => ?_
  exact Tr.seqR rfl (by simp) (Tr.seqR rfl (by simp) (Tr.retQ rfl rfl rfl trivial))

def errImg (nl : V) (e : Int) : V := .tuple [.agg [I 0, I 0, I 0, I 0, I 0, I 0, nl], I e]

/-- An image of a box, of values that are given. -/
def imageR (nl : V) (b : Bx) (of : Int × Int × Int → Int × Int) : V :=
  if boxOk b then .tuple [.agg [I b.x, I b.y, I b.z, I b.a, I b.b, I b.c, .slice 0 2 ((boxCells b).map fun p => eB (of p))], I 0] else errImg nl 102

theorem boxOk_spec {b : Bx} (h : boxOk b = true) : smallB b = true ∧ b.mid := by
  simp only [boxOk, Bool.and_eq_true] at h
  exact ⟨h.1.1, small_mid h.1.1 h.1.2⟩

theorem c_image (b : Bx) (h : Ear) {f : FuncId} {of : Int × Int × Int → Int × Int} (hof : ∀ p, C Tryz.prog f [.agg (earC h), .agg (cellC p.1 p.2.1 p.2.2)] (eB (of p))) :
    C Tryz.prog F.volume_image [.agg (cellC b.x b.y b.z), .agg (cellC b.a b.b b.c), .func (.func f) [.agg (earC h)] []] (imageR .nils b of) := by
  refine C_of mixed chk.volume_image (by simp) fun S ok => ?_
  refine Tr.seqR rfl (by simp) (Tr.seqR rfl (by simp) ?_)
  refine Tr.seq (Tr.seqC rfl (by simp) (Steps.call rfl rfl (c_boxValid b) (Steps.fin rfl (by simp) (Tr.cond rfl rfl (fun h1 => ?_) (fun h1 => ?_)))))
  · have h1 : boxOk b = false := by simpa using h1
    refine Tr.seqR rfl (by simp) (Tr.retX rfl rfl rfl ?_ trivial)
    simp [packR, imageR, h1, errImg]
  have h1 : boxOk b = true := by simpa using h1
  obtain ⟨hsm, hmid⟩ := boxOk_spec h1
  have hlen := boxCells_len hsm
  refine Tr.skip (Tr.seqR rfl (by simp) ?_)
  refine Tr.seq (Tr.seqC rfl (by simp) (Steps.call rfl rfl (c_cells b) (Steps.fin rfl (by simp) (Tr.block ?_))))
  refine Tr.weak (s' := { env := [(22, .func (.func F.volume_box_cells_1) [] [.vptr (boxC b) 0]), (5, .ptr 5 0), (6, .ptr 6 0), (9, .ptr 9 0)], bx := [(5, ⟨[.func (.func f) [.agg (earC h)] []], false⟩), (6, ⟨[I 0, I 0, I 0, I 0, I 0, I 0, .nils], false⟩), (9, ⟨[I b.x, I b.y, I b.z, I b.a, I b.b, I b.c, .slice 31 2 []], false⟩)], rw := [(30, 0, 2, 28)], log := [], stp := false })
    (Wk.le (.cons rfl (.refl _) (.cons rfl (.refl _) (.cons rfl (.refl _) (.cons rfl (.refl _) .nil)))) (.cons rfl (LLe.refl _) (.cons rfl (LLe.refl _) (.cons rfl (.cons (.refl _) (.cons (.refl _) (.cons (.refl _) (.cons (.refl _) (.cons (.refl _) (.cons (.refl _) (.cons (.nil 31 2) .nil))))))) .nil))) (.new rfl .nil) rfl rfl) ?_
  refine Tr.range rfl rfl (i_cells b hmid) rfl rfl rfl (by intro x hx; obtain ⟨p, _, rfl⟩ := List.mem_map.1 hx; rfl)
    (fun pre t => ∃ m, m ≤ (boxCells b).length ∧ pre = ((boxCells b).take m).map cellV ∧ t.bx = [(5, ⟨[.func (.func f) [.agg (earC h)] []], false⟩), (6, ⟨[I 0, I 0, I 0, I 0, I 0, I 0, .nils], false⟩), (9, ⟨[I b.x, I b.y, I b.z, I b.a, I b.b, I b.c, .slice 31 2 (((boxCells b).take m).map fun p => eB (of p))], false⟩)] ∧ t.rw = [(30, m, 2, 28)] ∧ t.log = [])
    (fun _ _ => False) ⟨0, by omega, rfl, rfl, rfl, rfl⟩ ?_ ?_ ?_
  · rintro a0 L0 rc0 h0 S1 S2 ok1 ok2 pre q t lp hpre ⟨m, hm, rfl, hbx, hrw, hlog⟩ henv hstp
    obtain ⟨env, bx, rw, log, stp⟩ := t
    simp only at hbx hrw hlog henv hstp
    subst hbx hrw hlog henv hstp
    have hmx : m < (boxCells b).length ∧ ∃ p, (boxCells b)[m]? = some p ∧ q = cellV p := by
      have h1 : (((boxCells b).take m).map cellV).length = m := by simp; omega
      have h2 := hpre.length_le
      simp at h2
      have hml : m < (boxCells b).length := by omega
      refine ⟨hml, _, List.getElem?_eq_getElem hml, ?_⟩
      have h3 := List.IsPrefix.getElem hpre (i := m) (by simp; omega)
      simp only [List.getElem_map] at h3
      rw [List.getElem_append_right (by omega)] at h3
      simpa using h3
    obtain ⟨hml, p, hb, rfl⟩ := hmx
    refine Tr.regR rfl (by simp) ?_
    refine Tr.block (Tr.drawK (TraceK.run rfl (by simp) (TraceK.callv rfl rfl (hof p) (TraceK.run rfl (by simp; omega) (.done ⟨by kernel_rfl, by kernel_rfl, ?_⟩)))))
    refine ⟨{ env := [], bx := [(5, ⟨[.func (.func f) [.agg (earC h)] []], false⟩), (6, ⟨[I 0, I 0, I 0, I 0, I 0, I 0, .nils], false⟩), (9, ⟨[I b.x, I b.y, I b.z, I b.a, I b.b, I b.c, .slice 31 2 ((((boxCells b).take m).map fun p => eB (of p)) ++ [eB (of p)])], false⟩)], rw := [(30, m + 1, 2, 28)], log := [], stp := false }, ?_, ⟨m + 1, by omega, ?_, ?_, rfl, rfl⟩, rfl⟩
    · refine Wk.le .nil (.cons rfl (LLe.refl _) (.cons rfl (LLe.refl _) (.cons rfl (LLe.refl _) .nil))) (.cons ?_ .nil) rfl rfl
      show some _ = some _
      simp; omega
    · rw [List.take_add_one, hb]; simp
    · rw [List.take_add_one, hb]; simp
  · rintro ⟨env, bx, rw, log, stp⟩ henv hstp ⟨m, hm, hpre, hbx, hrw, hlog⟩
    simp only at hbx hrw hlog henv hstp
    subst hbx hrw hlog henv hstp
    have hml : m = (boxCells b).length := by
      have := congrArg List.length hpre
      simp at this; omega
    subst hml
    refine Tr.seqR rfl (by simp) (Tr.retX rfl rfl rfl ?_ trivial)
    rw [List.take_length]
    simp [packR, imageR, h1]
  · intro e t _ h; exact h.elim

end Go.Proofs.YtggifklgpdladaaGreat


/-! Contracts: the value of a place, in the program and in the specification. -/
set_option linter.unusedVariables false
set_option linter.unusedSimpArgs false
set_option maxRecDepth 20000
namespace Go.Proofs.YtggifklgpdladaaGreat
open Go.Am
attribute [local simp] cells scalar mkv splice under2 under dem dem1 boxC earC cellC eB
def earOk (aper : Int) (slow : Int × Int) : Bool := btw aper 0 128 && decide (0 ≤ slow.1) && btw slow.2 slow.1 4096

def earR (l : List Echo) (aper : Int) (slow : Int × Int) : V :=
  if echoesOk l then (if earOk aper slow then .tuple [.agg (earC ⟨l, aper, slow⟩), I 0] else .tuple [.agg [.nils, I 0, I 0, I 0], I 102]) else .tuple [.agg [.nils, I 0, I 0, I 0], I 100]

theorem c_earOf {l : List Echo} (hl : sane l) (aper : Int) (slow : Int × Int) : C Tryz.prog F.volume_earOf [sE l, I aper, .agg [I slow.1, I slow.2]] (earR l aper slow) := by
  refine C_of mixed chk.volume_earOf (by simp) fun S ok => ?_
  refine Tr.seqR rfl (by simp) ?_
  refine Tr.seq (Tr.seqC rfl (by simp) (Steps.call rfl rfl (c_CheckEchoes hl) (Steps.fin rfl (by simp [CheckR]) ?_)))
  refine Tr.seqR rfl (by simp [CheckR]) ?_
  by_cases hE : echoesOk l = true
  · refine Tr.condF (by simp [CheckR, hE]; rfl) (Tr.skip ?_)
    refine Tr.seq (Tr.seqC rfl (by simp) (Steps.call rfl rfl (c_within _ _ _) (Steps.run rfl (by simp) ?_)))
    refine Steps.gcall rfl rfl rfl rfl (by simp) (fun _ => c_within _ _ _) (Steps.fin rfl (by simp) ?_)
    have hc : ∀ c : Bool, (bif (bif (!btw aper 0 128) then true else decide (slow.1 < 0)) then true else !btw slow.2 slow.1 4096) = c → c = !earOk aper slow := by
      rintro c rfl
      unfold earOk
      by_cases h : slow.1 < 0 <;> cases btw aper 0 128 <;> cases btw slow.2 slow.1 4096 <;> simp [h] <;> omega
    refine Tr.cond rfl rfl (fun h1 => Tr.seqR rfl (by simp) (Tr.retX rfl rfl rfl ?_ trivial)) (fun h1 => Tr.skip (Tr.seqR rfl (by simp [sE]) (Tr.retX rfl rfl rfl ?_ trivial)))
    · have := hc true h1
      have h2 : earOk aper slow = false := by simpa using this.symm
      simp [packR, earR, hE, h2]
    · have := hc false h1
      have h2 : earOk aper slow = true := by simpa using this.symm
      simp [packR, earR, hE, h2, sE]
  · have hE : echoesOk l = false := by simpa using hE
    refine Tr.condT (by simp [CheckR, hE]; rfl) (Tr.seqR rfl (by simp) (Tr.retX rfl rfl rfl ?_ trivial))
    simp [packR, earR, hE, CheckR]

def nameErr (nl : V) (e : Int) : V := .tuple [.agg [I 0, I 0, I 0, nl, I 0, I 0], I e]
def nameC (h : Ear) (x y z : Int) : List V := [I x, I y, I z, .slice 0 2 ((namedL h x y z).map eB), I (valueB h x y z).1, I (valueB h x y z).2]
def nameR (nl : V) (l : List Echo) (x y z aper slow : Int) : V :=
  if echoesOk l then (if earOk aper (slow, slow) && cellOk x y z then .tuple [.agg (nameC ⟨l, aper, (slow, slow)⟩ x y z), I 0] else nameErr nl 102) else nameErr nl 100

theorem echoesOk_len {l : List Echo} (h : echoesOk l = true) : l.length ≤ 32 := by
  simp only [echoesOk, Bool.and_eq_true, decide_eq_true_eq] at h
  exact h.1

theorem c_Name {l : List Echo} (hl : sane l) (x y z aper slow : Int) : C Tryz.prog F.volume_Name [sE l, .agg (cellC x y z), I aper, I slow] (nameR .nils l x y z aper slow) := by
  refine C_of mixed chk.volume_Name (by simp) fun S ok => ?_
  refine Tr.seqR rfl (by simp) ?_
  by_cases hE : echoesOk l = true
  · by_cases hA : earOk aper (slow, slow) = true
    · have hr : earR l aper (slow, slow) = .tuple [.agg (earC ⟨l, aper, (slow, slow)⟩), I 0] := by simp [earR, hE, hA]
      refine Tr.seqC rfl (by simp) (Steps.call rfl rfl (hr ▸ c_earOf hl aper (slow, slow)) (Steps.fin rfl (by simp [sE]) ?_))
      refine Tr.seq (Tr.seqR rfl (by simp) (Tr.condF rfl (Tr.skip ?_)))
      refine Tr.seq (Tr.seqC rfl (by simp) (Steps.call rfl rfl (c_cellValid x y z) (Steps.fin rfl (by simp) ?_)))
      refine Tr.cond rfl rfl (fun h1 => Tr.seqR rfl (by simp) (Tr.retX rfl rfl rfl ?_ trivial)) (fun h1 => Tr.skip ?_)
      · have h1 : cellOk x y z = false := by simpa using h1
        simp [packR, nameR, hE, hA, h1, nameErr]
      · have h1 : cellOk x y z = true := by simpa using h1
        have hlen := echoesOk_len hE
        refine Tr.seq (Tr.drawK (TraceK.run rfl (by simp) (TraceK.call rfl rfl (c_named ⟨l, aper, (slow, slow)⟩ x y z hlen hl.2) (TraceK.run rfl (by simp) (TraceK.call rfl rfl (c_value ⟨l, aper, (slow, slow)⟩ x y z hlen hl.2) (TraceK.run rfl (by simp) (.done ⟨by kernel_rfl, by kernel_rfl, ?_⟩)))))))
        refine Tr.retX rfl rfl rfl ?_ trivial
        simp [packR, nameR, hE, hA, h1, nameC]
    · have hA : earOk aper (slow, slow) = false := by simpa using hA
      have hr : earR l aper (slow, slow) = .tuple [.agg [.nils, I 0, I 0, I 0], I 102] := by simp [earR, hE, hA]
      refine Tr.seqC rfl (by simp) (Steps.call rfl rfl (hr ▸ c_earOf hl aper (slow, slow)) (Steps.fin rfl (by simp [sE]) ?_))
      refine Tr.seq (Tr.seqR rfl (by simp) (Tr.condT rfl (Tr.seqR rfl (by simp) (Tr.retX rfl rfl rfl ?_ trivial))))
      simp [packR, nameR, hE, hA, nameErr]
  · have hE : echoesOk l = false := by simpa using hE
    have hr : earR l aper (slow, slow) = .tuple [.agg [.nils, I 0, I 0, I 0], I 100] := by simp [earR, hE]
    refine Tr.seqC rfl (by simp) (Steps.call rfl rfl (hr ▸ c_earOf hl aper (slow, slow)) (Steps.fin rfl (by simp [sE]) ?_))
    refine Tr.seq (Tr.seqR rfl (by simp) (Tr.condT rfl (Tr.seqR rfl (by simp) (Tr.retX rfl rfl rfl ?_ trivial))))
    simp [packR, nameR, hE, nameErr]

end Go.Proofs.YtggifklgpdladaaGreat


/-! Contracts: values and images are the same; nil results as empty ones. -/
set_option linter.unusedVariables false
set_option linter.unusedSimpArgs false
set_option maxRecDepth 20000
namespace Go.Proofs.YtggifklgpdladaaGreat
open Go.Am
attribute [local simp] cells scalar mkv splice under2 under dem dem1 boxC earC cellC eB
theorem repD_nil {w : World} {φ : Nat → Nat} {l1 l2 : List V} {sz : Nat} {x : Value} (h : RepD w φ (.agg (l1 ++ .nils :: l2)) x) : RepD w φ (.agg (l1 ++ .slice 0 sz [] :: l2)) x := by
  cases h with
  | agg _ vs hl hh =>
    refine .agg _ vs (by simpa using hl) fun i v x hv hx => ?_
    rw [List.getElem?_append] at hv
    by_cases hi : i < l1.length
    · rw [if_pos hi] at hv
      exact hh i v x (by rw [List.getElem?_append, if_pos hi]; exact hv) hx
    · rw [if_neg hi] at hv
      by_cases h0 : i - l1.length = 0
      · rw [h0] at hv
        have hv : V.slice 0 sz [] = v := by simpa using hv
        subst hv
        have := hh i .nils x (by rw [List.getElem?_append, if_neg hi, h0]; rfl) hx
        cases this
        exact .slice0 sz none 0
      · refine hh i v x ?_ hx
        rw [List.getElem?_append, if_neg hi]
        obtain ⟨m, hm⟩ : ∃ m, i - l1.length = m + 1 := ⟨i - l1.length - 1, by omega⟩
        rw [hm] at hv ⊢
        simpa using hv

theorem repR_nil {w : World} {φ : Nat → Nat} {l1 l2 : List V} {sz : Nat} {r : List V} {x : Value} (h : RepR w φ (.tuple (.agg (l1 ++ .nils :: l2) :: r)) x) : RepR w φ (.tuple (.agg (l1 ++ .slice 0 sz [] :: l2) :: r)) x := by
  cases h with
  | data h => cases h
  | tuple _ xs hl hh =>
    refine .tuple _ xs (by simpa using hl) fun i v x hv hx => ?_
    cases i with
    | zero =>
      have hv : V.agg (l1 ++ .slice 0 sz [] :: l2) = v := by simpa using hv
      subst hv
      exact repD_nil (hh 0 _ x rfl hx)
    | succ i => exact hh (i + 1) v x (by simpa using hv) hx

theorem name_le {l : List Echo} {x y z aper slow : Int} {w : World} {φ : Nat → Nat} {v : Value} (h : RepR w φ (nameR .nils l x y z aper slow) v) : RepR w φ (nameR (.slice 0 2 []) l x y z aper slow) v := by
  unfold nameR at h ⊢
  split
  · split
    · rename_i h1 h2; rw [if_pos h1, if_pos h2] at h; exact h
    · rename_i h1 h2; rw [if_pos h1, if_neg h2] at h; exact repR_nil (l1 := [I 0, I 0, I 0]) h
  · rename_i h1; rw [if_neg h1] at h; exact repR_nil (l1 := [I 0, I 0, I 0]) h

abbrev nameS := nameR (.slice 0 2 [])

theorem c_NameS {l : List Echo} (hl : sane l) (x y z aper slow : Int) : C Tryz.prog F.volume_Name [sE l, .agg (cellC x y z), I aper, I slow] (nameS l x y z aper slow) :=
  (c_Name hl x y z aper slow).le fun _ _ _ h => name_le h

theorem not_of {c d : Bool} (h : c = !d) : d = !c := by rw [h]; cases d <;> rfl

theorem eB_inj {a b : Int × Int} : (a.1 == b.1 && (a.2 == b.2 && true)) = decide (a = b) := by
  obtain ⟨a1, a2⟩ := a; obtain ⟨b1, b2⟩ := b
  by_cases h1 : a1 = b1 <;> by_cases h2 : a2 = b2 <;> simp [h1, h2]

theorem take_ext {α : Type} {l l' : List α} {k : Nat} (hk : k < l.length) (hk' : k < l'.length) (h : l.take k = l'.take k) (e : l[k] = l'[k]) : l.take (k + 1) = l'.take (k + 1) := by
  rw [List.take_add_one, List.take_add_one, h, List.getElem?_eq_getElem hk, List.getElem?_eq_getElem hk', e]

theorem c_SameNamed (x y z x' y' z' : Int) (s s' : Int × Int) (l l' : List (Int × Int)) (hl : l.length ≤ 9223372036854775807) :
    C Tryz.prog F.ref10_SameNamed [.agg [I x, I y, I z, .slice 0 2 (l.map eB), I s.1, I s.2], .agg [I x', I y', I z', .slice 0 2 (l'.map eB), I s'.1, I s'.2]]
      (.bool (decide ((x = x' ∧ y = y' ∧ z = z') ∧ s = s' ∧ l = l'))) := by
  refine C_of mixed chk.ref10_SameNamed (by simp) fun S ok => ?_
  refine Tr.seqR rfl (by simp) (Tr.seq (Tr.seqR rfl (by simp) ?_))
  have hc : ∀ c : Bool, (bif (bif (!(x == x' && (y == y' && (z == z' && true)))) then true else !(s.1 == s'.1 && (s.2 == s'.2 && true))) then true else ((l.map eB).length : Int) != ((l'.map eB).length : Int)) = c →
      c = !decide ((x = x' ∧ y = y' ∧ z = z') ∧ s = s' ∧ l.length = l'.length) := by
    rintro c rfl
    rw [eB_inj]
    by_cases h1 : x = x' <;> by_cases h2 : y = y' <;> by_cases h3 : z = z' <;> by_cases h4 : s = s' <;> by_cases h5 : l.length = l'.length <;> simp [h1, h2, h3, h4, h5] <;> omega
  refine Tr.cond rfl rfl (fun h1 => Tr.seqR rfl (by simp) (Tr.retX rfl rfl rfl ?_ trivial)) (fun h1 => Tr.skip ?_)
  · have h2 := not_of (hc true h1)
    simp only [packR, V.bool.injEq]
    rw [decide_eq_false]
    rintro ⟨a, b, rfl⟩
    simp only [Bool.not_true, decide_eq_false_iff_not] at h2
    exact h2 ⟨a, b, by simp⟩
  · have h2 := not_of (hc false h1)
    simp only [Bool.not_false, decide_eq_true_eq] at h2
    obtain ⟨hxyz, hs, hll⟩ := h2
    refine Tr.seq (Tr.seqR rfl (by simp) (Tr.block ?_))
    refine Tr.loop (fun k st => (k ≤ l.length ∧ l.take k = l'.take k) ∧ st = { env := [(2, .ptr 2 0), (3, .ptr 3 0), (5, I k)], bx := [(2, ⟨[I x, I y, I z, .slice 0 2 (l.map eB), I s.1, I s.2], false⟩), (3, ⟨[I x', I y', I z', .slice 0 2 (l'.map eB), I s'.1, I s'.2], false⟩)], rw := [], log := [], stp := false }) (fun k => l.length - k) 0
      (Wk.le (.cons rfl (.refl _) (.cons rfl (.refl _) (.cons rfl (.refl _) .nil))) (.cons rfl (LLe.refl _) (.cons rfl (LLe.refl _) .nil)) .nil rfl rfl) ⟨⟨by omega, by simp⟩, rfl⟩ ?_
    rintro k st ⟨⟨hk, he⟩, rfl⟩
    refine Tr.seq (Tr.seqR rfl (by simp) (Tr.cond rfl rfl (fun h3 => ?_) (fun h3 => ?_)))
    · have h3 : k < l.length := by simpa using h3
      have h4 : k < l'.length := by omega
      refine Tr.skip (Tr.seq (Tr.block (Tr.seq (Tr.drawK (TraceK.runN 4 rfl (by simp; omega) ?_)))))
      rw [getD_map h3]
      refine TraceK.runN 5 rfl (by simp; omega) ?_
      rw [getD_map h4]
      refine TraceK.run rfl (by simp) (.done ⟨by kernel_rfl, by kernel_rfl, ?_⟩)
      refine Tr.cond rfl rfl (fun h5 => Tr.seqR rfl (by simp) (Tr.retX rfl rfl rfl ?_ trivial)) (fun h5 => Tr.skip (Tr.regR rfl (by simp) ?_))
      · have h5 : (!(l[k].1 == l'[k].1 && (l[k].2 == l'[k].2 && true))) = true := h5
        rw [eB_inj] at h5
        simp only [packR, V.bool.injEq]
        rw [decide_eq_false]
        rintro ⟨_, _, rfl⟩
        simp at h5
      · have h5 : (!(l[k].1 == l'[k].1 && (l[k].2 == l'[k].2 && true))) = false := h5
        rw [eB_inj] at h5
        have h5 : l[k] = l'[k] := by simpa using h5
        exact ⟨k + 1, _, Wk.le (.cons rfl (.refl _) (.cons rfl (.refl _) (.cons rfl (VLe.i (w64 (by omega) (by omega))) .nil))) (.cons rfl (LLe.refl _) (.cons rfl (LLe.refl _) .nil)) .nil rfl rfl, ⟨⟨h3, take_ext h3 h4 he h5⟩, rfl⟩, by omega⟩
    · have h3 : k = l.length := by simp at h3; omega
      subst h3
      refine Tr.exit (Tr.seqR rfl (by simp) (Tr.retX rfl rfl rfl ?_ trivial))
      rw [List.take_length, hll, List.take_length] at he
      simp [packR, hxyz, hs, he]

def intsV (l : List Int) : V := .slice 0 1 (l.map I)

theorem c_Alike (l l' : List Int) (hl : l.length ≤ 9223372036854775807) : C Tryz.prog F.ref00_Alike [intsV l, intsV l'] (.bool (decide (l = l'))) := by
  refine C_of mixed chk.ref00_Alike (by simp) fun S ok => ?_
  refine Tr.seqR rfl (by simp) (Tr.seq (Tr.seqR rfl (by simp) ?_))
  refine Tr.cond rfl rfl (fun h1 => Tr.seqR rfl (by simp) (Tr.retX rfl rfl rfl ?_ trivial)) (fun h1 => Tr.skip ?_)
  · have h1 : (((l.map I).length : Int) != ((l'.map I).length : Int)) = true := h1
    simp only [packR, V.bool.injEq]
    rw [decide_eq_false]
    rintro rfl
    simp at h1
  · have h1 : (((l.map I).length : Int) != ((l'.map I).length : Int)) = false := h1
    have hll : l.length = l'.length := by simp at h1; omega
    refine Tr.seq (Tr.seqR rfl (by simp) (Tr.block ?_))
    refine Tr.loop (fun k st => (k ≤ l.length ∧ l.take k = l'.take k) ∧ st = { env := [(0, intsV l), (1, intsV l'), (5, I k)], bx := [], rw := [], log := [], stp := false }) (fun k => l.length - k) 0
      (Wk.le (.cons rfl (.refl _) (.cons rfl (.refl _) (.cons rfl (.refl _) .nil))) .nil .nil rfl rfl) ⟨⟨by omega, by simp⟩, rfl⟩ ?_
    rintro k st ⟨⟨hk, he⟩, rfl⟩
    refine Tr.seq (Tr.seqR rfl (by simp) (Tr.cond rfl rfl (fun h3 => ?_) (fun h3 => ?_)))
    · have h3 : k < l.length := by simpa using h3
      have h4 : k < l'.length := by omega
      refine Tr.skip (Tr.seq (Tr.block (Tr.seq (Tr.drawK (TraceK.runN 3 rfl (by simp; omega) ?_)))))
      rw [getD_map h3]
      refine TraceK.runN 4 rfl (by simp; omega) ?_
      rw [getD_map h4]
      refine TraceK.run rfl (by simp) (.done ⟨by kernel_rfl, by kernel_rfl, ?_⟩)
      refine Tr.cond rfl rfl (fun h5 => Tr.seqR rfl (by simp) (Tr.retX rfl rfl rfl ?_ trivial)) (fun h5 => Tr.skip (Tr.regR rfl (by simp) ?_))
      · have h5 : (l[k] != l'[k]) = true := h5
        simp only [packR, V.bool.injEq]
        rw [decide_eq_false]
        rintro rfl
        simp at h5
      · have h5 : (l[k] != l'[k]) = false := h5
        have h5 : l[k] = l'[k] := by simpa using h5
        exact ⟨k + 1, _, Wk.le (.cons rfl (.refl _) (.cons rfl (.refl _) (.cons rfl (VLe.i (w64 (by omega) (by omega))) .nil))) .nil .nil rfl rfl, ⟨⟨h3, take_ext h3 h4 he h5⟩, rfl⟩, by omega⟩
    · have h3 : k = l.length := by simp at h3; omega
      subst h3
      refine Tr.exit (Tr.seqR rfl (by simp) (Tr.retX rfl rfl rfl ?_ trivial))
      rw [List.take_length, hll, List.take_length] at he
      simp [packR, he]

end Go.Proofs.YtggifklgpdladaaGreat


/-! Contracts: enclosures and values of boxes, in the program and in the specification. -/
set_option linter.unusedVariables false
set_option linter.unusedSimpArgs false
set_option maxRecDepth 20000
namespace Go.Proofs.YtggifklgpdladaaGreat
open Go.Am
attribute [local simp] cells scalar mkv splice under2 under dem dem1 boxC earC cellC eB
theorem image_le {b : Bx} {of : Int × Int × Int → Int × Int} {w : World} {φ : Nat → Nat} {v : Value} (h : RepR w φ (imageR .nils b of) v) : RepR w φ (imageR (.slice 0 2 []) b of) v := by
  unfold imageR at h ⊢
  split
  · rename_i h1; rw [if_pos h1] at h; exact h
  · rename_i h1; rw [if_neg h1] at h; exact repR_nil (l1 := [I 0, I 0, I 0, I 0, I 0, I 0]) h

def boxR (nl : V) (l : List Echo) (b : Bx) (aper : Int) (slow : Int × Int) (of : Int × Int × Int → Int × Int) : V :=
  if echoesOk l then (if earOk aper slow then imageR nl b of else errImg nl 102) else errImg nl 100

theorem boxR_le {l : List Echo} {b : Bx} {aper : Int} {slow : Int × Int} {of : Int × Int × Int → Int × Int} {w : World} {φ : Nat → Nat} {v : Value} (h : RepR w φ (boxR .nils l b aper slow of) v) : RepR w φ (boxR (.slice 0 2 []) l b aper slow of) v := by
  unfold boxR at h ⊢
  split
  · split
    · rename_i h1 h2; rw [if_pos h1, if_pos h2] at h; exact image_le h
    · rename_i h1 h2; rw [if_pos h1, if_neg h2] at h; exact repR_nil (l1 := [I 0, I 0, I 0, I 0, I 0, I 0]) h
  · rename_i h1; rw [if_neg h1] at h; exact repR_nil (l1 := [I 0, I 0, I 0, I 0, I 0, I 0]) h

def encOf (l : List Echo) (aper : Int) (slow : Int × Int) (p : Int × Int × Int) : Int × Int := encB ⟨l, aper, slow⟩ p.1 p.2.1 p.2.2
def valOf (l : List Echo) (aper slow : Int) (p : Int × Int × Int) : Int × Int := valueB ⟨l, aper, (slow, slow)⟩ p.1 p.2.1 p.2.2

abbrev encS (l : List Echo) (b : Bx) (aper : Int) (slow : Int × Int) : V := boxR (.slice 0 2 []) l b aper slow (encOf l aper slow)
abbrev valS (l : List Echo) (b : Bx) (aper slow : Int) : V := boxR (.slice 0 2 []) l b aper (slow, slow) (valOf l aper slow)

theorem c_Enclose {l : List Echo} (hl : sane l) (b : Bx) (aper : Int) (slow : Int × Int) : C Tryz.prog F.volume_Enclose [sE l, .agg (cellC b.x b.y b.z), .agg (cellC b.a b.b b.c), I aper, .agg [I slow.1, I slow.2]] (encS l b aper slow) := by
  refine C.le (r := boxR .nils l b aper slow (encOf l aper slow)) ?_ fun _ _ _ h => boxR_le h
  refine C_of mixed chk.volume_Enclose (by simp) fun S ok => ?_
  refine Tr.seqR rfl (by simp) ?_
  by_cases hE : echoesOk l = true
  · by_cases hA : earOk aper slow = true
    · have hr : earR l aper slow = .tuple [.agg (earC ⟨l, aper, slow⟩), I 0] := by simp [earR, hE, hA]
      have hlen := echoesOk_len hE
      refine Tr.seqC rfl (by simp) (Steps.call rfl rfl (hr ▸ c_earOf hl aper slow) (Steps.fin rfl (by simp [sE]) ?_))
      refine Tr.seq (Tr.seqR rfl (by simp) (Tr.condF rfl (Tr.skip ?_)))
      by_cases hb : boxOk b = true
      · have hr2 : imageR .nils b (encOf l aper slow) = .tuple [.agg [I b.x, I b.y, I b.z, I b.a, I b.b, I b.c, .slice 0 2 ((boxCells b).map fun p => eB (encOf l aper slow p))], I 0] := by simp [imageR, hb]
        refine Tr.seqC rfl (by simp) (Steps.call rfl rfl (hr2 ▸ c_image b ⟨l, aper, slow⟩ (fun p => c_enclosure ⟨l, aper, slow⟩ p.1 p.2.1 p.2.2 hlen hl.2)) (Steps.fin rfl (by simp) (Tr.retX rfl rfl rfl ?_ trivial)))
        simp [packR, boxR, hE, hA, hr2]
      · have hb : boxOk b = false := by simpa using hb
        have hr2 : imageR .nils b (encOf l aper slow) = .tuple [.agg [I 0, I 0, I 0, I 0, I 0, I 0, .nils], I 102] := by simp [imageR, hb, errImg]
        refine Tr.seqC rfl (by simp) (Steps.call rfl rfl (hr2 ▸ c_image b ⟨l, aper, slow⟩ (fun p => c_enclosure ⟨l, aper, slow⟩ p.1 p.2.1 p.2.2 hlen hl.2)) (Steps.fin rfl (by simp) (Tr.retX rfl rfl rfl ?_ trivial)))
        simp [packR, boxR, hE, hA, hr2]
    · have hA : earOk aper slow = false := by simpa using hA
      have hr : earR l aper slow = .tuple [.agg [.nils, I 0, I 0, I 0], I 102] := by simp [earR, hE, hA]
      refine Tr.seqC rfl (by simp) (Steps.call rfl rfl (hr ▸ c_earOf hl aper slow) (Steps.fin rfl (by simp [sE]) ?_))
      refine Tr.seq (Tr.seqR rfl (by simp) (Tr.condT rfl (Tr.seqR rfl (by simp) (Tr.retX rfl rfl rfl ?_ trivial))))
      simp [packR, boxR, hE, hA, errImg]
  · have hE : echoesOk l = false := by simpa using hE
    have hr : earR l aper slow = .tuple [.agg [.nils, I 0, I 0, I 0], I 100] := by simp [earR, hE]
    refine Tr.seqC rfl (by simp) (Steps.call rfl rfl (hr ▸ c_earOf hl aper slow) (Steps.fin rfl (by simp [sE]) ?_))
    refine Tr.seq (Tr.seqR rfl (by simp) (Tr.condT rfl (Tr.seqR rfl (by simp) (Tr.retX rfl rfl rfl ?_ trivial))))
    simp [packR, boxR, hE, errImg]

theorem c_Migrate {l : List Echo} (hl : sane l) (b : Bx) (aper slow : Int) : C Tryz.prog F.volume_Migrate [sE l, .agg (cellC b.x b.y b.z), .agg (cellC b.a b.b b.c), I aper, I slow] (valS l b aper slow) := by
  refine C.le (r := boxR .nils l b aper (slow, slow) (valOf l aper slow)) ?_ fun _ _ _ h => boxR_le h
  refine C_of mixed chk.volume_Migrate (by simp) fun S ok => ?_
  refine Tr.seqR rfl (by simp) ?_
  by_cases hE : echoesOk l = true
  · by_cases hA : earOk aper (slow, slow) = true
    · have hr : earR l aper (slow, slow) = .tuple [.agg (earC ⟨l, aper, (slow, slow)⟩), I 0] := by simp [earR, hE, hA]
      have hlen := echoesOk_len hE
      refine Tr.seqC rfl (by simp) (Steps.call rfl rfl (hr ▸ c_earOf hl aper (slow, slow)) (Steps.fin rfl (by simp [sE]) ?_))
      refine Tr.seq (Tr.seqR rfl (by simp) (Tr.condF rfl (Tr.skip ?_)))
      by_cases hb : boxOk b = true
      · have hr2 : imageR .nils b (valOf l aper slow) = .tuple [.agg [I b.x, I b.y, I b.z, I b.a, I b.b, I b.c, .slice 0 2 ((boxCells b).map fun p => eB (valOf l aper slow p))], I 0] := by simp [imageR, hb]
        refine Tr.seqC rfl (by simp) (Steps.call rfl rfl (hr2 ▸ c_image b ⟨l, aper, (slow, slow)⟩ (fun p => c_value ⟨l, aper, (slow, slow)⟩ p.1 p.2.1 p.2.2 hlen hl.2)) (Steps.fin rfl (by simp) (Tr.retX rfl rfl rfl ?_ trivial)))
        simp [packR, boxR, hE, hA, hr2]
      · have hb : boxOk b = false := by simpa using hb
        have hr2 : imageR .nils b (valOf l aper slow) = .tuple [.agg [I 0, I 0, I 0, I 0, I 0, I 0, .nils], I 102] := by simp [imageR, hb, errImg]
        refine Tr.seqC rfl (by simp) (Steps.call rfl rfl (hr2 ▸ c_image b ⟨l, aper, (slow, slow)⟩ (fun p => c_value ⟨l, aper, (slow, slow)⟩ p.1 p.2.1 p.2.2 hlen hl.2)) (Steps.fin rfl (by simp) (Tr.retX rfl rfl rfl ?_ trivial)))
        simp [packR, boxR, hE, hA, hr2]
    · have hA : earOk aper (slow, slow) = false := by simpa using hA
      have hr : earR l aper (slow, slow) = .tuple [.agg [.nils, I 0, I 0, I 0], I 102] := by simp [earR, hE, hA]
      refine Tr.seqC rfl (by simp) (Steps.call rfl rfl (hr ▸ c_earOf hl aper (slow, slow)) (Steps.fin rfl (by simp [sE]) ?_))
      refine Tr.seq (Tr.seqR rfl (by simp) (Tr.condT rfl (Tr.seqR rfl (by simp) (Tr.retX rfl rfl rfl ?_ trivial))))
      simp [packR, boxR, hE, hA, errImg]
  · have hE : echoesOk l = false := by simpa using hE
    have hr : earR l aper (slow, slow) = .tuple [.agg [.nils, I 0, I 0, I 0], I 100] := by simp [earR, hE]
    refine Tr.seqC rfl (by simp) (Steps.call rfl rfl (hr ▸ c_earOf hl aper (slow, slow)) (Steps.fin rfl (by simp [sE]) ?_))
    refine Tr.seq (Tr.seqR rfl (by simp) (Tr.condT rfl (Tr.seqR rfl (by simp) (Tr.retX rfl rfl rfl ?_ trivial))))
    simp [packR, boxR, hE, errImg]

end Go.Proofs.YtggifklgpdladaaGreat


/-! Contracts: is there one among them; what rings. -/
set_option linter.unusedVariables false
set_option linter.unusedSimpArgs false
set_option maxRecDepth 20000
namespace Go.Proofs.YtggifklgpdladaaGreat
open Go.Am
attribute [local simp] cells scalar mkv splice under2 under dem dem1
def firstA {α : Type} (p : α → Bool) : List α → Nat → Int
  | [], _ => -1
  | b :: r, k => if p b then (k : Int) else firstA p r (k + 1)

theorem firstA_drop {α : Type} (p : α → Bool) (l : List α) {k : Nat} (h : k < l.length) : firstA p (l.drop k) k = if p l[k] then (k : Int) else firstA p (l.drop (k + 1)) (k + 1) := by
  rw [List.drop_eq_getElem_cons h]; rfl

theorem firstA_nn {α : Type} (p : α → Bool) : ∀ (l : List α) (k : Nat), decide (firstA p l k ≥ 0) = l.any p
  | [], k => by simp [firstA]
  | b :: r, k => by
    simp only [firstA, List.any_cons]
    by_cases h : p b = true
    · simp [h]
    · have := firstA_nn p r (k + 1)
      simp only [h, if_false, Bool.false_or]
      simpa [h] using this

theorem c_indexI0 {l : List Int} {p : Int → Bool} {f : FuncId} (hl : l.length ≤ 9223372036854775807) (hp : ∀ b ∈ l, C Tryz.prog f ([I b] ++ []) (.bool (p b))) :
    C Tryz.prog F.slices_IndexFunc_int_int [.slice 0 1 (l.map I), .func (.func f) [] []] (I (firstA p l 0)) := by
  refine C_of mixed chk.slices_IndexFunc_int_int (by simp) fun S ok => ?_
  refine Tr.seqR rfl (by simp) ?_
  refine Tr.seq (Tr.seqR rfl (by simp) (Tr.block ?_))
  refine Tr.loop (fun k s => (k ≤ l.length ∧ firstA p l 0 = firstA p (l.drop k) k) ∧ s = { env := [(0, .slice 0 1 (l.map I)), (1, .func (.func f) [] []), (7, I l.length), (8, I k)], bx := [], rw := [], log := [], stp := false }) (fun k => l.length - k) 0
    (Wk.le (.cons rfl (.refl _) (.cons rfl (.refl _) (.cons rfl (VLe.i (by simp)) (.cons rfl (.refl _) .nil)))) .nil .nil rfl rfl) ⟨⟨by omega, by simp⟩, rfl⟩ ?_
  rintro k s ⟨⟨hk, hf⟩, rfl⟩
  refine Tr.seqR rfl (by simp) (Tr.seqI rfl (fun h1 => ?_) (fun h1 => ?_))
  · have h1 : k < l.length := by simpa using h1
    refine Tr.skipT (Tr.seq (Tr.block (Tr.seqR rfl (by simp) (Tr.seqN 4 rfl (by simp; omega) ?_))))
    rw [getD_map h1]
    refine Steps.run rfl (by simp) (Steps.callv rfl rfl (hp l[k] (List.getElem_mem h1)) (Steps.fin rfl (by simp) ?_))
    refine Tr.cond rfl rfl (fun h2 => ?_) (fun h2 => ?_)
    · refine Tr.seqR rfl (by simp) (Tr.retX rfl rfl rfl ?_ trivial)
      rw [hf, firstA_drop p l h1, if_pos h2]; rfl
    · refine Tr.skip (Tr.regR rfl (by simp) ?_)
      refine ⟨k + 1, _, ?_, ⟨⟨by omega, ?_⟩, rfl⟩, by omega⟩
      · exact Wk.le (.cons rfl (.refl _) (.cons rfl (.refl _) (.cons rfl (.refl _) (.cons rfl (VLe.i (w64 (by omega) (by omega))) .nil)))) .nil .nil rfl rfl
      · rw [hf, firstA_drop p l h1, if_neg (by simp [h2])]
  · have h1 : k = l.length := by simp at h1; omega
    subst h1
    refine Tr.exit (Tr.seqR rfl (by simp) (Tr.retX rfl rfl rfl ?_ trivial))
    rw [hf, List.drop_length]; rfl

theorem c_containsI0 {l : List Int} {p : Int → Bool} {f : FuncId} (hl : l.length ≤ 9223372036854775807) (hp : ∀ b ∈ l, C Tryz.prog f ([I b] ++ []) (.bool (p b))) :
    C Tryz.prog F.slices_ContainsFunc_int_int [.slice 0 1 (l.map I), .func (.func f) [] []] (.bool (l.any p)) := by
  refine C_of mixed chk.slices_ContainsFunc_int_int (by simp) fun S ok => ?_
  refine Tr.seqR rfl (by simp) ?_
  refine Tr.seqC rfl (by simp) (Steps.call rfl rfl (c_indexI0 hl hp) (Steps.fin rfl (by simp) (Tr.retQ rfl rfl ?_ trivial)))
  rw [← firstA_nn p l 0]; rfl

theorem c_indexI1 {l : List Int} {p : Int → Bool} {f : FuncId} {cs : List V} (hl : l.length ≤ 9223372036854775807) (hp : ∀ b ∈ l, C Tryz.prog f ([I b] ++ [.vptr cs 0]) (.bool (p b))) :
    C Tryz.prog F.slices_IndexFunc_int_int [.slice 0 1 (l.map I), .func (.func f) [] [.vptr cs 0]] (I (firstA p l 0)) := by
  refine C_of mixed chk.slices_IndexFunc_int_int (by simp) fun S ok => ?_
  refine Tr.seqR rfl (by simp) ?_
  refine Tr.seq (Tr.seqR rfl (by simp) (Tr.block ?_))
  refine Tr.loop (fun k s => (k ≤ l.length ∧ firstA p l 0 = firstA p (l.drop k) k) ∧ s = { env := [(0, .slice 0 1 (l.map I)), (1, .func (.func f) [] [.vptr cs 0]), (7, I l.length), (8, I k)], bx := [], rw := [], log := [], stp := false }) (fun k => l.length - k) 0
    (Wk.le (.cons rfl (.refl _) (.cons rfl (.refl _) (.cons rfl (VLe.i (by simp)) (.cons rfl (.refl _) .nil)))) .nil .nil rfl rfl) ⟨⟨by omega, by simp⟩, rfl⟩ ?_
  rintro k s ⟨⟨hk, hf⟩, rfl⟩
  refine Tr.seqR rfl (by simp) (Tr.seqI rfl (fun h1 => ?_) (fun h1 => ?_))
  · have h1 : k < l.length := by simpa using h1
    refine Tr.skipT (Tr.seq (Tr.block (Tr.seqR rfl (by simp) (Tr.seqN 4 rfl (by simp; omega) ?_))))
    rw [getD_map h1]
    refine Steps.run rfl (by simp) (Steps.callv rfl rfl (hp l[k] (List.getElem_mem h1)) (Steps.fin rfl (by simp) ?_))
    refine Tr.cond rfl rfl (fun h2 => ?_) (fun h2 => ?_)
    · refine Tr.seqR rfl (by simp) (Tr.retX rfl rfl rfl ?_ trivial)
      rw [hf, firstA_drop p l h1, if_pos h2]; rfl
    · refine Tr.skip (Tr.regR rfl (by simp) ?_)
      refine ⟨k + 1, _, ?_, ⟨⟨by omega, ?_⟩, rfl⟩, by omega⟩
      · exact Wk.le (.cons rfl (.refl _) (.cons rfl (.refl _) (.cons rfl (.refl _) (.cons rfl (VLe.i (w64 (by omega) (by omega))) .nil)))) .nil .nil rfl rfl
      · rw [hf, firstA_drop p l h1, if_neg (by simp [h2])]
  · have h1 : k = l.length := by simp at h1; omega
    subst h1
    refine Tr.exit (Tr.seqR rfl (by simp) (Tr.retX rfl rfl rfl ?_ trivial))
    rw [hf, List.drop_length]; rfl

theorem c_containsI1 {l : List Int} {p : Int → Bool} {f : FuncId} {cs : List V} (hl : l.length ≤ 9223372036854775807) (hp : ∀ b ∈ l, C Tryz.prog f ([I b] ++ [.vptr cs 0]) (.bool (p b))) :
    C Tryz.prog F.slices_ContainsFunc_int_int [.slice 0 1 (l.map I), .func (.func f) [] [.vptr cs 0]] (.bool (l.any p)) := by
  refine C_of mixed chk.slices_ContainsFunc_int_int (by simp) fun S ok => ?_
  refine Tr.seqR rfl (by simp) ?_
  refine Tr.seqC rfl (by simp) (Steps.call rfl rfl (c_indexI1 hl hp) (Steps.fin rfl (by simp) (Tr.retQ rfl rfl ?_ trivial)))
  rw [← firstA_nn p l 0]; rfl

theorem c_indexL1 {l : List (List Int)} {p : (List Int) → Bool} {f : FuncId} {cs : List V} (hl : l.length ≤ 9223372036854775807) (hp : ∀ b ∈ l, C Tryz.prog f ([intsV b] ++ [.vptr cs 0]) (.bool (p b))) :
    C Tryz.prog F.slices_IndexFunc_int_int_122 [.slice 0 1 (l.map intsV), .func (.func f) [] [.vptr cs 0]] (I (firstA p l 0)) := by
  refine C_of mixed chk.slices_IndexFunc_int_int_122 (by simp) fun S ok => ?_
  refine Tr.seqR rfl (by simp) ?_
  refine Tr.seq (Tr.seqR rfl (by simp) (Tr.block ?_))
  refine Tr.loop (fun k s => (k ≤ l.length ∧ firstA p l 0 = firstA p (l.drop k) k) ∧ s = { env := [(0, .slice 0 1 (l.map intsV)), (1, .func (.func f) [] [.vptr cs 0]), (7, I l.length), (8, I k)], bx := [], rw := [], log := [], stp := false }) (fun k => l.length - k) 0
    (Wk.le (.cons rfl (.refl _) (.cons rfl (.refl _) (.cons rfl (VLe.i (by simp)) (.cons rfl (.refl _) .nil)))) .nil .nil rfl rfl) ⟨⟨by omega, by simp⟩, rfl⟩ ?_
  rintro k s ⟨⟨hk, hf⟩, rfl⟩
  refine Tr.seqR rfl (by simp) (Tr.seqI rfl (fun h1 => ?_) (fun h1 => ?_))
  · have h1 : k < l.length := by simpa using h1
    refine Tr.skipT (Tr.seq (Tr.block (Tr.seqR rfl (by simp) (Tr.seqN 4 rfl (by simp; omega) ?_))))
    rw [getD_map h1]
    refine Steps.run rfl (by simp [intsV]) (Steps.callv rfl rfl (hp l[k] (List.getElem_mem h1)) (Steps.fin rfl (by simp) ?_))
    refine Tr.cond rfl rfl (fun h2 => ?_) (fun h2 => ?_)
    · refine Tr.seqR rfl (by simp) (Tr.retX rfl rfl rfl ?_ trivial)
      rw [hf, firstA_drop p l h1, if_pos h2]; rfl
    · refine Tr.skip (Tr.regR rfl (by simp) ?_)
      refine ⟨k + 1, _, ?_, ⟨⟨by omega, ?_⟩, rfl⟩, by omega⟩
      · exact Wk.le (.cons rfl (.refl _) (.cons rfl (.refl _) (.cons rfl (.refl _) (.cons rfl (VLe.i (w64 (by omega) (by omega))) .nil)))) .nil .nil rfl rfl
      · rw [hf, firstA_drop p l h1, if_neg (by simp [h2])]
  · have h1 : k = l.length := by simp at h1; omega
    subst h1
    refine Tr.exit (Tr.seqR rfl (by simp) (Tr.retX rfl rfl rfl ?_ trivial))
    rw [hf, List.drop_length]; rfl

theorem c_containsL1 {l : List (List Int)} {p : (List Int) → Bool} {f : FuncId} {cs : List V} (hl : l.length ≤ 9223372036854775807) (hp : ∀ b ∈ l, C Tryz.prog f ([intsV b] ++ [.vptr cs 0]) (.bool (p b))) :
    C Tryz.prog F.slices_ContainsFunc_int_int_107 [.slice 0 1 (l.map intsV), .func (.func f) [] [.vptr cs 0]] (.bool (l.any p)) := by
  refine C_of mixed chk.slices_ContainsFunc_int_int_107 (by simp) fun S ok => ?_
  refine Tr.seqR rfl (by simp) ?_
  refine Tr.seqC rfl (by simp) (Steps.call rfl rfl (c_indexL1 hl hp) (Steps.fin rfl (by simp) (Tr.retQ rfl rfl ?_ trivial)))
  rw [← firstA_nn p l 0]; rfl

def downN (n : Int) : Int := n.fdiv 64

theorem c_down (n : Int) : C Tryz.prog F.volume_down [I n] (I (downN n)) := by
  refine C_of mixed chk.volume_down (by simp) fun S ok => ?_
  exact Tr.seqR rfl (by simp) (Tr.seqR rfl (by simp) (Tr.retQ rfl rfl rfl trivial))

def ringOk (l : List Int) (most period part : Int) : Bool := decide (l.length ≤ 64) && btw period 1 64 && btw part (-63) 63 && l.all fun n => btw n (-most) most

theorem c_ringing1 (n most : Int) (hm : 0 ≤ most ∧ most ≤ 2000000000) : C Tryz.prog F.volume_ringing_1 ([I n] ++ [.vptr [I most] 0]) (.bool (!btw n (-most) most)) := by
  refine C_of mixed chk.volume_ringing_1 (by simp) fun S ok => ?_
  refine Tr.seqR rfl (by simp) (Tr.seqC rfl (by simp) (Steps.call rfl rfl (c_within _ _ _) (Steps.fin rfl (by simp) (Tr.retQ rfl rfl ?_ trivial))))
  rw [w64 (n := 0 - most) (by omega) (by omega), Int.zero_sub]; rfl

theorem c_ringing (l : List Int) (most period part : Int) (hm : 0 ≤ most ∧ most ≤ 2000000000) (hl : l.length ≤ 9223372036854775807) : C Tryz.prog F.volume_ringing [intsV l, I most, I period, I part] (.bool (ringOk l most period part)) := by
  refine C_of mixed chk.volume_ringing (by simp) fun S ok => ?_
  refine Tr.seqR rfl (by simp) ?_
  refine Tr.seqC rfl (by simp [intsV]) (Steps.gcall rfl rfl rfl rfl (by simp) (fun _ => c_within _ _ _) (Steps.run rfl (by simp) ?_))
  refine Steps.gcall rfl rfl rfl rfl (by simp) (fun _ => c_within _ _ _) (Steps.run rfl (by simp [intsV]) ?_)
  refine Steps.gcall rfl rfl rfl rfl (by simp [intsV]) (fun _ => c_containsI1 hl fun b _ => c_ringing1 b most hm) (Steps.fin rfl (by simp) (Tr.retQ rfl rfl ?_ trivial))
  have e : (l.any fun n => !btw n (-most) most) = !(l.all fun n => btw n (-most) most) := by
    induction l with
    | nil => rfl
    | cons a r ih => simp only [List.any_cons, List.all_cons, ih (by simp at hl; omega), Bool.not_and]
  simp only [packR, ringOk, e, V.bool.injEq, intsV, List.length_map]
  by_cases h1 : l.length ≤ 64 <;> cases btw period 1 64 <;> cases btw part (-63) 63 <;> simp [h1] <;> omega

def backN (m : List Int) (t : Nat) (period part : Int) : Int := if (t : Int) < period then 0 else (part * m.getD (t - period.toNat) 0) / 64

theorem part_bd {part n : Int} (hp : -63 ≤ part ∧ part ≤ 63) (hn : -1073741824 ≤ n ∧ n ≤ 1073741824) : -67645734912 ≤ part * n ∧ part * n ≤ 67645734912 := by
  rcases Int.le_total 0 n with h | h
  · have := mul_bd (a := part) (b := n) (A := 63) (B := 1073741824) (by omega) (by omega)
    omega
  · have := mul_bd (a := part) (b := -n) (A := 63) (B := 1073741824) (by omega) (by omega)
    rw [Int.mul_neg] at this
    omega

def ringG (period part : Int) : List Int → List Int → Option (List Int)
  | [], m => some m
  | n :: r, m => if btw (n + backN m m.length period part) (-1073741824) 1073741824 then ringG period part r (m ++ [n + backN m m.length period part]) else none

def ringR (nl : V) (s : List Int) (period part : Int) : V :=
  if ringOk s 16777216 period part then (match ringG period part s [] with | some m => .tuple [intsV m, I 0] | none => .tuple [nl, I 7]) else .tuple [nl, I 2]

theorem repR_nil0 {w : World} {φ : Nat → Nat} {sz : Nat} {r : List V} {x : Value} (h : RepR w φ (.tuple (.nils :: r)) x) : RepR w φ (.tuple (.slice 0 sz [] :: r)) x := by
  cases h with
  | data h => cases h
  | tuple _ xs hl hh =>
    refine .tuple _ xs (by simpa using hl) fun i v x hv hx => ?_
    cases i with
    | zero =>
      have hv : V.slice 0 sz [] = v := by simpa using hv
      subst hv
      have := hh 0 .nils x rfl hx
      cases this
      exact .slice0 sz none 0
    | succ i => exact hh (i + 1) v x (by simpa using hv) hx

theorem ring_le {s : List Int} {period part : Int} {w : World} {φ : Nat → Nat} {v : Value} (h : RepR w φ (ringR .nils s period part) v) : RepR w φ (ringR (intsV []) s period part) v := by
  unfold ringR at h ⊢
  split
  · rename_i h1; rw [if_pos h1] at h
    split
    · rename_i m hm; rw [hm] at h; exact h
    · rename_i hm; rw [hm] at h; exact repR_nil0 h
  · rename_i h1; rw [if_neg h1] at h; exact repR_nil0 h

abbrev ringS := ringR (intsV [])

theorem ringOk_spec {l : List Int} {most period part : Int} (h : ringOk l most period part = true) : l.length ≤ 64 ∧ (1 ≤ period ∧ period ≤ 64) ∧ (-63 ≤ part ∧ part ≤ 63) ∧ ∀ n ∈ l, -most ≤ n ∧ n ≤ most := by
  simp only [ringOk, btw, Bool.and_eq_true, decide_eq_true_eq, List.all_eq_true] at h
  obtain ⟨⟨⟨h1, h2⟩, h3⟩, h4⟩ := h
  exact ⟨h1, by omega, by omega, fun n hn => by have := h4 n hn; omega⟩

theorem backN_bd {m : List Int} {t : Nat} {period part : Int} (hpart : -63 ≤ part ∧ part ≤ 63) (hb : ∀ n ∈ m, -1073741824 ≤ n ∧ n ≤ 1073741824) : -1056964608 ≤ backN m t period part ∧ backN m t period part ≤ 1056964608 := by
  unfold backN
  split
  · omega
  · have hn : -1073741824 ≤ m.getD (t - period.toNat) 0 ∧ m.getD (t - period.toNat) 0 ≤ 1073741824 := by
      by_cases hk : t - period.toNat < m.length
      · rw [List.getD_eq_getElem?_getD, List.getElem?_eq_getElem hk]; exact hb _ (List.getElem_mem hk)
      · rw [List.getD_eq_getElem?_getD, List.getElem?_eq_none (by omega)]; simp
    have := part_bd hpart hn
    omega

theorem c_Ring (s : List Int) (period part : Int) (hl : s.length ≤ 9223372036854775807) : C Tryz.prog F.volume_Ring [intsV s, I period, I part] (ringS s period part) := by
  refine C.le (r := ringR .nils s period part) ?_ fun _ _ _ h => ring_le h
  refine C_of mixed chk.volume_Ring (by simp) fun S ok => ?_
  refine Tr.seqR rfl (by simp) (Tr.seq (Tr.seqC rfl (by simp) (Steps.call rfl rfl (c_ringing s 16777216 period part (by omega) hl) (Steps.fin rfl (by simp) (Tr.cond rfl rfl (fun h1 => Tr.seqR rfl (by simp) (Tr.retX rfl rfl rfl ?_ trivial)) (fun h1 => Tr.skip ?_))))))
  · have h1 : ringOk s 16777216 period part = false := by simpa using h1
    simp [packR, ringR, h1]
  have h1 : ringOk s 16777216 period part = true := by simpa using h1
  obtain ⟨hlen, hper, hpart, hs⟩ := ringOk_spec h1
  refine Tr.seqR rfl (by simp) (Tr.seq (Tr.seqR rfl (by simp) (Tr.block ?_)))
  refine Tr.loop (α := Nat × List Int) (fun p st => (p.1 ≤ s.length ∧ p.2.length = p.1 ∧ (∀ n ∈ p.2, -1073741824 ≤ n ∧ n ≤ 1073741824) ∧ ringG period part (s.drop p.1) p.2 = ringG period part s []) ∧ st = { env := [(1, I period), (2, I part), (8, .slice 44 1 (p.2.map I)), (16, intsV s), (17, I s.length), (18, I p.1)], bx := [], rw := [(43, p.2.length, 1, 3)], log := [], stp := false }) (fun p => s.length - p.1) (0, [])
    (Wk.le (.cons rfl (.refl _) (.cons rfl (.refl _) (.cons rfl (.nil 44 1) (.cons rfl (.refl _) (.cons rfl (VLe.i (by simp)) (.cons rfl (.refl _) .nil)))))) .nil (.new rfl .nil) rfl rfl) ⟨⟨by omega, rfl, by simp, rfl⟩, rfl⟩ ?_
  rintro ⟨t, m⟩ st ⟨⟨ht, hm, hmb, hG⟩, rfl⟩
  simp only at ht hm hmb hG
  refine Tr.seqR rfl (by simp) (Tr.seqI rfl (fun h2 => ?_) (fun h2 => ?_))
  rotate_left
  · have h2 : t = s.length := by simp at h2; omega
    subst h2
    rw [List.drop_length] at hG
    refine Tr.exit (Tr.seqR rfl (by simp) (Tr.retX rfl rfl rfl ?_ trivial))
    have hG : ringG period part s [] = some m := hG.symm
    simp [packR, ringR, h1, hG, intsV]
  have h2 : t < s.length := by simpa using h2
  have hn := hs _ (List.getElem_mem h2)
  have hbk := backN_bd (t := t) (period := period) hpart hmb
  rw [List.drop_eq_getElem_cons h2] at hG
  simp only [ringG, hm] at hG
  refine Tr.skipT (Tr.seq (Tr.block (Tr.seqN 2 rfl (by simp; omega) ?_)))
  rw [getD_map h2]
  refine Steps.fin rfl (by simp) ?_
  refine Tr.meet { env := [(1, I period), (2, I part), (8, .slice 44 1 (m.map I)), (9, I t), (10, I (s[t] + backN m t period part)), (16, intsV s), (17, I s.length), (18, I t)], bx := [], rw := [(43, m.length, 1, 3)], log := [], stp := false } ?_ ?_
  · refine Tr.seqR rfl (by simp) (Tr.cond rfl rfl (fun h3 => ?_) (fun h3 => Tr.skip ?_))
    · have h3 : period ≤ (t : Int) := by simpa using h3
      have e : IntKind.i64.wrap ((t : Int) - period) = ((t - period.toNat : Nat) : Int) := by rw [w64 (by omega) (by omega)]; omega
      have hk : t - period.toNat < m.length := by omega
      have hbd := part_bd hpart (hmb _ (List.getElem_mem hk))
      refine Tr.reg (Steps.runN 6 rfl (by simp) ?_)
      rw [e]
      refine Steps.runN 1 rfl (by simp; omega) ?_
      rw [getD_map hk]
      refine Steps.run rfl (by simp) ?_
      refine Steps.call rfl rfl (c_down _) (Steps.fin rfl (by simp) ?_)
      refine Wk.le (.cons rfl (.refl _) (.cons rfl (.refl _) (.cons rfl (.refl _) (.cons rfl (.refl _) (.cons rfl (VLe.i ?_) (.cons rfl (.refl _) (.cons rfl (.refl _) (.cons rfl (.refl _) .nil)))))))) .nil (.cons rfl .nil) rfl rfl
      rw [w64 (n := part * m[t - period.toNat]) (by omega) (by omega)]
      have e2 : backN m t period part = part * m[t - period.toNat] / 64 := by
        unfold backN; rw [if_neg (by omega), List.getD_eq_getElem?_getD, List.getElem?_eq_getElem hk]; rfl
      rw [e2] at hbk ⊢
      unfold downN
      rw [Int.fdiv_eq_ediv_of_nonneg _ (by decide)]
      exact w64 (by omega) (by omega)
    · have h3 : ¬ period ≤ (t : Int) := by simpa using h3
      refine Wk.le (.cons rfl (.refl _) (.cons rfl (.refl _) (.cons rfl (.refl _) (.cons rfl (.refl _) (.cons rfl (VLe.i ?_) (.cons rfl (.refl _) (.cons rfl (.refl _) (.cons rfl (.refl _) .nil)))))))) .nil (.cons rfl .nil) rfl rfl
      unfold backN; rw [if_pos (by omega)]; omega
  refine Tr.seq (Tr.seqC rfl (by simp) (Steps.call rfl rfl (c_within _ _ _) (Steps.fin rfl (by simp) (Tr.cond rfl rfl (fun h4 => Tr.seqR rfl (by simp) (Tr.retX rfl rfl rfl ?_ trivial)) (fun h4 => Tr.skip ?_)))))
  · have h4 : btw (s[t] + backN m t period part) (-1073741824) 1073741824 = false := by simpa using h4
    rw [h4] at hG
    have hG : ringG period part s [] = none := hG.symm
    simp [packR, ringR, h1, hG]
  · have h4 : btw (s[t] + backN m t period part) (-1073741824) 1073741824 = true := by simpa using h4
    rw [h4, if_pos rfl] at hG
    have h5 : -1073741824 ≤ s[t] + backN m t period part ∧ s[t] + backN m t period part ≤ 1073741824 := by simpa [btw] using h4
    refine Tr.regR rfl (by simp; omega) (Tr.regR rfl (by simp) ?_)
    refine ⟨(t + 1, m ++ [s[t] + backN m t period part]), _, Wk.le (.cons rfl (.refl _) (.cons rfl (.refl _) (.cons rfl (.of_eq ?_) (.cons rfl (.refl _) (.cons rfl (.refl _) (.cons rfl (VLe.i (w64 (by omega) (by omega))) .nil)))))) .nil (.cons ?_ .nil) rfl rfl, ⟨⟨h2, by simp [hm], ?_, hG⟩, rfl⟩, by simp; omega⟩
    · simp
    · show some _ = some _
      simp
    · intro n hn
      rcases List.mem_append.1 hn with hn | hn
      · exact hmb n hn
      · have hn : n = s[t] + backN m t period part := by simpa using hn
        subst hn; exact h5

def unringTo (m : List Int) (period part : Int) (k : Nat) : List Int := (List.range k).map fun t => m.getD t 0 - backN m t period part

def unringR (nl : V) (m : List Int) (period part : Int) : V :=
  if ringOk m 1073741824 period part then .tuple [intsV (unringTo m period part m.length), I 0] else .tuple [nl, I 2]

abbrev unringS := unringR (intsV [])

theorem unring_le {s : List Int} {period part : Int} {w : World} {φ : Nat → Nat} {v : Value} (h : RepR w φ (unringR .nils s period part) v) : RepR w φ (unringR (intsV []) s period part) v := by
  unfold unringR at h ⊢
  split
  · rename_i h1; rw [if_pos h1] at h; exact h
  · rename_i h1; rw [if_neg h1] at h; exact repR_nil0 h

theorem unringTo_succ (m : List Int) (period part : Int) {k : Nat} (hk : k < m.length) : unringTo m period part (k + 1) = unringTo m period part k ++ [m[k] - backN m k period part] := by
  unfold unringTo
  rw [List.range_succ, List.map_append]
  simp [List.getElem?_eq_getElem hk]

theorem c_Unring (s : List Int) (period part : Int) (hl : s.length ≤ 9223372036854775807) : C Tryz.prog F.volume_Unring [intsV s, I period, I part] (unringS s period part) := by
  refine C.le (r := unringR .nils s period part) ?_ fun _ _ _ h => unring_le h
  refine C_of mixed chk.volume_Unring (by simp) fun S ok => ?_
  refine Tr.seqR rfl (by simp) (Tr.seq (Tr.seqC rfl (by simp) (Steps.call rfl rfl (c_ringing s 1073741824 period part (by omega) hl) (Steps.fin rfl (by simp) (Tr.cond rfl rfl (fun h1 => Tr.seqR rfl (by simp) (Tr.retX rfl rfl rfl ?_ trivial)) (fun h1 => Tr.skip ?_))))))
  · have h1 : ringOk s 1073741824 period part = false := by simpa using h1
    simp [packR, unringR, h1]
  have h1 : ringOk s 1073741824 period part = true := by simpa using h1
  obtain ⟨hlen, hper, hpart, hs⟩ := ringOk_spec h1
  refine Tr.seqR rfl (by simp) (Tr.seq (Tr.seqR rfl (by simp) (Tr.block ?_)))
  refine Tr.loop (α := Nat × List Int) (fun p st => (p.1 ≤ s.length ∧ p.2 = unringTo s period part p.1) ∧ st = { env := [(0, intsV s), (1, I period), (2, I part), (8, .slice 41 1 (p.2.map I)), (16, intsV s), (17, I s.length), (18, I p.1)], bx := [], rw := [(40, p.2.length, 1, 3)], log := [], stp := false }) (fun p => s.length - p.1) (0, [])
    (Wk.le (.cons rfl (.refl _) (.cons rfl (.refl _) (.cons rfl (.refl _) (.cons rfl (.nil 41 1) (.cons rfl (.refl _) (.cons rfl (VLe.i (by simp)) (.cons rfl (.refl _) .nil))))))) .nil (.new rfl .nil) rfl rfl) ⟨⟨by omega, rfl⟩, rfl⟩ ?_
  rintro ⟨t, m⟩ st ⟨⟨ht, hm⟩, rfl⟩
  simp only at ht hm
  refine Tr.seqR rfl (by simp) (Tr.seqI rfl (fun h2 => ?_) (fun h2 => ?_))
  rotate_left
  · have h2 : t = s.length := by simp at h2; omega
    subst h2
    refine Tr.exit (Tr.seqR rfl (by simp) (Tr.retX rfl rfl rfl ?_ trivial))
    simp [packR, unringR, h1, hm, intsV]
  have h2 : t < s.length := by simpa using h2
  have hn := hs _ (List.getElem_mem h2)
  have hbk := backN_bd (t := t) (period := period) hpart hs
  have hml : m.length = t := by rw [hm]; simp [unringTo]
  refine Tr.skipT (Tr.seq (Tr.block (Tr.seqN 2 rfl (by simp; omega) ?_)))
  rw [getD_map h2]
  refine Steps.fin rfl (by simp) ?_
  refine Tr.meet { env := [(0, intsV s), (1, I period), (2, I part), (8, .slice 41 1 (m.map I)), (9, I t), (10, I (s[t] - backN s t period part)), (16, intsV s), (17, I s.length), (18, I t)], bx := [], rw := [(40, m.length, 1, 3)], log := [], stp := false } ?_ ?_
  · refine Tr.seqR rfl (by simp) (Tr.cond rfl rfl (fun h3 => ?_) (fun h3 => Tr.skip ?_))
    · have h3 : period ≤ (t : Int) := by simpa using h3
      have e : IntKind.i64.wrap ((t : Int) - period) = ((t - period.toNat : Nat) : Int) := by rw [w64 (by omega) (by omega)]; omega
      have hk : t - period.toNat < s.length := by omega
      have hbd := part_bd hpart (hs _ (List.getElem_mem hk))
      refine Tr.reg (Steps.runN 6 rfl (by simp) ?_)
      rw [e]
      refine Steps.runN 1 rfl (by simp [intsV]; omega) ?_
      rw [getD_map hk]
      refine Steps.run rfl (by simp) ?_
      refine Steps.call rfl rfl (c_down _) (Steps.fin rfl (by simp) ?_)
      refine Wk.le (.cons rfl (.refl _) (.cons rfl (.refl _) (.cons rfl (.refl _) (.cons rfl (.refl _) (.cons rfl (.refl _) (.cons rfl (VLe.i ?_) (.cons rfl (.refl _) (.cons rfl (.refl _) (.cons rfl (.refl _) .nil))))))))) .nil (.cons rfl .nil) rfl rfl
      rw [w64 (n := part * s[t - period.toNat]) (by omega) (by omega)]
      have e2 : backN s t period part = part * s[t - period.toNat] / 64 := by
        unfold backN; rw [if_neg (by omega), List.getD_eq_getElem?_getD, List.getElem?_eq_getElem hk]; rfl
      rw [e2] at hbk ⊢
      unfold downN
      rw [Int.fdiv_eq_ediv_of_nonneg _ (by decide)]
      exact w64 (by omega) (by omega)
    · have h3 : ¬ period ≤ (t : Int) := by simpa using h3
      refine Wk.le (.cons rfl (.refl _) (.cons rfl (.refl _) (.cons rfl (.refl _) (.cons rfl (.refl _) (.cons rfl (.refl _) (.cons rfl (VLe.i ?_) (.cons rfl (.refl _) (.cons rfl (.refl _) (.cons rfl (.refl _) .nil))))))))) .nil (.cons rfl .nil) rfl rfl
      unfold backN; rw [if_pos (by omega)]; omega
  refine Tr.regR rfl (by simp; omega) (Tr.regR rfl (by simp) ?_)
  refine ⟨(t + 1, m ++ [s[t] - backN s t period part]), _, Wk.le (.cons rfl (.refl _) (.cons rfl (.refl _) (.cons rfl (.refl _) (.cons rfl (.of_eq ?_) (.cons rfl (.refl _) (.cons rfl (.refl _) (.cons rfl (VLe.i (w64 (by omega) (by omega))) .nil))))))) .nil (.cons ?_ .nil) rfl rfl, ⟨⟨h2, by rw [unringTo_succ _ _ _ h2, hm]⟩, rfl⟩, by simp; omega⟩
  · simp
  · show some _ = some _
    simp

end Go.Proofs.YtggifklgpdladaaGreat


/-! The tape: frames that are valid. -/
set_option linter.unusedVariables false
set_option linter.unusedSimpArgs false
set_option maxRecDepth 40000
set_option maxHeartbeats 4000000
namespace Go.Proofs.YtggifklgpdladaaGreat
open Go.Am
attribute [local simp] cells scalar mkv splice under2 under dem dem1
structure Fm where
  shot : Nat
  ch : Nat
  s : List Int
def fmC (f : Fm) : List V := [I (f.shot : Nat), I (f.ch : Nat), intsT f.s]
def fmOk (f : Fm) : Prop := f.shot ≤ 60000 ∧ f.ch ≤ 23 ∧ (1 ≤ f.s.length ∧ f.s.length ≤ 64) ∧ ∀ n ∈ f.s, knownB n = true

theorem c_checkF1 (n : Int) : C Tryz.prog F.tape_CheckFrame_1 [I n] (.bool (!sampB n)) := by
  refine C_of mixed chk.tape_CheckFrame_1 (by simp) fun S ok => ?_
  exact Tr.seqR rfl (by simp) (Tr.seqC rfl (by simp) (Steps.call rfl rfl (c_sampleT n) (Steps.fin rfl (by simp) (Tr.retX rfl rfl rfl rfl trivial))))

theorem c_CheckFrameT {f : Fm} (h : fmOk f) : C Tryz.prog F.tape_CheckFrame [.agg (fmC f)] (I 0) := by
  obtain ⟨h1, h2, ⟨h3, h4⟩, h5⟩ := h
  have k1 : C Tryz.prog F.tape_within [I (f.shot : Nat), I 0, I 60000] (.bool true) := by
    have : btw (f.shot : Int) 0 60000 = true := by simp [btw]; omega
    exact this ▸ c_twithinT _ _ _
  have k2 : C Tryz.prog F.tape_within [I (f.ch : Nat), I 0, I 23] (.bool true) := by
    have : btw (f.ch : Int) 0 23 = true := by simp [btw]; omega
    exact this ▸ c_twithinT _ _ _
  have k3 : C Tryz.prog F.tape_within [I ((f.s.map I).length : Nat), I 1, I 64] (.bool true) := by
    have : btw ((f.s.map I).length : Int) 1 64 = true := by rw [List.length_map]; simp [btw]; omega
    exact this ▸ c_twithinT _ _ _
  have hany : (f.s.any fun n => !sampB n) = false := by
    rw [List.any_eq_false]
    intro n hn
    simp [sampB, h5 n hn]
  have k4 := c_containsI0 (l := f.s) (p := fun n => !sampB n) (f := F.tape_CheckFrame_1) (by omega) fun b _ => c_checkF1 b
  rw [hany] at k4
  refine C_of mixed chk.tape_CheckFrame (by simp) fun S ok => ?_
  refine Tr.seqR rfl (by simp [fmC, intsT]) ?_
  refine Tr.seq (Tr.seqC rfl (by simp [fmC, intsT]) (Steps.call rfl rfl k1 (Steps.run rfl (by simp [fmC, intsT]) ?_)))
  refine Steps.gcall rfl rfl rfl rfl (by simp) (fun _ => k2) (Steps.run rfl (by simp [fmC, intsT]) ?_)
  refine Steps.gcall rfl rfl rfl rfl (by simp) (fun _ => k3) (Steps.run rfl (by simp [fmC, intsT]) ?_)
  refine Steps.gcall rfl rfl rfl rfl (by simp) (fun _ => k4) (Steps.fin rfl (by simp) (Tr.condF rfl (Tr.skip ?_)))
  exact Tr.seqR rfl (by simp) (Tr.retX rfl rfl rfl rfl trivial)

/-- The check behind some bytes. -/
theorem ca_checked {b : Nat} {s r : List UInt8} (hs : s.length ≤ 65536) {a p : Nat} (hap : a ≤ p) (hp : p + 1 < s.length) (hd : s.drop p = twoL (crcN ((s.take p).drop a)) ++ r) : CA Tryz.prog F.tape_reader_checked (rdA b s p) [] [.rptr b 0, I (a : Nat)] (.tuple []) (rdA b s (p + 2)) := by
  have hcl : (((s.take p).drop a)).length ≤ 65536 := by simp; omega
  have hlt := crcN_lt ((s.take p).drop a)
  have kc := c_Crc hcl
  obtain ⟨c, hc⟩ : ∃ c, crcN ((s.take p).drop a) = c := ⟨_, rfl⟩
  rw [hc] at kc hlt hd
  obtain ⟨hp0, g0⟩ := get_pre (i := 0) hd (by simp [twoL])
  obtain ⟨hp1, g1⟩ := get_pre (i := 1) hd (by simp [twoL])
  have e0 : (s[p]).toNat = c / 256 := by
    have : s[p] = UInt8.ofNat (c / 256) := g0
    rw [this]; exact u8_of (by omega)
  have e1 : (s[p + 1]).toNat = c % 256 := by
    have : s[p + 1] = UInt8.ofNat c := g1
    rw [this, UInt8.toNat_ofNat']
  have k2 := ca_two (b := b) hs hp
  rw [e0, e1, show c / 256 * 256 + c % 256 = c by omega] at k2
  refine CA_of mixed chk.tape_reader_checked (by simp) fun S ok S1 hA hK => ?_
  have hm := rd_mem b s p
  refine Tr.seq (Tr.drawP rfl rfl (A := rdA b s p) rfl ?_)
  refine TraceK.runN 1 rfl (by simp) (TraceK.rnil rfl (TraceK.rfaddr rfl (TraceK.aload hA rfl rfl rfl hm (by simp) (TraceK.runN 2 rfl (by simp) (TraceK.rnil rfl (TraceK.rfaddr rfl (TraceK.aload hA rfl rfl rfl hm (by simp) ?_)))))))
  refine TraceK.strsl (l := s) (a := a) (b := p) rfl rfl rfl hap (by omega) (TraceK.call rfl rfl kc (TraceK.run rfl (by simp) (.done ⟨by kernel_rfl, by kernel_rfl, ?_⟩)))
  refine Tr.reg (Steps.runN 1 rfl (by simp) (Steps.callA (F := []) hA rfl rfl rfl k2 (.inl (by simp)) (Steps.runN 2 rfl (by simp) ?_)))
  have k3 : C Tryz.prog F.tape_must [.bool ((c : Int) == (c : Int))] (.tuple []) := by rw [beq_self_eq_true]; exact c_must
  exact Steps.call rfl rfl k3 (Steps.fin rfl (by simp) ⟨rfl, _, _, _, resVs_ok rfl, rfl, rfl⟩)

end Go.Proofs.YtggifklgpdladaaGreat


/-! AM: a region that draws its order, in which one instruction changes the log. -/
set_option linter.unusedVariables false
set_option linter.unusedSimpArgs false
namespace Go.Am
open Go.RowKit

/-- What an instruction does that turns one log into another. -/
def SemX (E : Env) (lg lg' : List (List V)) (τ : FSt) (ins : Ins) (eff : Eff) : Prop :=
  ∀ (slots : List (Option Nat)) (ops : Array Oper) (i : Nat) (o : Oper) (ro : Option Nat) (n : Nat) (stp : Bool) (a : Act) (w : World) (h : Gh), compOp E.P E.nt slots o = some ins → slots = ops.toList.map (·.dst) → ops[i]? = some o → E.relF lg stp τ a w h →
    ∀ (Q : Exit → Act → World → Prop) (next : Act → World → Prop), (∀ a' w' h', E.relF lg' stp ((τ.eff eff).put ins.d eff.v) a' w' h' → h'.y = h.y → next a' w') → wpOpIn (wideR ro) n E.P ops Q i next a w

def DX (E : Env) (lg lg' : List (List V)) (k1 k : Nat) (σ : FSt) (ins : Ins) (eff : Eff) (rd : List Loc) : Prop :=
  (k ≠ k1 ∧ Does E σ ins eff rd) ∨ (k = k1 ∧ ∀ τ : FSt, (∀ l ∈ rd, τ l = σ l) → SemX E lg lg' τ ins eff)

inductive GT (D : Nat → FSt → Ins → Eff → List Loc → Prop) : Nat → FSt → List Ins → List (List Loc × List Loc) → FSt → Prop
  | nil {k : Nat} {σ : FSt} : GT D k σ [] [] σ
  | cons {k : Nat} {σ σ' : FSt} {ins : Ins} {il : List Ins} {eff : Eff} {rd : List Loc} {fp : List (List Loc × List Loc)} (hd : D k σ ins eff rd) (t : GT D (k + 1) (upF (wrF ins eff nof) σ) il fp σ') : GT D k σ (ins :: il) ((wrOf ins eff, rd) :: fp) σ'

theorem gt_spec' {D : Nat → FSt → Ins → Eff → List Loc → Prop} {k0 : Nat} {σ σ' : FSt} {il : List Ins} {fp : List (List Loc × List Loc)} (t : GT D k0 σ il fp σ') : fp.length = il.length ∧
    ∃ us : List FSt, us.length = il.length ∧ σ' = FL us (fun _ => true) σ il.length ∧
      ∀ i, i < il.length → ∃ ins eff rd, il[i]? = some ins ∧ fp[i]? = some (wrOf ins eff, rd) ∧ us[i]? = some (wrF ins eff nof) ∧ D (k0 + i) (FL us (fun _ => true) σ i) ins eff rd := by
  induction t with
  | nil => exact ⟨rfl, [], rfl, rfl, fun i hi => absurd hi (by simp)⟩
  | @cons k σ σ' ins il eff rd fp hd t ih =>
    obtain ⟨h1, us, h4, h5, h6⟩ := ih
    refine ⟨by simp [h1], wrF ins eff nof :: us, by simp [h4], ?_, ?_⟩
    · rw [h5, List.length_cons, FL_cons]
    · intro i hi
      cases i with
      | zero => exact ⟨ins, eff, rd, rfl, rfl, rfl, hd⟩
      | succ i =>
        obtain ⟨ins', eff', rd', g1, g2, g3, g4⟩ := h6 i (by simpa using hi)
        refine ⟨ins', eff', rd', by simpa using g1, by simpa using g2, by simpa using g3, ?_⟩
        rw [FL_cons, show k + (i + 1) = k + 1 + i by omega]; exact g4

theorem gt_spec {D : Nat → FSt → Ins → Eff → List Loc → Prop} {σ σ' : FSt} {il : List Ins} {fp : List (List Loc × List Loc)} (t : GT D 0 σ il fp σ') : fp.length = il.length ∧
    ∃ us : List FSt, us.length = il.length ∧ σ' = FL us (fun _ => true) σ il.length ∧
      ∀ i, i < il.length → ∃ ins eff rd, il[i]? = some ins ∧ fp[i]? = some (wrOf ins eff, rd) ∧ us[i]? = some (wrF ins eff nof) ∧ D i (FL us (fun _ => true) σ i) ins eff rd := by
  obtain ⟨h1, us, h2, h3, h4⟩ := gt_spec' t
  refine ⟨h1, us, h2, h3, fun i hi => ?_⟩
  have := h4 i hi
  rwa [Nat.zero_add] at this

section
variable {E : Env} {ro : Option Nat} {n : Nat} {ops : Array Oper}

theorem prefix_okX {lg lg' : List (List V)} {k1 : Nat} {K : St → Prop} {il1 il2 : List Ins} {s s1 : St} {fp : List (List Loc × List Loc)} (hc : compR E.P E.nt ops = some (il1 ++ il2)) (hl : lexed ops = true) (t : GT (DX E lg lg' k1) 0 s.fs il1 fp s1.fs) (hlog1 : s1.log = lg') (hstp : s1.stp = s.stp) (hk1 : k1 < il1.length)
    (hok : okPlan (befs ops) fp = true) (ht : totTail (befs ops) il1.length ops.size = true) (hst : Steps E il2 K s1) {Q : Exit → Act → World → Prop} (y : Pin)
    (hn : ∀ s' a' w' h', K s' → E.rel s' a' w' h' → h'.y = y → Q .normal a' w') :
    ∃ us : List FSt, ∀ (fuel : Nat) (listed : Array Bool) (a : Act) (w : World) (h : Gh), listed.toList.count false = fuel → listed.size = ops.size → Closed ops (fun i => listed.getD i false) → (∀ i, il1.length ≤ i → listed.getD i false = false) →
      E.relF (if listed.getD k1 false then lg' else lg) s.stp (FL us (fun i => listed.getD i false) s.fs il1.length) a w h → h.y = y → wpAnyIn (wideR ro) n E.P .any ops Q fuel listed a w := by
  obtain ⟨t1, us, t4, t5, t6⟩ := gt_spec t
  obtain ⟨hlen, hg⟩ := compR_spec hc
  have hle : il1.length ≤ ops.size := by simp at hlen; omega
  have tot : ∀ k i, il1.length ≤ k → k < ops.size → i < k → ((befs ops).getD k 0).testBit i = true := by
    intro k i h1 h2 h3
    unfold totTail at ht
    rw [List.all_eq_true] at ht
    have := ht (k - il1.length) (by simp; omega)
    rw [List.all_eq_true] at this
    have := this i (by simp; omega)
    rwa [show il1.length + (k - il1.length) = k by omega] at this
  have ap : ∀ i j, i < j → j < il1.length → ((befs ops).getD j 0).testBit i = false → apartFp (fp.getD i ([], [])) (fp.getD j ([], [])) = true := by
    intro i j h1 h2 h3
    unfold okPlan at hok
    rw [List.all_eq_true] at hok
    have := hok j (by simp; omega)
    rw [List.all_eq_true] at this
    have := this i (by simp; omega)
    rw [h3] at this
    simpa using this
  refine ⟨us, ?_⟩
  intro fuel
  induction fuel with
  | zero =>
    intro listed a w h hcn hs hcl hpre R hy
    have all : ∀ i, i < ops.size → listed.getD i false = true := by
      intro i hi
      cases hL : listed.getD i false with
      | true => rfl
      | false =>
        have : false ∈ listed.toList := by
          simp only [Array.getD_eq_getD_getElem?, Array.getElem?_eq_getElem (show i < listed.size by omega), Option.getD_some] at hL
          rw [← hL]; simp
        exact absurd this (List.count_eq_zero.1 hcn)
    have hm : il1.length = ops.size := by
      rcases Nat.lt_or_ge il1.length ops.size with h1 | h1
      · have := all il1.length h1
        rw [hpre il1.length (Nat.le_refl _)] at this; cases this
      · omega
    refine tail_ok hc hl ht y hn 0 ops.size listed s1 a w h (by omega) (by omega) hs hcl (fun i hi => by rw [all i hi]; simp [hi]) ?_ ?_ hy
    · rw [List.drop_append_of_le_length (by omega), List.drop_eq_nil_of_le (by omega)]; simpa using hst
    · show E.relF _ _ _ a w h
      rw [hlog1, hstp, t5]
      rw [if_pos (all k1 (by omega))] at R
      have e : FL us (fun i => listed.getD i false) s.fs il1.length = FL us (fun _ => true) s.fs il1.length := by
        funext l
        refine FL_at (i := il1.length) (fun k hk hL => ?_) (fun k hk hL => ?_) _ (Nat.le_refl _)
        · rw [all k (by omega)] at hL; cases hL
        · rw [hpre k hk] at hL; cases hL
      rw [e] at R; exact R
  | succ fuel ih =>
    intro listed a w h hcn hs hcl hpre R hy
    by_cases hall : ∀ i, i < il1.length → listed.getD i false = true
    · have e : FL us (fun i => listed.getD i false) s.fs il1.length = FL us (fun _ => true) s.fs il1.length := by
        funext l
        refine FL_at (i := il1.length) (fun k hk hL => ?_) (fun k hk hL => ?_) _ (Nat.le_refl _)
        · rw [hall k hk] at hL; cases hL
        · rw [hpre k hk] at hL; cases hL
      rw [e] at R
      have hLk : ∀ i, i < ops.size → listed.getD i false = decide (i < il1.length) := fun i hi => by
        rcases Nat.lt_or_ge i il1.length with h1 | h1
        · rw [hall i h1]; simp [h1]
        · rw [hpre i h1]; simp; omega
      have hfuel : il1.length + (fuel + 1) = ops.size := by
        have e1 : listed.toList = List.replicate il1.length true ++ List.replicate (ops.size - il1.length) false := by
          apply List.ext_getElem?
          intro k
          have hk : listed.toList[k]? = if k < ops.size then some (listed.getD k false) else none := by
            by_cases h1 : k < ops.size
            · simp [h1, show k < listed.size by omega]
            · simp [h1, show listed.size ≤ k by omega]
          rw [hk, List.getElem?_append]
          simp only [List.length_replicate]
          by_cases h1 : k < il1.length
          · rw [if_pos h1, if_pos (by omega), hall k h1, List.getElem?_replicate, if_pos h1]
          · rw [if_neg h1, List.getElem?_replicate]
            by_cases h2 : k < ops.size
            · rw [if_pos h2, if_pos (by omega), hpre k (by omega)]
            · rw [if_neg h2, if_neg (by omega)]
        rw [e1] at hcn
        simp [List.count_append, List.count_replicate] at hcn
        omega
      refine tail_ok hc hl ht y hn (fuel + 1) il1.length listed s1 a w h hfuel (Nat.le_refl _) hs hcl hLk ?_ ?_ hy
      · simpa using hst
      · show E.relF _ _ _ a w h
        rw [if_pos (hall k1 hk1)] at R
        rw [hlog1, hstp, t5]; exact R
    · obtain ⟨k0, hk0, hk0'⟩ : ∃ k, k < il1.length ∧ listed.getD k false = false := by
        apply Classical.byContradiction
        intro hno
        exact hall fun i hi => by
          cases hL : listed.getD i false with
          | true => rfl
          | false => exact absurd ⟨i, hi, hL⟩ hno
      refine ⟨fun hr => ?_, fun i hi => ?_⟩
      · have := ready_some hl hs hr k0 (by omega)
        rw [hk0'] at this; cases this
      · obtain ⟨h1, h2, o, ho, h3⟩ := (mem_ready hs).1 hi
        have him : i < il1.length := by
          rcases Nat.lt_or_ge i il1.length with h4 | h4
          · exact h4
          · have := befs_ok hcl ho h3 (tot i k0 h4 h1 (by omega))
            rw [hk0'] at this; cases this
        obtain ⟨ins, eff, rd, g1, g2, g3, g4⟩ := t6 i him
        obtain ⟨ins', e1, e2⟩ := hg i o ho
        rw [List.getElem?_append_left him, g1] at e1; cases e1
        -- what may not meet
        have below : ∀ k, k < i → listed.getD k false = false → ∀ l, (l ∈ rd ∨ l ∈ wrOf ins eff) → us.getD k nof l = none := by
          intro k hk hL l hlm
          obtain ⟨insk, effk, rdk, q1, q2, q3, q4⟩ := t6 k (by omega)
          have hb : ((befs ops).getD i 0).testBit k = false := by
            cases hb : ((befs ops).getD i 0).testBit k with
            | false => rfl
            | true => have := befs_ok hcl ho h3 hb; rw [hL] at this; cases this
          have := ap k i hk him hb
          simp only [List.getD_eq_getElem?_getD, q2, g2, Option.getD_some, apartFp, Bool.and_eq_true, Bool.not_eq_true'] at this
          rw [List.getD_eq_getElem?_getD, q3, Option.getD_some]
          refine wrF_out fun hm => ?_
          rcases hlm with h5 | h5
          · exact meets_false this.1.2 l hm h5
          · exact meets_false this.1.1 l hm h5
        have above : ∀ k, i < k → listed.getD k false = true → k < il1.length ∧ ∃ insk effk rdk, fp[k]? = some (wrOf insk effk, rdk) ∧ us[k]? = some (wrF insk effk nof) ∧ apartFp (wrOf ins eff, rd) (wrOf insk effk, rdk) = true := by
          intro k hk hL
          have hkm : k < il1.length := by
            rcases Nat.lt_or_ge k il1.length with h4 | h4
            · exact h4
            · rw [hpre k h4] at hL; cases hL
          obtain ⟨insk, effk, rdk, q1, q2, q3, q4⟩ := t6 k hkm
          have hks : k < ops.size := by omega
          have hb : ((befs ops).getD k 0).testBit i = false := by
            cases hb : ((befs ops).getD k 0).testBit i with
            | false => rfl
            | true =>
              have := befs_ok hcl (Array.getElem?_eq_getElem hks) (hcl k _ (Array.getElem?_eq_getElem hks) hL) hb
              rw [h2] at this; cases this
          have := ap i k hk hkm hb
          simp only [List.getD_eq_getElem?_getD, q2, g2, Option.getD_some] at this
          exact ⟨hkm, insk, effk, rdk, q2, q3, this⟩
        have at_i : ∀ l, (l ∈ rd ∨ l ∈ wrOf ins eff) → FL us (fun i => listed.getD i false) s.fs il1.length l = FL us (fun _ => true) s.fs i l := by
          intro l hlm
          refine FL_at (fun k hk hL => below k hk hL l hlm) (fun k hk hL => ?_) _ (by omega)
          rcases Nat.lt_or_ge i k with h5 | h5
          · obtain ⟨_, insk, effk, rdk, q2, q3, q4⟩ := above k h5 hL
            rw [List.getD_eq_getElem?_getD, q3, Option.getD_some]
            simp only [apartFp, Bool.and_eq_true, Bool.not_eq_true'] at q4
            refine wrF_out fun hm => ?_
            rcases hlm with h6 | h6
            · exact meets_false q4.2 l h6 hm
            · exact meets_false q4.1.1 l h6 hm
          · obtain rfl : k = i := by omega
            rw [h2] at hL; cases hL
        have step : ∀ next : Act → World → Prop, (∀ a' w' h', E.relF (if listed.getD k1 false || k1 == i then lg' else lg) s.stp (((FL us (fun i => listed.getD i false) s.fs il1.length).eff eff).put ins.d eff.v) a' w' h' → h'.y = h.y → next a' w') → wpOpIn (wideR ro) n E.P ops Q i next a w := by
          intro next hnx
          rcases g4 with ⟨hne, g4⟩ | ⟨rfl, g4⟩
          · have hne' : (k1 == i) = false := by simpa using fun h => hne h.symm
            rw [hne', Bool.or_false] at hnx
            exact does_ok e2 rfl ho (does_reads (τ := FL us (fun i => listed.getD i false) s.fs il1.length) g4 (fun l hl => at_i l (.inl hl))) R hnx
          · rw [h2] at R hnx
            refine g4 _ (fun l hl => at_i l (.inl hl)) _ ops i o ro n s.stp a w h e2 rfl ho (by simpa using R) _ next (by simpa using hnx)
        refine step _ fun a' w' h' R' hy' => ih _ a' w' h' (count_step (by omega) h2 hcn) (by simpa using hs) ?_ ?_ ?_ (hy'.trans hy)
        · intro j o' ho' hj d hd
          simp only [getD_setD (show i < listed.size by omega), Bool.or_eq_true, beq_iff_eq] at hj ⊢
          rcases hj with hj | rfl
          · exact .inl (hcl j o' ho' hj d hd)
          · rw [ho] at ho'; cases ho'; exact .inl (h3 d hd)
        · intro j hj
          rw [getD_setD (show i < listed.size by omega), hpre j hj]
          have : (j == i) = false := by simpa using (show j ≠ i by omega)
          rw [this]; rfl
        · have e : (fun k => (listed.setIfInBounds i true).getD k false) = fun k => listed.getD k false || k == i := by
            funext k; exact getD_setD (by omega)
          rw [e, getD_setD (show i < listed.size by omega), FL_add h2 (fun k hk hL l => ?_) _ him]
          · rw [List.getD_eq_getElem?_getD, g3, Option.getD_some, ← wrF_nof]; exact R'
          · obtain ⟨_, insk, effk, rdk, q2, q3, q4⟩ := above k hk hL
            simp only [List.getD_eq_getElem?_getD, q3, g3, Option.getD_some]
            simp only [apartFp, Bool.and_eq_true, Bool.not_eq_true'] at q4
            by_cases hm : l ∈ wrOf insk effk
            · right
              exact wrF_out fun hm' => meets_false q4.1.1 l hm' hm
            · left
              exact wrF_out hm


/-- **A DRAWN REGION** of which one instruction changes the log. -/
theorem drawn_okX {lg lg' : List (List V)} {k1 : Nat} {K : St → Prop} {il1 il2 : List Ins} {s s1 : St} {fp : List (List Loc × List Loc)} {id : Nat} {a : Act} {w : World} {h : Gh} (hc : compR E.P E.nt ops = some (il1 ++ il2)) (hl : lexed ops = true) (t : GT (DX E lg lg' k1) 0 s.fs il1 fp s1.fs) (hlog : s.log = lg) (hlog1 : s1.log = lg') (hstp : s1.stp = s.stp) (hk1 : k1 < il1.length)
    (hok : okPlan (befs ops) fp = true) (ht : totTail (befs ops) il1.length ops.size = true) (hst : Steps E il2 K s1) (R : E.rel s a w h) {Q : Exit → Act → World → Prop}
    (hn : ∀ s' a' w' h', K s' → E.rel s' a' w' h' → h'.y = h.y → Q .normal a' w') : (Code.region id ops true).wpIn (wideR ro) n E.P Q a w := by
  obtain ⟨us, key⟩ := prefix_okX (ro := ro) (n := n) hc hl t hlog1 hstp hk1 hok ht hst h.y hn
  refine wpIn_region_any E.mixed ?_
  have e0 : ∀ i, (Array.replicate ops.size false).getD i false = false := fun i => by
    simp only [Array.getD_eq_getD_getElem?, Array.getElem?_replicate]
    by_cases h : i < ops.size <;> simp [h]
  refine key ops.size _ a _ h (by simp [List.count_replicate]) (by simp) ?_ (fun i _ => e0 i) ⟨?_, R.2⟩ rfl
  · intro j o ho hj
    have hj : (Array.replicate ops.size false).getD j false = true := hj
    rw [e0] at hj; cases hj
  · have : FL us (fun i => (Array.replicate ops.size false).getD i false) s.fs il1.length = s.fs := by
      have : ∀ m, FL us (fun i => (Array.replicate ops.size false).getD i false) s.fs m = s.fs := by
        intro m
        induction m with
        | zero => rfl
        | succ m ih =>
          have e : FL us (fun i => (Array.replicate ops.size false).getD i false) s.fs (m + 1) = if (Array.replicate ops.size false).getD m false then upF (us.getD m nof) (FL us (fun i => (Array.replicate ops.size false).getD i false) s.fs m) else FL us (fun i => (Array.replicate ops.size false).getD i false) s.fs m := rfl
          rw [e, e0 m, ih]; rfl
      exact this _
    rw [this, if_neg (by rw [e0]; simp), ← hlog]
    exact R.1.drew E.ok


/-- **A DRAWN REGION IN WHICH ONE INSTRUCTION CHANGES THE LOG**. -/
theorem Tr.drawX {Q : Exit → St → Prop} {s s1 : St} {bef : List Nat} {il : List Ins} {lg' : List (List V)} (k1 m : Nat) {fp : List (List Loc × List Loc)} (t : GT (DX E s.log lg' k1) 0 s.fs (il.take m) fp s1.fs) (hlog1 : s1.log = lg') (hstp : s1.stp = s.stp) (hk1 : k1 < m) (hm : m ≤ il.length)
    (hok : okPlan bef fp = true) (ht : totTail bef m il.length = true) (hst : Steps E (il.drop m) (Q .normal) s1) : Tr E ro (.draw bef il) Q s := by
  intro c hc n a w g R Q' hq
  obtain ⟨id, ops, rfl, h1, hl, rfl⟩ := compC_inv hc
  have hlen := (compR_spec h1).1
  rw [← List.take_append_drop m il] at h1
  have hml : (il.take m).length = m := by simp; omega
  refine drawn_okX h1 hl t rfl hlog1 hstp (by omega) hok (by rw [hml, ← hlen]; exact ht) hst R fun s' a' w' h' k R' e => hq _ s' a' w' h' k R' e

end

section
variable {E : Env} {S0 : Sur} {l0 : List (List V)} {s0 : Bool}

/-- A call over an arena, as the instruction that changes the log. -/
theorem semX_call (hE : InA E S0 l0 s0) {Ks : List (Nat × List V)} {σ : FSt} {d : Option Nat} {f : FuncId} {xs : List X} {vs us : List V} {r : V} {F A1 B : Arena} (hx : xs.mapM (evX σ) = some vs) (hd : toDs σ.b vs = some (us, []))
    (hC : CA E.P f A1 Ks us r B) (hKs : (∀ p ∈ Ks, (p.1, Ob.cells p.2) ∈ F) ∨ InK E Ks ∧ ∀ p ∈ Ks, p.1 ∉ A1.map (·.1)) : ∀ τ : FSt, (∀ l ∈ xslots xs, τ l = σ l) → SemX E (encA (F ++ A1)) (encA (F ++ B)) τ ⟨d, .call f, xs, none⟩ { v := r } := by
  intro τ hτ slots ops i o ro n stp a w h hc hs hi R Q next hn
  have hx' : xs.mapM (evX τ) = some vs := evX_reads hx fun l hl => hτ l hl
  have hd' : toDs τ.b vs = some (us, []) := toDs_reads hd (by simp)
  obtain ⟨os, cc⟩ := comp_of hc
  have hgo := guard_none cc rfl
  obtain ⟨c, e1, e2, rfl⟩ := opK_call cc.op
  have hAr := hE.ar R
  have hnd := hAr.nd
  rw [List.map_append, List.nodup_append] at hnd
  obtain ⟨l1, l2⟩ := opds_args (opds_of R.1 cc.xs hx')
  refine wp_callA hE R cc hd' hC (fun h' R1 => ?_) (fun p hp => ?_) _ l1 l2 hi (wanted_none hgo) (run_call hC.1 e2 e1) fun a' w' h' R2 hy => hn _ _ _ (by simpa [freeze] using R2) hy
  · rcases hKs with hKs | hKs
    · intro p hp
      have := (hE.ar R1)
      exact ⟨this.ok _ (List.mem_append.2 (.inl (hKs p hp))), this.lt _ (List.mem_append.2 (.inl (hKs p hp)))⟩
    · exact hKs.1 _ _ _ _ _ R1.1.sur
  · rcases hKs with hKs | hKs
    · exact fun h => hnd.2.2 _ (List.mem_map.2 ⟨_, hKs p hp, rfl⟩) _ h rfl
    · exact hKs.2 p hp

/-- What stands ahead of the call and behind it, as plain traces. -/
theorem gt_of {lg lg' : List (List V)} {k1 : Nat} : ∀ {s s' : St} {il : List Ins} {fp : List (List Loc × List Loc)} (t : Trace E s il fp s') (k : Nat), (k + il.length ≤ k1 ∨ k1 < k) → ∀ {il2 : List Ins} {fp2 : List (List Loc × List Loc)} {σ : FSt}, GT (DX E lg lg' k1) (k + il.length) s'.fs il2 fp2 σ → GT (DX E lg lg' k1) k s.fs (il ++ il2) (fp ++ fp2) σ := by
  intro s s' il fp t
  induction t with
  | nil => intro k _ il2 fp2 σ g; simpa using g
  | @cons s s' ins il eff rd fp hd t ih =>
    intro k hk il2 fp2 σ g
    have e : ((s.eff eff).put ins.d eff.v).fs = upF (wrF ins eff nof) s.fs := by rw [fs_effput, ← wrF_nof]; rfl
    refine .cons (.inl ⟨by simp at hk; omega, hd⟩) ?_
    rw [← e]
    refine ih (k + 1) (by simp at hk; omega) ?_
    rw [List.length_cons, show k + (il.length + 1) = k + 1 + il.length by omega] at g
    exact g

/-- At the call that changes the arena. -/
def AtCall (E : Env) (bef : List Nat) (len : Nat) (Q : St → Prop) (fpA : List (List Loc × List Loc)) (sA : St) (r : List Ins) : Prop :=
  ∃ (d : Nat) (f : FuncId) (xs : List X) (rest : List Ins) (vs us : List V) (v : V) (F A1 B : Arena) (Ks : List (Nat × List V)), r = ⟨some d, .call f, xs, none⟩ :: rest ∧ evXs sA.env xs = some vs ∧ toDs sA.fs.b vs = some (us, []) ∧ sA.log = encA (F ++ A1) ∧ CA E.P f A1 Ks us v B ∧
    ((∀ p ∈ Ks, (p.1, Ob.cells p.2) ∈ F) ∨ InK E Ks ∧ ∀ p ∈ Ks, p.1 ∉ A1.map (·.1)) ∧
    TraceK E { (sA.eff { v := v }).put (some d) v with log := encA (F ++ B) } rest fun fpB s1 r2 => okPlan bef (fpA ++ (wrOf ⟨some d, .call f, xs, none⟩ { v := v }, xslots xs) :: fpB) = true ∧ totTail bef (len - r2.length) len = true ∧ Steps E r2 Q s1

/-- **A DRAWN REGION WITH ONE CALL THAT CHANGES THE ARENA**. -/
theorem Tr.drawC (hE : InA E S0 l0 s0) {ro : Option Nat} {Q : Exit → St → Prop} {s : St} {bef : List Nat} {il : List Ins} (t : TraceK E s il (AtCall E bef il.length (Q .normal))) : Tr E ro (.draw bef il) Q s := by
  obtain ⟨ilA, fpA, sA, il2, rfl, tA, d, f, xs, rest, vs, us, v, F, A1, B, Ks, rfl, hx, hd, hl, hC, hKs, tB⟩ := t.spec
  obtain ⟨ilB, fpB, s1, r2, rfl, tB, hok, ht, hst⟩ := tB.spec
  obtain ⟨_, a2, a3, _⟩ := trace_spec tA
  obtain ⟨_, b2, b3, _⟩ := trace_spec tB
  have e : ({ (sA.eff { v := v }).put (some d) v with log := encA (F ++ B) } : St).fs = upF (wrF ⟨some d, .call f, xs, none⟩ { v := v } nof) sA.fs := by
    rw [← wrF_nof]
    show ((sA.eff _).put (some d) v).fs = _
    rw [fs_put, fs_eff]; rfl
  have hlg : s.log = encA (F ++ A1) := by rw [← a2]; exact hl
  have gB := gt_of (lg := encA (F ++ A1)) (lg' := encA (F ++ B)) (k1 := ilA.length) tB (ilA.length + 1) (.inr (by omega)) (il2 := []) (fp2 := []) .nil
  rw [List.append_nil, List.append_nil, e] at gB
  have gC : GT (DX E (encA (F ++ A1)) (encA (F ++ B)) ilA.length) ilA.length sA.fs (⟨some d, .call f, xs, none⟩ :: ilB) ((wrOf ⟨some d, .call f, xs, none⟩ { v := v }, xslots xs) :: fpB) s1.fs := .cons (.inr ⟨rfl, semX_call hE (evXs_ok hx) hd hC hKs⟩) gB
  have gA := gt_of (lg := encA (F ++ A1)) (lg' := encA (F ++ B)) (k1 := ilA.length) tA 0 (.inl (by omega)) (by rw [Nat.zero_add]; exact gC)
  refine Tr.drawX (lg' := encA (F ++ B)) ilA.length (ilA.length + 1 + ilB.length) (fp := _) (s1 := s1) (il := ilA ++ ⟨some d, .call f, xs, none⟩ :: (ilB ++ r2)) (by rw [hlg]; rw [show ilA ++ ⟨some d, .call f, xs, none⟩ :: (ilB ++ r2) = (ilA ++ ⟨some d, .call f, xs, none⟩ :: ilB) ++ r2 by simp, List.take_left' (by simp; omega)]; exact gA) b2 ?_ (by omega) (by simp; omega) hok ?_ ?_
  · rw [b3, show ({ (sA.eff { v := v }).put (some d) v with log := encA (F ++ B) } : St).stp = ((sA.eff { v := v }).put (some d) v).stp from rfl, (put_log _ _ _).2, (eff_log _ _).2, a3]
  · have : (ilA ++ (⟨some d, .call f, xs, none⟩ : Ins) :: (ilB ++ r2)).length - r2.length = ilA.length + 1 + ilB.length := by simp; omega
    rw [← this]; exact ht
  · rw [show ilA ++ (⟨some d, .call f, xs, none⟩ : Ins) :: (ilB ++ r2) = (ilA ++ ⟨some d, .call f, xs, none⟩ :: ilB) ++ r2 by simp, List.drop_left' (by simp; omega)]; exact hst

end
end Go.Am


/-! The tape: a frame is read. -/
set_option linter.unusedVariables false
set_option linter.unusedSimpArgs false
set_option maxRecDepth 40000
set_option maxHeartbeats 4000000
namespace Go.Proofs.YtggifklgpdladaaGreat
open Go.Am
attribute [local simp] cells scalar mkv splice under2 under dem dem1
/-- The bytes of a frame, without and with its check. -/
def bodyL (f : Fm) : List UInt8 := [0xa5, 0x5a] ++ twoL f.shot ++ [UInt8.ofNat f.ch, UInt8.ofNat f.s.length] ++ encF 0 f.s
def frameL (f : Fm) : List UInt8 := bodyL f ++ twoL (crcN (bodyL f))

/-- What the head holds after some readings, and where the reader stands. -/
def headV (f : Fm) (k : Nat) : List V := [I (if 1 ≤ k then 42330 else 0), I (if 2 ≤ k then (f.shot : Nat) else 0), I (if 3 ≤ k then (f.ch : Nat) else 0), I (if 4 ≤ k then (f.s.length : Nat) else 0)]
def getsV (b : Nat) : List V := [.func (.func 84) [.rptr b 0] [], .func (.func 84) [.rptr b 0] [], .func (.func 85) [.rptr b 0] [], .func (.func 85) [.rptr b 0] []]
def headP (k : Nat) : Nat := if k ≤ 2 then 2 * k else k + 2

theorem ca_frame {b : Nat} {s r : List UInt8} (hs : s.length ≤ 65536) {f : Fm} (hf : fmOk f) {p : Nat} (hd : s.drop p = frameL f ++ r) : CA Tryz.prog F.tape_reader_frame (rdA b s p) [] [.rptr b 0] (.agg (fmC f)) (rdA b s (p + (frameL f).length)) := by
  have hf0 := hf
  obtain ⟨h1, h2, ⟨h3, h4⟩, h5⟩ := hf
  have hb : bodyL f = [0xa5, 0x5a, UInt8.ofNat (f.shot / 256), UInt8.ofNat f.shot, UInt8.ofNat f.ch, UInt8.ofNat f.s.length] ++ encF 0 f.s := by simp [bodyL, twoL]
  have hd' : s.drop p = [0xa5, 0x5a, UInt8.ofNat (f.shot / 256), UInt8.ofNat f.shot, UInt8.ofNat f.ch, UInt8.ofNat f.s.length] ++ (encF 0 f.s ++ (twoL (crcN (bodyL f)) ++ r)) := by
    rw [hd, frameL, hb]; simp
  obtain ⟨q0, g0⟩ := get_pre (i := 0) hd' (by simp)
  obtain ⟨q1, g1⟩ := get_pre (i := 1) hd' (by simp)
  obtain ⟨q2, g2⟩ := get_pre (i := 2) hd' (by simp)
  obtain ⟨q3, g3⟩ := get_pre (i := 3) hd' (by simp)
  obtain ⟨q4, g4⟩ := get_pre (i := 4) hd' (by simp)
  obtain ⟨q5, g5⟩ := get_pre (i := 5) hd' (by simp)
  simp only [List.getElem_cons_zero, List.getElem_cons_succ, Nat.add_zero] at q0 q1 q2 q3 q4 q5 g0 g1 g2 g3 g4 g5
  have k0 := ca_two (b := b) (p := p) hs (by omega)
  have k1 := ca_two (b := b) (p := p + 2) hs (by omega)
  have k2 := ca_one (b := b) (p := p + 4) hs (by omega)
  have k3 := ca_one (b := b) (p := p + 5) hs (by omega)
  have e0 : (s[p]).toNat * 256 + (s[p + 1]).toNat = 42330 := by rw [g0, g1]; rfl
  have e1 : (s[p + 2]).toNat * 256 + (s[p + 2 + 1]).toNat = f.shot := by
    have := g3
    rw [g2, show s[p + 2 + 1] = UInt8.ofNat f.shot from g3, u8_of (by omega), UInt8.toNat_ofNat']; omega
  have e2 : (s[p + 4]).toNat = f.ch := by rw [g4, u8_of (by omega)]
  have e3 : (s[p + 5]).toNat = f.s.length := by rw [g5, u8_of (by omega)]
  rw [e0] at k0
  rw [e1] at k1
  rw [e2] at k2
  rw [e3] at k3
  refine CA_of mixed chk.tape_reader_frame (by simp) fun S ok S1 hA hK => ?_
  have hm := rd_mem b s p
  refine Tr.seqR rfl (by simp) ?_
  refine Tr.seq (Tr.reg (Steps.runN 1 rfl (by simp) (Steps.rnil rfl (Steps.rfaddr rfl (Steps.aload hA rfl rfl hm rfl (Steps.fin rfl (by simp) ?_))))))
  refine Tr.seqR rfl (by simp) (Tr.seq (Tr.seqR rfl (by simp) (Tr.block ?_)))
  refine Tr.loop (fun (k : Nat) st => k ≤ 4 ∧ st = { env := [(0, .rptr b 0), (2, .ptr 2 0), (3, I (p : Nat)), (4, .ptr 4 0), (20, .agg (getsV b)), (21, I (k : Nat))], bx := [(2, ⟨[I 0, I 0, .nils], false⟩), (4, ⟨headV f k, false⟩)], rw := [], log := encA (rdA b s (p + headP k)), stp := false }) (fun k => 4 - k) 0
    (Wk.le (.cons rfl (.refl _) (.cons rfl (.refl _) (.cons rfl (.refl _) (.cons rfl (.refl _) (.cons rfl (.refl _) (.cons rfl (.refl _) .nil)))))) (.cons rfl (LLe.refl _) (.cons rfl (LLe.refl _) .nil)) .nil rfl rfl) ⟨by omega, rfl⟩ ?_
  rintro k st ⟨hk, rfl⟩
  refine Tr.seqR rfl (by simp) (Tr.seqI rfl (fun h2 => ?_) (fun h2 => ?_))
  · have h2 : k < 4 := by
      have : decide ((k : Int) < 4) = true := h2
      have := of_decide_eq_true this
      omega
    clear hk
    have hc : k = 0 ∨ k = 1 ∨ k = 2 ∨ k = 3 := by omega
    rcases hc with rfl | rfl | rfl | rfl
    · refine Tr.skipT (Tr.seq (Tr.block (Tr.seqR rfl (by simp [getsV]) (Tr.reg (Steps.runN 2 rfl (by simp) (Steps.callvA (F := []) hA rfl rfl rfl k0 (.inl (by simp)) (Steps.fin rfl (by simp [headV]) ?_)))))))
      refine Tr.regR rfl (by simp) ⟨1, _, Wk.le (.cons rfl (.refl _) (.cons rfl (.refl _) (.cons rfl (.refl _) (.cons rfl (.refl _) (.cons rfl (.refl _) (.cons rfl (.refl _) .nil)))))) (.cons rfl (LLe.refl _) (.cons rfl (LLe.refl _) .nil)) .nil rfl rfl, ⟨by omega, rfl⟩, by omega⟩
    · refine Tr.skipT (Tr.seq (Tr.block (Tr.seqR rfl (by simp [getsV]) (Tr.reg (Steps.runN 2 rfl (by simp) (Steps.callvA (F := []) hA rfl rfl rfl k1 (.inl (by simp)) (Steps.fin rfl (by simp [headV]) ?_)))))))
      refine Tr.regR rfl (by simp) ⟨2, _, Wk.le (.cons rfl (.refl _) (.cons rfl (.refl _) (.cons rfl (.refl _) (.cons rfl (.refl _) (.cons rfl (.refl _) (.cons rfl (.refl _) .nil)))))) (.cons rfl (LLe.refl _) (.cons rfl (LLe.refl _) .nil)) .nil rfl rfl, ⟨by omega, rfl⟩, by omega⟩
    · refine Tr.skipT (Tr.seq (Tr.block (Tr.seqR rfl (by simp [getsV]) (Tr.reg (Steps.runN 2 rfl (by simp) (Steps.callvA (F := []) hA rfl rfl rfl k2 (.inl (by simp)) (Steps.fin rfl (by simp [headV]) ?_)))))))
      refine Tr.regR rfl (by simp) ⟨3, _, Wk.le (.cons rfl (.refl _) (.cons rfl (.refl _) (.cons rfl (.refl _) (.cons rfl (.refl _) (.cons rfl (.refl _) (.cons rfl (.refl _) .nil)))))) (.cons rfl (LLe.refl _) (.cons rfl (LLe.refl _) .nil)) .nil rfl rfl, ⟨by omega, rfl⟩, by omega⟩
    · refine Tr.skipT (Tr.seq (Tr.block (Tr.seqR rfl (by simp [getsV]) (Tr.reg (Steps.runN 2 rfl (by simp) (Steps.callvA (F := []) hA rfl rfl rfl k3 (.inl (by simp)) (Steps.fin rfl (by simp [headV]) ?_)))))))
      refine Tr.regR rfl (by simp) ⟨4, _, Wk.le (.cons rfl (.refl _) (.cons rfl (.refl _) (.cons rfl (.refl _) (.cons rfl (.refl _) (.cons rfl (.refl _) (.cons rfl (.refl _) .nil)))))) (.cons rfl (LLe.refl _) (.cons rfl (LLe.refl _) .nil)) .nil rfl rfl, ⟨by omega, rfl⟩, by omega⟩
  · have h4k : k = 4 := by
      have : decide ((k : Int) < 4) = false := h2
      have := of_decide_eq_false this
      omega
    subst h4k
    have kw : C Tryz.prog F.tape_within [I (f.s.length : Nat), I 1, I 64] (.bool true) := by
      have : btw (f.s.length : Int) 1 64 = true := by simp [btw]; omega
      exact this ▸ c_twithinT _ _ _
    refine Tr.exit (Tr.seqC rfl (by simp [headV]) (Steps.gcall rfl rfl rfl rfl (by simp) (fun _ => kw) (Steps.run rfl (by simp) ?_)))
    refine Steps.call rfl rfl c_must (Steps.fin rfl (by simp) ?_)
    have hds : s.drop (p + 6) = encF 0 f.s ++ (twoL (crcN (bodyL f)) ++ r) := by
      rw [← List.drop_drop, hd']; rfl
    have k4 := ca_samples (b := b) hs (l := f.s) h4 h5 hds
    refine Tr.seq (Tr.drawC hA (TraceK.runN 7 rfl (by simp [headV]) ?_))
    refine .done ⟨_, _, _, _, _, _, _, [], _, _, [], rfl, rfl, rfl, rfl, k4, .inl (by simp), TraceK.run rfl (by simp [headV, intsT]) (.done ⟨by kernel_rfl, by kernel_rfl, ?_⟩)⟩
    refine Steps.fin rfl (by simp) ?_
    have k5 := c_CheckFrameT hf0
    have hcr : bodyL f = (s.take (p + 6 + (encF 0 f.s).length)).drop p := by
      have hlen : (bodyL f).length = 6 + (encF 0 f.s).length := by rw [hb]; simp; omega
      rw [List.drop_take, hd, frameL, List.append_assoc, List.take_left' (by omega)]
    have hdc : s.drop (p + 6 + (encF 0 f.s).length) = twoL (crcN ((s.take (p + 6 + (encF 0 f.s).length)).drop p)) ++ r := by
      rw [← hcr, ← List.drop_drop, hds, List.drop_left]
    have hq : p + 6 + (encF 0 f.s).length + 1 < s.length := by
      have := congrArg List.length hdc
      simp [twoL] at this; omega
    have k6 := ca_checked (b := b) hs (a := p) (p := p + 6 + (encF 0 f.s).length) (by omega) hq hdc
    refine Tr.seqC rfl (by simp [headV, intsT]) (Steps.call rfl rfl k5 (Steps.run rfl (by simp) (Steps.call rfl rfl c_must (Steps.fin rfl (by simp) ?_))))
    refine Tr.seq (Tr.reg (Steps.runN 2 rfl (by simp) (Steps.callA (F := []) hA rfl rfl rfl k6 (.inl (by simp)) (Steps.fin rfl (by simp) ?_))))
    refine Tr.seqR rfl (by simp [headV, intsT]) ?_
    have hfl : (frameL f).length = 6 + (encF 0 f.s).length + 2 := by rw [frameL, hb]; simp [twoL]; omega
    refine Tr.retX rfl rfl rfl rfl ?_
    have eA : p + (frameL f).length = p + 6 + (encF 0 f.s).length + 2 := by omega
    show _ = encA (rdA b s (p + (frameL f).length))
    rw [eA]
    rfl

end Go.Proofs.YtggifklgpdladaaGreat

