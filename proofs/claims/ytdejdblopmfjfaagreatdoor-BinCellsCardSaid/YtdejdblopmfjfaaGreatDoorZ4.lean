/-
  Parts of the proof, 4: the abstract machine, the compiled code, contracts of the functions, plain laws.
-/
import Derived.Test.YtdejdblopmfjfaaGreatDoorZ3
import Derived.Laws.IdiomStrings
import Derived.Lib.BufferRead
import Derived.Laws.Concat


/-! AM, part Zj: calls that read and write an arena; constants beside it. -/
set_option linter.unusedVariables false
set_option linter.unusedSimpArgs false
namespace Go.Am
open Go.RowKit

/-- Blocks that keep what they hold. -/
def Kons (w : World) (φ : Nat → Nat) (K : List (Nat × List V)) : Prop := ∀ p ∈ K, ObOk w φ p.1 (.cells p.2) ∧ p.1 < w.heap.size

/-- **A CONTRACT OVER AN ARENA**: called with these data while the arena is A, it returns r and leaves B. -/
def CA (P : Program) (f : FuncId) (A : Arena) (K : List (Nat × List V)) (args : List V) (r : V) (B : Arena) : Prop :=
  callable P f = true ∧ ∀ (w : World) (φ : Nat → Nat) (xs : Array Value), (∀ b, w.heap.size ≤ b → φ b = 0) → Gl w φ → Ar w φ (fun _ => False) A → Kons w φ K → (∀ p ∈ K, p.1 ∉ A.map (·.1)) → RepL w φ args xs →
    Calls P f xs w fun e w' => ∃ φ' x, e = .returned x ∧ RepR w' φ' r x ∧ Ar w' φ' (fun _ => False) B ∧ Moved (fun b => b ∈ A.map (·.1)) w φ (fun b => b ∈ B.map (·.1)) w' φ'

/-- The surroundings of a call over an arena. -/
def SQ (w0 : World) (φ0 : Nat → Nat) (A : Arena) : Sur := fun _ _ M w φ => Moved (fun b => b ∈ A.map (·.1)) w0 φ0 M w φ

theorem SQ_ok (w0 : World) (φ0 : Nat → Nat) (A : Arena) (hg : Gl w0 φ0) : (SQ w0 φ0 A).ok := ⟨fun _ _ _ _ _ _ _ _ h k => Moved.trans h k, fun _ _ _ _ _ h => hg.mono h.ext⟩

/-- The same, with the arena that was there at the start. -/
def SQ1 (w0 : World) (φ0 : Nat → Nat) (A : Arena) : Sur := fun log stp M w φ =>
  ∃ B, (log = [] ∧ B = A ∨ log = encA B) ∧ stp = false ∧ Ar w φ M B ∧ SQ w0 φ0 A [] false (fun b => M b ∨ b ∈ B.map (·.1)) w φ

theorem SQ1_ok (w0 : World) (φ0 : Nat → Nat) (A : Arena) (hg : Gl w0 φ0) : (SQ1 w0 φ0 A).ok := by
  refine ⟨?_, fun _ _ _ _ _ ⟨_, _, _, _, h4⟩ => (SQ_ok w0 φ0 A hg).gl _ _ _ _ _ h4⟩
  intro log s M w φ M' w' φ' ⟨B, h1, h2, h3, h4⟩ mv
  have := (SA_ok (SQ_ok w0 φ0 A hg) [] false).move (encA B) s M w φ M' w' φ' ⟨B, rfl, h2, h3, h4⟩ mv
  obtain ⟨B', e1, e2, e3, e4⟩ := this
  obtain rfl := encA_inj e1
  exact ⟨B, h1, e2, e3, e4⟩

/-- Constants are at hand. -/
def InK (E : Env) (K : List (Nat × List V)) : Prop := ∀ log stp M w φ, E.S log stp M w φ → Kons w φ K

theorem encA_ne (A : Arena) : encA A ≠ [] := by simp [encA]

theorem CA_of {P : Program} {f nt : Nat} {ic : IC} {rs : List ResultVar} (hmix : P.follows .mixedOrders = true) (hch : chkF P f = some (nt, ic, rs)) {A B : Arena} {K : List (Nat × List V)} {args : List V} {r : V} (hlen : args.length ≤ nt)
    (hT : ∀ (S : Sur) (ok : S.ok) (S1 : Sur), InA (env0 P hmix nt S ok) S1 [] false → InK (env0 P hmix nt S ok) K → Tr (env0 P hmix nt S ok) none ic (qRet P rs r fun s => s.log = encA B) { entry args with log := encA A }) : CA P f A K args r B := by
  obtain ⟨fn, c, hf, hb, hnt, hc, rfl, hcall⟩ := chkF_ok hch
  refine ⟨hcall, fun w φ xs htop hgl hA hK hKA hrep => ?_⟩
  have okI := SQ_ok w φ A hgl
  have hInK : InK (env0 P hmix nt (SA (SQ w φ A) [] false) (SA_ok okI [] false)) K := by
    rintro log stp M w' φ' ⟨B', _, _, _, hm⟩ p hp
    obtain ⟨h1, h2⟩ := hK p hp
    have := hm.old p.1 h2 (hKA p hp)
    exact ⟨h1.mono this.1 hm.ext, Nat.lt_of_lt_of_le h2 hm.size⟩
  have hT1 := hT (SA (SQ w φ A) [] false) (SA_ok okI [] false) (SQ w φ A) (⟨Sub.refl _, okI⟩) hInK
  have e0 : (fun b => False ∨ b ∈ A.map (·.1)) = fun b => b ∈ A.map (·.1) := by funext b; simp
  have hT2 : Tr (env0 P hmix nt (SQ1 w φ A) (SQ1_ok w φ A hgl)) none ic (qRet P fn.results.toList r fun s => s.log = encA B) (entry args) := by
    intro c hc n a w1 g R Q' hq
    obtain ⟨B0, h1, h2, h3, h4⟩ := R.1.sur
    have hB0 : B0 = A := by
      rcases h1 with ⟨_, h⟩ | h
      · exact h
      · exact absurd h.symm (encA_ne _)
    subst hB0
    have R1 : (env0 P hmix nt (SA (SQ w φ B0) [] false) (SA_ok okI [] false)).rel { entry args with log := encA B0 } a w1 g := by
      refine ⟨{ R.1 with sur := ⟨B0, rfl, rfl, h3, h4⟩ }, fun l hl => ⟨?_, trivial⟩, R.2.2⟩
      intro log x M w φ xs hp
      exact absurd hp.length_le (by simp)
    refine hT1 c hc n a w1 g R1 Q' fun e t a' w' h' hQ R' hy => ?_
    refine hq e t a' w' h' hQ ?_ hy
    obtain ⟨B', k1, k2, k3, k4⟩ := R'.1.sur
    refine ⟨{ R'.1 with sur := ⟨B', .inr k1, k2, k3, k4⟩ }, fun l hl => ⟨?_, trivial⟩, R'.2.2⟩
    intro log x M w φ xs hp
    exact absurd hp.length_le (by simp)
  refine (calls_body (E := env0 P hmix nt (SQ1 w φ A) (SQ1_ok w φ A hgl)) (φ := φ) (y := none) hf hb hc hnt hlen hrep.1 (fun i v x h1 h2 => ⟨.data (hrep.2 i v x h1 h2), fun σ h => GrowV.of_data (hrep.2 i v x h1 h2)⟩)
    ⟨A, .inl ⟨rfl, rfl⟩, rfl, hA, by rw [e0]; exact Moved.refl _ htop⟩ htop (fun _ h => ((by cases h))) hT2).mono ?_
  rintro e w' ⟨s', h', x, rfl, hr, ⟨B', k1, k2, k3, k4⟩, ht, hk⟩
  have hB : B' = B := by
    rw [hk] at k1
    rcases k1 with ⟨h, _⟩ | h
    · exact absurd h (encA_ne _)
    · exact (encA_inj h).symm
  subst hB
  exact ⟨h'.φ, x, rfl, hr, ⟨k3.nd, k3.ok, fun _ _ h => h, k3.lt, k3.z⟩, ⟨k4.ext, k4.old, k4.size, k4.os, k4.tape, k4.output, fun b hb => k4.mine b (.inr hb), k4.top⟩⟩

section
variable {E : Env} {S0 : Sur} {l0 : List (List V)} {s0 : Bool} {A : Arena} {stp : Bool} {σ : FSt} {a : Act} {w : World} {h : Gh}

/-- A part of the arena is turned by a call. -/
theorem InA.moved {F A1 B : Arena} (hE : InA E S0 l0 s0) (R : E.relF (encA (F ++ A1)) stp σ a w h) {w' : World} {φ' : Nat → Nat} (m : Moved (fun b => b ∈ A1.map (·.1)) w h.φ (fun b => b ∈ B.map (·.1)) w' φ') (hB : Ar w' φ' (fun _ => False) B) : E.relF (encA (F ++ B)) stp σ a w' { h with φ := φ' } := by
  obtain ⟨M1, hM1, hlt1, ⟨A0, e, hs, hA, hS⟩, back⟩ := hE.sub _ _ _ _ _ R.1.sur R.1.mine
  obtain rfl := encA_inj e
  have hnd := hA.nd
  rw [List.map_append, List.nodup_append] at hnd
  have inA1 : ∀ b, b ∈ A1.map (·.1) → b ∈ (F ++ A1).map (·.1) := fun b hb => by rw [List.map_append]; exact List.mem_append.2 (.inr hb)
  have own : ∀ b, M1 b → w'.heap[b]? = w.heap[b]? ∧ φ' b = h.φ b := fun b hb => m.old b (hlt1 b hb) fun hm => by
    obtain ⟨p, hp, rfl⟩ := List.mem_map.1 (inA1 _ hm)
    exact hA.fr p hp hb
  have oldF : ∀ p ∈ F, p.1 < w.heap.size ∧ p.1 ∉ A1.map (·.1) ∧ (w'.heap[p.1]? = w.heap[p.1]? ∧ φ' p.1 = h.φ p.1) := fun p hp => by
    have h1 := hA.lt p (List.mem_append.2 (.inl hp))
    have h2 : p.1 ∉ A1.map (·.1) := fun h => hnd.2.2 _ (List.mem_map.2 ⟨p, hp, rfl⟩) _ h rfl
    exact ⟨h1, h2, m.old _ h1 h2⟩
  have ar : Ar w' φ' M1 (F ++ B) := by
    refine ⟨?_, fun p hp => ?_, fun p hp hM => ?_, fun p hp => ?_, fun p hp => ?_⟩
    · rw [List.map_append, List.nodup_append]
      refine ⟨hnd.1, hB.nd, fun x hx y hy e => ?_⟩
      subst e
      obtain ⟨p, hp, rfl⟩ := List.mem_map.1 hx
      obtain ⟨h1, h2, _⟩ := oldF p hp
      rcases m.mine _ hy with h3 | h3
      · exact h2 h3
      · omega
    · rcases List.mem_append.1 hp with hp | hp
      · exact (hA.ok p (List.mem_append.2 (.inl hp))).mono (oldF p hp).2.2.1 m.ext
      · exact hB.ok p hp
    · rcases List.mem_append.1 hp with hp | hp
      · exact hA.fr p (List.mem_append.2 (.inl hp)) hM
      · rcases m.mine p.1 (List.mem_map.2 ⟨p, hp, rfl⟩) with h3 | h3
        · obtain ⟨q, hq, e⟩ := List.mem_map.1 (inA1 _ h3)
          exact hA.fr q hq (e ▸ hM)
        · have := hlt1 _ hM; omega
    · rcases List.mem_append.1 hp with hp | hp
      · exact Nat.lt_of_lt_of_le (oldF p hp).1 m.size
      · exact hB.lt p hp
    · rcases List.mem_append.1 hp with hp | hp
      · exact (oldF p hp).2.2.2.trans (hA.z p (List.mem_append.2 (.inl hp)))
      · exact hB.z p hp
  have sa : SA S0 l0 s0 (encA (F ++ B)) stp M1 w' φ' := by
    refine ⟨F ++ B, rfl, hs, ar, hE.ok _ _ _ _ _ _ _ _ hS ⟨m.ext, fun b hb hn => m.old b hb fun hm => hn (.inr (inA1 b hm)), m.size, m.os, m.tape, m.output, fun b hb => ?_, m.top⟩⟩
    rcases hb with hb | hb
    · exact .inl (.inl hb)
    · rw [List.map_append] at hb
      rcases List.mem_append.1 hb with hb | hb
      · exact .inl (.inr (by rw [List.map_append]; exact List.mem_append.2 (.inl hb)))
      · rcases m.mine b hb with h3 | h3
        · exact .inl (.inr (inA1 b h3))
        · exact .inr h3
  have sur' := back (encA (F ++ B)) stp w' φ' sa m.ext own m.size m.top m.os m.tape m.output
  exact ⟨rel_round R.1 m.ext (fun b hb => own b (hM1 b hb)) m.size m.top sur', R.2⟩

/-- A call over an arena. -/
theorem wp_callA (hE : InA E S0 l0 s0) {F A1 B : Arena} {K : List (Nat × List V)} {ro : Option Nat} {n i : Nat} {ops : Array Oper} {slots : List (Option Nat)} {o : Oper} {ins : Ins} (R : E.relF (encA (F ++ A1)) stp σ a w h) {f : FuncId} {vs us : List V} {ids : List Nat} {r : V} {os : List Operand} (cc : Comp E.P E.nt slots o ins os) (hd : toDs σ.b vs = some (us, ids)) (hC : CA E.P f A1 K us r B)
    (hK : ∀ h', E.relF (encA (F ++ A1)) stp ((freeze σ.b ids).foldl (fun τ p => τ.set (.bx p.1) (.b p.2)) σ) a w h' → Kons w h'.φ K) (hKA : ∀ p ∈ K, p.1 ∉ A1.map (·.1)) (xs : Array Value) (hl : vs.length = xs.size)
    (hr : ∀ (i : Nat) v x, vs[i]? = some v → xs[i]? = some x → Rep w h.φ h.β h.y.l v x) (hi : ops[i]? = some o) (hw : Region.wanted o (yielded ops a.tmps) = true) (hrun : (execOp a.eval o).run E.P w = .ok (.enter f xs) w)
    {Q : Exit → Act → World → Prop} {next : Act → World → Prop} (hn : ∀ a' w' h', E.relF (encA (F ++ B)) stp ((σ.eff { v := r, wb := freeze σ.b ids }).put ins.d r) a' w' h' → h'.y = h.y → next a' w') : wpOpIn (wideR ro) n E.P ops Q i next a w := by
  unfold wpOpIn
  simp only [hi, hw, if_true, Oper.wpIn]
  refine ⟨fun _ _ => trivial, ?_⟩
  rw [Oper.semAt_eq _ _ _ (opK_defer cc.op), hrun]
  simp only [Oper.uponIn]
  refine ⟨fun e => by simp [wideR, Fence.wide] at e, ?_⟩
  obtain ⟨h1, R1, ext1, q1, q2, q3, hrep⟩ := args_data R.1 hd
  have R1' : E.relF (encA (F ++ A1)) stp ((freeze σ.b ids).foldl (fun τ p => τ.set (.bx p.1) (.b p.2)) σ) a w h1 := ⟨R1, by rw [q3]; exact R.2⟩
  have hAr := hE.ar R1'
  have hnd := hAr.nd
  rw [List.map_append, List.nodup_append] at hnd
  have arA : Ar w h1.φ (fun _ => False) A1 := ⟨hnd.2.1, fun p hp => hAr.ok p (List.mem_append.2 (.inr hp)), fun _ _ h => h, fun p hp => hAr.lt p (List.mem_append.2 (.inr hp)), fun p hp => hAr.z p (List.mem_append.2 (.inr hp))⟩
  refine (callsIn_wideR (hC.2 w h1.φ xs R1.top (E.ok.gl _ _ _ _ _ R1.sur) arA (hK h1 R1') hKA (hrep xs hl hr))).mono ?_
  rintro e w' ⟨φ', x, rfl, hres, hB, hm⟩
  have R2 := hE.moved R1' hm hB
  have hx : Rep w' φ' h1.β h1.y.l r x ∧ ∀ σ h w0, GrowV σ h w0 r x := by
    cases hres with
    | data hh => exact ⟨.data hh, fun σ h w0 => GrowV.of_data hh⟩
    | tuple vs xs hl hh =>
      refine ⟨.tuple vs xs hl hh, fun σ h w0 j u z hu hz => ?_⟩
      cases j with
      | zero => simp [cells] at hu; subst hu; intro r' sz xs' e; cases e
      | succ j => simp [cells] at hu
  have fin : Ok (σ.eff { v := r, wb := freeze σ.b ids }) { h1 with φ := φ' } w' r x := ⟨hx.1, hx.2 _ _ _⟩
  have R0 : E.relF (encA (F ++ B)) stp σ a w h → True := fun _ => trivial
  refine hn _ _ { h1 with φ := φ' } ⟨?_, ?_⟩ (by simpa using q3)
  · rw [cc.d]
    cases hd : o.dst with
    | none => exact R2.1
    | some d => exact R2.1.put (cc.dst d hd) fin.1 fin.2
  · exact R2.2

theorem Steps.callvA (hE : InA E S0 l0 s0) {K : St → Prop} {Ks : List (Nat × List V)} {s : St} {d : Option Nat} {f : FuncId} {xs : List X} {rest : List Ins} {vs first cap us : List V} {ids : List Nat} {r : V} {F A1 B : Arena} (hx : evXs s.env xs = some (.func (.func f) first cap :: vs)) (hd : toDs s.fs.b (first ++ vs ++ cap) = some (us, ids)) (hl : s.log = encA (F ++ A1))
    (hC : CA E.P f A1 Ks us r B) (hKs : (∀ p ∈ Ks, (p.1, Ob.cells p.2) ∈ F) ∨ InK E Ks ∧ ∀ p ∈ Ks, p.1 ∉ A1.map (·.1))
    (hk : Steps E rest K { (s.eff { v := r, wb := freeze s.fs.b ids }).put d r with log := encA (F ++ B) }) : Steps E (⟨d, .callv, xs, none⟩ :: rest) K s := by
  refine Step1.raw fun slots ops o i ro n a w h hc hs hi R Q next hn => ?_
  obtain ⟨os, cc⟩ := comp_of hc
  have hgo := guard_none cc rfl
  obtain ⟨c, t, e1, e2, rfl⟩ := opK_callv cc.op
  have hO := opds_of R.1 cc.xs (evXs_ok hx)
  have R' : E.relF (encA (F ++ A1)) s.stp s.fs a w h := by rw [← hl]; exact R
  have hAr := hE.ar R'
  have hnd := hAr.nd
  rw [List.map_append, List.nodup_append] at hnd
  cases hO with
  | cons o1 o2 =>
    obtain ⟨f', c', ef, hf, hc', h1, h2⟩ := ok_func o1
    obtain ⟨l1, l2⟩ := opds_args o2
    obtain ⟨m1, m2⟩ := arr3 hf hc' l1 h1 h2 l2
    refine wp_callA hE R' cc hd hC (fun h' R1 => ?_) (fun p hp => ?_) _ m1 m2 hi (wanted_none hgo) (run_callv hC.1 e2 e1 ef) fun a' w' h' R2 hy => hn _ a' w' h' hk ?_ hy
    · rcases hKs with hKs | hKs
      · intro p hp
        have := (hE.ar R1)
        exact ⟨this.ok _ (List.mem_append.2 (.inl (hKs p hp))), this.lt _ (List.mem_append.2 (.inl (hKs p hp)))⟩
      · exact hKs.1 _ _ _ _ _ R1.1.sur
    · rcases hKs with hKs | hKs
      · exact fun h => hnd.2.2 _ (List.mem_map.2 ⟨_, hKs p hp, rfl⟩) _ h rfl
      · exact hKs.2 p hp
    · show E.relF _ _ _ _ _ _
      have e : ({ (s.eff { v := r, wb := freeze s.fs.b ids }).put d r with log := encA (F ++ B) } : St).fs = ((s.fs.eff { v := r, wb := freeze s.fs.b ids }).put d r) := by
        cases d with
        | none => exact fs_eff s _
        | some d => show ((s.eff _).put (some d) r).fs = _; rw [fs_put, fs_eff]; rfl
      have e2 : ({ (s.eff { v := r, wb := freeze s.fs.b ids }).put d r with log := encA (F ++ B) } : St).stp = s.stp := by
        show ((s.eff _).put d r).stp = _
        rw [(put_log _ _ _).2, (eff_log _ _).2]
      rw [e, e2]
      exact R2

end
end Go.Am


/-! AM, part Zk: variables that lie in an arena; loads under guards, and of constants. -/
set_option linter.unusedVariables false
set_option linter.unusedSimpArgs false
namespace Go.Am
open Go.RowKit

theorem opK_alloc {P : Program} {o : Oper} {os : List Operand} {zs : List V} (hk : opK P o.op = some (.alloc zs, os)) : ∃ e i z, o.op = .alloc e ∧ P.info? e = some i ∧ i.zero = some z ∧ ofScs z.cells.toList = some zs ∧ os = [] := by
  cases ho : o.op <;> rw [ho] at hk <;> simp only [opK] at hk <;> (try (cases hk; done)) <;> (try (repeat' (split at hk <;> (try (cases hk; done)))))
  all_goals first
    | (simp only [Option.map_eq_some_iff, Prod.mk.injEq, K.alloc.injEq] at hk; obtain ⟨m, hm, rfl, rfl⟩ := hk; exact ⟨_, _, _, rfl, by assumption, by assumption, hm, rfl⟩)
    | (simp only [Option.map_eq_some_iff, Prod.mk.injEq] at hk; obtain ⟨_, _, h1, _⟩ := hk; cases h1; done)
    | (simp only [eqKind] at hk; repeat' (split at hk <;> (try (cases hk; done))))

section
variable {E : Env} {S0 : Sur} {l0 : List (List V)} {s0 : Bool} {A : Arena}

/-- A variable of an arena. -/
theorem Steps.aalloc (hE : InA E S0 l0 s0) {K : St → Prop} {s : St} {d : Nat} {zs : List V} {rest : List Ins} (hl : s.log = encA A)
    (hk : ∀ b, b ∉ A.map (·.1) → Steps E rest K { s.put (some d) (.rptr b 0) with log := encA ((b, .cells zs) :: A) }) : Steps E (⟨some d, .alloc zs, [], none⟩ :: rest) K s := by
  refine Step1.raw fun slots ops o i ro n a w h hc hs hi R Q next hn => ?_
  obtain ⟨os, cc⟩ := comp_of hc
  obtain ⟨e, ie, z, ho, hie, hz, hzs, rfl⟩ := opK_alloc cc.op
  have R' : E.relF (encA A) s.stp s.fs a w h := by rw [← hl]; exact R
  have hq : ∀ φ, zs.length = z.cells.toList.length ∧ ∀ (j : Nat) v x, zs[j]? = some v → z.cells.toList[j]? = some x → RepD (w.alloc (.cells z.cells e)) φ v x ∧ scalar v = true := fun φ => ofScs_rep hzs
  obtain ⟨R2, hnm⟩ := hE.fresh R' (.cells z.cells e) (.cells zs) (fun _ => ⟨z.cells, e, heap_alloc_new w _, by have := (hq h.φ).1; simp at this; omega, fun j v x hv hx => (hq h.φ).2 j v x hv (by simpa using hx)⟩)
  refine wpOp_done hi (wanted_none (guard_none cc rfl)) (opK_defer cc.op) (.inl ?_) (hn _ _ _ h (hk _ hnm) (rel_putA cc R2 (.data (.rptr _ _)) rfl) rfl)
  simp [execOp, ho, Instr.alloc, zeroValue, typeInfo, hie, hz, newVar, newRow]

/-- The same, with a closure. -/
theorem Steps.astoreD (hE : InA E S0 l0 s0) {K : St → Prop} {s : St} {x y : X} {rest : List Ins} {blk off : Nat} {cs : List V} {v : V} (hx : evXs s.env [x, y] = some [.rptr blk off, v]) (hl : s.log = encA A) (hA : (blk, .cells cs) ∈ A) (hoff : off < cs.length) (hv : toD s.fs.b 6 v = some (v, [])) (hsc : scalar v = true)
    (hk : Steps E rest K { s with log := encA (setA A blk (.cells (cs.set off v))) }) : Steps E (⟨none, .store 1, [x, y], none⟩ :: rest) K s := by
  refine Step1.raw fun slots ops o i ro n a w h hc hs hi R Q next hn => ?_
  obtain ⟨os, cc⟩ := comp_of hc
  have hgo := guard_none cc rfl
  have hdf := opK_defer cc.op
  obtain ⟨t, p, q, e1, e2, rfl⟩ := opK_store1 cc.op
  obtain ⟨u, u', hu, o1, o2⟩ := (opds_of R.1 cc.xs (evXs_ok hx)).two
  simp only [List.cons.injEq, and_true] at hu
  obtain ⟨hu1, rfl⟩ := hu
  subst hu1
  have ep := ok_rptr o1
  have R' : E.relF (encA A) s.stp s.fs a w h := by rw [← hl]; exact R
  have hAr := hE.ar R'
  obtain ⟨vs, et, h1, h2, h3⟩ := hAr.ok _ hA
  have rv : RepD w h.φ v (a.eval q) := (toD_rep R.1 6 _ v _ [] hv (fun i hi => by cases hi) o2.1).1
  have hc1 : (a.eval q).cells = #[a.eval q] := (scalar_value o2.1 hsc).2
  have hone : ∀ z ∈ [a.eval q], z.oneCell' = true := fun z hz => by
    obtain rfl : z = a.eval q := by simpa using hz
    exact (scalar_value o2.1 hsc).1
  have hrun := run_storeCells_at E.P blk off et [a.eval q] 0 vs w h1 (by simp; omega) hone
  simp only [Nat.add_zero] at hrun
  have R2 := hE.step R' (B := setA A blk (.cells (cs.set off v)))
    (fun b hb hn => setRow_other w blk b (vs.toList.take off ++ [a.eval q] ++ vs.toList.drop (off + [a.eval q].length)).toArray (fun e => hn (e ▸ List.mem_map.2 ⟨_, hA, rfl⟩))) (by simp) rfl rfl rfl
    (fun p hp => .inl (by rw [← setA_keys A blk (.cells (cs.set off v))]; exact List.mem_map.2 ⟨p, hp, rfl⟩)) (fun p hp => by rw [setA_keys]; exact List.mem_map.2 ⟨p, hp, rfl⟩) (by rw [setA_keys]; exact hAr.nd)
    (fun ext p hp => by
      rcases setA_mem hp with ⟨e, e'⟩ | ⟨hne, hp⟩
      · rw [e, e']
        refine ⟨_, et, setRow_heap w blk vs _ et (0, 0) h1, by simp; omega, fun j u z hu hz => ?_⟩
        rw [List.getElem?_toArray, splice_get (by simp; omega)] at hz
        by_cases ej : j = off
        · subst ej
          rw [List.getElem?_set_self hoff] at hu
          rw [if_neg (by omega), if_pos (by simp)] at hz
          cases hu
          simp at hz
          subst hz
          exact ⟨rv.mono ext, hsc⟩
        · rw [List.getElem?_set_ne (fun h => ej h.symm)] at hu
          have hz' : vs[j]? = some z := by
            by_cases h5 : j < off
            · rw [if_pos h5] at hz; simpa using hz
            · rw [if_neg h5, if_neg (by simp; omega)] at hz; simpa using hz
          exact ⟨(h3 j u z hu hz').1.mono ext, (h3 j u z hu hz').2⟩
      · exact (hAr.ok p hp).mono (setRow_other w blk p.1 _ hne) ext) (fun p hp => by
      have hk : p.1 ∈ A.map (·.1) := by rw [← setA_keys A blk (.cells (cs.set off v))]; exact List.mem_map.2 ⟨p, hp, rfl⟩
      obtain ⟨q', hq', e⟩ := List.mem_map.1 hk
      have := hAr.lt q' hq'
      rw [← e]; simpa using this)
  have hd : o.dst = none := cc.d.symm
  have R3 : E.rel { s with log := encA (setA A blk (.cells (cs.set off v))) } (a.put o.dst undef) (w.setRow blk (vs.toList.take off ++ [a.eval q] ++ vs.toList.drop (off + [a.eval q].length)).toArray) h := by rw [hd]; exact R2
  refine wpOp_done (x := undef) hi (wanted_none hgo) hdf (.inr ⟨?_, rfl⟩) (hn _ _ _ h hk R3 rfl)
  simp only [execOp, e1, ep, Instr.storeAt, Instr.sureAddr, Sem.run_bind, Sem.run_pure, Result.andThen_ok, storeVar, run_szOf e2]
  rw [if_neg (by rw [hc1]; simp), hc1]
  rw [hrun]
  rfl

theorem wanted_on {slots : List (Option Nat)} {ops : Array Oper} {log : List (List V)} {stp : Bool} {σ : FSt} {a : Act} {w : World} {h : Gh} {o : Oper} {ins : Ins} {os : List Operand} (cc : Comp E.P E.nt slots o ins os) (R : E.relF log stp σ a w h) (hs : slots = ops.toList.map (·.dst)) {t : Nat} {want gb : Bool} {gv : V} (hg : ins.g = some (t, want)) (hgv : σ.g t = some gv) (hgb : guardOf want gv = some gb) :
    (gb = true → Region.wanted o (yielded ops a.tmps) = true) ∧ (gb = false → Region.wanted o (yielded ops a.tmps) = false) := by
  rcases cc.guard with ⟨e, _⟩ | ⟨j, want1, t1, e1, e2, e3⟩
  · rw [hg] at e; cases e
  · rw [hg] at e3
    cases e3
    exact guard_wanted R hs e1 e2 hgv hgb

/-- A cell of an arena's block is read, under a guard that holds. -/
theorem Steps.gaload (hE : InA E S0 l0 s0) {K : St → Prop} {s : St} {d t : Nat} {want : Bool} {gv : V} {x : X} {rest : List Ins} {blk off : Nat} {cs : List V} {v : V} (hgv : get s.env t = some gv) (hgb : guardOf want gv = some true) (hx : evXs s.env [x] = some [.rptr blk off]) (hl : s.log = encA A) (hA : (blk, .cells cs) ∈ A) (hv : cs[off]? = some v)
    (hk : Steps E rest K (s.put (some d) (.cond true v))) : Steps E (⟨some d, .load 1 false, [x], some (t, want)⟩ :: rest) K s := by
  refine Step1.raw fun slots ops o i ro n a w h hc hs hi R Q next hn => ?_
  obtain ⟨os, cc⟩ := comp_of hc
  have hwt := (wanted_on cc R hs rfl (by rw [fs_g]; exact hgv) hgb).1 rfl
  have hdf := opK_defer cc.op
  obtain ⟨t, p, dd, e1, e2, e3, e4, rfl⟩ := opK_load1 cc.op
  obtain ⟨u, hu, o1⟩ := (opds_of R.1 cc.xs (evXs_ok hx)).one
  simp only [List.cons.injEq, and_true] at hu
  subst hu
  have ep := ok_rptr o1
  have R' : E.relF (encA A) s.stp s.fs a w h := by rw [← hl]; exact R
  obtain ⟨vs, et, h1, h2, h3⟩ := (hE.ar R').ok _ hA
  have hlt : off < vs.size := by have := (List.getElem?_eq_some_iff.1 hv).1; omega
  obtain ⟨r, sc⟩ := h3 off v _ hv (Array.getElem?_eq_getElem hlt)
  have hcell : w.cell? ⟨blk, off, none⟩ = some vs[off] := by rw [cell_of_row w blk off vs et (0, 0) h1]; simp [hlt]
  have hex : (execOp a.eval o).run E.P w = .ok (.value vs[off]) w := by
    simp only [execOp, e1, ep, Sem.run_bind]
    rw [run_loadAt (cs := [vs[off]]) e2 e3 rfl (fun j v hv => by
      cases j with
      | zero => cases hv; exact hcell
      | succ j => cases hv) (by rw [e4]; rfl)]
    rfl
  refine wpOp_done hi hwt hdf (.inl hex) (hn _ _ _ h hk ?_ rfl)
  have ok : Ok s.fs h w (.cond true v) vs[off] := ⟨.cond true v _ (fun _ => .data r) (fun e => (by cases e)), fun j u z hu hz => by
    cases j with
    | zero => simp [cells] at hu; subst hu; intro r' sz xs' e; cases e
    | succ j => simp [cells] at hu⟩
  show E.relF _ _ _ _ _ _
  rw [(put_log _ _ _).1, (put_log _ _ _).2, fs_put]
  exact rel_after (eff := { v := _ }) cc R R.1 ok rfl

end

section
variable {E : Env} {K : List (Nat × List V)}

/-- A constant is read. -/
theorem does_kload (hE : InK E K) {σ : FSt} {d blk off : Nat} {x : X} {cs : List V} {v : V} (hx : [x].mapM (evX σ) = some [.rptr blk off]) (hA : (blk, cs) ∈ K) (hv : cs[off]? = some v) : Does E σ ⟨some d, .load 1 false, [x], none⟩ { v := v } (xslots [x]) := by
  refine .ext rfl hx fun o os log stp σ' a w h ho R hO => ?_
  obtain ⟨t, p, dd, e1, e2, e3, e4, rfl⟩ := opK_load1 ho
  obtain ⟨u, hu, o1⟩ := hO.one
  simp only [List.cons.injEq, and_true] at hu
  subst hu
  have ep := ok_rptr o1
  obtain ⟨⟨vs, et, h1, h2, h3⟩, _⟩ := hE _ _ _ _ _ R.1.sur _ hA
  have hlt : off < vs.size := by have := (List.getElem?_eq_some_iff.1 hv).1; simp only at h2; omega
  obtain ⟨r, sc⟩ := h3 off v _ hv (Array.getElem?_eq_getElem hlt)
  have hcell : w.cell? ⟨blk, off, none⟩ = some vs[off] := by rw [cell_of_row w blk off vs et (0, 0) h1]; simp [hlt]
  refine ⟨vs[off], ?_, .data r, GrowV.of_data r⟩
  simp only [execOp, e1, ep, Sem.run_bind]
  rw [run_loadAt (cs := [vs[off]]) e2 e3 rfl (fun j v hv => by
    cases j with
    | zero => cases hv; exact hcell
    | succ j => cases hv) (by rw [e4]; rfl)]
  rfl

theorem Steps.kload (hE : InK E K) {s : St} {Kt : St → Prop} {d blk off : Nat} {x : X} {cs : List V} {v : V} {rest : List Ins} (hx : evXs s.env [x] = some [.rptr blk off]) (hA : (blk, cs) ∈ K) (hv : cs[off]? = some v) (hk : Steps E rest Kt (s.put (some d) v)) : Steps E (⟨some d, .load 1 false, [x], none⟩ :: rest) Kt s :=
  Step1.does (ins := ⟨some d, .load 1 false, [x], none⟩) (does_kload hE (evXs_ok hx) hA hv) hk

theorem TraceK.kload (hE : InK E K) {s : St} {Kt : List (List Loc × List Loc) → St → List Ins → Prop} {d blk off : Nat} {x : X} {cs : List V} {v : V} {rest : List Ins} (hx : evXs s.env [x] = some [.rptr blk off]) (hA : (blk, cs) ∈ K) (hv : cs[off]? = some v)
    (tr : TraceK E (s.put (some d) v) rest fun fp s' r' => Kt (([.slot d], xslots [x]) :: fp) s' r') : TraceK E s (⟨some d, .load 1 false, [x], none⟩ :: rest) Kt :=
  .step (ins := ⟨some d, .load 1 false, [x], none⟩) (eff := { v := v }) (does_kload hE (evXs_ok hx) hA hv) tr

end
end Go.Am


/-! AM, part Zl: a scope that no jump leaves. -/
set_option linter.unusedVariables false
set_option linter.unusedSimpArgs false
set_option maxRecDepth 20000
namespace Go

theorem stepR_scope' {P : Program} {b : Frame} {a : Act} {k : List Item} {cs : List Frame} {w : World} {c : Code} : step P (lone (b.atR a (.code (.scope c) :: k)) cs w) = .next (lone (b.atR a (.code c :: .inScope c :: k)) cs w) :=
  step_lone_go (by simp [stepG, stepG.exec, Frame.atR])
theorem stepR_inScope' {P : Program} {b : Frame} {a : Act} {k : List Item} {cs : List Frame} {w : World} {c : Code} : step P (lone (b.atR a (.inScope c :: k)) cs w) = .next (lone (b.atR a k) cs w) :=
  step_lone_go (by simp [stepG, stepG.exec, Frame.atR])

theorem wpIn_scope_straight {F : Fence} {n : Nat} {P : Program} {Q : Exit → Act → World → Prop} {a : Act} {w : World} {c : Code} (h : c.wpIn F n P (Exit.noGoto Q) a w) : (Code.scope c).wpIn F n P Q a w := by
  intro b k cs hro hb hr
  have h0 : (lone (b.atR a (.code (.scope c) :: k)) cs w).fenced P F := fenced_calm hb hr rfl
  obtain ⟨e, a₁, w₁, hq, harr⟩ := h b (.inScope c :: k) cs hro hb hr
  cases e with
  | normal => exact ⟨.normal, a₁, w₁, hq, .head h0 stepR_scope' (StepsIn.trans harr (.one (fenced_calm hb hr rfl) stepR_inScope'))⟩
  | exit id =>
    have hx : exitTo id (.inScope c :: k) = exitTo id k := by simp [exitTo]
    exact ⟨.exit id, a₁, w₁, hq, fun k' hk => .head h0 stepR_scope' (harr.1 k' (by rw [hx]; exact hk)),
      fun hr' hk => let ⟨k₁, h1, h2⟩ := harr.2 hr' (by rw [hx]; exact hk); ⟨k₁, h1, .head h0 stepR_scope' h2⟩⟩
  | goto l => exact hq.elim
  | ret => exact ⟨_, a₁, w₁, hq, .of_steps (.one h0 stepR_scope') harr⟩
  | panic ch => exact ⟨_, a₁, w₁, hq, .of_steps (.one h0 stepR_scope') harr⟩
  | outgrown => exact ⟨_, a₁, w₁, hq, .of_steps (.one h0 stepR_scope') harr⟩
end Go

namespace Go.Am
/-- What does not jump to a label. -/
def qScope (Q : Exit → St → Prop) : Exit → St → Prop
  | .goto _, _ => False
  | e, s => Q e s

theorem Tr.scope {E : Env} {ro : Option Nat} {Q : Exit → St → Prop} {s : St} {x : IC} (h : Tr E ro x (qScope Q) s) : Tr E ro (.scope x) Q s := fun c hc n a w g R Q' hq => by
  obtain ⟨ca, rfl, h1⟩ := compC_inv hc
  refine wpIn_scope_straight (h ca h1 n a w g R _ fun e s' a' w' h' k R' ey => ?_)
  cases e with
  | goto l => exact k.elim
  | _ => exact hq _ s' a' w' h' k R' ey
end Go.Am


/-! AM, part Zm: bytes as a string. -/
set_option linter.unusedVariables false
set_option linter.unusedSimpArgs false
namespace Go.Am
open Go.RowKit

theorem opK_raw5 {P : Program} {o : Oper} {os : List Operand} {t u : Nat} (hk : opK P o.op = some (.raw 5 t u, os)) : ∃ p, o.op = .convert t u p ∧ os = [p] := by
  cases ho : o.op <;> rw [ho] at hk <;> simp only [opK] at hk <;> (try (cases hk; done)) <;> (try (repeat' (split at hk <;> (try (cases hk; done)))))
  all_goals first
    | (simp only [Option.map_eq_some_iff, Prod.mk.injEq] at hk; obtain ⟨_, _, h1, _⟩ := hk; cases h1; done)
    | (simp only [eqKind] at hk; repeat' (split at hk <;> (try (cases hk; done))))
    | (cases hk; exact ⟨_, rfl, rfl⟩)

def byteV (b : UInt8) : V := .int .u8 (b.toNat : Int)

theorem flat_bytes (bs : List UInt8) : (bs.map byteV).flatMap cells = bs.map byteV := by
  induction bs with
  | nil => rfl
  | cons b bs ih => rw [List.map_cons, List.flatMap_cons, ih]; rfl

section
variable {E : Env}

/-- Bytes as a string. -/
theorem Steps.toStr {s : St} {K : St → Prop} {d t u e r : Nat} {x : X} {bs : List UInt8} {rest : List Ins} (h1 : E.P.underlying t = some (.slice e)) (h2 : E.P.underlying e = some (.int .u8)) (h3 : E.P.underlying u = some .string) (hx : evXs s.env [x] = some [.slice r 1 (bs.map byteV)])
    (hk : Steps E rest K (s.put (some d) (.str ⟨bs.toArray⟩))) : Steps E (⟨some d, .raw 5 t u, [x], none⟩ :: rest) K s := by
  refine Step1.raw fun slots ops o i ro n a w h hc hs hi R Q next hn => ?_
  obtain ⟨os, cc⟩ := comp_of hc
  obtain ⟨p, ho, rfl⟩ := opK_raw5 cc.op
  obtain ⟨v, hv, o1⟩ := (opds_of R.1 cc.xs (evXs_ok hx)).one
  simp only [List.cons.injEq, and_true] at hv
  subst hv
  have rr := ok_slice o1
  have key : (execOp a.eval o).run E.P w = .ok (.value (.string ⟨bs.toArray⟩)) w := by
    generalize hz : a.eval p = z at rr
    have hrun : (convert t u z).run E.P w = .ok (.string ⟨bs.toArray⟩) w := by
      rcases slice_at rr with ⟨⟨ad, cap, rfl⟩, e0⟩ | ⟨blk, off, cap, cv, rfl, hpos, _, hys, ay⟩
      · obtain rfl : bs = [] := by simpa using e0
        cases ad with
        | none => exact Go.Lib.run_convert_nil_bytes w t u e cap h1 h2 h3
        | some ad => exact run_convert_bytes_back (P := E.P) w t u e ad cap [] h1 h2 h3 (fun j hj => by simp at hj)
      · have hb := run_convert_bytes_back (P := E.P) w t u e ⟨blk, off, none⟩ cap bs h1 h2 h3 (fun j hj => by
          have hfl : ((bs.map byteV).flatMap cells)[j]? = some (byteV bs[j]) := by
            have e1 : (bs.map byteV).flatMap cells = bs.map byteV := by
              exact flat_bytes bs
            rw [e1]; simp [hj]
          obtain ⟨_, k2, k3, _⟩ := ay j _ hfl
          rw [Addr.add_lit, k2]
          have : cv j = .int .u8 (bs[j].toNat : Int) := by
            exact rep_int (.data k3 : Rep w h.φ h.β h.y.l _ _)
          rw [this])
        rw [List.length_map]
        exact hb
    simp only [execOp, ho, hz, Sem.run_bind, hrun]; rfl
  refine wpOp_done hi (wanted_none (guard_none cc rfl)) (opK_defer cc.op) (.inl key) (hn _ _ w h hk ?_ rfl)
  show E.relF _ _ _ _ _ _
  rw [(put_log _ _ _).1, (put_log _ _ _).2, fs_put]
  exact rel_after (eff := { v := _ }) cc R R.1 ⟨.data (.str _), GrowV.of_data (w0 := w) (φ0 := h.φ) (.str _)⟩ rfl

end
end Go.Am


/-! AM, part Zn: slices that grow in an arena. -/
set_option linter.unusedVariables false
set_option linter.unusedSimpArgs false
namespace Go.Am
open Go.RowKit

/-- A slice of an arena: it holds these, and there may be room behind them. -/
def OwnS (A : Arena) (sz : Nat) (xs : List V) (v : V) : Prop :=
  (xs = [] ∧ v = .nils) ∨ ∃ (blk cap : Nat) (cs : List V), v = .sref blk 0 xs.length cap ∧ (blk, Ob.cells cs) ∈ A ∧ cs.length = cap * sz ∧ xs.length ≤ cap ∧ cs.take (xs.length * sz) = xs.flatMap cells

/-- A block that is not this slice's. -/
def offS (v : V) (b : Nat) : Prop := ∀ blk off n cap, v = .sref blk off n cap → b ≠ blk

theorem ownS_refs {A : Arena} {sz : Nat} {xs : List V} {v : V} (h : OwnS A sz xs v) (B : Nat → Bool) (R : Nat → Option (Nat × Nat × Nat)) (n : Nat) : refsOk B R (n + 1) v = true := by
  rcases h with ⟨_, rfl⟩ | ⟨_, _, _, rfl, _⟩ <;> rfl

/-- A type's zero value, as data. -/
def zeroOf (P : Program) (e : Nat) : Option (List V) := match P.info? e with
  | some i => match i.zero with
    | some z => ofScs z.cells.toList
    | none => none
  | none => none

section
variable {E : Env} {S0 : Sur} {l0 : List (List V)} {s0 : Bool} {A : Arena}

theorem zero_rep {w : World} {φ : Nat → Nat} {z : Value} {zs : List V} (hz : ofScs z.cells.toList = some zs) (k : Nat) : (List.replicate k zs).flatten.length = (Builtin.zeroCells z.cells k).size ∧ ∀ (j : Nat) v x, (List.replicate k zs).flatten[j]? = some v → (Builtin.zeroCells z.cells k)[j]? = some x → RepD w φ v x ∧ scalar v = true := by
  obtain ⟨h1, h2⟩ := ofScs_rep (w := w) (φ := φ) hz
  have hl : zs.length = z.cells.size := by simpa using h1
  have hsz : (Builtin.zeroCells z.cells k).size = k * z.cells.size := by simp [Builtin.zeroCells]
  have hfl : ∀ k, (List.replicate k zs).flatten.length = k * zs.length := fun k => by simp
  refine ⟨by rw [hfl, hsz, hl], fun j v x hv hx => ?_⟩
  have hj : j < k * zs.length := by rw [← hfl]; exact (List.getElem?_eq_some_iff.1 hv).1
  have hpos : 0 < zs.length := by
    rcases Nat.eq_zero_or_pos zs.length with h | h
    · rw [h] at hj; simp at hj
    · exact h
  have key : ∀ (k j : Nat), j < k * zs.length → (List.replicate k zs).flatten[j]? = zs[j % zs.length]? := by
    intro k
    induction k with
    | zero => intro j hj; simp at hj
    | succ k ih =>
      intro j hj
      rw [List.replicate_succ, List.flatten_cons, List.getElem?_append]
      split
      · rename_i h; rw [Nat.mod_eq_of_lt h]
      · rename_i h
        rw [ih (j - zs.length) (by rw [Nat.add_mul] at hj; omega)]
        congr 1
        rw [← Nat.mod_eq_sub_mod (by omega)]
  rw [key k j hj] at hv
  have hx' : x = z.cells[j % z.cells.size]! := by
    unfold Builtin.zeroCells at hx
    rw [Array.getElem?_map] at hx
    rw [← hl] at hx ⊢
    simp [hj] at hx
    exact hx.symm
  have hm : j % zs.length < z.cells.size := by rw [← hl]; exact Nat.mod_lt _ hpos
  refine h2 (j % zs.length) v x hv ?_
  rw [hx', ← hl]
  simp [hm]

theorem opK_app {P : Program} {o : Oper} {os : List Operand} {sz bytes e : Nat} (hk : opK P o.op = some (.append sz bytes e, os)) : ∃ c p q t ie z, o.op = .call c ∧ c.callee = .builtin .append ∧ c.args.toList = [p, q] ∧ c.argTypes.toList = [t, t] ∧ P.underlying t = some (.slice e) ∧ P.info? e = some ie ∧ ie.zero = some z ∧ z.cells.size = ie.size ∧ ie.size = sz ∧ ie.bytes = bytes ∧ os = [p, q] := opK_append hk

/-- What is appended, as cells. -/
theorem app_news {σ : FSt} {h : Gh} {w : World} {sz : Nat} {ys : List V} {y : Value} {r : Nat} (hv : Ok σ h w (.slice r sz ys) y) (hne : ys ≠ []) :
    ∃ (a : Addr) (cap : Nat) (news : List Value), y = .slice (some a) ys.length cap ∧ news.length = ys.length * sz ∧ (ys.flatMap cells).length = ys.length * sz ∧ (∀ j u, news[j]? = some u → w.cell? (a.add j) = some u) ∧ (∀ u ∈ news, u.oneCell' = true) ∧ ∀ (j : Nat) v x, (ys.flatMap cells)[j]? = some v → news[j]? = some x → RepD w h.φ v x ∧ scalar v = true := by
  rcases slice_at (ok_slice hv) with ⟨_, e0⟩ | ⟨yb, yo, ycap, cvy, rfl, _, _, hys, ay⟩
  · exact absurd e0 hne
  have ylen := flat_len hys
  have nget : ∀ j, j < ys.length * sz → ((List.range (ys.length * sz)).map cvy)[j]? = some (cvy j) := fun j hj => by simp [hj]
  refine ⟨_, _, (List.range (ys.length * sz)).map cvy, rfl, by simp, ylen, fun j u hu => ?_, fun u hu => ?_, fun j v x hv hx => ?_⟩
  · have hj : j < ys.length * sz := by have := (List.getElem?_eq_some_iff.1 hu).1; simpa using this
    rw [nget j hj] at hu
    cases hu
    rw [Addr.add_lit]
    exact (ay j _ (List.getElem?_eq_getElem (by omega))).2.1
  · obtain ⟨j, hj⟩ := List.getElem?_of_mem hu
    have hlt : j < ys.length * sz := by have := (List.getElem?_eq_some_iff.1 hj).1; simpa using this
    rw [nget j hlt] at hj
    cases hj
    obtain ⟨_, _, k3, k4⟩ := ay j _ (List.getElem?_eq_getElem (by omega))
    exact (scalar_value (Rep.data (β := h.β) (y := h.y.l) k3) k4).1
  · have hlt : j < ys.length * sz := by have := (List.getElem?_eq_some_iff.1 hx).1; simpa using this
    rw [nget j hlt] at hx
    cases hx
    exact ⟨(ay j v hv).2.2.1, (ay j v hv).2.2.2⟩

/-- An append to nothing. -/
theorem Steps.appendA0 (hE : InA E S0 l0 s0) {K : St → Prop} {s : St} {d : Nat} {x y : X} {sz bytes e r : Nat} {ys zs : List V} {rest : List Ins} (hx : evXs s.env [x, y] = some [.nils, .slice r sz ys]) (hl : s.log = encA A) (hz0 : zeroOf E.P e = some zs) (h0 : 0 < sz) (hb : ys.length * bytes ≤ 2 ^ 47) (hm : ys.length ≤ 2 ^ 47) (hne : ys ≠ [])
    (hk : ∀ blk cap A', OwnS A' sz ys (.sref blk 0 ys.length cap) → (∀ p ∈ A, p ∈ A' ∧ p.1 ≠ blk) → Steps E rest K { s.put (some d) (.sref blk 0 ys.length cap) with log := encA A' }) : Steps E (⟨some d, .append sz bytes e, [x, y], none⟩ :: rest) K s := by
  refine Step1.raw fun slots ops o i ro n a w h hc hs hi R Q next hn => ?_
  obtain ⟨os, cc⟩ := comp_of hc
  obtain ⟨c, p, q, t, ie, z, ho, hcal, hca, hct, ht, hie, hz, hzs, rfl, rfl, rfl⟩ := opK_app cc.op
  obtain ⟨u, v, huv, hu, hv'⟩ := (opds_of R.1 cc.xs (evXs_ok hx)).two
  cases huv
  have hzs0 : ofScs z.cells.toList = some zs := by unfold zeroOf at hz0; rw [hie] at hz0; simp only [hz] at hz0; exact hz0
  obtain ⟨ad, cp, news, ey, nl, fl, ncell, none1, nrep⟩ := app_news hv' hne
  have hpos : 0 < ys.length := List.length_pos_iff.2 hne
  have ea : c.args = #[p, q] := by rw [← Array.toList_inj]; simpa using hca
  have et : c.argTypes = #[t, t] := by rw [← Array.toList_inj]; simpa using hct
  have hrun := run_append_nil (P := E.P) w t o.type e ie z ht hie hz ad ys.length cp news nl ncell hpos (by omega) (by omega)
  have hge := grownCap_ge w ys.length 0 e
  obtain ⟨g, hg⟩ : ∃ g, grownCap w ys.length 0 e = g := ⟨_, rfl⟩
  rw [hg] at hrun hge
  have hex : (execOp a.eval o).run E.P w = .ok (.value (.slice (some ⟨w.heap.size, 0, none⟩) ys.length g)) (w.drew.alloc (.cells (news.toArray ++ Builtin.zeroCells z.cells (g - ys.length)) e)) := by
    simp only [execOp, ho, resolve, hcal, ea, et, Sem.run_bind, Sem.run_pure, Result.andThen_ok, invoke, builtin]
    simp [ok_nils hu, ey, hrun]
  have R' : E.relF (encA A) s.stp s.fs a w h := by rw [← hl]; exact R
  have R1 := relF_drew R'
  have zr := zero_rep (w := w.drew.alloc (.cells (news.toArray ++ Builtin.zeroCells z.cells (g - ys.length)) e)) (φ := h.φ) hzs0 (g - ys.length)
  have hcl : (ys.flatMap cells ++ (List.replicate (g - ys.length) zs).flatten).length = g * ie.size := by
    have h1 : zs.length = ie.size := by have := (ofScs_rep (w := w) (φ := h.φ) hzs0).1; simp at this; omega
    rw [List.length_append, fl]
    simp only [List.length_flatten, List.map_replicate, List.sum_replicate_nat, h1]
    rw [← Nat.add_mul]; congr 1; omega
  obtain ⟨R2, hnm⟩ := hE.fresh R1 (.cells (news.toArray ++ Builtin.zeroCells z.cells (g - ys.length)) e) (.cells (ys.flatMap cells ++ (List.replicate (g - ys.length) zs).flatten)) (fun ext => ⟨_, e, heap_alloc_new w.drew _, by rw [Array.size_append, List.length_append, zr.1]; simp [nl, fl], fun j v x hv hx => by
    rw [List.getElem?_append] at hv
    rw [Array.getElem?_append] at hx
    simp only [List.size_toArray, nl] at hx
    rw [fl] at hv
    by_cases hj : j < ys.length * ie.size
    · rw [if_pos hj] at hv hx
      simp only [List.getElem?_toArray] at hx
      have := nrep j v x hv hx
      exact ⟨this.1.mono (Ext.trans (fun _ _ ho => ⟨ho, rfl, rfl⟩) ext), this.2⟩
    · rw [if_neg hj] at hv hx
      exact zr.2 _ v x hv hx⟩)
  refine wpOp_done hi (wanted_none (guard_none cc rfl)) (opK_defer cc.op) (.inl hex) (hn _ _ _ h (hk w.heap.size g _ (.inr ⟨w.heap.size, g, _, rfl, by simp, hcl, hge, ?_⟩) fun p hp => ⟨List.mem_cons_of_mem _ hp, fun e => hnm (List.mem_map.2 ⟨p, hp, e⟩)⟩) (rel_putA cc R2 (.data (.sref _ _ _ _)) rfl) rfl)
  rw [← fl, List.take_left]

/-- An append to a slice of the arena. -/
theorem Steps.appendA (hE : InA E S0 l0 s0) {K : St → Prop} {s : St} {d : Nat} {x y : X} {sz bytes e r blk cap : Nat} {xs ys zs : List V} {rest : List Ins} (hx : evXs s.env [x, y] = some [.sref blk 0 xs.length cap, .slice r sz ys]) (hl : s.log = encA A) (hO : OwnS A sz xs (.sref blk 0 xs.length cap)) (hz0 : zeroOf E.P e = some zs) (h0 : 0 < sz) (hb : (xs.length + ys.length) * bytes ≤ 2 ^ 47) (hm : xs.length + ys.length ≤ 2 ^ 47) (hne : ys ≠ [])
    (hk : ∀ blk' cap' A', OwnS A' sz (xs ++ ys) (.sref blk' 0 (xs ++ ys).length cap') → (∀ p ∈ A, p.1 ≠ blk → p ∈ A' ∧ p.1 ≠ blk') → Steps E rest K { s.put (some d) (.sref blk' 0 (xs ++ ys).length cap') with log := encA A' }) : Steps E (⟨some d, .append sz bytes e, [x, y], none⟩ :: rest) K s := by
  refine Step1.raw fun slots ops o i ro n a w h hc hs hi R Q next hn => ?_
  obtain ⟨os, cc⟩ := comp_of hc
  obtain ⟨c, p, q, t, ie, z, ho, hcal, hca, hct, ht, hie, hz, hzs, rfl, rfl, rfl⟩ := opK_app cc.op
  obtain ⟨u, v, huv, hu, hv'⟩ := (opds_of R.1 cc.xs (evXs_ok hx)).two
  cases huv
  obtain ⟨cs, hA, hcs, hcap, htk⟩ : ∃ cs, (blk, Ob.cells cs) ∈ A ∧ cs.length = cap * ie.size ∧ xs.length ≤ cap ∧ cs.take (xs.length * ie.size) = xs.flatMap cells := by
    rcases hO with ⟨_, h⟩ | ⟨b', c', cs, e1, e2, e3, e4, e5⟩
    · cases h
    · cases e1; exact ⟨cs, e2, e3, e4, e5⟩
  have hzs0 : ofScs z.cells.toList = some zs := by unfold zeroOf at hz0; rw [hie] at hz0; simp only [hz] at hz0; exact hz0
  obtain ⟨ad, cp, news, ey, nl, fl, ncell, none1, nrep⟩ := app_news hv' hne
  have hpos : 0 < ys.length := List.length_pos_iff.2 hne
  have ea : c.args = #[p, q] := by rw [← Array.toList_inj]; simpa using hca
  have et : c.argTypes = #[t, t] := by rw [← Array.toList_inj]; simpa using hct
  have ep := ok_sref hu
  have R' : E.relF (encA A) s.stp s.fs a w h := by rw [← hl]; exact R
  obtain ⟨vs, vt, w1, w2, w3⟩ := (hE.ar R').ok _ hA
  have hxl : xs.length * ie.size ≤ cs.length := by rw [hcs]; exact Nat.mul_le_mul_right _ hcap
  have fxl : (xs.flatMap cells).length = xs.length * ie.size := by rw [← htk, List.length_take]; omega
  have hfl2 : ((xs ++ ys).flatMap cells).length = (xs ++ ys).length * ie.size := by rw [List.flatMap_append, List.length_append, fxl, fl, List.length_append, Nat.add_mul]
  by_cases hroom : xs.length + ys.length ≤ cap
  · -- there is room
    have hin : 0 + xs.length * ie.size + news.length ≤ vs.size := by
      rw [w2, hcs, nl, Nat.zero_add, ← Nat.add_mul]; exact Nat.mul_le_mul_right _ hroom
    have hst := run_storeCells_at E.P blk (0 + xs.length * ie.size) vt news 0 vs w w1 (by simpa using hin) none1
    simp only [Nat.add_zero] at hst
    have hfc := run_firstCells_some (P := E.P) w ie.size ys.length ad ys.length cp news nl ncell
    have hrun : (Builtin.append_ #[t, t] o.type #[.slice (some ⟨blk, 0, none⟩) xs.length cap, .slice (some ad) ys.length cp]).run E.P w = .ok (.slice (some ⟨blk, 0, none⟩) (xs.length + ys.length) cap) (w.setRow blk (vs.toList.take (0 + xs.length * ie.size) ++ news ++ vs.toList.drop (0 + xs.length * ie.size + news.length)).toArray) := by
      simp [Builtin.append_, run_underlying ht, sizeOf, typeInfo, hie, Builtin.lenOf, hroom, hfc, Addr.add_lit]
      simp only [Nat.zero_add] at hst
      rw [hst]
      simp
    have hex : (execOp a.eval o).run E.P w = .ok (.value (.slice (some ⟨blk, 0, none⟩) (xs.length + ys.length) cap)) (w.setRow blk (vs.toList.take (0 + xs.length * ie.size) ++ news ++ vs.toList.drop (0 + xs.length * ie.size + news.length)).toArray) := by
      simp only [execOp, ho, resolve, hcal, ea, et, Sem.run_bind, Sem.run_pure, Result.andThen_ok, invoke, builtin]
      simp only [List.map_toArray, List.map_cons, List.map_nil, ep, ey, hrun]
      rfl
    have hsl : (vs.toList.take (0 + xs.length * ie.size) ++ news ++ vs.toList.drop (0 + xs.length * ie.size + news.length)).length = vs.size := by simp; omega
    have R2 := hE.turn R' hA (.cells (cs.take (xs.length * ie.size) ++ ys.flatMap cells ++ cs.drop (xs.length * ie.size + ys.length * ie.size))) (w' := w.setRow blk (vs.toList.take (0 + xs.length * ie.size) ++ news ++ vs.toList.drop (0 + xs.length * ie.size + news.length)).toArray)
      (fun k hk => setRow_other w blk k _ hk) (by simp) rfl rfl rfl (fun ext => ⟨_, vt, setRow_heap w blk vs _ vt (0, 0) w1, by simp [fl, nl]; omega, fun j v x hv hx => by
        rw [List.getElem?_toArray] at hx
        rw [List.append_assoc, List.getElem?_append] at hv hx
        have l1 : (cs.take (xs.length * ie.size)).length = xs.length * ie.size := by rw [List.length_take]; omega
        have l2 : (vs.toList.take (0 + xs.length * ie.size)).length = xs.length * ie.size := by rw [List.length_take]; simp; omega
        rw [l1] at hv
        rw [l2] at hx
        by_cases hj : j < xs.length * ie.size
        · rw [if_pos hj, List.getElem?_take_of_lt hj] at hv
          rw [if_pos hj, List.getElem?_take_of_lt (by omega)] at hx
          have := w3 j v x hv (by simpa using hx)
          exact ⟨this.1.mono ext, this.2⟩
        · rw [if_neg hj, List.getElem?_append] at hv hx
          rw [fl] at hv
          rw [nl] at hx
          by_cases hj2 : j - xs.length * ie.size < ys.length * ie.size
          · rw [if_pos hj2] at hv hx
            have := nrep _ v x hv hx
            exact ⟨this.1.mono ext, this.2⟩
          · rw [if_neg hj2, List.getElem?_drop] at hv hx
            have := w3 _ v x hv (by rw [← hx]; simp [nl])
            exact ⟨this.1.mono ext, this.2⟩⟩)
    have own : OwnS (setA A blk (.cells (cs.take (xs.length * ie.size) ++ ys.flatMap cells ++ cs.drop (xs.length * ie.size + ys.length * ie.size)))) ie.size (xs ++ ys) (.sref blk 0 (xs ++ ys).length cap) := by
      refine .inr ⟨blk, cap, cs.take (xs.length * ie.size) ++ ys.flatMap cells ++ cs.drop (xs.length * ie.size + ys.length * ie.size), rfl, ?_, ?_, ?_, ?_⟩
      · exact List.mem_map.2 ⟨_, hA, by simp⟩
      · have : (xs.length + ys.length) * ie.size ≤ cap * ie.size := Nat.mul_le_mul_right _ hroom
        rw [Nat.add_mul] at this
        simp [fl]; omega
      · simpa using hroom
      · rw [List.length_append, Nat.add_mul, List.flatMap_append, ← htk]
        rw [List.take_append_of_le_length (by rw [List.length_append, List.length_take, fl]; omega), List.take_of_length_le (by rw [List.length_append, List.length_take, fl]; omega)]
    refine wpOp_done hi (wanted_none (guard_none cc rfl)) (opK_defer cc.op) (.inl hex) (hn _ _ _ h (hk blk cap _ own fun p hp hne => ⟨List.mem_map.2 ⟨p, hp, by rw [if_neg hne]⟩, hne⟩) (rel_putA cc R2 (by rw [List.length_append]; exact ⟨.data (.sref _ _ _ _), GrowV.of_data (w0 := w) (φ0 := h.φ) (.sref _ _ _ _)⟩) rfl) rfl)
  · -- it grows
    obtain ⟨olds, holds⟩ : ∃ olds, olds = vs.toList.take (xs.length * ie.size) := ⟨_, rfl⟩
    have ol : olds.length = xs.length * ie.size := by rw [holds, List.length_take]; simp; omega
    have ocell : ∀ j v, olds[j]? = some v → w.cell? ((⟨blk, 0, none⟩ : Addr).add j) = some v := fun j v hv => by
      have hj : j < xs.length * ie.size := by have := (List.getElem?_eq_some_iff.1 hv).1; omega
      rw [Addr.add_lit, Nat.zero_add, cell_of_row w blk j vs vt (0, 0) w1]
      rw [holds, List.getElem?_take_of_lt hj] at hv
      simpa using hv
    have hrun := run_append_grow (P := E.P) w t o.type e ie z ht hie hz ⟨blk, 0, none⟩ xs.length cap olds ol ocell ad ys.length cp news nl ncell (by omega) (by omega) (growslice_fits (by omega) (by omega))
    have hge := grownCap_ge w (xs.length + ys.length) cap e
    obtain ⟨g, hg⟩ : ∃ g, grownCap w (xs.length + ys.length) cap e = g := ⟨_, rfl⟩
    rw [hg] at hrun hge
    have hex : (execOp a.eval o).run E.P w = .ok (.value (.slice (some ⟨w.heap.size, 0, none⟩) (xs.length + ys.length) g)) (w.drew.alloc (.cells (olds.toArray ++ news.toArray ++ Builtin.zeroCells z.cells (g - (xs.length + ys.length))) e)) := by
      simp only [execOp, ho, resolve, hcal, ea, et, Sem.run_bind, Sem.run_pure, Result.andThen_ok, invoke, builtin]
      simp only [List.map_toArray, List.map_cons, List.map_nil, ep, ey, hrun]
      rfl
    have R1 := relF_drew R'
    have zr := zero_rep (w := w.drew.alloc (.cells (olds.toArray ++ news.toArray ++ Builtin.zeroCells z.cells (g - (xs.length + ys.length))) e)) (φ := h.φ) hzs0 (g - (xs.length + ys.length))
    have zl : zs.length = ie.size := by have := (ofScs_rep (w := w) (φ := h.φ) hzs0).1; simp at this; omega
    have hcl : ((xs ++ ys).flatMap cells ++ (List.replicate (g - (xs.length + ys.length)) zs).flatten).length = g * ie.size := by
      rw [List.length_append, hfl2]
      simp only [List.length_flatten, List.map_replicate, List.sum_replicate_nat, zl, List.length_append]
      rw [← Nat.add_mul]; congr 1; omega
    obtain ⟨R2, hnm⟩ := hE.fresh R1 (.cells (olds.toArray ++ news.toArray ++ Builtin.zeroCells z.cells (g - (xs.length + ys.length))) e) (.cells ((xs ++ ys).flatMap cells ++ (List.replicate (g - (xs.length + ys.length)) zs).flatten)) (fun ext => ⟨_, e, heap_alloc_new w.drew _, by rw [Array.size_append, List.length_append, zr.1, hfl2]; simp [nl, ol, Nat.add_mul], fun j v x hv hx => by
      have ext' : Ext w h.φ (w.drew.alloc (.cells (olds.toArray ++ news.toArray ++ Builtin.zeroCells z.cells (g - (xs.length + ys.length))) e)) h.φ := Ext.trans (fun _ _ ho => ⟨ho, rfl, rfl⟩) ext
      rw [List.flatMap_append, List.append_assoc, List.getElem?_append, fxl] at hv
      rw [Array.append_assoc, Array.getElem?_append] at hx
      simp only [List.size_toArray, ol] at hx
      by_cases hj : j < xs.length * ie.size
      · rw [if_pos hj] at hv hx
        simp only [List.getElem?_toArray] at hx
        rw [← htk, List.getElem?_take_of_lt hj] at hv
        rw [holds, List.getElem?_take_of_lt hj] at hx
        have := w3 j v x hv (by simpa using hx)
        exact ⟨this.1.mono ext', this.2⟩
      · rw [if_neg hj, List.getElem?_append, fl] at hv
        rw [if_neg hj, Array.getElem?_append] at hx
        simp only [List.size_toArray, nl] at hx
        by_cases hj2 : j - xs.length * ie.size < ys.length * ie.size
        · rw [if_pos hj2] at hv hx
          simp only [List.getElem?_toArray] at hx
          have := nrep _ v x hv hx
          exact ⟨this.1.mono ext', this.2⟩
        · rw [if_neg hj2] at hv hx
          exact zr.2 _ v x hv hx⟩)
    refine wpOp_done hi (wanted_none (guard_none cc rfl)) (opK_defer cc.op) (.inl hex) (hn _ _ _ h (hk w.heap.size g _ (.inr ⟨w.heap.size, g, _, rfl, by simp, hcl, by simpa using hge, ?_⟩) fun p hp _ => ⟨List.mem_cons_of_mem _ hp, fun e => hnm (List.mem_map.2 ⟨p, hp, e⟩)⟩) (rel_putA cc R2 (by rw [List.length_append]; exact ⟨.data (.sref _ _ _ _), GrowV.of_data (w0 := w) (φ0 := h.φ) (.sref _ _ _ _)⟩) rfl) rfl)
    rw [← hfl2, List.take_left]

end
end Go.Am


/-! AM, part Zo: calls by name over an arena; what lies in an arena becomes data. -/
set_option linter.unusedVariables false
set_option linter.unusedSimpArgs false
namespace Go.Am
open Go.RowKit

section
variable {E : Env} {S0 : Sur} {l0 : List (List V)} {s0 : Bool} {A : Arena}

theorem Steps.callA (hE : InA E S0 l0 s0) {K : St → Prop} {Ks : List (Nat × List V)} {s : St} {d : Option Nat} {f : FuncId} {xs : List X} {rest : List Ins} {vs us : List V} {ids : List Nat} {r : V} {F A1 B : Arena} (hx : evXs s.env xs = some vs) (hd : toDs s.fs.b vs = some (us, ids)) (hl : s.log = encA (F ++ A1))
    (hC : CA E.P f A1 Ks us r B) (hKs : (∀ p ∈ Ks, (p.1, Ob.cells p.2) ∈ F) ∨ InK E Ks ∧ ∀ p ∈ Ks, p.1 ∉ A1.map (·.1))
    (hk : Steps E rest K { (s.eff { v := r, wb := freeze s.fs.b ids }).put d r with log := encA (F ++ B) }) : Steps E (⟨d, .call f, xs, none⟩ :: rest) K s := by
  refine Step1.raw fun slots ops o i ro n a w h hc hs hi R Q next hn => ?_
  obtain ⟨os, cc⟩ := comp_of hc
  have hgo := guard_none cc rfl
  obtain ⟨c, e1, e2, rfl⟩ := opK_call cc.op
  have R' : E.relF (encA (F ++ A1)) s.stp s.fs a w h := by rw [← hl]; exact R
  have hAr := hE.ar R'
  have hnd := hAr.nd
  rw [List.map_append, List.nodup_append] at hnd
  obtain ⟨l1, l2⟩ := opds_args (opds_of R.1 cc.xs (evXs_ok hx))
  refine wp_callA hE R' cc hd hC (fun h' R1 => ?_) (fun p hp => ?_) _ l1 l2 hi (wanted_none hgo) (run_call hC.1 e2 e1) fun a' w' h' R2 hy => hn _ a' w' h' hk ?_ hy
  · rcases hKs with hKs | hKs
    · intro p hp
      have := (hE.ar R1)
      exact ⟨this.ok _ (List.mem_append.2 (.inl (hKs p hp))), this.lt _ (List.mem_append.2 (.inl (hKs p hp)))⟩
    · exact hKs.1 _ _ _ _ _ R1.1.sur
  · rcases hKs with hKs | hKs
    · exact fun h => hnd.2.2 _ (List.mem_map.2 ⟨_, hKs p hp, rfl⟩) _ h rfl
    · exact hKs.2 p hp
  · show E.relF _ _ _ _ _ _
    have e : ({ (s.eff { v := r, wb := freeze s.fs.b ids }).put d r with log := encA (F ++ B) } : St).fs = ((s.fs.eff { v := r, wb := freeze s.fs.b ids }).put d r) := by
      cases d with
      | none => exact fs_eff s _
      | some d => show ((s.eff _).put (some d) r).fs = _; rw [fs_put, fs_eff]; rfl
    have e2 : ({ (s.eff { v := r, wb := freeze s.fs.b ids }).put d r with log := encA (F ++ B) } : St).stp = s.stp := by
      show ((s.eff _).put d r).stp = _
      rw [(put_log _ _ _).2, (eff_log _ _).2]
    rw [e, e2]
    exact R2

/-- A block's cells are frozen. -/
def cut (φ : Nat → Nat) (blk len : Nat) : Nat → Nat := fun b => if b = blk then len else φ b

theorem InA.close (hE : InA E S0 l0 s0) {stp : Bool} {σ : FSt} {a : Act} {w : World} {h : Gh} (R : E.relF (encA A) stp σ a w h) {blk : Nat} {o : Ob} (hA : (blk, o) ∈ A) (len : Nat) {B : Arena} (hkeys : ∀ p ∈ B, p.1 ∈ A.map (·.1) ∧ p.1 ≠ blk) (hnd : (B.map (·.1)).Nodup)
    (hB : Ext w h.φ w (cut h.φ blk len) → ∀ p ∈ B, ObOk w (cut h.φ blk len) p.1 p.2) : Ext w h.φ w (cut h.φ blk len) ∧ E.relF (encA B) stp σ a w { h with φ := cut h.φ blk len } := by
  obtain ⟨M1, hM1, hlt1, ⟨A0, e, hs, hAr, hS⟩, back⟩ := hE.sub _ _ _ _ _ R.1.sur R.1.mine
  obtain rfl := encA_inj e
  have hz := hAr.z _ hA
  simp only at hz
  have other : ∀ b, b ≠ blk → cut h.φ blk len b = h.φ b := fun b hb => by unfold cut; rw [if_neg hb]
  have ext : Ext w h.φ w (cut h.φ blk len) := fun b o ho => by
    have hb : b ≠ blk := fun e => by rw [e, hz] at ho; omega
    exact ⟨by rw [other b hb]; exact ho, rfl, rfl⟩
  have top' : ∀ b, w.heap.size ≤ b → cut h.φ blk len b = 0 := fun b hb => by
    have := hAr.lt _ hA
    simp only at this
    rw [other b (by omega)]; exact R.1.top b hb
  have own : ∀ b, M1 b → w.heap[b]? = w.heap[b]? ∧ cut h.φ blk len b = h.φ b := fun b hb => ⟨rfl, other b fun e => by
    have := hAr.fr _ hA
    exact this (e ▸ hb)⟩
  have keyOld : ∀ p ∈ B, ∃ q ∈ A, q.1 = p.1 := fun p hp => by
    obtain ⟨q, hq, e⟩ := List.mem_map.1 (hkeys p hp).1
    exact ⟨q, hq, e⟩
  have sa : SA S0 l0 s0 (encA B) stp M1 w (cut h.φ blk len) := by
    refine ⟨B, rfl, hs, ⟨hnd, hB ext, fun p hp hM => ?_, fun p hp => ?_, fun p hp => ?_⟩, hE.ok _ _ _ _ _ _ _ _ hS ⟨ext, fun b hb hn => ⟨rfl, other b fun e => hn (.inr (List.mem_map.2 ⟨_, hA, e.symm⟩))⟩, Nat.le_refl _, rfl, rfl, rfl, fun b hb => .inl ?_, top'⟩⟩
    · obtain ⟨q, hq, e⟩ := keyOld p hp
      exact hAr.fr q hq (e ▸ hM)
    · obtain ⟨q, hq, e⟩ := keyOld p hp
      rw [← e]; exact hAr.lt q hq
    · obtain ⟨q, hq, e⟩ := keyOld p hp
      rw [other _ (hkeys p hp).2, ← e]; exact hAr.z q hq
    · rcases hb with hb | hb
      · exact .inl hb
      · obtain ⟨p, hp, rfl⟩ := List.mem_map.1 hb
        exact .inr (hkeys p hp).1
  have sur' := back (encA B) stp w (cut h.φ blk len) sa ext own (Nat.le_refl _) top' rfl rfl rfl
  exact ⟨ext, rel_round R.1 ext (fun b hb => own b (hM1 b hb)) (Nat.le_refl _) top' sur', R.2⟩

/-- A block's cells, as a slice of data. -/
theorem close_rep {w : World} {φ : Nat → Nat} {blk cap sz : Nat} {cs xs : List V} (ho : ObOk w φ blk (.cells cs)) (h0 : 0 < sz) (hcap : xs.length ≤ cap) (hxs : ∀ x ∈ xs, (cells x).length = sz) (htk : cs.take (xs.length * sz) = xs.flatMap cells) (ext : Ext w φ w (cut φ blk (xs.length * sz))) :
    RepD w (cut φ blk (xs.length * sz)) (.slice 0 sz xs) (.slice (some ⟨blk, 0, none⟩) xs.length cap) := by
  obtain ⟨vs, et, h1, h2, h3⟩ := ho
  have fl := flat_len hxs
  have at' : ∀ (j : Nat) v, (xs.flatMap cells)[j]? = some v → j < xs.length * sz ∧ j < vs.size ∧ cs[j]? = some v := fun j v hv => by
    have hj : j < xs.length * sz := by have := (List.getElem?_eq_some_iff.1 hv).1; omega
    rw [← htk, List.getElem?_take_of_lt hj] at hv
    have := (List.getElem?_eq_some_iff.1 hv).1
    exact ⟨hj, by omega, hv⟩
  refine .slice sz xs blk 0 xs.length cap (fun j => vs.getD j undef) h0 rfl hcap hxs (fun j v hv => ?_) (fun j v hv => ?_)
  · obtain ⟨a1, a2, a3⟩ := at' j v hv
    have e : vs[j]? = some (vs.getD j undef) := by simp [a2]
    refine ⟨by unfold cut; rw [if_pos rfl]; omega, ?_, (h3 j v _ a3 e).2⟩
    rw [Nat.zero_add, cell_of_row w blk j vs et (0, 0) h1, e]
  · obtain ⟨a1, a2, a3⟩ := at' j v hv
    have e : vs[j]? = some (vs.getD j undef) := by simp [a2]
    exact (h3 j v _ a3 e).1.mono ext

def dropA (A : Arena) (blk : Nat) : Arena := A.filter fun p => p.1 != blk

theorem dropA_mem {A : Arena} {blk : Nat} {p : Nat × Ob} : p ∈ dropA A blk ↔ p ∈ A ∧ p.1 ≠ blk := by
  unfold dropA; rw [List.mem_filter]; simp

theorem dropA_nd {A : Arena} {blk : Nat} (h : (A.map (·.1)).Nodup) : ((dropA A blk).map (·.1)).Nodup := h.sublist (List.Sublist.map _ List.filter_sublist)

/-- A slice of an arena becomes data. -/
theorem Wk.close (hE : InA E S0 l0 s0) {s : St} {t blk cap sz : Nat} {cs xs : List V} (ht : get s.env t = some (.sref blk 0 xs.length cap)) (hl : s.log = encA A) (hA : (blk, Ob.cells cs) ∈ A) (h0 : 0 < sz) (hcap : xs.length ≤ cap) (hxs : ∀ x ∈ xs, (cells x).length = sz) (htk : cs.take (xs.length * sz) = xs.flatMap cells) :
    Wk E s { s.put (some t) (.slice 0 sz xs) with log := encA (dropA A blk) } := by
  intro a w h R
  obtain ⟨q1, q2, _⟩ := R.1.env t _ (by rw [fs_g]; exact ht)
  have R' : E.relF (encA A) s.stp s.fs a w h := by rw [← hl]; exact R
  have hAr := hE.ar R'
  obtain ⟨ext, R2⟩ := hE.close R' hA (xs.length * sz) (B := dropA A blk) (fun p hp => ⟨List.mem_map.2 ⟨p, (dropA_mem.1 hp).1, rfl⟩, (dropA_mem.1 hp).2⟩) (dropA_nd hAr.nd) (fun ext p hp => (hAr.ok p (dropA_mem.1 hp).1).mono rfl ext)
  have rd := close_rep (cap := cap) (hAr.ok _ hA) h0 hcap hxs htk ext
  have e : a.tmps.getD t undef = .slice (some ⟨blk, 0, none⟩) xs.length cap := by
    revert q2
    generalize a.tmps.getD t undef = x1
    intro q2
    cases q2 with
    | data r => cases r; rfl
  have R3 := R2.1.put (d := t) (v := .slice 0 sz xs) (x := a.tmps.getD t undef) q1 (by rw [e]; exact .data rd) (by rw [e]; exact GrowV.of_data rd)
  rw [put_self (by rw [R.1.size]; exact q1)] at R3
  refine ⟨_, ⟨?_, R2.2⟩, rfl⟩
  show Rel E.nt E.S _ s.stp (s.put (some t) (.slice 0 sz xs)).fs _ _ _
  rw [fs_put]
  exact R3

/-- Less of an arena, in whatever order. -/
theorem Wk.keep (hE : InA E S0 l0 s0) {s : St} {B : Arena} (hl : s.log = encA A) (hsub : ∀ p ∈ B, p ∈ A) (hnd : (B.map (·.1)).Nodup) : Wk E s { s with log := encA B } := by
  intro a w h R
  have R' : E.relF (encA A) s.stp s.fs a w h := by rw [← hl]; exact R
  obtain ⟨M1, hM1, hlt1, ⟨A0, e, hs, hAr, hS⟩, back⟩ := hE.sub _ _ _ _ _ R'.1.sur R'.1.mine
  obtain rfl := encA_inj e
  have sa : SA S0 l0 s0 (encA B) s.stp M1 w h.φ := by
    refine ⟨B, rfl, hs, ⟨hnd, fun p hp => hAr.ok p (hsub p hp), fun p hp => hAr.fr p (hsub p hp), fun p hp => hAr.lt p (hsub p hp), fun p hp => hAr.z p (hsub p hp)⟩, hE.ok _ _ _ _ _ _ _ _ hS ⟨Ext.refl _ _, fun _ _ _ => ⟨rfl, rfl⟩, Nat.le_refl _, rfl, rfl, rfl, fun b hb => .inl ?_, R'.1.top⟩⟩
    rcases hb with hb | hb
    · exact .inl hb
    · obtain ⟨p, hp, rfl⟩ := List.mem_map.1 hb
      exact .inr (List.mem_map.2 ⟨p, hsub p hp, rfl⟩)
  have sur' := back (encA B) s.stp w h.φ sa (Ext.refl _ _) (fun _ _ => ⟨rfl, rfl⟩) (Nat.le_refl _) R'.1.top rfl rfl rfl
  exact ⟨h, ⟨{ R'.1 with sur := sur' }, R'.2⟩, rfl⟩

theorem mem_setA_ne {b : Nat} {o : Ob} {p : Nat × Ob} (h : p ∈ A) (hne : p.1 ≠ b) : p ∈ setA A b o := List.mem_map.2 ⟨p, h, by rw [if_neg hne]⟩
theorem mem_setA_self {b : Nat} {o o' : Ob} (h : (b, o') ∈ A) : (b, o) ∈ setA A b o := List.mem_map.2 ⟨_, h, by rw [if_pos rfl]⟩

/-- An append to a slice of one's own. -/
theorem Steps.appendOwn (hE : InA E S0 l0 s0) {K : St → Prop} {s : St} {d : Nat} {x y : X} {v : V} {sz bytes e r : Nat} {xs ys zs : List V} {rest : List Ins} (hx : evXs s.env [x, y] = some [v, .slice r sz ys]) (hl : s.log = encA A) (hO : OwnS A sz xs v) (hz0 : zeroOf E.P e = some zs) (h0 : 0 < sz) (hb : (xs.length + ys.length) * bytes ≤ 2 ^ 47) (hm : xs.length + ys.length ≤ 2 ^ 47) (hne : ys ≠ [])
    (hk : ∀ v' A', OwnS A' sz (xs ++ ys) v' → (∀ p ∈ A, offS v p.1 → p ∈ A' ∧ offS v' p.1) → Steps E rest K { s.put (some d) v' with log := encA A' }) : Steps E (⟨some d, .append sz bytes e, [x, y], none⟩ :: rest) K s := by
  rcases hO with ⟨rfl, rfl⟩ | ⟨blk, cap, cs, rfl, h2, h3, h4, h5⟩
  · refine Steps.appendA0 hE hx hl hz0 h0 (by simpa using hb) (by simpa using hm) hne fun blk cap A' hO hp => hk _ A' hO fun p hpA _ => ⟨(hp p hpA).1, fun b o n c e => ?_⟩
    cases e; exact (hp p hpA).2
  · refine Steps.appendA hE hx hl (.inr ⟨blk, cap, cs, rfl, h2, h3, h4, h5⟩) hz0 h0 hb hm hne fun blk' cap' A' hO hp => hk _ A' hO fun p hpA hoff => ?_
    have := hp p hpA (hoff _ _ _ _ rfl)
    refine ⟨this.1, fun b o n c e => ?_⟩
    cases e; exact this.2

end
end Go.Am


/-! AM, part Zp: slices that are made in an arena; their elements; rows of rows that become data. -/
set_option linter.unusedVariables false
set_option linter.unusedSimpArgs false
namespace Go.Am
open Go.RowKit

theorem opK_mkbox {P : Program} {o : Oper} {os : List Operand} {sz bytes : Nat} {zs : List V} (hk : opK P o.op = some (.mkbox sz bytes zs, os)) : ∃ t p q e ie z, o.op = .makeSlice t p q ∧ P.underlying t = some (.slice e) ∧ P.info? e = some ie ∧ ie.zero = some z ∧ z.cells.size = ie.size ∧ ofScs z.cells.toList = some zs ∧ ie.size = sz ∧ ie.bytes = bytes ∧ os = [p, q] := by
  cases ho : o.op <;> rw [ho] at hk <;> simp only [opK] at hk <;> (try (cases hk; done)) <;> (try (repeat' (split at hk <;> (try (cases hk; done)))))
  all_goals first
    | (simp only [Option.map_eq_some_iff, Prod.mk.injEq, K.mkbox.injEq] at hk
       obtain ⟨zs', hof, ⟨rfl, rfl, rfl⟩, rfl⟩ := hk
       exact ⟨_, _, _, _, _, _, rfl, by assumption, by assumption, by assumption, beq_iff_eq.1 (by assumption), hof, rfl, rfl, rfl⟩)
    | (simp only [Option.map_eq_some_iff, Prod.mk.injEq] at hk; obtain ⟨_, _, h1, _⟩ := hk; cases h1; done)
    | (simp only [eqKind] at hk; repeat' (split at hk <;> (try (cases hk; done))))

theorem opK_iaddrS {P : Program} {o : Oper} {os : List Operand} {sz : Nat} (hk : opK P o.op = some (.iaddrS sz, os)) : ∃ t p q e, o.op = .indexAddr t p q ∧ P.underlying t = some (.slice e) ∧ szOf P e = some sz ∧ os = [p, q] := by
  cases ho : o.op <;> rw [ho] at hk <;> simp only [opK] at hk <;> (try (cases hk; done)) <;> (try (repeat' (split at hk <;> (try (cases hk; done)))))
  all_goals first
    | (simp only [Option.map_eq_some_iff, Prod.mk.injEq, K.iaddrS.injEq] at hk
       obtain ⟨m, hm, rfl, rfl⟩ := hk
       exact ⟨_, _, _, _, rfl, by assumption, hm, rfl⟩)
    | (simp only [Option.map_eq_some_iff, Prod.mk.injEq] at hk; obtain ⟨_, _, h1, _⟩ := hk; cases h1; done)
    | (simp only [eqKind] at hk; repeat' (split at hk <;> (try (cases hk; done))))

section
variable {E : Env} {S0 : Sur} {l0 : List (List V)} {s0 : Bool} {A : Arena}

/-- A slice is made in the arena. -/
theorem Steps.amkbox (hE : InA E S0 l0 s0) {K : St → Prop} {s : St} {d N : Nat} {k1 k2 : IntKind} {n1 n2 : Int} {x y : X} {sz bytes : Nat} {zs : List V} {rest : List Ins} (hx : evXs s.env [x, y] = some [.int k1 n1, .int k2 n2]) (e1 : n1 = (N : Int)) (e2 : n2 = (N : Int)) (hN : N ≤ 1000000) (hb : bytes ≤ 1000000) (hs : N * sz ≤ 1000000) (hl : s.log = encA A)
    (hk : ∀ b, b ∉ A.map (·.1) → Steps E rest K { s.put (some d) (.sref b 0 N N) with log := encA ((b, .cells (List.replicate N zs).flatten) :: A) }) : Steps E (⟨some d, .mkbox sz bytes zs, [x, y], none⟩ :: rest) K s := by
  subst e1 e2
  refine Step1.raw fun slots ops o i ro n a w h hc hsl hi R Q next hn => ?_
  obtain ⟨os, cc⟩ := comp_of hc
  obtain ⟨t, p, q, e, ie, z, ho, ht, hie, hz, hzs, hof, rfl, rfl, rfl⟩ := opK_mkbox cc.op
  obtain ⟨u, v, huv, hu, hv'⟩ := (opds_of R.1 cc.xs (evXs_ok hx)).two
  cases huv
  have R' : E.relF (encA A) s.stp s.fs a w h := by rw [← hl]; exact R
  have hbb : (ie.bytes : Int) * (N : Int) ≤ 281474976710656 := by
    have : ie.bytes * N ≤ 1000000 * 1000000 := Nat.mul_le_mul hb hN
    have h2 : ((ie.bytes * N : Nat) : Int) ≤ 281474976710656 := by omega
    push_cast at h2; exact h2
  have hr := run_make (P := E.P) w t e ie z ht hie hz k1 k2 N N (by omega) (Int.le_refl _) hbb (by omega)
  simp only [Int.toNat_natCast] at hr
  obtain ⟨R2, hnm⟩ := hE.fresh R' (.cells (madeCells z.cells (N * ie.size)) e) (.cells (List.replicate N zs).flatten) (fun ext => by
    obtain ⟨g1, g2⟩ := ofScs_rep (w := w.alloc (.cells (madeCells z.cells (N * ie.size)) e)) (φ := h.φ) hof
    have hcl : zs.length = z.cells.size := by rw [g1]; simp
    refine ⟨_, e, heap_alloc_new w _, by rw [size_madeCells]; simp [hcl, hzs], fun j v x hv hx => ?_⟩
    rw [rep_flat] at hv
    split at hv
    · rename_i hj
      have hx' : x = z.cells[j % z.cells.size]! := by
        have hj' : j < N * ie.size := by rw [← hzs, ← hcl]; exact hj
        unfold madeCells at hx
        simp [hj'] at hx
        exact hx.symm
      have hpos : 0 < zs.length := by
        rcases Nat.eq_zero_or_pos zs.length with h | h
        · rw [h] at hj; simp at hj
        · exact h
      have hjm : j % zs.length < zs.length := Nat.mod_lt _ hpos
      exact g2 (j % zs.length) v x hv (by
        rw [hcl, hx']
        have : j % z.cells.size < z.cells.size := by rw [← hcl]; exact hjm
        simp [this])
    · cases hv)
  refine wpOp_done hi (wanted_none (guard_none cc rfl)) (opK_defer cc.op) (.inl ?_) (hn _ _ _ h (hk _ hnm) (rel_putA cc R2 (.data (.sref _ _ _ _)) rfl) rfl)
  simp [execOp, ho, ok_int hu, ok_int hv', hr]

end

/-- An element of a slice that is known exactly. -/
theorem does_sidx {E : Env} {σ : FSt} {d blk off n cap sz : Nat} {k : IntKind} {i : Int} {j : Nat} {x y : X} (hx : [x, y].mapM (evX σ) = some [.sref blk off n cap, .int k i]) (hi : i = (j : Int)) (hj : j < n) : Does E σ ⟨some d, .iaddrS sz, [x, y], none⟩ { v := .rptr blk (off + j * sz) } (xslots [x, y]) := by
  subst hi
  refine .ext rfl hx fun o os log stp σ' a w h ho R hO => ?_
  obtain ⟨t, p, q, e, e1, e2, e3, rfl⟩ := opK_iaddrS ho
  obtain ⟨u, v, huv, hu, hv'⟩ := hO.two
  cases huv
  refine ⟨.pointer (some ⟨blk, off + j * sz, none⟩), ?_, .data (.rptr _ _), GrowV.of_data (w0 := w) (φ0 := h.φ) (.rptr _ _)⟩
  have h1 : (j : Int) < (n : Int) := by omega
  simp only [execOp, e1, ok_sref hu, ok_int hv']
  simp [Instr.indexAt, asIntOf, run_underlying e2, run_szOf e3, h1, hj, Addr.add_lit]

theorem Steps.sidx {E : Env} {s : St} {K : St → Prop} {d blk off n cap sz : Nat} {k : IntKind} {i : Int} {j : Nat} {x y : X} {rest : List Ins} (hx : evXs s.env [x, y] = some [.sref blk off n cap, .int k i]) (hi : i = (j : Int)) (hj : j < n) (hk : Steps E rest K (s.put (some d) (.rptr blk (off + j * sz)))) : Steps E (⟨some d, .iaddrS sz, [x, y], none⟩ :: rest) K s :=
  Step1.does (ins := ⟨some d, .iaddrS sz, [x, y], none⟩) (does_sidx (evXs_ok hx) hi hj) hk

theorem TraceK.sidx {E : Env} {s : St} {K : List (List Loc × List Loc) → St → List Ins → Prop} {d blk off n cap sz : Nat} {k : IntKind} {i : Int} {j : Nat} {x y : X} {rest : List Ins} (hx : evXs s.env [x, y] = some [.sref blk off n cap, .int k i]) (hi : i = (j : Int)) (hj : j < n)
    (tr : TraceK E (s.put (some d) (.rptr blk (off + j * sz))) rest fun fp s' r' => K (([.slot d], xslots [x, y]) :: fp) s' r') : TraceK E s (⟨some d, .iaddrS sz, [x, y], none⟩ :: rest) K :=
  .step (ins := ⟨some d, .iaddrS sz, [x, y], none⟩) (eff := { v := .rptr blk (off + j * sz) }) (does_sidx (evXs_ok hx) hi hj) tr

section
variable {E : Env} {S0 : Sur} {l0 : List (List V)} {s0 : Bool} {A : Arena}

/-- A slice of an arena that lies in a slice of data becomes data. -/
theorem Wk.closeIn (hE : InA E S0 l0 s0) {s : St} {t r blk cap sz j : Nat} {cs xs ys : List V} (ht : get s.env t = some (.slice r 1 ys)) (hj : ys[j]? = some (.sref blk 0 xs.length cap)) (hl : s.log = encA A) (hA : (blk, Ob.cells cs) ∈ A) (h0 : 0 < sz) (hcap : xs.length ≤ cap) (hxs : ∀ x ∈ xs, (cells x).length = sz) (htk : cs.take (xs.length * sz) = xs.flatMap cells) (h1 : ∀ y ∈ ys, cells y = [y]) :
    Wk E s { s.put (some t) (.slice 0 1 (ys.set j (.slice 0 sz xs))) with log := encA (dropA A blk) } := by
  intro a w h R
  obtain ⟨q1, q2, q3⟩ := R.1.env t _ (by rw [fs_g]; exact ht)
  have R' : E.relF (encA A) s.stp s.fs a w h := by rw [← hl]; exact R
  have hAr := hE.ar R'
  obtain ⟨ext, R2⟩ := hE.close R' hA (xs.length * sz) (B := dropA A blk) (fun p hp => ⟨List.mem_map.2 ⟨p, (dropA_mem.1 hp).1, rfl⟩, (dropA_mem.1 hp).2⟩) (dropA_nd hAr.nd) (fun ext p hp => (hAr.ok p (dropA_mem.1 hp).1).mono rfl ext)
  have rd := close_rep (cap := cap) (hAr.ok _ hA) h0 hcap hxs htk ext
  have rs := ok_slice ⟨q2, q3⟩
  obtain ⟨x, hx⟩ : ∃ x, a.tmps.getD t undef = x := ⟨_, rfl⟩
  rw [hx] at rs
  have hjl : j < ys.length := (List.getElem?_eq_some_iff.1 hj).1
  have rd2 : RepD w (cut h.φ blk (xs.length * sz)) (.slice 0 1 (ys.set j (.slice 0 sz xs))) x := by
    have rs := rs.mono ext
    rcases slice_at rs with ⟨_, e0⟩ | ⟨yb, yo, ycap, cvy, rfl, hp, hcy, hys, ay⟩
    · rw [e0] at hjl; simp at hjl
    have hset : ∀ x ∈ ys.set j (.slice 0 sz xs), cells x = [x] := fun x hx => by
      rcases List.mem_or_eq_of_mem_set hx with hx | rfl
      · exact h1 x hx
      · rfl
    rw [flat_one h1] at ay
    refine .slice 1 _ yb yo ys.length ycap cvy (by omega) (by simp) hcy (fun x hx => by rw [hset x hx]; rfl) (fun k v hk => ?_) (fun k v hk => ?_)
    · rw [flat_one hset] at hk
      by_cases ek : k = j
      · subst ek
        rw [List.getElem?_set_self hjl] at hk
        cases hk
        obtain ⟨a1, a2, _, _⟩ := ay k _ hj
        exact ⟨a1, a2, rfl⟩
      · rw [List.getElem?_set_ne (fun h => ek h.symm)] at hk
        obtain ⟨a1, a2, _, a4⟩ := ay k _ hk
        exact ⟨a1, a2, a4⟩
    · rw [flat_one hset] at hk
      by_cases ek : k = j
      · subst ek
        rw [List.getElem?_set_self hjl] at hk
        cases hk
        obtain ⟨_, _, a3, _⟩ := ay k _ hj
        generalize hz : cvy k = z at a3
        cases a3
        exact rd
      · rw [List.getElem?_set_ne (fun h => ek h.symm)] at hk
        exact (ay k _ hk).2.2.1
  have R3 := R2.1.put (d := t) (v := .slice 0 1 (ys.set j (.slice 0 sz xs))) (x := a.tmps.getD t undef) q1 (by rw [hx]; exact .data rd2) (by rw [hx]; exact GrowV.of_data rd2)
  rw [put_self (by rw [R.1.size]; exact q1)] at R3
  refine ⟨_, ⟨?_, R2.2⟩, rfl⟩
  show Rel E.nt E.S _ s.stp (s.put (some t) (.slice 0 1 (ys.set j (.slice 0 sz xs)))).fs _ _ _
  rw [fs_put]
  exact R3

end
end Go.Am


/-! AM, part Zq: two strings as one. -/
set_option linter.unusedVariables false
set_option linter.unusedSimpArgs false
namespace Go.Am
open Go.RowKit

section
variable {E : Env}

end
end Go.Am


/-! Contracts for the laws on bins: plain things. -/
set_option linter.unusedVariables false
set_option linter.unusedSimpArgs false
set_option maxRecDepth 20000
set_option maxHeartbeats 1000000
namespace Go.Proofs.YtdejdblopmfjfaaGreatDoor
open Go.Am

abbrev I (n : Int) : V := .int .i64 n

def btw (n lo hi : Int) : Bool := decide (n ≥ lo) && decide (n ≤ hi)

theorem w64 {n : Int} (h1 : -9223372036854775808 ≤ n) (h2 : n < 9223372036854775808) : IntKind.wrap .i64 n = n := by
  have e : ∀ m : Int, m = n % 18446744073709551616 → (if (true && decide (m ≥ 9223372036854775808)) = true then m - 18446744073709551616 else m) = n := by
    intro m hm
    by_cases h : m ≥ 9223372036854775808
    · simp only [h, decide_true, Bool.and_self, if_true]; omega
    · simp only [h, decide_false, Bool.and_false, Bool.false_eq_true, if_false]; omega
  exact e _ rfl

theorem VLe.i {k : IntKind} {a b : Int} (h : a = b) : VLe (.int k a) (.int k b) := h ▸ .refl _

abbrev w (n : Int) : Int := IntKind.wrap .i64 n

@[simp] theorem wr1 : IntKind.i64.wrap 1 = 1 := by decide
@[simp] theorem wr2 : IntKind.i64.wrap 2 = 2 := by decide
@[simp] theorem wr3 : IntKind.i64.wrap 3 = 3 := by decide

theorem btw_iff (n lo hi : Int) : btw n lo hi = true ↔ lo ≤ n ∧ n ≤ hi := by
  simp only [btw, Bool.and_eq_true, decide_eq_true_eq, ge_iff_le]

theorem sq_lt {a b : Int} (ha : 0 ≤ a) (hb : 0 ≤ b) (h : a * a < b * b) : a < b := by
  rcases Int.lt_or_le a b with h1 | h1
  · exact h1
  · have := Int.mul_le_mul h1 h1 hb ha; omega

def eB (b : Int × Int) : V := .agg [I b.1, I b.2]
def sB (l : List (Int × Int)) : V := .slice 0 2 (l.map eB)
theorem getD_map {α : Type} {e : α → V} {l : List α} {k : Nat} (h : k < l.length) : (l.map e).getD (Int.toNat (k : Int)) nothing = e l[k] := by
  simp [h]

/-- The first index at which p holds. -/
def firstI {α : Type} (p : α → Bool) : List α → Nat → Int
  | [], _ => -1
  | x :: l, k => if p x then k else firstI p l (k + 1)

theorem firstI_nn {α : Type} (p : α → Bool) : ∀ (l : List α) (k : Nat), decide (firstI p l k ≥ 0) = l.any p
  | [], k => by simp [firstI]
  | x :: l, k => by
    simp only [firstI, List.any_cons]
    by_cases h : p x = true
    · simp [h]
    · simp only [h, if_false, Bool.false_eq_true]
      rw [firstI_nn p l (k + 1)]
      simp [h]

theorem firstI_drop {α : Type} (p : α → Bool) (l : List α) {k : Nat} (h : k < l.length) : firstI p (l.drop k) k = if p l[k] then (k : Int) else firstI p (l.drop (k + 1)) (k + 1) := by
  rw [List.drop_eq_getElem_cons h]; rfl

theorem ite_max (a b : Int) : (if b > a then b else a) = max a b := by split <;> omega
theorem ite_min (a b : Int) : (if b < a then b else a) = min a b := by split <;> omega

/-- Captured data that stand for themselves. -/
structure Plain (us : List V) : Prop where
  d : ∀ b, toDs b us = some (us, [])
  r : ∀ B R, us.all (refsOk B R 5) = true

theorem refs_plain {us : List V} (h : Plain us) {fn : Fn} {B : Nat → Bool} {R : Nat → Option (Nat × Nat × Nat)} : refsOk B R 6 (.func fn [] us) = true := by
  show (([] : List V).all (refsOk B R 5) && us.all (refsOk B R 5)) = true
  rw [h.r]; rfl

theorem take_ext {α : Type} {l l' : List α} {k : Nat} (hk : k < l.length) (hk' : k < l'.length) (h : l.take k = l'.take k) (e : l[k] = l'[k]) : l.take (k + 1) = l'.take (k + 1) := by
  rw [List.take_add_one, List.take_add_one, h, List.getElem?_eq_getElem hk, List.getElem?_eq_getElem hk', e]
def intsV (l : List Int) : V := .slice 0 1 (l.map I)

theorem flat_ints (l : List Int) : (l.map I).flatMap cells = l.map I := by
  induction l with
  | nil => rfl
  | cons a l ih => rw [List.map_cons, List.flatMap_cons, ih]; rfl

theorem ints_isD (l : List Int) : (l.map I).all isD = true := by
  rw [List.all_eq_true]
  intro x hx
  obtain ⟨n, _, rfl⟩ := List.mem_map.1 hx
  rfl

theorem ints_refs (l : List Int) (B : Nat → Bool) (R : Nat → Option (Nat × Nat × Nat)) : (l.map I).all (refsOk B R 6) = true := by
  rw [List.all_eq_true]
  intro x hx
  obtain ⟨n, _, rfl⟩ := List.mem_map.1 hx
  rfl

theorem okI {k : Nat} {l : List Int} {env : List (Nat × V)} {bx : List (Nat × Box)} {rw : List (Nat × Nat × Nat × Nat)} (h : okRefs env ((k, ⟨[], false⟩) :: bx) rw = true) : okRefs env ((k, ⟨l.map I, false⟩) :: bx) rw = true := by
  have e : hasKey ((k, (⟨l.map I, false⟩ : Box)) :: bx) = hasKey ((k, (⟨[], false⟩ : Box)) :: bx) := rfl
  unfold okRefs at h ⊢
  rw [e]
  rw [Bool.and_eq_true] at h ⊢
  refine ⟨h.1, ?_⟩
  have h2 := h.2
  rw [List.all_cons, Bool.and_eq_true] at h2 ⊢
  exact ⟨ints_refs _ _ _, h2.2⟩

theorem holds_ints (l : List Int) : Holds (l.map I) 0 1 l.length (l.map I) := by
  refine ⟨by omega, by simp, fun x hx => ?_, ?_, fun x hx => ?_⟩
  · obtain ⟨c, _, rfl⟩ := List.mem_map.1 hx; rfl
  · rw [List.drop_zero, List.take_of_length_le (by simp), flat_ints]
  · obtain ⟨c, _, rfl⟩ := List.mem_map.1 hx; rfl

theorem c_within (n lo hi : Int) : C Tryz.prog F.bin_within [I n, I lo, I hi] (.bool (btw n lo hi)) := by
  refine C_of mixed chk.bin_within (by simp) fun S ok => ?_
  refine Tr.seqR rfl (by simp) (Tr.seqR rfl (by simp) (Tr.retQ rfl rfl ?_ trivial))
  simp [packR, btw]

theorem c_between (n lo hi : Int) : C Tryz.prog F.ref00_Between [I n, I lo, I hi] (.bool (btw n lo hi)) := by
  refine C_of mixed chk.ref00_Between (by simp) fun S ok => ?_
  refine Tr.seqR rfl (by simp) (Tr.seqR rfl (by simp) (Tr.retQ rfl rfl ?_ trivial))
  simp [packR, btw]

theorem c_indexI {l : List Int} {p : Int → Bool} {f : FuncId} (hl : l.length ≤ 9223372036854775807) (hp : ∀ b ∈ l, C Tryz.prog f [I b] (.bool (p b))) :
    C Tryz.prog F.slices_IndexFunc_int_int [intsV l, .func (.func f) [] []] (I (firstI p l 0)) := by
  refine C_of mixed chk.slices_IndexFunc_int_int (by simp) fun S ok => ?_
  refine Tr.seqR rfl (by simp) ?_
  refine Tr.seq (Tr.seqR rfl (by simp) (Tr.block ?_))
  refine Tr.loop (fun k s => (k ≤ l.length ∧ firstI p l 0 = firstI p (l.drop k) k) ∧ s = { env := [(0, intsV l), (1, .func (.func f) [] []), (7, I l.length), (8, I k)], bx := [], rw := [], log := [], stp := false }) (fun k => l.length - k) 0
    (Wk.le (.cons rfl (.refl _) (.cons rfl (.refl _) (.cons rfl (VLe.i (by simp)) (.cons rfl (.refl _) .nil)))) .nil .nil rfl rfl) ⟨⟨by omega, by simp⟩, rfl⟩ ?_
  rintro k s ⟨⟨hk, hf⟩, rfl⟩
  refine Tr.seqR rfl (by simp) (Tr.seqI rfl (fun h1 => ?_) (fun h1 => ?_))
  · have h1 : k < l.length := by simpa using h1
    refine Tr.skipT (Tr.seq (Tr.block (Tr.seqR rfl (by simp) (Tr.seqC rfl ?_ ?_))))
    · rw [getD_map h1]; simp [cells]; omega
    · rw [getD_map h1]
      refine Steps.callv rfl rfl (hp l[k] (List.getElem_mem h1)) (Steps.fin rfl (by simp) ?_)
      refine Tr.cond rfl rfl (fun h2 => ?_) (fun h2 => ?_)
      · refine Tr.seqR rfl (by simp) (Tr.ret ?_)
        refine ⟨trivial, _, _, _, resVs_ok rfl, rfl, ?_⟩
        rw [hf, firstI_drop p l h1, if_pos h2]; rfl
      · refine Tr.skip (Tr.regR rfl (by simp) ?_)
        refine ⟨k + 1, _, ?_, ⟨⟨by omega, ?_⟩, rfl⟩, by omega⟩
        · exact Wk.le (.cons rfl (.refl _) (.cons rfl (.refl _) (.cons rfl (.refl _) (.cons rfl (VLe.i (w64 (by omega) (by omega))) .nil)))) .nil .nil rfl rfl
        · rw [hf, firstI_drop p l h1, if_neg (by simp [h2])]
  · have h1 : k = l.length := by simp at h1; omega
    subst h1
    refine Tr.exit (Tr.seqR rfl (by simp) (Tr.retQ rfl rfl ?_ trivial))
    rw [hf, List.drop_length]; rfl

theorem c_containsI {l : List Int} {p : Int → Bool} {f : FuncId} (hl : l.length ≤ 9223372036854775807) (hp : ∀ b ∈ l, C Tryz.prog f [I b] (.bool (p b))) :
    C Tryz.prog F.slices_ContainsFunc_int_int [intsV l, .func (.func f) [] []] (.bool (l.any p)) := by
  refine C_of mixed chk.slices_ContainsFunc_int_int (by simp) fun S ok => ?_
  refine Tr.seqR rfl (by simp) ?_
  refine Tr.seqC rfl (by simp) (Steps.call rfl rfl (c_indexI hl hp) (Steps.fin rfl (by simp) (Tr.retQ rfl rfl ?_ trivial)))
  rw [← firstI_nn p l 0]; rfl

attribute [local simp] cells scalar mkv splice under2 under dem dem1
theorem c_Alike (l l' : List Int) (hl : l.length ≤ 9223372036854775807) : C Tryz.prog F.ref00_Alike [intsV l, intsV l'] (.bool (decide (l = l'))) := by
  refine C_of mixed chk.ref00_Alike (by simp) fun S ok => ?_
  refine Tr.seqR rfl (by simp) (Tr.seq (Tr.seqR rfl (by simp) ?_))
  refine Tr.cond rfl rfl (fun h1 => Tr.seqR rfl (by simp) (Tr.retX rfl rfl rfl ?_ trivial)) (fun h1 => Tr.skip ?_)
  · have h1 : (((l.map I).length : Int) != ((l'.map I).length : Int)) = true := h1
    simp only [packR, V.bool.injEq]
    rw [decide_eq_false]
    rintro rfl
    simp at h1
  · have h1 : (((l.map I).length : Int) != ((l'.map I).length : Int)) = false := h1
    have hll : l.length = l'.length := by simp at h1; omega
    refine Tr.seq (Tr.seqR rfl (by simp) (Tr.block ?_))
    refine Tr.loop (fun k st => (k ≤ l.length ∧ l.take k = l'.take k) ∧ st = { env := [(0, intsV l), (1, intsV l'), (5, I k)], bx := [], rw := [], log := [], stp := false }) (fun k => l.length - k) 0
      (Wk.le (.cons rfl (.refl _) (.cons rfl (.refl _) (.cons rfl (.refl _) .nil))) .nil .nil rfl rfl) ⟨⟨by omega, by simp⟩, rfl⟩ ?_
    rintro k st ⟨⟨hk, he⟩, rfl⟩
    refine Tr.seq (Tr.seqR rfl (by simp) (Tr.cond rfl rfl (fun h3 => ?_) (fun h3 => ?_)))
    · have h3 : k < l.length := by simpa using h3
      have h4 : k < l'.length := by omega
      refine Tr.skip (Tr.seq (Tr.block (Tr.seq (Tr.drawK (TraceK.runN 3 rfl (by simp; omega) ?_)))))
      rw [getD_map h3]
      refine TraceK.runN 4 rfl (by simp; omega) ?_
      rw [getD_map h4]
      refine TraceK.run rfl (by simp) (.done ⟨by kernel_rfl, by kernel_rfl, ?_⟩)
      refine Tr.cond rfl rfl (fun h5 => Tr.seqR rfl (by simp) (Tr.retX rfl rfl rfl ?_ trivial)) (fun h5 => Tr.skip (Tr.regR rfl (by simp) ?_))
      · have h5 : (l[k] != l'[k]) = true := h5
        simp only [packR, V.bool.injEq]
        rw [decide_eq_false]
        rintro rfl
        simp at h5
      · have h5 : (l[k] != l'[k]) = false := h5
        have h5 : l[k] = l'[k] := by simpa using h5
        exact ⟨k + 1, _, Wk.le (.cons rfl (.refl _) (.cons rfl (.refl _) (.cons rfl (VLe.i (w64 (by omega) (by omega))) .nil))) .nil .nil rfl rfl, ⟨⟨h3, take_ext h3 h4 he h5⟩, rfl⟩, by omega⟩
    · have h3 : k = l.length := by simp at h3; omega
      subst h3
      refine Tr.exit (Tr.seqR rfl (by simp) (Tr.retX rfl rfl rfl ?_ trivial))
      rw [List.take_length, hll, List.take_length] at he
      simp [packR, he]

end Go.Proofs.YtdejdblopmfjfaaGreatDoor


/-! Contracts: regions of the plane, by their four bounds. -/
set_option linter.unusedVariables false
set_option linter.unusedSimpArgs false
set_option maxRecDepth 20000
set_option maxHeartbeats 2000000
namespace Go.Proofs.YtdejdblopmfjfaaGreatDoor
open Go.Am
attribute [local simp] cells scalar mkv splice under2 under dem dem1 eB
/-- Bounds of x, y, their sum and difference. -/
structure Fr where
  x : Int × Int
  y : Int × Int
  s : Int × Int
  d : Int × Int

def fourC (f : Fr) : List V := [I f.x.1, I f.x.2, I f.y.1, I f.y.2, I f.s.1, I f.s.2, I f.d.1, I f.d.2]
attribute [local simp] fourC
def comb (g : Int × Int → Int × Int → Int × Int) (f h : Fr) : Fr := ⟨g f.x h.x, g f.y h.y, g f.s h.s, g f.d h.d⟩
def spanB (a b : Int × Int) : Int × Int := (min a.1 b.1, max a.2 b.2)
def cutB (a b : Int × Int) : Int × Int := (max a.1 b.1, min a.2 b.2)

theorem ifMin (a b : Int) : (if b < a then b else a) = min a b := by split <;> omega
theorem ifMax (a b : Int) : (if b > a then b else a) = max a b := by split <;> omega

theorem c_span (a b : Int × Int) : C Tryz.prog F.region_span [eB a, eB b] (eB (spanB a b)) := by
  refine C_of mixed chk.region_span (by simp) fun S ok => ?_
  refine Tr.seqR rfl (by simp) (Tr.seqR rfl (by simp) (Tr.retQ rfl rfl ?_ trivial))
  simp only [packR, eB, spanB, ← ifMin, ← ifMax]
  rfl

theorem c_bounds (f : Fr) : C Tryz.prog F.region_bounds [.agg (fourC f)] (.agg (fourC f)) := by
  refine C_of mixed chk.region_bounds (by simp) fun S ok => ?_
  exact Tr.seqR rfl (by simp) (Tr.seqR rfl (by simp) (Tr.retQ rfl rfl rfl trivial))

theorem c_region (f : Fr) : C Tryz.prog F.region_four_region [.agg (fourC f)] (.agg (fourC f)) := by
  refine C_of mixed chk.region_four_region (by simp) fun S ok => ?_
  exact Tr.seqR rfl (by simp) (Tr.seqR rfl (by simp) (Tr.retQ rfl rfl rfl trivial))

theorem c_combined {op : FuncId} {g : Int × Int → Int × Int → Int × Int} (hg : ∀ a b, C Tryz.prog op [eB a, eB b] (eB (g a b))) (f h : Fr) : C Tryz.prog F.region_four_combined [.agg (fourC f), .agg (fourC h), .func (.func op) [] []] (.agg (fourC (comb g f h))) := by
  refine C_of mixed chk.region_four_combined (by simp) fun S ok => ?_
  refine Tr.seqR rfl (by simp) (Tr.seq (Tr.seqR rfl (by simp) (Tr.block ?_)))
  refine Tr.rounds 5 (TrN.succ ?_)
  refine Tr.weak (s' := { env := [(2, .func (.func op) [] []), (3, .ptr 3 0), (4, .ptr 4 0), (6, .ptr 6 0), (8, I 0)], bx := [(3, ⟨[I f.x.1, I f.x.2, I f.y.1, I f.y.2, I f.s.1, I f.s.2, I f.d.1, I f.d.2], false⟩), (4, ⟨fourC h, false⟩), (6, ⟨[I 0, I 0, I 0, I 0, I 0, I 0, I 0, I 0], false⟩)], rw := [], log := [], stp := false })
    (Wk.le (.cons rfl (.refl _) (.cons rfl (.refl _) (.cons rfl (.refl _) (.cons rfl (.refl _) (.cons rfl (VLe.i rfl) .nil))))) (.cons rfl (LLe.refl _) (.cons rfl (LLe.refl _) (.cons rfl (LLe.refl _) .nil))) .nil rfl rfl) ?_
  refine Tr.seqR rfl (by simp) (Tr.seq (Tr.condT rfl (Tr.skip (Tr.seq (Tr.block (Tr.seqR rfl (by simp) ?_))))))
  refine Tr.drawK (TraceK.run rfl (by simp) (TraceK.callv rfl rfl (hg f.x h.x) (TraceK.run rfl (by simp) (.done ⟨by kernel_rfl, by kernel_rfl, ?_⟩))))
  refine Tr.regR rfl (by simp) (TrN.succ ?_)
  refine Tr.weak (s' := { env := [(2, .func (.func op) [] []), (3, .ptr 3 0), (4, .ptr 4 0), (6, .ptr 6 0), (8, I 1)], bx := [(3, ⟨[I (g f.x h.x).1, I (g f.x h.x).2, I f.y.1, I f.y.2, I f.s.1, I f.s.2, I f.d.1, I f.d.2], false⟩), (4, ⟨fourC h, false⟩), (6, ⟨[I 0, I 0, I 0, I 0, I 0, I 0, I 0, I 0], false⟩)], rw := [], log := [], stp := false })
    (Wk.le (.cons rfl (.refl _) (.cons rfl (.refl _) (.cons rfl (.refl _) (.cons rfl (.refl _) (.cons rfl (VLe.i rfl) .nil))))) (.cons rfl (LLe.refl _) (.cons rfl (LLe.refl _) (.cons rfl (LLe.refl _) .nil))) .nil rfl rfl) ?_
  refine Tr.seqR rfl (by simp) (Tr.seq (Tr.condT rfl (Tr.skip (Tr.seq (Tr.block (Tr.seqR rfl (by simp) ?_))))))
  refine Tr.drawK (TraceK.run rfl (by simp) (TraceK.callv rfl rfl (hg f.y h.y) (TraceK.run rfl (by simp) (.done ⟨by kernel_rfl, by kernel_rfl, ?_⟩))))
  refine Tr.regR rfl (by simp) (TrN.succ ?_)
  refine Tr.weak (s' := { env := [(2, .func (.func op) [] []), (3, .ptr 3 0), (4, .ptr 4 0), (6, .ptr 6 0), (8, I 2)], bx := [(3, ⟨[I (g f.x h.x).1, I (g f.x h.x).2, I (g f.y h.y).1, I (g f.y h.y).2, I f.s.1, I f.s.2, I f.d.1, I f.d.2], false⟩), (4, ⟨fourC h, false⟩), (6, ⟨[I 0, I 0, I 0, I 0, I 0, I 0, I 0, I 0], false⟩)], rw := [], log := [], stp := false })
    (Wk.le (.cons rfl (.refl _) (.cons rfl (.refl _) (.cons rfl (.refl _) (.cons rfl (.refl _) (.cons rfl (VLe.i rfl) .nil))))) (.cons rfl (LLe.refl _) (.cons rfl (LLe.refl _) (.cons rfl (LLe.refl _) .nil))) .nil rfl rfl) ?_
  refine Tr.seqR rfl (by simp) (Tr.seq (Tr.condT rfl (Tr.skip (Tr.seq (Tr.block (Tr.seqR rfl (by simp) ?_))))))
  refine Tr.drawK (TraceK.run rfl (by simp) (TraceK.callv rfl rfl (hg f.s h.s) (TraceK.run rfl (by simp) (.done ⟨by kernel_rfl, by kernel_rfl, ?_⟩))))
  refine Tr.regR rfl (by simp) (TrN.succ ?_)
  refine Tr.weak (s' := { env := [(2, .func (.func op) [] []), (3, .ptr 3 0), (4, .ptr 4 0), (6, .ptr 6 0), (8, I 3)], bx := [(3, ⟨[I (g f.x h.x).1, I (g f.x h.x).2, I (g f.y h.y).1, I (g f.y h.y).2, I (g f.s h.s).1, I (g f.s h.s).2, I f.d.1, I f.d.2], false⟩), (4, ⟨fourC h, false⟩), (6, ⟨[I 0, I 0, I 0, I 0, I 0, I 0, I 0, I 0], false⟩)], rw := [], log := [], stp := false })
    (Wk.le (.cons rfl (.refl _) (.cons rfl (.refl _) (.cons rfl (.refl _) (.cons rfl (.refl _) (.cons rfl (VLe.i rfl) .nil))))) (.cons rfl (LLe.refl _) (.cons rfl (LLe.refl _) (.cons rfl (LLe.refl _) .nil))) .nil rfl rfl) ?_
  refine Tr.seqR rfl (by simp) (Tr.seq (Tr.condT rfl (Tr.skip (Tr.seq (Tr.block (Tr.seqR rfl (by simp) ?_))))))
  refine Tr.drawK (TraceK.run rfl (by simp) (TraceK.callv rfl rfl (hg f.d h.d) (TraceK.run rfl (by simp) (.done ⟨by kernel_rfl, by kernel_rfl, ?_⟩))))
  refine Tr.regR rfl (by simp) (TrN.succ ?_)
  refine Tr.seqR rfl (by simp) (Tr.seq (Tr.condF rfl (Tr.exit ?_)))
  exact Tr.seqR rfl (by simp) (Tr.retQ rfl rfl rfl trivial)

def ofF (p : Int × Int) : Fr := ⟨(p.1, p.1), (p.2, p.2), (w (p.1 + p.2), w (p.1 + p.2)), (w (p.1 - p.2), w (p.1 - p.2))⟩

theorem c_ofP (p : Int × Int) : C Tryz.prog F.region_of [eB p] (.agg (fourC (ofF p))) := by
  refine C_of mixed chk.region_of (by simp) fun S ok => ?_
  refine Tr.seqR rfl (by simp) (Tr.seqR rfl (by simp) (Tr.seq (Tr.seqR rfl (by simp) (Tr.block ?_))))
  refine Tr.rounds 5 (TrN.succ ?_)
  refine Tr.weak (s' := { env := [(2, .ptr 2 0), (3, .ptr 3 0), (20, .agg [I p.1, I p.2, I (w (p.1 + p.2)), I (w (p.1 - p.2))]), (21, I 0)], bx := [(2, ⟨[I 0, I 0, I 0, I 0, I 0, I 0, I 0, I 0], false⟩), (3, ⟨[I 0, I 0, I 0, I 0, I 0, I 0, I 0, I 0], false⟩)], rw := [], log := [], stp := false })
    (Wk.le (.cons rfl (.refl _) (.cons rfl (.refl _) (.cons rfl (.refl _) (.cons rfl (VLe.i rfl) .nil)))) (.cons rfl (LLe.refl _) (.cons rfl (LLe.refl _) .nil)) .nil rfl rfl) ?_
  refine Tr.seqR rfl (by simp) (Tr.seq (Tr.condT rfl (Tr.skip (Tr.seq (Tr.block (Tr.seqR rfl (by simp) (Tr.regR rfl (by simp) (Tr.regR rfl (by simp) (TrN.succ ?_)))))))))
  refine Tr.weak (s' := { env := [(2, .ptr 2 0), (3, .ptr 3 0), (20, .agg [I p.1, I p.2, I (w (p.1 + p.2)), I (w (p.1 - p.2))]), (21, I 1)], bx := [(2, ⟨[I 0, I 0, I 0, I 0, I 0, I 0, I 0, I 0], false⟩), (3, ⟨[I (p.1), I (p.1), I 0, I 0, I 0, I 0, I 0, I 0], false⟩)], rw := [], log := [], stp := false })
    (Wk.le (.cons rfl (.refl _) (.cons rfl (.refl _) (.cons rfl (.refl _) (.cons rfl (VLe.i rfl) .nil)))) (.cons rfl (LLe.refl _) (.cons rfl (LLe.refl _) .nil)) .nil rfl rfl) ?_
  refine Tr.seqR rfl (by simp) (Tr.seq (Tr.condT rfl (Tr.skip (Tr.seq (Tr.block (Tr.seqR rfl (by simp) (Tr.regR rfl (by simp) (Tr.regR rfl (by simp) (TrN.succ ?_)))))))))
  refine Tr.weak (s' := { env := [(2, .ptr 2 0), (3, .ptr 3 0), (20, .agg [I p.1, I p.2, I (w (p.1 + p.2)), I (w (p.1 - p.2))]), (21, I 2)], bx := [(2, ⟨[I 0, I 0, I 0, I 0, I 0, I 0, I 0, I 0], false⟩), (3, ⟨[I (p.1), I (p.1), I (p.2), I (p.2), I 0, I 0, I 0, I 0], false⟩)], rw := [], log := [], stp := false })
    (Wk.le (.cons rfl (.refl _) (.cons rfl (.refl _) (.cons rfl (.refl _) (.cons rfl (VLe.i rfl) .nil)))) (.cons rfl (LLe.refl _) (.cons rfl (LLe.refl _) .nil)) .nil rfl rfl) ?_
  refine Tr.seqR rfl (by simp) (Tr.seq (Tr.condT rfl (Tr.skip (Tr.seq (Tr.block (Tr.seqR rfl (by simp) (Tr.regR rfl (by simp) (Tr.regR rfl (by simp) (TrN.succ ?_)))))))))
  refine Tr.weak (s' := { env := [(2, .ptr 2 0), (3, .ptr 3 0), (20, .agg [I p.1, I p.2, I (w (p.1 + p.2)), I (w (p.1 - p.2))]), (21, I 3)], bx := [(2, ⟨[I 0, I 0, I 0, I 0, I 0, I 0, I 0, I 0], false⟩), (3, ⟨[I (p.1), I (p.1), I (p.2), I (p.2), I (w (p.1 + p.2)), I (w (p.1 + p.2)), I 0, I 0], false⟩)], rw := [], log := [], stp := false })
    (Wk.le (.cons rfl (.refl _) (.cons rfl (.refl _) (.cons rfl (.refl _) (.cons rfl (VLe.i rfl) .nil)))) (.cons rfl (LLe.refl _) (.cons rfl (LLe.refl _) .nil)) .nil rfl rfl) ?_
  refine Tr.seqR rfl (by simp) (Tr.seq (Tr.condT rfl (Tr.skip (Tr.seq (Tr.block (Tr.seqR rfl (by simp) (Tr.regR rfl (by simp) (Tr.regR rfl (by simp) (TrN.succ ?_)))))))))
  refine Tr.seqR rfl (by simp) (Tr.seq (Tr.condF rfl (Tr.exit ?_)))
  exact Tr.seqR rfl (by simp) (Tr.retQ rfl rfl rfl trivial)

/-- A number, brought into the range. -/
def intoL (l n : Int) : Int := max (-l) (min n l)

theorem c_into {l : Int} (n : Int) (hl : 0 ≤ l ∧ l ≤ 65536) : C Tryz.prog F.region_limit_into [I l, I n] (I (intoL l n)) := by
  refine C_of mixed chk.region_limit_into (by simp) fun S ok => ?_
  refine Tr.seqR rfl (by simp) (Tr.seqR rfl (by simp) (Tr.retQ rfl rfl ?_ trivial))
  have e : IntKind.wrap .i64 (0 - l) = -l := by rw [w64 (by omega) (by omega)]; omega
  simp only [packR, intoL, ← ifMin, ← ifMax, ← e]
  rfl

theorem c_fits {l : Int} {b : Int × Int} (hl : 0 ≤ l ∧ l ≤ 65536) (h1 : -l ≤ b.1) (h2 : b.1 ≤ b.2) (h3 : b.2 ≤ l) : C Tryz.prog F.region_limit_fits [I l, eB b] (.bool true) := by
  refine C_of mixed chk.region_limit_fits (by simp) fun S ok => ?_
  have e : IntKind.wrap .i64 (0 - l) = -l := by rw [w64 (by omega) (by omega)]; omega
  refine Tr.seqR rfl (by simp) (Tr.seqR rfl (by simp) (Tr.retQ rfl rfl ?_ trivial))
  rw [Int.zero_sub] at e
  simp [packR, e, h1, h2, h3]

def inPlane (p : Int × Int) : Prop := (-32768 ≤ p.1 ∧ p.1 ≤ 32768) ∧ -32768 ≤ p.2 ∧ p.2 ≤ 32768

theorem into_self {l n : Int} (h : -l ≤ n ∧ n ≤ l) : intoL l n = n := by unfold intoL; omega

theorem c_CheckPoint {p : Int × Int} (h : inPlane p) : C Tryz.prog F.region_CheckPoint [eB p] (I 0) := by
  refine C_of mixed chk.region_CheckPoint (by simp) fun S ok => ?_
  have k1 := c_into (l := 32768) p.1 (by omega)
  have k2 := c_into (l := 32768) p.2 (by omega)
  rw [into_self (by have := h.1; omega)] at k1
  rw [into_self (by have := h.2; omega)] at k2
  refine Tr.seqR rfl (by simp) (Tr.seq (Tr.seqR rfl (by simp) (Tr.block ?_)))
  refine Tr.rounds 3 (TrN.succ ?_)
  refine Tr.seqR rfl (by simp) (Tr.seq (Tr.condT rfl (Tr.skip (Tr.seq (Tr.block (Tr.seqR rfl (by simp) ?_))))))
  refine Tr.seqC rfl (by simp) (Steps.call rfl rfl k1 (Steps.fin rfl (by simp) (Tr.cond rfl rfl (fun h => ?_) (fun _ => Tr.skip (Tr.regR rfl (by simp) (TrN.succ ?_))))))
  · simp at h
  refine Tr.seqR rfl (by simp) (Tr.seq (Tr.condT rfl (Tr.skip (Tr.seq (Tr.block (Tr.seqR rfl (by simp) ?_))))))
  refine Tr.seqC rfl (by simp) (Steps.call rfl rfl k2 (Steps.fin rfl (by simp) (Tr.cond rfl rfl (fun h => ?_) (fun _ => Tr.skip (Tr.regR rfl (by simp) (TrN.succ ?_))))))
  · simp at h
  refine Tr.seqR rfl (by simp) (Tr.seq (Tr.condF rfl (Tr.exit ?_)))
  exact Tr.seqR rfl (by simp) (Tr.retX rfl rfl rfl rfl trivial)

def fitB (l : Int) (b : Int × Int) : Prop := -l ≤ b.1 ∧ b.1 ≤ b.2 ∧ b.2 ≤ l
def fitF (f : Fr) : Prop := (fitB 32768 f.x ∧ fitB 32768 f.y) ∧ fitB 65536 f.s ∧ fitB 65536 f.d

theorem c_CheckR {f : Fr} (h : fitF f) : C Tryz.prog F.region_Check [.agg (fourC f)] (I 0) := by
  refine C_of mixed chk.region_Check (by simp) fun S ok => ?_
  obtain ⟨⟨⟨x1, x2, x3⟩, y1, y2, y3⟩, ⟨s1, s2, s3⟩, d1, d2, d3⟩ := h
  refine Tr.seqR rfl (by simp) (Tr.seqR rfl (by simp) (Tr.seq (Tr.seqC rfl (by simp) (Steps.call rfl rfl (c_bounds f) (Steps.fin rfl (by simp) (Tr.block ?_))))))
  refine Tr.rounds 5 (TrN.succ ?_)
  refine Tr.weak (s' := { env := [(3, .ptr 3 0), (12, .agg (fourC f)), (13, I 0)], bx := [(3, ⟨[.func (.func F.region_limit_fits) [I 32768] [], .func (.func F.region_limit_fits) [I 32768] [], .func (.func F.region_limit_fits) [I 65536] [], .func (.func F.region_limit_fits) [I 65536] []], false⟩)], rw := [], log := [], stp := false })
    (Wk.le (.cons rfl (.refl _) (.cons rfl (.refl _) (.cons rfl (VLe.i rfl) .nil))) (.cons rfl (LLe.refl _) .nil) .nil rfl rfl) ?_
  refine Tr.seqR rfl (by simp) (Tr.seq (Tr.condT rfl (Tr.skip (Tr.seq (Tr.block (Tr.seqR rfl (by simp) (Tr.seq ?_)))))))
  refine Tr.drawK (TraceK.run rfl (by simp) (TraceK.callv rfl rfl (c_fits (l := 32768) (b := f.x) (by omega) x1 x2 x3) (TraceK.run rfl (by simp) (.done ⟨by kernel_rfl, by kernel_rfl, ?_⟩))))
  refine Tr.condF rfl (Tr.skip (Tr.regR rfl (by simp) (TrN.succ ?_)))
  refine Tr.weak (s' := { env := [(3, .ptr 3 0), (12, .agg (fourC f)), (13, I 1)], bx := [(3, ⟨[.func (.func F.region_limit_fits) [I 32768] [], .func (.func F.region_limit_fits) [I 32768] [], .func (.func F.region_limit_fits) [I 65536] [], .func (.func F.region_limit_fits) [I 65536] []], false⟩)], rw := [], log := [], stp := false })
    (Wk.le (.cons rfl (.refl _) (.cons rfl (.refl _) (.cons rfl (VLe.i rfl) .nil))) (.cons rfl (LLe.refl _) .nil) .nil rfl rfl) ?_
  refine Tr.seqR rfl (by simp) (Tr.seq (Tr.condT rfl (Tr.skip (Tr.seq (Tr.block (Tr.seqR rfl (by simp) (Tr.seq ?_)))))))
  refine Tr.drawK (TraceK.run rfl (by simp) (TraceK.callv rfl rfl (c_fits (l := 32768) (b := f.y) (by omega) y1 y2 y3) (TraceK.run rfl (by simp) (.done ⟨by kernel_rfl, by kernel_rfl, ?_⟩))))
  refine Tr.condF rfl (Tr.skip (Tr.regR rfl (by simp) (TrN.succ ?_)))
  refine Tr.weak (s' := { env := [(3, .ptr 3 0), (12, .agg (fourC f)), (13, I 2)], bx := [(3, ⟨[.func (.func F.region_limit_fits) [I 32768] [], .func (.func F.region_limit_fits) [I 32768] [], .func (.func F.region_limit_fits) [I 65536] [], .func (.func F.region_limit_fits) [I 65536] []], false⟩)], rw := [], log := [], stp := false })
    (Wk.le (.cons rfl (.refl _) (.cons rfl (.refl _) (.cons rfl (VLe.i rfl) .nil))) (.cons rfl (LLe.refl _) .nil) .nil rfl rfl) ?_
  refine Tr.seqR rfl (by simp) (Tr.seq (Tr.condT rfl (Tr.skip (Tr.seq (Tr.block (Tr.seqR rfl (by simp) (Tr.seq ?_)))))))
  refine Tr.drawK (TraceK.run rfl (by simp) (TraceK.callv rfl rfl (c_fits (l := 65536) (b := f.s) (by omega) s1 s2 s3) (TraceK.run rfl (by simp) (.done ⟨by kernel_rfl, by kernel_rfl, ?_⟩))))
  refine Tr.condF rfl (Tr.skip (Tr.regR rfl (by simp) (TrN.succ ?_)))
  refine Tr.weak (s' := { env := [(3, .ptr 3 0), (12, .agg (fourC f)), (13, I 3)], bx := [(3, ⟨[.func (.func F.region_limit_fits) [I 32768] [], .func (.func F.region_limit_fits) [I 32768] [], .func (.func F.region_limit_fits) [I 65536] [], .func (.func F.region_limit_fits) [I 65536] []], false⟩)], rw := [], log := [], stp := false })
    (Wk.le (.cons rfl (.refl _) (.cons rfl (.refl _) (.cons rfl (VLe.i rfl) .nil))) (.cons rfl (LLe.refl _) .nil) .nil rfl rfl) ?_
  refine Tr.seqR rfl (by simp) (Tr.seq (Tr.condT rfl (Tr.skip (Tr.seq (Tr.block (Tr.seqR rfl (by simp) (Tr.seq ?_)))))))
  refine Tr.drawK (TraceK.run rfl (by simp) (TraceK.callv rfl rfl (c_fits (l := 65536) (b := f.d) (by omega) d1 d2 d3) (TraceK.run rfl (by simp) (.done ⟨by kernel_rfl, by kernel_rfl, ?_⟩))))
  refine Tr.condF rfl (Tr.skip (Tr.regR rfl (by simp) (TrN.succ ?_)))
  refine Tr.seqR rfl (by simp) (Tr.seq (Tr.condF rfl (Tr.exit ?_)))
  exact Tr.seqR rfl (by simp) (Tr.retX rfl rfl rfl rfl trivial)

theorem c_done (f : Fr) : C Tryz.prog F.region_done [.agg (fourC f), I 0] (.tuple [.agg (fourC f), I 0]) := by
  refine C_of mixed chk.region_done (by simp) fun S ok => ?_
  refine Tr.seqR rfl (by simp) (Tr.seq (Tr.seqR rfl (by simp) (Tr.condF rfl (Tr.skip ?_))))
  refine Tr.seqC rfl (by simp) (Steps.call rfl rfl (c_region f) (Steps.fin rfl (by simp) (Tr.retX rfl rfl rfl rfl trivial)))

end Go.Proofs.YtdejdblopmfjfaaGreatDoor


/-! Contracts: rows of a region. -/
set_option linter.unusedVariables false
set_option linter.unusedSimpArgs false
set_option maxRecDepth 20000
set_option maxHeartbeats 2000000
namespace Go.Proofs.YtdejdblopmfjfaaGreatDoor
open Go.Am
attribute [local simp] cells scalar mkv splice under2 under dem dem1 eB fourC
def lowY (f : Fr) (x : Int) : Int := max (max f.y.1 (f.s.1 - x)) (x - f.d.2)
def highY (f : Fr) (x : Int) : Int := min (min f.y.2 (f.s.2 - x)) (x - f.d.1)

def rowsN (f : Fr) : Nat → Int → List (Int × Int × Int)
  | 0, _ => []
  | n + 1, x => if lowY f x ≤ highY f x then (x, lowY f x, highY f x) :: rowsN f n (x + 1) else rowsN f n (x + 1)
def rowsL (f : Fr) : List (Int × Int × Int) := rowsN f (f.x.2 + 1 - f.x.1).toNat f.x.1
def eRow (r : Int × Int × Int) : List V := [.agg [I r.1, I r.2.1, I r.2.2]]

/-- Bounds that are not great. -/
def midF (f : Fr) : Prop := ((-1000000 ≤ f.x.1 ∧ f.x.1 ≤ 1000000) ∧ -1000000 ≤ f.x.2 ∧ f.x.2 ≤ 1000000) ∧ ((-1000000 ≤ f.y.1 ∧ f.y.1 ≤ 1000000) ∧ -1000000 ≤ f.y.2 ∧ f.y.2 ≤ 1000000) ∧ ((-1000000 ≤ f.s.1 ∧ f.s.1 ≤ 1000000) ∧ -1000000 ≤ f.s.2 ∧ f.s.2 ≤ 1000000) ∧ (-1000000 ≤ f.d.1 ∧ f.d.1 ≤ 1000000) ∧ -1000000 ≤ f.d.2 ∧ f.d.2 ≤ 1000000

theorem c_rows (f : Fr) : C Tryz.prog F.region_four_rows [.agg (fourC f)] (.func (.func F.region_four_rows_1) [] [.vptr (fourC f) 0]) := by
  refine C_of mixed chk.region_four_rows (by simp) fun S ok => ?_
  exact Tr.seqR rfl (by simp) (Tr.seqR rfl (by simp) (Tr.retQ rfl rfl rfl trivial))

theorem c_ends (f : Fr) : C Tryz.prog F.region_four_ends [.agg (fourC f)] (.func (.func F.region_four_ends_1) [] [.vptr (fourC f) 0]) := by
  refine C_of mixed chk.region_four_ends (by simp) fun S ok => ?_
  exact Tr.seqR rfl (by simp) (Tr.seqR rfl (by simp) (Tr.retQ rfl rfl rfl trivial))

theorem i_rows {f : Fr} (hf : midF f) : Iter Tryz.prog F.region_four_rows_1 [.vptr (fourC f) 0] ((rowsL f).map eRow) := by
  refine Iter_of mixed chk.region_four_rows_1 (by simp) fun S ok => ?_
  obtain ⟨⟨⟨hx1, hx2⟩, hx3, hx4⟩, ⟨⟨hy1, hy2⟩, hy3, hy4⟩, ⟨⟨hs1, hs2⟩, hs3, hs4⟩, ⟨hd1, hd2⟩, hd3, hd4⟩ := hf
  refine Tr.seqR rfl (by simp) (Tr.block ?_)
  refine Tr.loop (α := Nat × List (List V)) (fun p s => (p.1 ≤ (f.x.2 + 1 - f.x.1).toNat ∧ p.2 ++ (rowsN f ((f.x.2 + 1 - f.x.1).toNat - p.1) (f.x.1 + p.1)).map eRow = (rowsL f).map eRow) ∧
      s = { env := [(0, .yld), (1, .vptr (fourC f) 0), (3, I (f.x.1 + p.1))], bx := [], rw := [], log := p.2, stp := false }) (fun p => (f.x.2 + 1 - f.x.1).toNat - p.1) (0, [])
    (Wk.le (.cons rfl (.refl _) (.cons rfl (.refl _) (.cons rfl (VLe.i (by simp)) .nil))) .nil .nil rfl rfl) ⟨⟨by simp, by simp [rowsL]⟩, rfl⟩ ?_
  rintro ⟨k, lg⟩ s ⟨⟨hk, hl⟩, rfl⟩
  simp only at hk hl
  refine Tr.seq (Tr.seqR rfl (by simp) (Tr.cond rfl rfl (fun h1 => Tr.skip ?_) (fun h1 => Tr.exit ?_)))
  · have h1 : f.x.1 + (k : Int) ≤ f.x.2 := by simpa using h1
    obtain ⟨x, hx⟩ : ∃ x, f.x.1 + (k : Int) = x := ⟨_, rfl⟩
    obtain ⟨n, hn⟩ : ∃ n, (f.x.2 + 1 - f.x.1).toNat - k = n + 1 := ⟨(f.x.2 + 1 - f.x.1).toNat - k - 1, by omega⟩
    have hn2 : (f.x.2 + 1 - f.x.1).toNat - (k + 1) = n := by omega
    have hx' : f.x.1 + ((k + 1 : Nat) : Int) = x + 1 := by omega
    rw [hn, hx] at hl
    rw [hx] at h1
    rw [hx]
    refine Tr.seq (Tr.block (Tr.seqR rfl (by simp) ?_))
    refine Tr.weak (s' := { env := [(0, .yld), (1, .vptr (fourC f) 0), (3, I x), (4, .ptr 4 0)], bx := [(4, ⟨[I x, I (lowY f x), I (highY f x)], false⟩)], rw := [], log := lg, stp := false })
      (Wk.le (.cons rfl (.refl _) (.cons rfl (.refl _) (.cons rfl (.refl _) (.cons rfl (.refl _) .nil)))) (.cons rfl (.cons (.refl _) (.cons (VLe.i ?_) (.cons (VLe.i ?_) .nil))) .nil) .nil rfl rfl) ?_
    · simp (disch := omega) only [cond_true, cond_false, ite_max, ite_min, w64, lowY]
    · simp (disch := omega) only [cond_true, cond_false, ite_max, ite_min, w64, highY]
    refine Tr.seqC rfl (by simp) ?_
    by_cases hh : lowY f x ≤ highY f x
    · have hp : lg ++ [eRow (x, lowY f x, highY f x)] ++ (rowsN f n (x + 1)).map eRow = (rowsL f).map eRow := by
        rw [← hl, rowsN, if_pos hh]; simp
      refine Steps.gyield (want := true) rfl rfl ?_ rfl ?_ rfl ⟨_, hp⟩ rfl (fun b => ?_)
      · show some (decide (lowY f x ≤ highY f x) == true) = some true
        simp [hh]
      · simp [hh]
      refine Steps.fin rfl (by simp) ?_
      refine Tr.cond rfl rfl (fun h2 => ?_) (fun h2 => ?_)
      · refine Tr.ret ⟨.inl ?_, [], [], [], rfl, rfl, rfl⟩
        have h2 : (bif decide (lowY f x ≤ highY f x) then !b else false) = true := h2
        have hb : b = false := by simpa [hh] using h2
        subst hb; rfl
      · have h2 : (bif decide (lowY f x ≤ highY f x) then !b else false) = false := h2
        have hb : b = true := by simpa [hh] using h2
        subst hb
        refine Tr.skip (Tr.regR rfl (by simp) ?_)
        refine ⟨(k + 1, lg ++ [eRow (x, lowY f x, highY f x)]), _, Wk.le (.cons rfl (.refl _) (.cons rfl (.refl _) (.cons rfl (VLe.i ?_) .nil))) .nil .nil rfl rfl, ⟨⟨by simp; omega, ?_⟩, rfl⟩, by simp; omega⟩
        · show IntKind.wrap .i64 (x + 1) = f.x.1 + ((k + 1 : Nat) : Int)
          rw [w64 (by omega) (by omega)]; exact hx'.symm
        · simp only; rw [hn2, hx']; exact hp
    · have hl2 : lg ++ (rowsN f n (x + 1)).map eRow = (rowsL f).map eRow := by
        rw [← hl, rowsN, if_neg hh]
      refine Steps.off (want := true) (.bool true) rfl rfl ?_ ?_
      · show some (decide (lowY f x ≤ highY f x) == true) = some false
        simp [hh]
      refine Steps.fin rfl (by simp; omega) ?_
      refine Tr.cond rfl rfl (fun h2 => ?_) (fun h2 => ?_)
      · have h2 : (bif decide (lowY f x ≤ highY f x) then !true else false) = true := h2
        simp [hh] at h2
      · refine Tr.skip (Tr.regR rfl (by simp) ?_)
        refine ⟨(k + 1, lg), _, Wk.le (.cons rfl (.refl _) (.cons rfl (.refl _) (.cons rfl (VLe.i ?_) .nil))) .nil .nil rfl rfl, ⟨⟨by simp; omega, ?_⟩, rfl⟩, by simp; omega⟩
        · show IntKind.wrap .i64 (x + 1) = f.x.1 + ((k + 1 : Nat) : Int)
          rw [w64 (by omega) (by omega)]; exact hx'.symm
        · simp only; rw [hn2, hx']; exact hl2
  · have h1 : ¬ f.x.1 + (k : Int) ≤ f.x.2 := by simpa using h1
    refine ⟨.inr ?_, [], [], [], rfl, rfl, rfl⟩
    rw [show (f.x.2 + 1 - f.x.1).toNat - k = 0 by omega] at hl
    have e : lg = (rowsL f).map eRow := by simpa [rowsN] using hl
    exact e

/-! ### The ends of rows -/
def endsR (r : Int × Int × Int) : List (Int × Int) := if r.2.1 = r.2.2 then [(r.1, r.2.1)] else [(r.1, r.2.1), (r.1, r.2.2)]
def endsL (f : Fr) : List (Int × Int) := (rowsL f).flatMap endsR
def eEnd (p : Int × Int) : List V := [eB p]

theorem plain_fr (f : Fr) : Plain [.vptr (fourC f) 0] := ⟨fun b => rfl, fun B R => rfl⟩

theorem ends_take {L : List (Int × Int × Int)} {m : Nat} {r : Int × Int × Int} (h : L[m]? = some r) : ∃ T, L.flatMap endsR = (L.take m).flatMap endsR ++ (endsR r ++ T) ∧ (L.take (m + 1)).flatMap endsR = (L.take m).flatMap endsR ++ endsR r := by
  have hm := (List.getElem?_eq_some_iff.1 h).1
  have hr : L[m] = r := (List.getElem?_eq_some_iff.1 h).2
  refine ⟨(L.drop (m + 1)).flatMap endsR, ?_, ?_⟩
  · have e : L = L.take m ++ (r :: L.drop (m + 1)) := by
      rw [← hr, ← List.drop_eq_getElem_cons hm, List.take_append_drop]
    have e2 := congrArg (List.flatMap endsR) e
    rw [List.flatMap_append, List.flatMap_cons] at e2
    exact e2
  · rw [List.take_add_one, h, List.flatMap_append]; simp

theorem i_ends {f : Fr} (hf : midF f) : Iter Tryz.prog F.region_four_ends_1 [.vptr (fourC f) 0] ((endsL f).map eEnd) := by
  refine Iter_of mixed chk.region_four_ends_1 (by simp) fun S ok => ?_
  refine Tr.seqR rfl (by simp) ?_
  refine Tr.seqC rfl (by simp) (Steps.call rfl rfl (c_rows f) (Steps.fin rfl (by simp) (Tr.block ?_)))
  refine Tr.weak (s' := { env := [(7, .func (.func F.region_four_rows_1) [] [.vptr (fourC f) 0]), (2, .ptr 2 0)], bx := [(2, ⟨[.yld], false⟩)], rw := [], log := [], stp := false })
    (Wk.le (.cons rfl (.refl _) (.cons rfl (.refl _) .nil)) (.cons rfl (LLe.refl _) .nil) .nil rfl rfl) ?_
  refine Tr.range rfl rfl (i_rows hf) rfl rfl rfl (by intro x hx; obtain ⟨b, _, rfl⟩ := List.mem_map.1 hx; rfl)
    (fun pre t => ∃ m, m ≤ (rowsL f).length ∧ pre = ((rowsL f).take m).map eRow ∧ t.bx = [(2, ⟨[.yld], false⟩)] ∧ t.rw = [] ∧ t.log = (((rowsL f).take m).flatMap endsR).map eEnd)
    (fun e t => e = .ret ∧ t.stp = true) ⟨0, by omega, rfl, rfl, rfl, rfl⟩ ?_ ?_ ?_
  · rintro a0 L0 rc0 h0 S1 S2 ok1 ok2 pre q t lp hpre ⟨m, hm, rfl, hbx, hrw, hlog⟩ henv hstp
    obtain ⟨env, bx, rw, log, stp⟩ := t
    simp only at hbx hrw hlog henv hstp
    subst hbx hrw hlog henv hstp
    have hmx : m < (rowsL f).length ∧ ∃ b, (rowsL f)[m]? = some b ∧ q = eRow b := by
      have h1 : (((rowsL f).take m).map eRow).length = m := by simp; omega
      have h2 := hpre.length_le
      simp at h2
      have hml : m < (rowsL f).length := by omega
      refine ⟨hml, _, List.getElem?_eq_getElem hml, ?_⟩
      have h3 := List.IsPrefix.getElem hpre (i := m) (by simp; omega)
      simp only [List.getElem_map] at h3
      rw [List.getElem_append_right (by omega)] at h3
      simpa using h3
    obtain ⟨hml, ⟨x, a, b⟩, hb, rfl⟩ := hmx
    obtain ⟨T, eT, eN⟩ := ends_take hb
    obtain ⟨lg, hlg⟩ : ∃ lg, (((rowsL f).take m).flatMap endsR).map eEnd = lg := ⟨_, rfl⟩
    have hp1 : List.IsPrefix (lg ++ [eEnd (x, a)]) ((endsL f).map eEnd) := by
      refine ⟨((endsR (x, a, b)).drop 1 ++ T).map eEnd, ?_⟩
      rw [← hlg]; unfold endsL; rw [eT]
      unfold endsR; split <;> simp
    rw [hlg]
    refine Tr.regR rfl (by simp) ?_
    refine Tr.block (Tr.seqD rfl (by simp) (by kernel_rfl) ?_)
    refine Tr.weak (s' := { env := [(2, .ptr 2 0), (4, .ptr 4 0), (5, .ptr 5 0)], bx := [(2, ⟨[.yld], false⟩), (4, ⟨[I x, I a], false⟩), (5, ⟨[I x, I b], false⟩)], rw := [], log := lg, stp := false })
      (Wk.le (.cons rfl (.refl _) (.cons rfl (.refl _) (.cons rfl (.refl _) .nil))) (.cons rfl (LLe.refl _) (.cons rfl (LLe.refl _) (.cons rfl (LLe.refl _) .nil))) .nil rfl rfl) ?_
    refine Tr.seqC rfl (by simp) ?_
    refine Steps.yield rfl (by simp) rfl hp1 rfl (fun c => ?_)
    cases c with
    | false =>
      refine Steps.run rfl (by simp) ?_
      refine Steps.off (want := true) (.bool true) rfl rfl ?_ (Steps.fin rfl (by simp) (Tr.condT rfl ?_))
      · rfl
      exact Tr.ret ⟨{ env := [], bx := [(2, ⟨[.yld], false⟩)], rw := [], log := _, stp := true }, Wk.le .nil (.cons rfl (LLe.refl _) .nil) .nil rfl rfl, rfl, rfl⟩
    | true =>
      refine Steps.run rfl (by simp) ?_
      by_cases hab : a = b
      · subst hab
        refine Steps.off (want := true) (.bool true) rfl rfl ?_ ?_
        · show some (((!true) == false) && ((!(x == x && (a == a && true))) == true)) = some false
          simp
        refine Steps.runN 1 rfl (by simp) (Steps.gpick rfl rfl rfl (fun _ => rfl) rfl rfl (by simp) (Steps.fin rfl (by simp) ?_))
        refine Tr.cond rfl rfl (fun h2 => ?_) (fun h2 => ?_)
        · have h2 : (bif (!true) then true else (bif (!(x == x && (a == a && true))) then !true else false)) = true := h2
          simp at h2
        refine Tr.skip ⟨{ env := [], bx := [(2, ⟨[.yld], false⟩)], rw := [], log := lg ++ [eEnd (x, a)], stp := false }, Wk.le .nil (.cons rfl (LLe.refl _) .nil) .nil rfl rfl, ⟨m + 1, by omega, ?_, rfl, rfl, ?_⟩, rfl⟩
        · rw [List.take_add_one, hb]; simp
        · rw [eN, List.map_append, hlg]
          unfold endsR; simp
      · have hp2 : List.IsPrefix (lg ++ [eEnd (x, a)] ++ [eEnd (x, b)]) ((endsL f).map eEnd) := by
          refine ⟨T.map eEnd, ?_⟩
          rw [← hlg]; unfold endsL; rw [eT]
          unfold endsR; rw [if_neg hab]; simp
        refine Steps.gyield (want := true) rfl rfl ?_ rfl ?_ rfl hp2 rfl (fun c => ?_)
        · show some (((!true) == false) && ((!(x == x && (a == b && true))) == true)) = some true
          simp [hab]
        · simp [hab]
        refine Steps.fin rfl (by simp [hab]) ?_
        refine Tr.cond rfl rfl (fun h2 => ?_) (fun h2 => ?_)
        · have h2 : (bif (!true) then true else (bif (!(x == x && (a == b && true))) then !c else false)) = true := h2
          have hc : c = false := by simpa [hab] using h2
          subst hc
          exact Tr.ret ⟨{ env := [], bx := [(2, ⟨[.yld], false⟩)], rw := [], log := _, stp := true }, Wk.le .nil (.cons rfl (LLe.refl _) .nil) .nil rfl rfl, rfl, rfl⟩
        · have h2 : (bif (!true) then true else (bif (!(x == x && (a == b && true))) then !c else false)) = false := h2
          have hc : c = true := by simpa [hab] using h2
          subst hc
          refine Tr.skip ⟨{ env := [], bx := [(2, ⟨[.yld], false⟩)], rw := [], log := lg ++ [eEnd (x, a)] ++ [eEnd (x, b)], stp := false }, Wk.le .nil (.cons rfl (LLe.refl _) .nil) .nil rfl rfl, ⟨m + 1, by omega, ?_, rfl, rfl, ?_⟩, rfl⟩
          · rw [List.take_add_one, hb]; simp
          · rw [eN, List.map_append, hlg]
            unfold endsR; rw [if_neg hab]; simp
  · rintro ⟨env, bx, rw, log, stp⟩ henv hstp ⟨m, hm, hpre, hbx, hrw, hlog⟩
    simp only at hbx hrw hlog henv hstp
    subst hbx hrw hlog henv hstp
    have hml : m = (rowsL f).length := by
      have := congrArg List.length hpre
      simp at this; omega
    subst hml
    refine ⟨.inr ?_, [], [], [], rfl, rfl, rfl⟩
    simp only [List.take_length]
    rfl
  · rintro e t _ ⟨rfl, h⟩
    exact ⟨.inl h, [], [], [], rfl, rfl, rfl⟩

end Go.Proofs.YtdejdblopmfjfaaGreatDoor


/-! Contracts: the hull of points. -/
set_option linter.unusedVariables false
set_option linter.unusedSimpArgs false
set_option maxRecDepth 20000
set_option maxHeartbeats 2000000
namespace Go.Proofs.YtdejdblopmfjfaaGreatDoor
open Go.Am
attribute [local simp] cells scalar mkv splice under2 under dem dem1 eB fourC
def hstep (a : Fr × Bool) (p : Int × Int) : Fr × Bool := (comb spanB (if a.2 then a.1 else ofF p) (ofF p), true)
def hullS (l : List (Int × Int)) : Fr × Bool := l.foldl hstep (⟨(0, 0), (0, 0), (0, 0), (0, 0)⟩, false)

theorem hull_take {l : List (Int × Int)} {m : Nat} {p : Int × Int} (h : l[m]? = some p) : hullS (l.take (m + 1)) = hstep (hullS (l.take m)) p := by
  unfold hullS; rw [List.take_add_one, h, List.foldl_append]; rfl

theorem c_hull {it : FuncId} {us : List V} {l : List (Int × Int)} (hus : Plain us) (hit : Iter Tryz.prog it us (l.map eEnd)) :
    C Tryz.prog F.region_hull [.slice 0 1 [.func (.func it) [] us]] (.tuple [.agg (fourC (hullS l).1), .bool (hullS l).2]) := by
  refine C_of mixed chk.region_hull (by simp) fun S ok => ?_
  refine Tr.seqR rfl (by simp) (Tr.seq (Tr.seqR rfl (by simp) (Tr.block ?_)))
  refine Tr.rounds 2 (TrN.succ ?_)
  refine Tr.seqR rfl (by simp) (Tr.seq (Tr.condT rfl (Tr.skip (Tr.seq (Tr.block (Tr.seqR rfl (by simp) (Tr.seqR rfl (by simp) (Tr.block ?_))))))))
  refine Tr.weak (s' := { env := [(13, .func (.func it) [] us), (2, .ptr 2 0), (3, .ptr 3 0), (7, .slice 0 1 [.func (.func it) [] us]), (8, I 1), (9, I 0)], bx := [(2, ⟨fourC (hullS []).1, false⟩), (3, ⟨[.bool (hullS []).2], false⟩)], rw := [], log := [], stp := false })
    (Wk.le (.cons rfl (.refl _) (.cons rfl (.refl _) (.cons rfl (.refl _) (.cons rfl (.refl _) (.cons rfl (VLe.i rfl) (.cons rfl (.refl _) .nil)))))) (.cons rfl (LLe.refl _) (.cons rfl (LLe.refl _) .nil)) .nil (by simp only [okRefs, List.all_cons, refs_plain hus]; rfl) rfl) ?_
  refine Tr.range rfl (hus.d _) hit rfl (by simp only [List.all_cons, refs_plain hus]; rfl) rfl (by intro x hx; obtain ⟨b, _, rfl⟩ := List.mem_map.1 hx; rfl)
    (fun pre t => ∃ m, m ≤ l.length ∧ pre = (l.take m).map eEnd ∧ t.bx = [(2, ⟨fourC (hullS (l.take m)).1, false⟩), (3, ⟨[.bool (hullS (l.take m)).2], false⟩)] ∧ t.rw = [] ∧ t.log = [])
    (fun _ _ => False) ⟨0, by omega, rfl, rfl, rfl, rfl⟩ ?_ ?_ ?_
  · rintro a0 L0 rc0 h0 S1 S2 ok1 ok2 pre q t lp hpre ⟨m, hm, rfl, hbx, hrw, hlog⟩ henv hstp
    obtain ⟨env, bx, rw, log, stp⟩ := t
    simp only at hbx hrw hlog henv hstp
    subst hbx hrw hlog henv hstp
    have hmx : m < l.length ∧ ∃ b, l[m]? = some b ∧ q = eEnd b := by
      have h1 : ((l.take m).map eEnd).length = m := by simp; omega
      have h2 := hpre.length_le
      simp at h2
      have hml : m < l.length := by omega
      refine ⟨hml, _, List.getElem?_eq_getElem hml, ?_⟩
      have h3 := List.IsPrefix.getElem hpre (i := m) (by simp; omega)
      simp only [List.getElem_map] at h3
      rw [List.getElem_append_right (by omega)] at h3
      simpa using h3
    obtain ⟨hml, p, hb, rfl⟩ := hmx
    have eH := hull_take hb
    obtain ⟨⟨f, b⟩, hH⟩ : ∃ H, hullS (l.take m) = H := ⟨_, rfl⟩
    rw [hH] at eH ⊢
    refine Tr.regR rfl (by simp) ?_
    refine Tr.weak (s' := { env := [(2, .ptr 2 0), (3, .ptr 3 0), (6, .ptr 6 0)], bx := [(2, ⟨fourC f, false⟩), (3, ⟨[.bool b], false⟩), (6, ⟨[I p.1, I p.2], false⟩)], rw := [], log := [], stp := false })
      (Wk.le (.cons rfl (.refl _) (.cons rfl (.refl _) (.cons rfl (.refl _) .nil))) (.cons rfl (LLe.refl _) (.cons rfl (LLe.refl _) (.cons rfl (LLe.refl _) .nil))) .nil rfl rfl) ?_
    refine Tr.block (Tr.meet { env := [(2, .ptr 2 0), (3, .ptr 3 0), (6, .ptr 6 0)], bx := [(2, ⟨fourC (if b then f else ofF p), false⟩), (3, ⟨[.bool true], false⟩), (6, ⟨[I p.1, I p.2], false⟩)], rw := [], log := [], stp := false } ?_ ?_)
    · cases b with
      | true =>
        refine Tr.seqR rfl (by simp) (Tr.condF rfl (Tr.skip ?_))
        exact Wk.le (.cons rfl (.refl _) (.cons rfl (.refl _) (.cons rfl (.refl _) .nil))) (.cons rfl (LLe.refl _) (.cons rfl (LLe.refl _) (.cons rfl (LLe.refl _) .nil))) .nil rfl rfl
      | false =>
        refine Tr.seqR rfl (by simp) (Tr.condT rfl ?_)
        refine Tr.reg (Steps.run rfl (by simp) (Steps.call rfl rfl (c_ofP p) (Steps.fin rfl (by simp) ?_)))
        exact Wk.le (.cons rfl (.refl _) (.cons rfl (.refl _) (.cons rfl (.refl _) .nil))) (.cons rfl (LLe.refl _) (.cons rfl (LLe.refl _) (.cons rfl (LLe.refl _) .nil))) .nil rfl rfl
    refine Tr.drawK (TraceK.run rfl (by simp) (TraceK.call rfl rfl (c_ofP p) (TraceK.call rfl rfl (c_combined c_span (if b then f else ofF p) (ofF p)) (TraceK.run rfl (by simp) (.done ⟨by kernel_rfl, by kernel_rfl, ?_⟩)))))
    refine ⟨{ env := [], bx := [(2, ⟨fourC (hullS (l.take (m + 1))).1, false⟩), (3, ⟨[.bool (hullS (l.take (m + 1))).2], false⟩)], rw := [], log := [], stp := false }, ?_, ⟨m + 1, by omega, ?_, rfl, rfl, rfl⟩, rfl⟩
    · rw [eH]
      exact Wk.le .nil (.cons rfl (LLe.refl _) (.cons rfl (LLe.refl _) .nil)) .nil rfl rfl
    · rw [List.take_add_one, hb]; simp
  · rintro ⟨env, bx, rw, log, stp⟩ henv hstp ⟨m, hm, hpre, hbx, hrw, hlog⟩
    simp only at hbx hrw hlog henv hstp
    subst hbx hrw hlog henv hstp
    have hml : m = l.length := by
      have := congrArg List.length hpre
      simp at this; omega
    subst hml
    rw [List.take_length]
    refine Tr.regR rfl (by simp) (TrN.succ ?_)
    refine Tr.seqR rfl (by simp) (Tr.seq (Tr.condF rfl (Tr.exit ?_)))
    exact Tr.seqD rfl (by simp) (by kernel_rfl) (Tr.retX rfl rfl rfl rfl trivial)
  · intro e t _ h; exact h.elim

theorem c_tight {f : Fr} (hf : midF f) (h : (hullS (endsL f)).2 = true) : C Tryz.prog F.region_four_tight [.agg (fourC f)] (.tuple [.agg (fourC (hullS (endsL f)).1), I 0]) := by
  have kh := c_hull (plain_fr f) (i_ends hf)
  rw [h] at kh
  refine C_of mixed chk.region_four_tight (by simp) fun S ok => ?_
  refine Tr.seqR rfl (by simp) (Tr.seqC rfl (by simp) (Steps.call rfl rfl (c_ends f) (Steps.run rfl (by simp) (Steps.call rfl rfl kh (Steps.fin rfl (by simp) ?_)))))
  refine Tr.seq (Tr.seqR rfl (by simp) (Tr.condF rfl (Tr.skip ?_)))
  exact Tr.seqR rfl (by simp) (Tr.retX rfl rfl rfl rfl trivial)

end Go.Proofs.YtdejdblopmfjfaaGreatDoor


/-! Contracts: grids; the cell of two places. -/
set_option linter.unusedVariables false
set_option linter.unusedSimpArgs false
set_option maxRecDepth 20000
set_option maxHeartbeats 2000000
namespace Go.Proofs.YtdejdblopmfjfaaGreatDoor
open Go.Am
attribute [local simp] cells scalar mkv splice under2 under dem dem1 eB
def planeB (p : Int × Int) : Bool := btw p.1 (-32768) 32768 && btw p.2 (-32768) 32768

theorem into_ne {l n : Int} (h : ¬ (-l ≤ n ∧ n ≤ l)) (hl : 0 ≤ l) : intoL l n ≠ n := by unfold intoL; omega

theorem c_CheckPointF (p : Int × Int) : C Tryz.prog F.region_CheckPoint [eB p] (I (if planeB p then 0 else 10)) := by
  by_cases h : planeB p = true
  · rw [if_pos h]
    simp only [planeB, Bool.and_eq_true, btw_iff] at h
    exact c_CheckPoint (by unfold inPlane; omega)
  rw [if_neg h]
  have h : planeB p = false := by simpa using h
  refine C_of mixed chk.region_CheckPoint (by simp) fun S ok => ?_
  have k1 := c_into (l := 32768) p.1 (by omega)
  have k2 := c_into (l := 32768) p.2 (by omega)
  refine Tr.seqR rfl (by simp) (Tr.seq (Tr.seqR rfl (by simp) (Tr.block ?_)))
  refine Tr.rounds 3 (TrN.succ ?_)
  refine Tr.seqR rfl (by simp) (Tr.seq (Tr.condT rfl (Tr.skip (Tr.seq (Tr.block (Tr.seqR rfl (by simp) ?_))))))
  refine Tr.seqC rfl (by simp) (Steps.call rfl rfl k1 (Steps.fin rfl (by simp) (Tr.cond rfl rfl (fun _ => Tr.seqR rfl (by simp) (Tr.retX rfl rfl rfl rfl trivial)) (fun h1 => Tr.skip (Tr.regR rfl (by simp) (TrN.succ ?_))))))
  refine Tr.seqR rfl (by simp) (Tr.seq (Tr.condT rfl (Tr.skip (Tr.seq (Tr.block (Tr.seqR rfl (by simp) ?_))))))
  refine Tr.seqC rfl (by simp) (Steps.call rfl rfl k2 (Steps.fin rfl (by simp) (Tr.cond rfl rfl (fun _ => Tr.seqR rfl (by simp) (Tr.retX rfl rfl rfl rfl trivial)) (fun h2 => ?_))))
  exfalso
  have h1 : (intoL 32768 p.1 != p.1) = false := h1
  have h2 : (intoL 32768 p.2 != p.2) = false := h2
  simp at h1 h2
  have g1 : -32768 ≤ p.1 ∧ p.1 ≤ 32768 := by
    by_cases g : -32768 ≤ p.1 ∧ p.1 ≤ 32768
    · exact g
    · exact absurd h1 (into_ne g (by omega))
  have g2 : -32768 ≤ p.2 ∧ p.2 ≤ 32768 := by
    by_cases g : -32768 ≤ p.2 ∧ p.2 ≤ 32768
    · exact g
    · exact absurd h2 (into_ne g (by omega))
  have : planeB p = true := by simp only [planeB, Bool.and_eq_true, btw_iff]; omega
  rw [h] at this; cases this

/-! ### Grids -/
structure Gd where
  o : Int × Int
  size : Int
  a : Int
  d : Int
  cls : List (Int × Int)

def gridC (g : Gd) : List V := [I g.o.1, I g.o.2, I g.size, I g.a, I g.d, sB g.cls]
attribute [local simp] gridC sB
def clsOk : Int → List (Int × Int) → Bool
  | _, [] => true
  | last, c :: r => decide (last < c.1) && decide (c.1 ≤ c.2) && decide (c.2 ≤ 17179869184) && clsOk c.2 r

def gridOk (g : Gd) : Bool := planeB g.o && btw g.size 1 1000 && btw g.a 1 16 && btw g.d 1 16 && btw g.cls.length 1 4 && clsOk (-1) g.cls

theorem cls_drop {l : List (Int × Int)} {k : Nat} (h : k < l.length) (last : Int) : clsOk last (l.drop k) = (decide (last < l[k].1) && decide (l[k].1 ≤ l[k].2) && decide (l[k].2 ≤ 17179869184) && clsOk l[k].2 (l.drop (k + 1))) := by
  rw [List.drop_eq_getElem_cons h]; rfl

theorem c_CheckGrid {g : Gd} (hl : g.cls.length ≤ 9223372036854775807) : C Tryz.prog F.bin_CheckGrid [.agg (gridC g)] (I (if gridOk g then 0 else 70)) := by
  refine C_of mixed chk.bin_CheckGrid (by simp) fun S ok => ?_
  refine Tr.seqR rfl (by simp) ?_
  refine Tr.seq (Tr.seqC rfl (by simp) (Steps.call rfl rfl (c_CheckPointF g.o) (Steps.run rfl (by simp) ?_)))
  refine Steps.gcall rfl rfl rfl rfl (by simp) (fun _ => c_within g.size 1 1000) (Steps.run rfl (by simp) ?_)
  refine Steps.gcall rfl rfl rfl rfl (by simp) (fun _ => c_within g.a 1 16) (Steps.run rfl (by simp) ?_)
  refine Steps.gcall rfl rfl rfl rfl (by simp) (fun _ => c_within g.d 1 16) (Steps.run rfl (by simp) ?_)
  refine Steps.gcall rfl rfl rfl rfl (by simp) (fun _ => c_within ((g.cls.map eB).length : Int) 1 4) (Steps.fin rfl (by simp) ?_)
  have hlen : (((g.cls.map eB).length : Int)) = (g.cls.length : Int) := by simp
  refine Tr.cond rfl rfl (fun h1 => ?_) (fun h1 => Tr.skip ?_)
  · refine Tr.seqR rfl (by simp) (Tr.retX rfl rfl rfl ?_ trivial)
    have : gridOk g = false := by
      revert h1
      simp only [gridOk, hlen]
      cases planeB g.o <;> cases btw g.size 1 1000 <;> cases btw g.a 1 16 <;> cases btw g.d 1 16 <;> cases btw (g.cls.length : Int) 1 4 <;> first | (intro _; rfl) | (intro h; cases h)
    rw [this]; rfl
  have hok : gridOk g = clsOk (-1) g.cls := by
    revert h1
    simp only [gridOk, hlen]
    cases planeB g.o <;> cases btw g.size 1 1000 <;> cases btw g.a 1 16 <;> cases btw g.d 1 16 <;> cases btw (g.cls.length : Int) 1 4 <;> first | (intro _; rfl) | (intro h; cases h)
  rw [hok]
  refine Tr.seqR rfl (by simp) (Tr.seq (Tr.seqR rfl (by simp) (Tr.block ?_)))
  refine Tr.loop (α := Nat × Int) (fun p s => (p.1 ≤ g.cls.length ∧ clsOk (-1) g.cls = clsOk p.2 (g.cls.drop p.1)) ∧ s = { env := [(3, I p.2), (36, sB g.cls), (37, I (g.cls.length : Nat)), (38, I (p.1 : Nat))], bx := [], rw := [], log := [], stp := false }) (fun p => g.cls.length - p.1) (0, -1)
    (Wk.le (.cons rfl (.refl _) (.cons rfl (.refl _) (.cons rfl (VLe.i hlen) (.cons rfl (.refl _) .nil)))) .nil .nil rfl rfl) ⟨⟨by simp, by simp⟩, rfl⟩ ?_
  rintro ⟨k, last⟩ s ⟨⟨hk, hf⟩, rfl⟩
  simp only at hk hf
  refine Tr.seqR rfl (by simp) (Tr.seqI rfl (fun h2 => ?_) (fun h2 => ?_))
  · have h2 : k < g.cls.length := by simpa using h2
    rw [cls_drop h2] at hf
    refine Tr.skipT (Tr.seq (Tr.block (Tr.seq (Tr.reg (Steps.runN 1 rfl (by simp; omega) ?_)))))
    rw [getD_map h2]
    refine Steps.fin rfl (by simp) (Tr.seq (Tr.seqR rfl (by simp) (Tr.cond rfl rfl (fun h3 => ?_) (fun h3 => Tr.skip ?_))))
    · refine Tr.seqR rfl (by simp) (Tr.retX rfl rfl rfl ?_ trivial)
      have : clsOk (-1) g.cls = false := by
        rw [hf]
        have h3 : (bif (bif decide (g.cls[k].1 ≤ last) then true else decide (g.cls[k].1 > g.cls[k].2)) then true else decide (g.cls[k].2 > 17179869184)) = true := h3
        by_cases a1 : g.cls[k].1 ≤ last
        · rw [decide_eq_false (by omega : ¬ last < g.cls[k].1)]; rfl
        · by_cases a2 : g.cls[k].1 > g.cls[k].2
          · rw [decide_eq_false (by omega : ¬ g.cls[k].1 ≤ g.cls[k].2)]; simp
          · rw [decide_eq_false a1, decide_eq_false a2] at h3
            simp only [cond_false, decide_eq_true_eq] at h3
            rw [decide_eq_false (by omega : ¬ g.cls[k].2 ≤ 17179869184)]; simp
      rw [this]; rfl
    · have h3 : (bif (bif decide (g.cls[k].1 ≤ last) then true else decide (g.cls[k].1 > g.cls[k].2)) then true else decide (g.cls[k].2 > 17179869184)) = false := h3
      have h3' : (last < g.cls[k].1 ∧ g.cls[k].1 ≤ g.cls[k].2) ∧ g.cls[k].2 ≤ 17179869184 := by
        by_cases a1 : g.cls[k].1 ≤ last
        · rw [decide_eq_true a1] at h3; cases h3
        · by_cases a2 : g.cls[k].1 > g.cls[k].2
          · rw [decide_eq_false a1, decide_eq_true a2] at h3; cases h3
          · rw [decide_eq_false a1, decide_eq_false a2] at h3
            simp only [cond_false, decide_eq_false_iff_not] at h3
            omega
      rw [decide_eq_true h3'.1.1, decide_eq_true h3'.1.2, decide_eq_true h3'.2] at hf
      refine Tr.regR rfl (by simp) (Tr.regR rfl (by simp) ?_)
      exact ⟨(k + 1, g.cls[k].2), _, Wk.le (.cons rfl (.refl _) (.cons rfl (.refl _) (.cons rfl (.refl _) (.cons rfl (VLe.i (w64 (by omega) (by omega))) .nil)))) .nil .nil rfl rfl, ⟨⟨by simp; omega, by simpa using hf⟩, rfl⟩, by simp; omega⟩
  · have h2 : k = g.cls.length := by simp at h2; omega
    subst h2
    rw [List.drop_length] at hf
    refine Tr.exit (Tr.seqR rfl (by simp) (Tr.retX rfl rfl rfl ?_ trivial))
    rw [hf]; rfl

end Go.Proofs.YtdejdblopmfjfaaGreatDoor


/-! Contracts: the cell of two places. -/
set_option linter.unusedVariables false
set_option linter.unusedSimpArgs false
set_option maxRecDepth 20000
set_option maxHeartbeats 2000000
namespace Go.Proofs.YtdejdblopmfjfaaGreatDoor
open Go.Am
attribute [local simp] cells scalar mkv splice under2 under dem dem1 eB gridC sB
theorem floor_eq {a b : Int} (hb : 0 < b) : (if a.tmod b < 0 then a.tdiv b - 1 else a.tdiv b) = a / b := by
  have h1 := Int.mul_tdiv_add_tmod a b
  have h2 := Int.tmod_lt_of_pos a hb
  have h3 := Int.lt_tmod_of_pos a hb
  split
  · rename_i h
    refine ((Int.ediv_emod_unique hb (r := a.tmod b + b) (q := a.tdiv b - 1)).2 ⟨?_, by omega, by omega⟩).1.symm
    rw [Int.mul_sub]; omega
  · refine ((Int.ediv_emod_unique hb (r := a.tmod b) (q := a.tdiv b)).2 ⟨by omega, by omega, by omega⟩).1.symm

theorem tdiv_bd {a b : Int} (hb : 0 < b) {K : Int} (h : -K ≤ a ∧ a ≤ K) : -K ≤ a.tdiv b ∧ a.tdiv b ≤ K := by
  have h1 := Int.natAbs_tdiv_le_natAbs a b
  omega

theorem c_floor {a b : Int} (hb : 0 < b) (ha : -1000000000000 ≤ a ∧ a ≤ 1000000000000) : C Tryz.prog F.bin_floor [I a, I b] (I (a / b)) := by
  have hq := tdiv_bd hb ha
  have e := floor_eq (a := a) hb
  have ew : IntKind.wrap .i64 (a.tdiv b) = a.tdiv b := w64 (by omega) (by omega)
  refine C_of mixed chk.bin_floor (by simp) fun S ok => ?_
  refine Tr.seqR rfl (by simp) (Tr.seqR rfl (by simp; omega) ?_)
  refine Tr.seq (Tr.seqR rfl (by simp; omega) (Tr.cond rfl rfl (fun h => Tr.regR rfl (by simp) ?_) (fun h => Tr.skip ?_)))
  · have h : a.tmod b < 0 := by simpa using h
    rw [if_pos h] at e
    refine Tr.seqR rfl (by simp) (Tr.retX rfl rfl rfl ?_ trivial)
    rw [← e]
    show I (a.tdiv b - 1) = I (IntKind.wrap .i64 (IntKind.wrap .i64 (a.tdiv b) - 1))
    rw [ew, w64 (by omega) (by omega)]
  · have h : ¬ a.tmod b < 0 := by simpa using h
    rw [if_neg h] at e
    refine Tr.seqR rfl (by simp) (Tr.retX rfl rfl rfl ?_ trivial)
    rw [← e]
    show I (a.tdiv b) = I (IntKind.wrap .i64 (a.tdiv b))
    rw [ew]

/-- The class of a squared distance. -/
def clsAt (n : Int) : List (Int × Int) → Nat → Option Nat
  | [], _ => none
  | c :: r, i => if btw n c.1 c.2 then some i else clsAt n r (i + 1)

theorem clsAt_drop {l : List (Int × Int)} {k : Nat} (h : k < l.length) (n : Int) : clsAt n (l.drop k) k = if btw n l[k].1 l[k].2 then some k else clsAt n (l.drop (k + 1)) (k + 1) := by
  rw [List.drop_eq_getElem_cons h]; rfl

def colN (g : Gd) (a b : Int × Int) : Int := (a.1 + b.1 - 2 * g.o.1) / (2 * g.size)
def rowN (g : Gd) (a b : Int × Int) : Int := (a.2 + b.2 - 2 * g.o.2) / (2 * g.size)
def sqN (a b : Int × Int) : Int := (a.1 - b.1) * (a.1 - b.1) + (a.2 - b.2) * (a.2 - b.2)
def cellN (g : Gd) (a b : Int × Int) : Int × Int :=
  if btw (colN g a b) 0 (g.a - 1) && btw (rowN g a b) 0 (g.d - 1) then (match clsAt (sqN a b) g.cls 0 with | some i => (rowN g a b * g.a + colN g a b, (i : Int)) | none => (-1, -1)) else (-1, -1)

theorem gridOk_spec {g : Gd} (h : gridOk g = true) : ((-32768 ≤ g.o.1 ∧ g.o.1 ≤ 32768) ∧ -32768 ≤ g.o.2 ∧ g.o.2 ≤ 32768) ∧ (1 ≤ g.size ∧ g.size ≤ 1000) ∧ (1 ≤ g.a ∧ g.a ≤ 16) ∧ (1 ≤ g.d ∧ g.d ≤ 16) ∧ (1 ≤ g.cls.length ∧ g.cls.length ≤ 4) ∧ clsOk (-1) g.cls = true := by
  simp only [gridOk, planeB, Bool.and_eq_true, btw_iff] at h
  obtain ⟨⟨⟨⟨⟨h1, h2⟩, h3⟩, h4⟩, h5⟩, h6⟩ := h
  exact ⟨h1, h2, h3, h4, by omega, h6⟩

theorem planeB_spec {p : Int × Int} (h : planeB p = true) : (-32768 ≤ p.1 ∧ p.1 ≤ 32768) ∧ -32768 ≤ p.2 ∧ p.2 ≤ 32768 := by
  simpa only [planeB, Bool.and_eq_true, btw_iff] using h

theorem sq64 {x : Int} (h : -65536 ≤ x ∧ x ≤ 65536) : 0 ≤ x * x ∧ x * x ≤ 4294967296 := by
  have h1 : 0 ≤ x * x := by
    rcases Int.le_total 0 x with h | h
    · exact Int.mul_nonneg h h
    · have := Int.mul_nonneg (Int.neg_nonneg_of_nonpos h) (Int.neg_nonneg_of_nonpos h)
      rwa [Int.neg_mul_neg] at this
  have h2 := Int.mul_nonneg (show 0 ≤ 65536 - x by omega) (show 0 ≤ 65536 + x by omega)
  rw [Int.sub_mul, Int.mul_add, Int.mul_add, Int.mul_comm x 65536] at h2
  omega

theorem c_cell {g : Gd} (hg : gridOk g = true) {a b : Int × Int} (ha : planeB a = true) (hb : planeB b = true) : C Tryz.prog F.bin_cell [.agg (gridC g), eB a, eB b] (eB (cellN g a b)) := by
  obtain ⟨ho, hsz, hga, hgd, hcl, _⟩ := gridOk_spec hg
  have ha' := planeB_spec ha
  have hb' := planeB_spec hb
  have k1 := c_floor (a := a.1 + b.1 - 2 * g.o.1) (b := 2 * g.size) (by omega) (by omega)
  have k2 := c_floor (a := a.2 + b.2 - 2 * g.o.2) (b := 2 * g.size) (by omega) (by omega)
  have e1 : IntKind.wrap .i64 (IntKind.wrap .i64 (a.1 + b.1) - IntKind.wrap .i64 (2 * g.o.1)) = a.1 + b.1 - 2 * g.o.1 := by
    rw [w64 (n := a.1 + b.1) (by omega) (by omega), w64 (n := 2 * g.o.1) (by omega) (by omega), w64 (by omega) (by omega)]
  have e2 : IntKind.wrap .i64 (IntKind.wrap .i64 (a.2 + b.2) - IntKind.wrap .i64 (2 * g.o.2)) = a.2 + b.2 - 2 * g.o.2 := by
    rw [w64 (n := a.2 + b.2) (by omega) (by omega), w64 (n := 2 * g.o.2) (by omega) (by omega), w64 (by omega) (by omega)]
  have e3 : IntKind.wrap .i64 (2 * g.size) = 2 * g.size := w64 (by omega) (by omega)
  rw [← e1, ← e3] at k1
  rw [← e2, ← e3] at k2
  refine C_of mixed chk.bin_cell (by simp) fun S ok => ?_
  refine Tr.seqR rfl (by simp) ?_
  refine Tr.seq (Tr.drawK (TraceK.run rfl (by simp) (TraceK.call rfl rfl k1 (TraceK.run rfl (by simp) (TraceK.call rfl rfl k2 ?_)))))
  refine TraceK.run rfl (by simp) (.done ⟨by kernel_rfl, by kernel_rfl, ?_⟩)
  refine Tr.weak (s' := { env := [(3, .ptr 3 0), (4, .ptr 4 0), (5, .ptr 5 0), (6, .ptr 6 0), (7, I (colN g a b)), (8, I (rowN g a b))], bx := [(3, ⟨gridC g, false⟩), (4, ⟨[I a.1, I a.2], false⟩), (5, ⟨[I b.1, I b.2], false⟩), (6, ⟨[I 0, I 0], false⟩)], rw := [], log := [], stp := false })
    (Wk.le (.cons rfl (.refl _) (.cons rfl (.refl _) (.cons rfl (.refl _) (.cons rfl (.refl _) (.cons rfl (VLe.i ?_) (.cons rfl (VLe.i ?_) .nil)))))) (.cons rfl (LLe.refl _) (.cons rfl (LLe.refl _) (.cons rfl (LLe.refl _) (.cons rfl (LLe.refl _) .nil)))) .nil rfl rfl) ?_
  · rw [e1, e3]; rfl
  · rw [e2, e3]; rfl
  have hwa : IntKind.wrap .i64 (g.a - 1) = g.a - 1 := w64 (by omega) (by omega)
  have hwd : IntKind.wrap .i64 (g.d - 1) = g.d - 1 := w64 (by omega) (by omega)
  refine Tr.seq (Tr.seqC rfl (by simp) (Steps.call rfl rfl (c_within (colN g a b) 0 (IntKind.wrap .i64 (g.a - 1))) (Steps.run rfl (by simp) ?_)))
  refine Steps.gcall rfl rfl rfl rfl (by simp) (fun _ => c_within (rowN g a b) 0 (IntKind.wrap .i64 (g.d - 1))) (Steps.fin rfl (by simp) ?_)
  rw [hwa, hwd]
  have hnone : ∀ {s : St} {K : St → Prop} {d : Nat} {rest : List Ins}, Am.Steps (env0 Tryz.prog mixed 96 S ok) rest K (s.put (some d) (.agg [I (-1), I (-1)])) → Am.Steps (env0 Tryz.prog mixed 96 S ok) (⟨some d, .load 2 true, [.c (.rptr 0 0)], none⟩ :: rest) K s := fun h =>
    Steps.gload (g := 0) (cs := [I (-1), I (-1)]) (by simp [globalsV]) rfl (by simp) h
  refine Tr.cond rfl rfl (fun h1 => ?_) (fun h1 => Tr.skip ?_)
  · refine Tr.seq (Tr.reg (hnone (Steps.fin rfl (by simp) (Tr.retX rfl rfl rfl ?_ trivial))))
    have : (btw (colN g a b) 0 (g.a - 1) && btw (rowN g a b) 0 (g.d - 1)) = false := by
      revert h1
      cases btw (colN g a b) 0 (g.a - 1) <;> cases btw (rowN g a b) 0 (g.d - 1) <;> first | (intro _; rfl) | (intro h; cases h)
    simp [packR, cellN, this]
  have hin : (btw (colN g a b) 0 (g.a - 1) && btw (rowN g a b) 0 (g.d - 1)) = true := by
    revert h1
    cases btw (colN g a b) 0 (g.a - 1) <;> cases btw (rowN g a b) 0 (g.d - 1) <;> first | (intro _; rfl) | (intro h; cases h)
  have hin2 := hin
  simp only [Bool.and_eq_true, btw_iff] at hin2
  have s1 := sq64 (x := a.1 - b.1) (by omega)
  have s2 := sq64 (x := a.2 - b.2) (by omega)
  have w1 : IntKind.wrap .i64 (a.1 - b.1) = a.1 - b.1 := w64 (by omega) (by omega)
  have w2 : IntKind.wrap .i64 (a.2 - b.2) = a.2 - b.2 := w64 (by omega) (by omega)
  refine Tr.seqD rfl (by simp) (by kernel_rfl) ?_
  refine Tr.seq (Tr.seqR rfl (by simp) (Tr.block ?_))
  refine Tr.loop (fun (k : Nat) s => (k ≤ g.cls.length ∧ clsAt (sqN a b) g.cls 0 = clsAt (sqN a b) (g.cls.drop k) k) ∧ s = { env := [(3, .ptr 3 0), (6, .ptr 6 0), (7, I (colN g a b)), (8, I (rowN g a b)), (9, I (a.1 - b.1)), (10, I (a.2 - b.2)), (67, sB g.cls), (68, I (g.cls.length : Nat)), (69, I (k : Nat))], bx := [(3, ⟨gridC g, false⟩), (6, ⟨[I 0, I 0], false⟩)], rw := [], log := [], stp := false }) (fun k => g.cls.length - k) 0
    (Wk.le (.cons rfl (.refl _) (.cons rfl (.refl _) (.cons rfl (.refl _) (.cons rfl (.refl _) (.cons rfl (VLe.i w1) (.cons rfl (VLe.i w2) (.cons rfl (.refl _) (.cons rfl (VLe.i (by simp)) (.cons rfl (.refl _) .nil))))))))) (.cons rfl (LLe.refl _) (.cons rfl (LLe.refl _) .nil)) .nil rfl rfl) ⟨⟨by omega, by simp⟩, rfl⟩ ?_
  rintro k s ⟨⟨hk, hf⟩, rfl⟩
  refine Tr.seqR rfl (by simp) (Tr.seqI rfl (fun h2 => ?_) (fun h2 => ?_))
  · have h2 : k < g.cls.length := by simpa using h2
    rw [clsAt_drop h2] at hf
    have w3 : IntKind.wrap .i64 ((a.1 - b.1) * (a.1 - b.1)) = (a.1 - b.1) * (a.1 - b.1) := w64 (by omega) (by omega)
    have w4 : IntKind.wrap .i64 ((a.2 - b.2) * (a.2 - b.2)) = (a.2 - b.2) * (a.2 - b.2) := w64 (by omega) (by omega)
    have w5 : IntKind.wrap .i64 (IntKind.wrap .i64 ((a.1 - b.1) * (a.1 - b.1)) + IntKind.wrap .i64 ((a.2 - b.2) * (a.2 - b.2))) = sqN a b := by rw [w3, w4]; exact w64 (by omega) (by omega)
    have kw := c_within (sqN a b) g.cls[k].1 g.cls[k].2
    rw [← w5] at kw
    refine Tr.skipT (Tr.seq (Tr.block (Tr.seq (Tr.reg (Steps.runN 2 rfl (by simp; omega) ?_)))))
    rw [getD_map h2]
    refine Steps.fin rfl (by simp) (Tr.seqC rfl (by simp) (Steps.call rfl rfl kw (Steps.fin rfl (by simp) ?_)))
    rw [w5]
    refine Tr.cond rfl rfl (fun h3 => ?_) (fun h3 => Tr.skip (Tr.regR rfl (by simp) ?_))
    · have h3 : btw (sqN a b) g.cls[k].1 g.cls[k].2 = true := h3
      rw [if_pos h3] at hf
      refine Tr.seqR rfl (by simp) (Tr.retX rfl rfl rfl ?_ trivial)
      have m1 : 0 ≤ rowN g a b * g.a ∧ rowN g a b * g.a ≤ 256 := by
        refine ⟨Int.mul_nonneg (by omega) (by omega), ?_⟩
        have := Int.mul_le_mul (show rowN g a b ≤ 16 by omega) (show g.a ≤ 16 by omega) (by omega) (by omega)
        omega
      have e : IntKind.wrap .i64 (IntKind.wrap .i64 (rowN g a b * g.a) + colN g a b) = rowN g a b * g.a + colN g a b := by
        rw [w64 (n := rowN g a b * g.a) (by omega) (by omega), w64 (by omega) (by omega)]
      show eB (cellN g a b) = .agg [I (IntKind.wrap .i64 (IntKind.wrap .i64 (rowN g a b * g.a) + colN g a b)), I (k : Int)]
      rw [e]
      simp [cellN, hin, hf]
    · have h3 : btw (sqN a b) g.cls[k].1 g.cls[k].2 = false := h3
      rw [h3, if_neg (by simp)] at hf
      exact ⟨k + 1, _, Wk.le (.cons rfl (.refl _) (.cons rfl (.refl _) (.cons rfl (.refl _) (.cons rfl (.refl _) (.cons rfl (.refl _) (.cons rfl (.refl _) (.cons rfl (.refl _) (.cons rfl (.refl _) (.cons rfl (VLe.i (w64 (by omega) (by omega))) .nil))))))))) (.cons rfl (LLe.refl _) (.cons rfl (LLe.refl _) .nil)) .nil rfl rfl, ⟨⟨h2, hf⟩, rfl⟩, by omega⟩
  · have h2 : k = g.cls.length := by simp at h2; omega
    subst h2
    rw [List.drop_length] at hf
    refine Tr.exit (Tr.seq (Tr.reg (hnone (Steps.fin rfl (by simp) (Tr.retX rfl rfl rfl ?_ trivial)))))
    simp [packR, cellN, hin, hf, clsAt]

end Go.Proofs.YtdejdblopmfjfaaGreatDoor


/-! Contracts: layouts. -/
set_option linter.unusedVariables false
set_option linter.unusedSimpArgs false
set_option maxRecDepth 20000
set_option maxHeartbeats 2000000
namespace Go.Proofs.YtdejdblopmfjfaaGreatDoor
open Go.Am
attribute [local simp] cells scalar mkv splice under2 under dem dem1 eB gridC sB fourC
theorem c_Cell {g : Gd} (hl : g.cls.length ≤ 9223372036854775807) (a b : Int × Int) : C Tryz.prog F.bin_Cell [.agg (gridC g), eB a, eB b] (if gridOk g then (if planeB a && planeB b then .tuple [eB (cellN g a b), I 0] else .tuple [.agg [I 0, I 0], I 10]) else .tuple [.agg [I 0, I 0], I 70]) := by
  have kg := c_CheckGrid (g := g) hl
  refine C_of mixed chk.bin_Cell (by simp) fun S ok => ?_
  refine Tr.seqR rfl (by simp) ?_
  by_cases hg : gridOk g = true
  rotate_left
  · rw [if_neg hg] at kg
    refine Tr.seq (Tr.seqC rfl (by simp) (Steps.call rfl rfl kg (Steps.fin rfl (by simp) (Tr.seqR rfl (by simp) (Tr.condT rfl ?_)))))
    refine Tr.seqR rfl (by simp) (Tr.retX rfl rfl rfl ?_ trivial)
    rw [if_neg hg]; rfl
  rw [if_pos hg] at kg ⊢
  refine Tr.seq (Tr.seqC rfl (by simp) (Steps.call rfl rfl kg (Steps.fin rfl (by simp) (Tr.seqR rfl (by simp) (Tr.condF rfl (Tr.skip ?_))))))
  refine Tr.seq (Tr.seqC rfl (by simp) (Steps.call rfl rfl (c_CheckPointF a) (Steps.run rfl (by simp) (Steps.gcall rfl rfl rfl rfl (by simp) (fun _ => c_CheckPointF b) (Steps.fin rfl (by simp) ?_)))))
  refine Tr.cond rfl rfl (fun h1 => ?_) (fun h1 => Tr.skip ?_)
  · refine Tr.seqR rfl (by simp) (Tr.retX rfl rfl rfl ?_ trivial)
    have : (planeB a && planeB b) = false := by
      revert h1
      cases planeB a <;> cases planeB b <;> first | (intro _; rfl) | (intro h; cases h)
    rw [this]; rfl
  have hp : planeB a = true ∧ planeB b = true := by
    revert h1
    cases planeB a <;> cases planeB b <;> first | (intro _; exact ⟨rfl, rfl⟩) | (intro h; cases h)
  refine Tr.seqC rfl (by simp) (Steps.call rfl rfl (c_cell hg hp.1 hp.2) (Steps.fin rfl (by simp) (Tr.retX rfl rfl rfl ?_ trivial)))
  rw [hp.1, hp.2]; rfl

/-! ### Regions, checked -/
def fitBB (l : Int) (b : Int × Int) : Bool := decide (-l ≤ b.1) && decide (b.1 ≤ b.2) && decide (b.2 ≤ l)
def fitFB (f : Fr) : Bool := fitBB 32768 f.x && fitBB 32768 f.y && fitBB 65536 f.s && fitBB 65536 f.d

theorem fitFB_iff (f : Fr) : fitFB f = true ↔ fitF f := by
  simp only [fitFB, fitBB, Bool.and_eq_true, decide_eq_true_eq, fitF, fitB]
  omega

theorem c_fitsF {l : Int} (b : Int × Int) (hl : 0 ≤ l ∧ l ≤ 65536) : C Tryz.prog F.region_limit_fits [I l, eB b] (.bool (fitBB l b)) := by
  refine C_of mixed chk.region_limit_fits (by simp) fun S ok => ?_
  have e : IntKind.wrap .i64 (0 - l) = -l := by rw [w64 (by omega) (by omega)]; omega
  refine Tr.seqR rfl (by simp) (Tr.seqR rfl (by simp) (Tr.retQ rfl rfl ?_ trivial))
  show V.bool (fitBB l b) = .bool (bif (bif decide (b.1 ≥ IntKind.wrap .i64 (0 - l)) then decide (b.1 ≤ b.2) else false) then decide (b.2 ≤ l) else false)
  rw [e, fitBB]
  congr 1
  by_cases h1 : -l ≤ b.1 <;> by_cases h2 : b.1 ≤ b.2 <;> simp [h1, h2]

theorem c_CheckF (f : Fr) : C Tryz.prog F.region_Check [.agg (fourC f)] (I (if fitFB f then 0 else 11)) := by
  refine C_of mixed chk.region_Check (by simp) fun S ok => ?_
  refine Tr.seqR rfl (by simp) (Tr.seqR rfl (by simp) (Tr.seq (Tr.seqC rfl (by simp) (Steps.call rfl rfl (c_bounds f) (Steps.fin rfl (by simp) (Tr.block ?_))))))
  refine Tr.rounds 5 (TrN.succ ?_)
  refine Tr.weak (s' := { env := [(3, .ptr 3 0), (12, .agg (fourC f)), (13, I 0)], bx := [(3, ⟨[.func (.func F.region_limit_fits) [I 32768] [], .func (.func F.region_limit_fits) [I 32768] [], .func (.func F.region_limit_fits) [I 65536] [], .func (.func F.region_limit_fits) [I 65536] []], false⟩)], rw := [], log := [], stp := false })
    (Wk.le (.cons rfl (.refl _) (.cons rfl (.refl _) (.cons rfl (VLe.i rfl) .nil))) (.cons rfl (LLe.refl _) .nil) .nil rfl rfl) ?_
  refine Tr.seqR rfl (by simp) (Tr.seq (Tr.condT rfl (Tr.skip (Tr.seq (Tr.block (Tr.seqR rfl (by simp) (Tr.seq ?_)))))))
  refine Tr.drawK (TraceK.run rfl (by simp) (TraceK.callv rfl rfl (c_fitsF (l := 32768) f.x (by omega)) (TraceK.run rfl (by simp) (.done ⟨by kernel_rfl, by kernel_rfl, ?_⟩))))
  refine Tr.cond rfl rfl (fun h0 => Tr.seqR rfl (by simp) (Tr.retX rfl rfl rfl ?_ trivial)) (fun h0 => Tr.skip (Tr.regR rfl (by simp) (TrN.succ ?_)))
  · have h0 : fitBB 32768 f.x = false := by simpa using h0
    simp [packR, fitFB, h0]
  have h0 : fitBB 32768 f.x = true := by simpa using h0
  refine Tr.weak (s' := { env := [(3, .ptr 3 0), (12, .agg (fourC f)), (13, I 1)], bx := [(3, ⟨[.func (.func F.region_limit_fits) [I 32768] [], .func (.func F.region_limit_fits) [I 32768] [], .func (.func F.region_limit_fits) [I 65536] [], .func (.func F.region_limit_fits) [I 65536] []], false⟩)], rw := [], log := [], stp := false })
    (Wk.le (.cons rfl (.refl _) (.cons rfl (.refl _) (.cons rfl (VLe.i rfl) .nil))) (.cons rfl (LLe.refl _) .nil) .nil rfl rfl) ?_
  refine Tr.seqR rfl (by simp) (Tr.seq (Tr.condT rfl (Tr.skip (Tr.seq (Tr.block (Tr.seqR rfl (by simp) (Tr.seq ?_)))))))
  refine Tr.drawK (TraceK.run rfl (by simp) (TraceK.callv rfl rfl (c_fitsF (l := 32768) f.y (by omega)) (TraceK.run rfl (by simp) (.done ⟨by kernel_rfl, by kernel_rfl, ?_⟩))))
  refine Tr.cond rfl rfl (fun h1 => Tr.seqR rfl (by simp) (Tr.retX rfl rfl rfl ?_ trivial)) (fun h1 => Tr.skip (Tr.regR rfl (by simp) (TrN.succ ?_)))
  · have h1 : fitBB 32768 f.y = false := by simpa using h1
    simp [packR, fitFB, h1]
  have h1 : fitBB 32768 f.y = true := by simpa using h1
  refine Tr.weak (s' := { env := [(3, .ptr 3 0), (12, .agg (fourC f)), (13, I 2)], bx := [(3, ⟨[.func (.func F.region_limit_fits) [I 32768] [], .func (.func F.region_limit_fits) [I 32768] [], .func (.func F.region_limit_fits) [I 65536] [], .func (.func F.region_limit_fits) [I 65536] []], false⟩)], rw := [], log := [], stp := false })
    (Wk.le (.cons rfl (.refl _) (.cons rfl (.refl _) (.cons rfl (VLe.i rfl) .nil))) (.cons rfl (LLe.refl _) .nil) .nil rfl rfl) ?_
  refine Tr.seqR rfl (by simp) (Tr.seq (Tr.condT rfl (Tr.skip (Tr.seq (Tr.block (Tr.seqR rfl (by simp) (Tr.seq ?_)))))))
  refine Tr.drawK (TraceK.run rfl (by simp) (TraceK.callv rfl rfl (c_fitsF (l := 65536) f.s (by omega)) (TraceK.run rfl (by simp) (.done ⟨by kernel_rfl, by kernel_rfl, ?_⟩))))
  refine Tr.cond rfl rfl (fun h2 => Tr.seqR rfl (by simp) (Tr.retX rfl rfl rfl ?_ trivial)) (fun h2 => Tr.skip (Tr.regR rfl (by simp) (TrN.succ ?_)))
  · have h2 : fitBB 65536 f.s = false := by simpa using h2
    simp [packR, fitFB, h2]
  have h2 : fitBB 65536 f.s = true := by simpa using h2
  refine Tr.weak (s' := { env := [(3, .ptr 3 0), (12, .agg (fourC f)), (13, I 3)], bx := [(3, ⟨[.func (.func F.region_limit_fits) [I 32768] [], .func (.func F.region_limit_fits) [I 32768] [], .func (.func F.region_limit_fits) [I 65536] [], .func (.func F.region_limit_fits) [I 65536] []], false⟩)], rw := [], log := [], stp := false })
    (Wk.le (.cons rfl (.refl _) (.cons rfl (.refl _) (.cons rfl (VLe.i rfl) .nil))) (.cons rfl (LLe.refl _) .nil) .nil rfl rfl) ?_
  refine Tr.seqR rfl (by simp) (Tr.seq (Tr.condT rfl (Tr.skip (Tr.seq (Tr.block (Tr.seqR rfl (by simp) (Tr.seq ?_)))))))
  refine Tr.drawK (TraceK.run rfl (by simp) (TraceK.callv rfl rfl (c_fitsF (l := 65536) f.d (by omega)) (TraceK.run rfl (by simp) (.done ⟨by kernel_rfl, by kernel_rfl, ?_⟩))))
  refine Tr.cond rfl rfl (fun h3 => Tr.seqR rfl (by simp) (Tr.retX rfl rfl rfl ?_ trivial)) (fun h3 => Tr.skip (Tr.regR rfl (by simp) (TrN.succ ?_)))
  · have h3 : fitBB 65536 f.d = false := by simpa using h3
    simp [packR, fitFB, h3]
  have h3 : fitBB 65536 f.d = true := by simpa using h3
  refine Tr.seqR rfl (by simp) (Tr.seq (Tr.condF rfl (Tr.exit ?_)))
  refine Tr.seqR rfl (by simp) (Tr.retX rfl rfl rfl ?_ trivial)
  simp [packR, fitFB, h0, h1, h2, h3]

theorem mid_of {f : Fr} (h : fitFB f = true) : midF f := by
  have h := (fitFB_iff f).1 h
  obtain ⟨⟨⟨h1, h2, h3⟩, h4, h5, h6⟩, ⟨h7, h8, h9⟩, h10, h11, h12⟩ := h
  unfold midF; omega

/-! ### How many places -/
def rowM (r : Int × Int × Int) : Int := r.2.2 - r.2.1 + 1
def countN (f : Fr) : Int := ((rowsL f).map rowM).foldl (· + ·) 0

theorem rows_bd {f : Fr} (h : midF f) : ∀ (n : Nat) (x : Int) (r : Int × Int × Int), r ∈ rowsN f n x → -1000000 ≤ r.2.1 ∧ r.2.1 ≤ r.2.2 ∧ r.2.2 ≤ 1000000
  | 0, x, r, hr => by cases hr
  | n + 1, x, r, hr => by
    simp only [rowsN] at hr
    split at hr
    · rename_i h1
      rcases List.mem_cons.1 hr with rfl | hr
      · obtain ⟨_, ⟨⟨h2, h3⟩, h4, h5⟩, _⟩ := h
        refine ⟨?_, h1, ?_⟩
        · show -1000000 ≤ lowY f x
          unfold lowY; omega
        · show highY f x ≤ 1000000
          unfold highY; omega
      · exact rows_bd h n (x + 1) r hr
    · exact rows_bd h n (x + 1) r hr

theorem rowsN_len (f : Fr) : ∀ (n : Nat) (x : Int), (rowsN f n x).length ≤ n
  | 0, x => by simp [rowsN]
  | n + 1, x => by
    have := rowsN_len f n (x + 1)
    simp only [rowsN]
    split <;> simp <;> omega

theorem sum_bd : ∀ (l : List (Int × Int × Int)) (a : Int), (∀ r ∈ l, -1000000 ≤ r.2.1 ∧ r.2.1 ≤ r.2.2 ∧ r.2.2 ≤ 1000000) → a ≤ (l.map rowM).foldl (· + ·) a ∧ (l.map rowM).foldl (· + ·) a ≤ a + l.length * 2000001
  | [], a, _ => by simp
  | r :: l, a, h => by
    have h1 := h r (by simp)
    have h2 := sum_bd l (a + rowM r) (fun r hr => h r (by simp [hr]))
    simp only [List.map_cons, List.foldl_cons, List.length_cons]
    unfold rowM at h2 ⊢
    push_cast
    omega

theorem c_Count (f : Fr) : C Tryz.prog F.region_Count [.agg (fourC f)] (if fitFB f then .tuple [I (countN f), I 0] else .tuple [I 0, I 11]) := by
  have kc := c_CheckF f
  refine C_of mixed chk.region_Count (by simp) fun S ok => ?_
  refine Tr.seqR rfl (by simp) ?_
  by_cases hf : fitFB f = true
  rotate_left
  · rw [if_neg hf] at kc
    refine Tr.seq (Tr.seqC rfl (by simp) (Steps.call rfl rfl kc (Steps.fin rfl (by simp) (Tr.seqR rfl (by simp) (Tr.condT rfl ?_)))))
    refine Tr.seqR rfl (by simp) (Tr.retX rfl rfl rfl ?_ trivial)
    rw [if_neg hf]; rfl
  rw [if_pos hf] at kc ⊢
  have hm := mid_of hf
  have hlen : (rowsL f).length ≤ 2000001 := by
    have h1 := rowsN_len f (f.x.2 + 1 - f.x.1).toNat f.x.1
    obtain ⟨⟨⟨h2, h3⟩, h4, h5⟩, _⟩ := hm
    unfold rowsL; omega
  have hrb : ∀ r ∈ rowsL f, -1000000 ≤ r.2.1 ∧ r.2.1 ≤ r.2.2 ∧ r.2.2 ≤ 1000000 := fun r hr => rows_bd hm _ _ r hr
  refine Tr.seq (Tr.seqC rfl (by simp) (Steps.call rfl rfl kc (Steps.fin rfl (by simp) (Tr.seqR rfl (by simp) (Tr.condF rfl (Tr.skip ?_))))))
  refine Tr.seqR rfl (by simp) (Tr.seq (Tr.seqC rfl (by simp) (Steps.call rfl rfl (c_bounds f) (Steps.call rfl rfl (c_rows f) (Steps.fin rfl (by simp) (Tr.block ?_))))))
  refine Tr.weak (s' := { env := [(14, .func (.func F.region_four_rows_1) [] [.vptr (fourC f) 0]), (5, .ptr 5 0)], bx := [(5, ⟨[I 0], false⟩)], rw := [], log := [], stp := false })
    (Wk.le (.cons rfl (.refl _) (.cons rfl (.refl _) .nil)) (.cons rfl (LLe.refl _) .nil) .nil rfl rfl) ?_
  refine Tr.range rfl rfl (i_rows hm) rfl rfl rfl (by intro x hx; obtain ⟨b, _, rfl⟩ := List.mem_map.1 hx; rfl)
    (fun pre t => ∃ m, m ≤ (rowsL f).length ∧ pre = ((rowsL f).take m).map eRow ∧ t.bx = [(5, ⟨[I ((((rowsL f).take m).map rowM).foldl (· + ·) 0)], false⟩)] ∧ t.rw = [] ∧ t.log = [])
    (fun _ _ => False) ⟨0, by omega, rfl, rfl, rfl, rfl⟩ ?_ ?_ ?_
  · rintro a0 L0 rc0 h0 S1 S2 ok1 ok2 pre q t lp hpre ⟨m, hm', rfl, hbx, hrw, hlog⟩ henv hstp
    obtain ⟨env, bx, rw, log, stp⟩ := t
    simp only at hbx hrw hlog henv hstp
    subst hbx hrw hlog henv hstp
    have hmx : m < (rowsL f).length ∧ ∃ b, (rowsL f)[m]? = some b ∧ q = eRow b := by
      have h1 : (((rowsL f).take m).map eRow).length = m := by simp; omega
      have h2 := hpre.length_le
      simp at h2
      have hml : m < (rowsL f).length := by omega
      refine ⟨hml, _, List.getElem?_eq_getElem hml, ?_⟩
      have h3 := List.IsPrefix.getElem hpre (i := m) (by simp; omega)
      simp only [List.getElem_map] at h3
      rw [List.getElem_append_right (by omega)] at h3
      simpa using h3
    obtain ⟨hml, r, hb, rfl⟩ := hmx
    have hr := hrb r (List.mem_of_getElem? hb)
    have hs := sum_bd ((rowsL f).take m) 0 (fun r hr => hrb r (List.mem_of_mem_take hr))
    have hl2 : ((rowsL f).take m).length ≤ 2000001 := by rw [List.length_take]; omega
    have eT : ((rowsL f).take (m + 1)).map rowM = ((rowsL f).take m).map rowM ++ [rowM r] := by
      rw [List.take_add_one, hb, List.map_append]; rfl
    refine Tr.regR rfl (by simp) ?_
    refine Tr.block (Tr.regR rfl (by simp) ?_)
    refine ⟨{ env := [], bx := [(5, ⟨[I ((((rowsL f).take (m + 1)).map rowM).foldl (· + ·) 0)], false⟩)], rw := [], log := [], stp := false }, Wk.le .nil (.cons rfl (.cons (VLe.i ?_) .nil) .nil) .nil rfl rfl, ⟨m + 1, by omega, ?_, rfl, rfl, rfl⟩, rfl⟩
    · rw [eT, List.foldl_append]
      show IntKind.wrap .i64 ((((rowsL f).take m).map rowM).foldl (· + ·) 0 + IntKind.wrap .i64 (IntKind.wrap .i64 (r.2.2 - r.2.1) + 1)) = (((rowsL f).take m).map rowM).foldl (· + ·) 0 + rowM r
      unfold rowM at hs ⊢
      rw [w64 (n := r.2.2 - r.2.1) (by omega) (by omega), w64 (n := r.2.2 - r.2.1 + 1) (by omega) (by omega), w64 (by omega) (by omega)]
    · rw [List.take_add_one, hb]; simp
  · rintro ⟨env, bx, rw, log, stp⟩ henv hstp ⟨m, hm', hpre, hbx, hrw, hlog⟩
    simp only at hbx hrw hlog henv hstp
    subst hbx hrw hlog henv hstp
    have hml : m = (rowsL f).length := by
      have := congrArg List.length hpre
      simp at this; omega
    subst hml
    rw [List.take_length]
    exact Tr.seqR rfl (by simp) (Tr.retX rfl rfl rfl rfl trivial)
  · intro e t _ h; exact h.elim

end Go.Proofs.YtdejdblopmfjfaaGreatDoor


/-! Contracts: layouts, laid. -/
set_option linter.unusedVariables false
set_option linter.unusedSimpArgs false
set_option maxRecDepth 20000
set_option maxHeartbeats 2000000
namespace Go.Proofs.YtdejdblopmfjfaaGreatDoor
open Go.Am
attribute [local simp] cells scalar mkv splice under2 under dem dem1 eB gridC sB fourC
structure Ly where
  nodes : List Fr
  traces : List (Int × Int)

def eF (f : Fr) : V := .agg (fourC f)
def layC (s : Ly) : List V := [.slice 0 8 (s.nodes.map eF), .slice 0 2 (s.traces.map eB)]
attribute [local simp] eF layC
def nodeOk (f : Fr) : Bool := fitFB f && btw (countN f) 1 64
def traceOk (n : Nat) (t : Int × Int) : Bool := btw t.1 0 ((n : Int) - 1) && btw t.2 0 ((n : Int) - 1) && t.1 != t.2
def layOk (s : Ly) : Bool := decide (s.nodes.length ≤ 16) && decide (s.traces.length ≤ 64) && s.nodes.all nodeOk && s.traces.all (traceOk s.nodes.length)

theorem all_take_succ {α : Type} {p : α → Bool} {l : List α} {k : Nat} (h : k < l.length) : (l.take (k + 1)).all p = ((l.take k).all p && p l[k]) := by
  rw [List.take_add_one, List.getElem?_eq_getElem h, List.all_append]
  simp

theorem all_false {α : Type} {p : α → Bool} {l : List α} {k : Nat} (h : k < l.length) (hp : p l[k] = false) : l.all p = false := by
  rw [List.all_eq_false]
  exact ⟨_, List.getElem_mem h, by simp [hp]⟩

theorem c_CheckLayout {s : Ly} (hn : s.nodes.length ≤ 9223372036854775807) (ht : s.traces.length ≤ 9223372036854775807) : C Tryz.prog F.bin_CheckLayout [.agg (layC s)] (I (if layOk s then 0 else 71)) := by
  refine C_of mixed chk.bin_CheckLayout (by simp) fun S ok => ?_
  refine Tr.seqR rfl (by simp) (Tr.seq (Tr.seqR rfl (by simp) (Tr.cond rfl rfl (fun h1 => ?_) (fun h1 => Tr.skip ?_))))
  · refine Tr.seqR rfl (by simp) (Tr.retX rfl rfl rfl ?_ trivial)
    have h1 : (bif decide (((s.nodes.map eF).length : Int) > 16) then true else decide (((s.traces.map eB).length : Int) > 64)) = true := h1
    have : layOk s = false := by
      unfold layOk
      by_cases a1 : s.nodes.length ≤ 16
      · by_cases a2 : s.traces.length ≤ 64
        · simp at h1; omega
        · simp [a2]
      · simp [a1]
    rw [this]; rfl
  have h1 : (bif decide (((s.nodes.map eF).length : Int) > 16) then true else decide (((s.traces.map eB).length : Int) > 64)) = false := h1
  have hnl : s.nodes.length ≤ 16 ∧ s.traces.length ≤ 64 := by
    simp at h1; omega
  refine Tr.seq (Tr.seqR rfl (by simp) (Tr.block ?_))
  refine Tr.loop (fun (k : Nat) st => (k ≤ s.nodes.length ∧ (s.nodes.take k).all nodeOk = true) ∧ st = { env := [(1, .ptr 1 0), (20, .slice 0 8 (s.nodes.map eF)), (21, I (s.nodes.length : Nat)), (22, I (k : Nat))], bx := [(1, ⟨layC s, false⟩)], rw := [], log := [], stp := false }) (fun k => s.nodes.length - k) 0
    (Wk.le (.cons rfl (.refl _) (.cons rfl (.refl _) (.cons rfl (VLe.i (by simp)) (.cons rfl (.refl _) .nil)))) (.cons rfl (LLe.refl _) .nil) .nil rfl rfl) ⟨⟨by omega, by simp⟩, rfl⟩ ?_
  rintro k st ⟨⟨hk, hall⟩, rfl⟩
  refine Tr.seqR rfl (by simp) (Tr.seqI rfl (fun h2 => ?_) (fun h2 => ?_))
  · have h2 : k < s.nodes.length := by simpa using h2
    refine Tr.skipT (Tr.seq (Tr.block (Tr.seq (Tr.reg (Steps.runN 1 rfl (by simp; omega) ?_)))))
    rw [getD_map h2]
    refine Steps.fin rfl (by simp) ?_
    have kc := c_Count s.nodes[k]
    by_cases hf : fitFB s.nodes[k] = true
    · rw [if_pos hf] at kc
      refine Tr.seqC rfl (by simp) (Steps.call rfl rfl kc (Steps.fin rfl (by simp) ?_))
      refine Tr.seqC rfl (by simp) (Steps.gcall rfl rfl rfl rfl (by simp) (fun _ => c_within (countN s.nodes[k]) 1 64) (Steps.fin rfl (by simp) ?_))
      refine Tr.cond rfl rfl (fun h3 => ?_) (fun h3 => Tr.skip (Tr.regR rfl (by simp) ?_))
      · have h3 : btw (countN s.nodes[k]) 1 64 = false := by simpa using h3
        refine Tr.seqR rfl (by simp) (Tr.retX rfl rfl rfl ?_ trivial)
        have : layOk s = false := by
          unfold layOk
          rw [all_false (p := nodeOk) h2 (by simp [nodeOk, h3])]; simp
        rw [this]; rfl
      · have h3 : btw (countN s.nodes[k]) 1 64 = true := by simpa using h3
        exact ⟨k + 1, _, Wk.le (.cons rfl (.refl _) (.cons rfl (.refl _) (.cons rfl (.refl _) (.cons rfl (VLe.i (w64 (by omega) (by omega))) .nil)))) (.cons rfl (LLe.refl _) .nil) .nil rfl rfl, ⟨⟨h2, by rw [all_take_succ h2, hall]; simp [nodeOk, hf, h3]⟩, rfl⟩, by omega⟩
    · rw [if_neg hf] at kc
      refine Tr.seqC rfl (by simp) (Steps.call rfl rfl kc (Steps.fin rfl (by simp) ?_))
      refine Tr.seqC rfl (by simp) (Steps.off (want := false) (.bool true) rfl rfl rfl (Steps.fin rfl (by simp) ?_))
      refine Tr.condT rfl (Tr.seqR rfl (by simp) (Tr.retX rfl rfl rfl ?_ trivial))
      have : layOk s = false := by
        unfold layOk
        rw [all_false (p := nodeOk) h2 (by simp [nodeOk, hf])]; simp
      rw [this]; rfl
  have h2 : k = s.nodes.length := by simp at h2; omega
  subst h2
  rw [List.take_length] at hall
  refine Tr.exit (Tr.seq (Tr.seqR rfl (by simp) (Tr.block ?_)))
  refine Tr.loop (fun (k : Nat) st => (k ≤ s.traces.length ∧ (s.traces.take k).all (traceOk s.nodes.length) = true) ∧ st = { env := [(1, .ptr 1 0), (40, .slice 0 2 (s.traces.map eB)), (41, I (s.traces.length : Nat)), (42, I (k : Nat))], bx := [(1, ⟨layC s, false⟩)], rw := [], log := [], stp := false }) (fun k => s.traces.length - k) 0
    (Wk.le (.cons rfl (.refl _) (.cons rfl (.refl _) (.cons rfl (VLe.i (by simp)) (.cons rfl (.refl _) .nil)))) (.cons rfl (LLe.refl _) .nil) .nil rfl rfl) ⟨⟨by omega, by simp⟩, rfl⟩ ?_
  rintro k st ⟨⟨hk, hallT⟩, rfl⟩
  refine Tr.seqR rfl (by simp) (Tr.seqI rfl (fun h2 => ?_) (fun h2 => ?_))
  · have h2 : k < s.traces.length := by simpa using h2
    refine Tr.skipT (Tr.seq (Tr.block (Tr.seq (Tr.reg (Steps.runN 1 rfl (by simp; omega) ?_)))))
    rw [getD_map h2]
    refine Steps.fin rfl (by simp) ?_
    have hw1 : IntKind.wrap .i64 (((s.nodes.map eF).length : Int) - 1) = (s.nodes.length : Int) - 1 := by rw [List.length_map, w64 (by omega) (by omega)]
    refine Tr.seqC rfl (by simp) (Steps.call rfl rfl (c_within s.traces[k].1 0 (IntKind.wrap .i64 (((s.nodes.map eF).length : Int) - 1))) (Steps.run rfl (by simp) ?_))
    refine Steps.gcall rfl rfl rfl rfl (by simp) (fun _ => c_within s.traces[k].2 0 (IntKind.wrap .i64 (((s.nodes.map eF).length : Int) - 1))) (Steps.fin rfl (by simp) ?_)
    rw [hw1]
    have hT : traceOk s.nodes.length s.traces[k] = (btw s.traces[k].1 0 ((s.nodes.length : Int) - 1) && btw s.traces[k].2 0 ((s.nodes.length : Int) - 1) && !(s.traces[k].1 == s.traces[k].2)) := rfl
    refine Tr.cond rfl rfl (fun h3 => ?_) (fun h3 => Tr.skip (Tr.regR rfl (by simp) ?_))
    · refine Tr.seqR rfl (by simp) (Tr.retX rfl rfl rfl ?_ trivial)
      have hf : traceOk s.nodes.length s.traces[k] = false := by
        rw [hT]
        revert h3
        cases btw s.traces[k].1 0 ((s.nodes.length : Int) - 1) <;> cases btw s.traces[k].2 0 ((s.nodes.length : Int) - 1) <;> cases (s.traces[k].1 == s.traces[k].2) <;> first | (intro _; rfl) | (intro h; cases h)
      have : layOk s = false := by
        unfold layOk
        rw [all_false (p := traceOk s.nodes.length) h2 hf]; simp
      rw [this]; rfl
    · have hf : traceOk s.nodes.length s.traces[k] = true := by
        rw [hT]
        revert h3
        cases btw s.traces[k].1 0 ((s.nodes.length : Int) - 1) <;> cases btw s.traces[k].2 0 ((s.nodes.length : Int) - 1) <;> cases (s.traces[k].1 == s.traces[k].2) <;> first | (intro _; rfl) | (intro h; cases h)
      exact ⟨k + 1, _, Wk.le (.cons rfl (.refl _) (.cons rfl (.refl _) (.cons rfl (.refl _) (.cons rfl (VLe.i (w64 (by omega) (by omega))) .nil)))) (.cons rfl (LLe.refl _) .nil) .nil rfl rfl, ⟨⟨h2, by rw [all_take_succ h2, hallT, hf]; rfl⟩, rfl⟩, by omega⟩
  have h2 : k = s.traces.length := by simp at h2; omega
  subst h2
  rw [List.take_length] at hallT
  refine Tr.exit (Tr.seqR rfl (by simp) (Tr.retX rfl rfl rfl ?_ trivial))
  have : layOk s = true := by
    unfold layOk
    rw [hall, hallT, decide_eq_true hnl.1, decide_eq_true hnl.2]; rfl
  rw [this]; rfl

end Go.Proofs.YtdejdblopmfjfaaGreatDoor


/-! What a slot holds becomes data (the boxes that it leads to are shut for good). -/
set_option linter.unusedVariables false
set_option linter.unusedSimpArgs false
namespace Go.Proofs.YtdejdblopmfjfaaGreatDoor
open Go.Am

theorem wkData {E : Env} {s : St} {t : Nat} {v u : V} {ids : List Nat} (ht : get s.env t = some v) (hd : toDs s.fs.b [v] = some ([u], ids)) : Wk E s ((s.eff { v := nothing, wb := Am.freeze s.fs.b ids }).put (some t) u) := by
  intro a w h R
  obtain ⟨q1, q2, _⟩ := R.1.env t _ (by rw [fs_g]; exact ht)
  obtain ⟨h1, R1, ext, b1, g1, y1, hrep⟩ := args_data R.1 hd
  have rd : RepD w h1.φ u (a.tmps.getD t undef) := (hrep #[a.tmps.getD t undef] rfl (fun i v' x e1 e2 => by
    cases i with
    | zero => simp at e1 e2; subst e1 e2; simpa using q2
    | succ i => simp at e1)).2 0 u _ rfl rfl
  have R2 := R1.put (d := t) q1 (.data rd) (GrowV.of_data rd)
  rw [put_self (by rw [R.1.size]; exact q1)] at R2
  refine ⟨h1, ⟨?_, by rw [y1]; exact R.2⟩, y1⟩
  have e : ((s.eff { v := nothing, wb := Am.freeze s.fs.b ids }).put (some t) u).fs = (((Am.freeze s.fs.b ids).foldl (fun τ p => τ.set (.bx p.1) (.b p.2)) s.fs)).set (.slot t) (.v u) := by
    rw [fs_put, fs_eff]; rfl
  have e2 : ∀ (l : List (Nat × Box)) (s : St), (l.foldl (fun s p => s.setB p.1 p.2) s).log = s.log ∧ (l.foldl (fun s p => s.setB p.1 p.2) s).stp = s.stp := by
    intro l
    induction l with
    | nil => intro s; exact ⟨rfl, rfl⟩
    | cons p l ih => intro s; exact ih _
  have e3 := e2 (Am.freeze s.fs.b ids) s
  show Rel E.nt E.S _ _ _ a w h1
  rw [e]
  have e4 : ((s.eff { v := nothing, wb := Am.freeze s.fs.b ids }).put (some t) u).log = s.log := e3.1
  have e5 : ((s.eff { v := nothing, wb := Am.freeze s.fs.b ids }).put (some t) u).stp = s.stp := e3.2
  rw [e4, e5]
  exact R2

/-- Weakening inside a region. -/
theorem stepsWk {E : Env} {s s' : St} {i : Ins} {r : List Ins} {K : St → Prop} (h : Wk E s s') (k : Am.Steps E (i :: r) K s') : Am.Steps E (i :: r) K s := by
  refine Step1.raw fun slots ops o j ro n a w hh hc hs hi R Q next hn => ?_
  obtain ⟨h', R', hy⟩ := h a w hh R
  exact step_ok (k : Step1 E i (Am.Steps E r K) s') hc hs hi R' fun s'' a' w' h'' k R ey => hn s'' a' w' h'' k R (ey.trans hy)

end Go.Proofs.YtdejdblopmfjfaaGreatDoor


/-! Contracts: the places of a region; pairs; layouts, laid. -/
set_option linter.unusedVariables false
set_option linter.unusedSimpArgs false
set_option maxRecDepth 20000
set_option maxHeartbeats 2000000
namespace Go.Proofs.YtdejdblopmfjfaaGreatDoor
open Go.Am
attribute [local simp] cells scalar mkv splice under2 under dem dem1 eB gridC sB fourC eF layC
/-! ### All places of a region -/
def ptsN (x : Int) : Nat → Int → List (Int × Int)
  | 0, _ => []
  | n + 1, y => (x, y) :: ptsN x n (y + 1)
def colP (r : Int × Int × Int) : List (Int × Int) := ptsN r.1 (r.2.2 + 1 - r.2.1).toNat r.2.1
def placesL (f : Fr) : List (Int × Int) := (rowsL f).flatMap colP
def colAt (f : Fr) (x : Int) : List (Int × Int) := ptsN x (highY f x + 1 - lowY f x).toNat (lowY f x)

theorem ptsN_len (x : Int) : ∀ (n : Nat) (y : Int), (ptsN x n y).length = n
  | 0, _ => rfl
  | n + 1, y => by simp [ptsN, ptsN_len x n]

theorem rowsN_flat (f : Fr) (n : Nat) (x : Int) : (rowsN f (n + 1) x).flatMap colP = colAt f x ++ (rowsN f n (x + 1)).flatMap colP := by
  simp only [rowsN]
  split
  · rfl
  · have : (highY f x + 1 - lowY f x).toNat = 0 := by omega
    unfold colAt
    rw [this]; rfl

theorem count_len {f : Fr} (hm : midF f) : ((placesL f).length : Int) = countN f := by
  have key : ∀ (l : List (Int × Int × Int)) (a : Int), (∀ r ∈ l, r.2.1 ≤ r.2.2) → a + ((l.flatMap colP).length : Int) = (l.map rowM).foldl (· + ·) a := by
    intro l
    induction l with
    | nil => intro a _; simp
    | cons r l ih =>
      intro a h
      have h1 := h r (by simp)
      rw [List.map_cons, List.foldl_cons, ← ih (a + rowM r) (fun r hr => h r (by simp [hr])), List.flatMap_cons, List.length_append, colP, ptsN_len]
      unfold rowM
      push_cast
      omega
  have := key (rowsL f) 0 (fun r hr => (rows_bd hm _ _ r hr).2.1)
  unfold placesL countN
  omega

theorem c_places {f : Fr} (h : nodeOk f = true) : C Tryz.prog F.bin_places [.agg (fourC f)] (.slice 0 2 ((placesL f).map eB)) := by
  simp only [nodeOk, Bool.and_eq_true, btw_iff] at h
  have hm := mid_of h.1
  have hcl := count_len hm
  have hPl : (placesL f).length ≤ 64 := by omega
  obtain ⟨⟨⟨hx1, hx2⟩, hx3, hx4⟩, ⟨⟨hy1, hy2⟩, hy3, hy4⟩, ⟨⟨hs1, hs2⟩, hs3, hs4⟩, ⟨hd1, hd2⟩, hd3, hd4⟩ := hm
  refine C_of mixed chk.bin_places (by simp) fun S ok => ?_
  refine Tr.seqR rfl (by simp) (Tr.seqR rfl (by simp) (Tr.seq (Tr.seqR rfl (by simp) (Tr.block ?_))))
  refine Tr.loop (α := Nat × List (Int × Int)) (fun p s => (p.1 ≤ (f.x.2 + 1 - f.x.1).toNat ∧ p.2 ++ (rowsN f ((f.x.2 + 1 - f.x.1).toNat - p.1) (f.x.1 + p.1)).flatMap colP = placesL f) ∧
      s = { env := [(1, .ptr 1 0), (3, .slice 54 2 (p.2.map eB)), (4, I (f.x.1 + p.1))], bx := [(1, ⟨fourC f, false⟩)], rw := [(53, p.2.length, 2, 23)], log := [], stp := false }) (fun p => (f.x.2 + 1 - f.x.1).toNat - p.1) (0, [])
    (Wk.le (.cons rfl (.refl _) (.cons rfl (.nil 54 2) (.cons rfl (VLe.i (by simp)) .nil))) (.cons rfl (LLe.refl _) .nil) (.new rfl .nil) rfl rfl) ⟨⟨by simp, by simp [placesL, rowsL]⟩, rfl⟩ ?_
  rintro ⟨k, out⟩ s ⟨⟨hk, hl⟩, rfl⟩
  simp only at hk hl
  refine Tr.seq (Tr.seqR rfl (by simp) (Tr.cond rfl rfl (fun h1 => Tr.skip ?_) (fun h1 => Tr.exit ?_)))
  · have h1 : f.x.1 + (k : Int) ≤ f.x.2 := by simpa using h1
    obtain ⟨x, hx⟩ : ∃ x, f.x.1 + (k : Int) = x := ⟨_, rfl⟩
    obtain ⟨n, hn⟩ : ∃ n, (f.x.2 + 1 - f.x.1).toNat - k = n + 1 := ⟨(f.x.2 + 1 - f.x.1).toNat - k - 1, by omega⟩
    have hn2 : (f.x.2 + 1 - f.x.1).toNat - (k + 1) = n := by omega
    have hx' : f.x.1 + ((k + 1 : Nat) : Int) = x + 1 := by omega
    rw [hn, hx, rowsN_flat] at hl
    rw [hx] at h1
    rw [hx]
    refine Tr.seq (Tr.block (Tr.seqR rfl (by simp) (Tr.block ?_)))
    obtain ⟨M, hM⟩ : ∃ M, (highY f x + 1 - lowY f x).toNat = M := ⟨_, rfl⟩
    have hcol : colAt f x = ptsN x M (lowY f x) := by unfold colAt; rw [hM]
    rw [hcol] at hl
    have hlow : -1000000 ≤ lowY f x ∧ highY f x ≤ 1000000 := by unfold lowY highY; omega
    have hlow2 : lowY f x ≤ 3000000 ∧ -3000000 ≤ highY f x := by unfold lowY highY; omega
    refine Tr.loop (α := Nat × List (Int × Int)) (fun p s => (p.1 ≤ M ∧ p.2 ++ (ptsN x (M - p.1) (lowY f x + p.1) ++ (rowsN f n (x + 1)).flatMap colP) = placesL f) ∧
        s = { env := [(1, .ptr 1 0), (3, .slice 54 2 (p.2.map eB)), (4, I (x)), (5, I (lowY f x + p.1))], bx := [(1, ⟨fourC f, false⟩)], rw := [(53, p.2.length, 2, 23)], log := [], stp := false }) (fun p => M - p.1) (0, out)
      (Wk.le (.cons rfl (.refl _) (.cons rfl (.refl _) (.cons rfl (.refl _) (.cons rfl (VLe.i ?_) .nil)))) (.cons rfl (LLe.refl _) .nil) (.cons rfl .nil) rfl rfl) ⟨⟨by simp, by simpa using hl⟩, rfl⟩ ?_
    · simp (disch := omega) only [cond_true, cond_false, ite_max, ite_min, w64]
      unfold lowY; omega
    rintro ⟨j, o2⟩ s ⟨⟨hj, hl2⟩, rfl⟩
    simp only at hj hl2
    have ho2 : o2.length ≤ 64 := by
      have := congrArg List.length hl2
      rw [List.length_append] at this; omega
    refine Tr.seq (Tr.seqN 15 rfl (by simp) ?_)
    refine stepsWk (s' := { env := [(1, .ptr 1 0), (3, .slice 54 2 (o2.map eB)), (4, I (x)), (5, I (lowY f x + j)), (30, I (lowY f x + j)), (44, I (highY f x))], bx := [(1, ⟨fourC f, false⟩)], rw := [(53, o2.length, 2, 23)], log := [], stp := false })
      (Wk.le (.cons rfl (.refl _) (.cons rfl (.refl _) (.cons rfl (.refl _) (.cons rfl (.refl _) (.cons rfl (.refl _) (.cons rfl (VLe.i ?_) .nil)))))) (.cons rfl (LLe.refl _) .nil) (.cons rfl .nil) rfl rfl) ?_
    · simp (disch := omega) only [cond_true, cond_false, ite_max, ite_min, w64, highY]
    refine Steps.fin rfl (by simp) (Tr.cond rfl rfl (fun h2 => Tr.skip ?_) (fun h2 => Tr.exit ?_))
    · have h2 : lowY f x + (j : Int) ≤ highY f x := by simpa using h2
      obtain ⟨q, hq⟩ : ∃ q, M - j = q + 1 := ⟨M - j - 1, by omega⟩
      have hq2 : M - (j + 1) = q := by omega
      have e1 : lowY f x + ((j + 1 : Nat) : Int) = lowY f x + j + 1 := by omega
      refine Tr.seq (Tr.block (Tr.regR rfl (by simp; omega) (Tr.regR rfl (by simp) ?_)))
      refine ⟨(j + 1, o2 ++ [(x, lowY f x + j)]), _, Wk.le (.cons rfl (.refl _) (.cons rfl (.of_eq (by simp)) (.cons rfl (.refl _) (.cons rfl (VLe.i ?_) .nil)))) (.cons rfl (LLe.refl _) .nil) (.cons ?_ .nil) rfl rfl, ⟨⟨by simp only; omega, ?_⟩, rfl⟩, by simp only; omega⟩
      · show IntKind.wrap .i64 (lowY f x + (j : Int) + 1) = _
        rw [w64 (by omega) (by omega)]; simp only; omega
      · show some _ = some _
        simp
      · simp only
        rw [hq2, e1, ← hl2, hq]
        simp [ptsN]
    · have h2 : ¬ lowY f x + (j : Int) ≤ highY f x := by simpa using h2
      rw [show M - j = 0 by omega] at hl2
      refine Tr.regR rfl (by simp) ?_
      refine ⟨(k + 1, o2), _, Wk.le (.cons rfl (.refl _) (.cons rfl (.refl _) (.cons rfl (VLe.i ?_) .nil))) (.cons rfl (LLe.refl _) .nil) (.cons rfl .nil) rfl rfl, ⟨⟨by simp only; omega, ?_⟩, rfl⟩, by simp only; omega⟩
      · show IntKind.wrap .i64 (x + 1) = f.x.1 + ((k + 1 : Nat) : Int)
        rw [w64 (by omega) (by omega)]; omega
      · simp only
        rw [hn2, hx']
        simpa [ptsN] using hl2
  · have h1 : ¬ f.x.1 + (k : Int) ≤ f.x.2 := by simpa using h1
    rw [show (f.x.2 + 1 - f.x.1).toNat - k = 0 by omega] at hl
    have e : out = placesL f := by simpa [rowsN] using hl
    refine Tr.seqR rfl (by simp) (Tr.retX rfl rfl rfl ?_ trivial)
    rw [← e]; rfl

end Go.Proofs.YtdejdblopmfjfaaGreatDoor


/-! Contracts: pairs; layouts, laid. -/
set_option linter.unusedVariables false
set_option linter.unusedSimpArgs false
set_option maxRecDepth 20000
set_option maxHeartbeats 2000000
namespace Go.Proofs.YtdejdblopmfjfaaGreatDoor
open Go.Am
attribute [local simp] cells scalar mkv splice under2 under dem dem1 eB gridC sB fourC eF layC
def pairsL (l m : List (Int × Int)) : List ((Int × Int) × (Int × Int)) := l.flatMap fun a => m.map fun b => (a, b)
def eP2 (p : (Int × Int) × (Int × Int)) : List V := [eB p.1, eB p.2]

theorem pairs_drop {l m : List (Int × Int)} {k : Nat} (h : k < l.length) : pairsL (l.drop k) m = (m.map fun b => (l[k], b)) ++ pairsL (l.drop (k + 1)) m := by
  rw [List.drop_eq_getElem_cons h]; rfl

theorem c_pairs (l m : List (Int × Int)) : C Tryz.prog F.bin_pairs [sB l, sB m] (.func (.func F.bin_pairs_1) [] [.vptr [sB l] 0, .vptr [sB m] 0]) := by
  refine C_of mixed chk.bin_pairs (by simp) fun S ok => ?_
  exact Tr.seqR rfl (by simp) (Tr.seqR rfl (by simp) (Tr.retQ rfl rfl rfl trivial))

theorem i_pairs {l m : List (Int × Int)} (hl : l.length ≤ 1000000) (hm : m.length ≤ 1000000) : Iter Tryz.prog F.bin_pairs_1 [.vptr [sB l] 0, .vptr [sB m] 0] ((pairsL l m).map eP2) := by
  refine Iter_of mixed chk.bin_pairs_1 (by simp) fun S ok => ?_
  refine Tr.seqR rfl (by simp) (Tr.block ?_)
  refine Tr.loop (α := Nat × List (List V)) (fun p s => (p.1 ≤ l.length ∧ p.2 ++ (pairsL (l.drop p.1) m).map eP2 = (pairsL l m).map eP2) ∧
      s = { env := [(0, .yld), (1, .vptr [sB l] 0), (2, .vptr [sB m] 0), (8, sB l), (9, I (l.length : Nat)), (10, I (p.1 : Nat))], bx := [], rw := [], log := p.2, stp := false }) (fun p => l.length - p.1) (0, [])
    (Wk.le (.cons rfl (.refl _) (.cons rfl (.refl _) (.cons rfl (.refl _) (.cons rfl (.refl _) (.cons rfl (VLe.i (by simp)) (.cons rfl (.refl _) .nil)))))) .nil .nil rfl rfl) ⟨⟨by simp, by simp⟩, rfl⟩ ?_
  rintro ⟨k, lg⟩ s ⟨⟨hk, hf⟩, rfl⟩
  simp only at hk hf
  refine Tr.seqR rfl (by simp) (Tr.seqI rfl (fun h1 => ?_) (fun h1 => ?_))
  · have h1 : k < l.length := by simpa using h1
    rw [pairs_drop h1, List.map_append, ← List.append_assoc] at hf
    have hf' : lg ++ ((m.drop 0).map fun b => eP2 (l[k], b)) ++ (pairsL (l.drop (k + 1)) m).map eP2 = (pairsL l m).map eP2 := by
      rw [List.map_map] at hf; rw [List.drop_zero]; exact hf
    refine Tr.skipT (Tr.seq (Tr.block (Tr.seq (Tr.reg (Steps.runN 1 rfl (by simp; omega) ?_)))))
    rw [getD_map h1]
    refine Steps.fin rfl (by simp) ?_
    refine Tr.seqR rfl (by simp) (Tr.block ?_)
    refine Tr.loop (α := Nat × List (List V)) (fun p s => (p.1 ≤ m.length ∧ p.2 ++ ((m.drop p.1).map fun b => eP2 (l[k], b)) ++ (pairsL (l.drop (k + 1)) m).map eP2 = (pairsL l m).map eP2) ∧
        s = { env := [(0, .yld), (1, .vptr [sB l] 0), (2, .vptr [sB m] 0), (8, sB l), (9, I (l.length : Nat)), (10, I (k : Nat)), (5, .ptr 5 0), (14, sB m), (15, I (m.length : Nat)), (16, I (p.1 : Nat))], bx := [(5, ⟨[I l[k].1, I l[k].2], false⟩)], rw := [], log := p.2, stp := false }) (fun p => m.length - p.1) (0, lg)
      (Wk.le (.cons rfl (.refl _) (.cons rfl (.refl _) (.cons rfl (.refl _) (.cons rfl (.refl _) (.cons rfl (.refl _) (.cons rfl (.refl _) (.cons rfl (.refl _) (.cons rfl (.refl _) (.cons rfl (VLe.i (by show ((m.map eB).length : Int) = (m.length : Int); rw [List.length_map])) (.cons rfl (.refl _) .nil)))))))))) (.cons rfl (LLe.refl _) .nil) .nil rfl rfl) ⟨⟨Nat.zero_le _, hf'⟩, rfl⟩ ?_
    rintro ⟨j, lg2⟩ s ⟨⟨hj, hf2⟩, rfl⟩
    simp only at hj hf2
    refine Tr.seqR rfl (by simp) (Tr.seqI rfl (fun h2 => ?_) (fun h2 => ?_))
    · have h2 : j < m.length := by simpa using h2
      have hp : lg2 ++ [eP2 (l[k], m[j])] ++ ((m.drop (j + 1)).map fun b => eP2 (l[k], b)) ++ (pairsL (l.drop (k + 1)) m).map eP2 = (pairsL l m).map eP2 := by
        rw [← hf2, List.drop_eq_getElem_cons h2, List.map_cons]
        simp only [List.append_assoc, List.cons_append, List.nil_append]
      refine Tr.skipT (Tr.seq (Tr.block (Tr.seq (Tr.reg (Steps.runN 1 rfl (by simp; omega) ?_)))))
      rw [getD_map h2]
      refine Steps.fin rfl (by simp) ?_
      refine Tr.seqC rfl (by simp) (Steps.yield rfl (by simp) rfl ⟨_, by rw [List.append_assoc] at hp; exact hp⟩ rfl (fun b => Steps.fin rfl (by simp) ?_))
      cases b with
      | false => exact Tr.condT rfl (Tr.ret ⟨.inl rfl, [], [], [], rfl, rfl, rfl⟩)
      | true =>
        refine Tr.condF rfl (Tr.skip (Tr.regR rfl (by simp) ?_))
        exact ⟨(j + 1, lg2 ++ [eP2 (l[k], m[j])]), _, Wk.le (.cons rfl (.refl _) (.cons rfl (.refl _) (.cons rfl (.refl _) (.cons rfl (.refl _) (.cons rfl (.refl _) (.cons rfl (.refl _) (.cons rfl (.refl _) (.cons rfl (.refl _) (.cons rfl (.refl _) (.cons rfl (VLe.i (w64 (by omega) (by omega))) .nil)))))))))) (.cons rfl (LLe.refl _) .nil) .nil rfl rfl, ⟨⟨by simp only; omega, hp⟩, rfl⟩, by simp only; omega⟩
    · have h2 : j = m.length := by simp at h2; omega
      subst h2
      rw [List.drop_length] at hf2
      refine Tr.exit (Tr.regR rfl (by simp) ?_)
      exact ⟨(k + 1, lg2), _, Wk.le (.cons rfl (.refl _) (.cons rfl (.refl _) (.cons rfl (.refl _) (.cons rfl (.refl _) (.cons rfl (.refl _) (.cons rfl (VLe.i (w64 (by omega) (by omega))) .nil)))))) .nil .nil rfl rfl, ⟨⟨by simp only; omega, by simpa using hf2⟩, rfl⟩, by simp only; omega⟩
  · have h1 : k = l.length := by simp at h1; omega
    subst h1
    rw [List.drop_length] at hf
    refine Tr.exit ⟨.inr ?_, [], [], [], rfl, rfl, rfl⟩
    have e : lg = (pairsL l m).map eP2 := by simpa [pairsL] using hf
    exact e

/-! ### Laid -/
structure Ld where
  g : Gd
  traces : List (Int × Int)
  places : List (List (Int × Int))

def laidC (l : Ld) : List V := gridC l.g ++ [sB l.traces, .slice 0 1 (l.places.map sB)]
def layD (g : Gd) (s : Ly) : Ld := ⟨g, s.traces, s.nodes.map placesL⟩

theorem layOk_spec {s : Ly} (h : layOk s = true) : (s.nodes.length ≤ 16 ∧ s.traces.length ≤ 64) ∧ (∀ f ∈ s.nodes, nodeOk f = true) ∧ ∀ t ∈ s.traces, traceOk s.nodes.length t = true := by
  simp only [layOk, Bool.and_eq_true, decide_eq_true_eq, List.all_eq_true] at h
  exact ⟨h.1.1, h.1.2, h.2⟩

theorem c_lay (g : Gd) {s : Ly} (h : layOk s = true) : C Tryz.prog F.bin_lay [.agg (gridC g), .agg (layC s)] (.agg (laidC (layD g s))) := by
  obtain ⟨⟨hn, ht⟩, hN, hT⟩ := layOk_spec h
  refine C_of mixed chk.bin_lay (by simp) fun S ok => ?_
  refine Tr.seqR rfl (by simp) (Tr.seqR rfl (by simp) (Tr.seq (Tr.seqR rfl (by simp) (Tr.block ?_))))
  refine Tr.loop (fun (k : Nat) st => k ≤ s.nodes.length ∧ st = { env := [(4, .ptr 4 0), (5, .ptr 5 0), (13, .slice 0 8 (s.nodes.map eF)), (14, I (s.nodes.length : Nat)), (15, I (k : Nat))], bx := [(4, ⟨[I 0, I 0, I 0, I 0, I 0, .nils, .nils, .nils], false⟩), (5, ⟨gridC g ++ [sB s.traces, .slice 25 1 (((s.nodes.take k).map placesL).map sB)], false⟩)], rw := [(24, k, 1, 88)], log := [], stp := false }) (fun k => s.nodes.length - k) 0
    (Wk.le (.cons rfl (.refl _) (.cons rfl (.refl _) (.cons rfl (.refl _) (.cons rfl (VLe.i (by simp)) (.cons rfl (.refl _) .nil))))) (.cons rfl (LLe.refl _) (.cons rfl (.cons (.refl _) (.cons (.refl _) (.cons (.refl _) (.cons (.refl _) (.cons (.refl _) (.cons (.refl _) (.cons (.refl _) (.cons (.nil 25 1) .nil)))))))) .nil)) (.new rfl .nil) rfl rfl) ⟨by omega, rfl⟩ ?_
  rintro k st ⟨hk, rfl⟩
  refine Tr.seqR rfl (by simp) (Tr.seqI rfl (fun h1 => ?_) (fun h1 => ?_))
  · have h1 : k < s.nodes.length := by simpa using h1
    have hlen : (((s.nodes.take k).map placesL).map sB).length = k := by simp; omega
    refine Tr.skipT (Tr.seq (Tr.block (Tr.seq (Tr.reg (Steps.runN 1 rfl (by simp; omega) ?_)))))
    rw [getD_map h1]
    refine Steps.fin rfl (by simp) ?_
    refine Tr.drawK (TraceK.run rfl (by simp) (TraceK.call rfl rfl (c_places (hN _ (List.getElem_mem h1))) ?_))
    refine TraceK.run rfl (by simp; omega) (.done ⟨by kernel_rfl, by kernel_rfl, ?_⟩)
    refine Tr.regR rfl (by simp) ?_
    have e : ((s.nodes.take (k + 1)).map placesL).map sB = ((s.nodes.take k).map placesL).map sB ++ [sB (placesL s.nodes[k])] := by
      rw [List.take_add_one, List.getElem?_eq_getElem h1, List.map_append, List.map_append]; rfl
    refine ⟨k + 1, _, Wk.le (.cons rfl (.refl _) (.cons rfl (.refl _) (.cons rfl (.refl _) (.cons rfl (.refl _) (.cons rfl (VLe.i (w64 (by omega) (by omega))) .nil))))) (.cons rfl (LLe.refl _) (.cons rfl (.cons (.refl _) (.cons (.refl _) (.cons (.refl _) (.cons (.refl _) (.cons (.refl _) (.cons (.refl _) (.cons (.refl _) (.cons (.of_eq ?_) .nil)))))))) .nil)) (.cons ?_ .nil) rfl rfl, ⟨h1, rfl⟩, by omega⟩
    · rw [e]; rfl
    · show some _ = some _
      simp; omega
  · have h1 : k = s.nodes.length := by simp at h1; omega
    subst h1
    rw [List.take_length]
    exact Tr.exit (Tr.seqR rfl (by simp) (Tr.retX rfl rfl rfl rfl trivial))

theorem c_begun {g : Gd} {s : Ly} (hl : g.cls.length ≤ 9223372036854775807) (hn : s.nodes.length ≤ 9223372036854775807) (ht : s.traces.length ≤ 9223372036854775807) : C Tryz.prog F.bin_begun [.agg (gridC g), .agg (layC s)]
    (if gridOk g then (if layOk s then .tuple [.agg (laidC (layD g s)), I 0] else .tuple [.agg [I 0, I 0, I 0, I 0, I 0, .nils, .nils, .nils], I 71]) else .tuple [.agg [I 0, I 0, I 0, I 0, I 0, .nils, .nils, .nils], I 70]) := by
  have kg := c_CheckGrid (g := g) hl
  have ks := c_CheckLayout (s := s) hn ht
  refine C_of mixed chk.bin_begun (by simp) fun S ok => ?_
  refine Tr.seqR rfl (by simp) ?_
  by_cases hg : gridOk g = true
  rotate_left
  · rw [if_neg hg] at kg ⊢
    refine Tr.seq (Tr.seqC rfl (by simp) (Steps.call rfl rfl kg (Steps.fin rfl (by simp) (Tr.seqR rfl (by simp) (Tr.condT rfl ?_)))))
    exact Tr.seqR rfl (by simp) (Tr.retX rfl rfl rfl rfl trivial)
  rw [if_pos hg] at kg ⊢
  refine Tr.seq (Tr.seqC rfl (by simp) (Steps.call rfl rfl kg (Steps.fin rfl (by simp) (Tr.seqR rfl (by simp) (Tr.condF rfl (Tr.skip ?_))))))
  by_cases hs : layOk s = true
  rotate_left
  · rw [if_neg hs] at ks ⊢
    refine Tr.seq (Tr.seqC rfl (by simp) (Steps.call rfl rfl ks (Steps.fin rfl (by simp) (Tr.seqR rfl (by simp) (Tr.condT rfl ?_)))))
    exact Tr.seqR rfl (by simp) (Tr.retX rfl rfl rfl rfl trivial)
  rw [if_pos hs] at ks ⊢
  refine Tr.seq (Tr.seqC rfl (by simp) (Steps.call rfl rfl ks (Steps.fin rfl (by simp) (Tr.seqR rfl (by simp) (Tr.condF rfl (Tr.skip ?_))))))
  exact Tr.seqC rfl (by simp) (Steps.call rfl rfl (c_lay g hs) (Steps.fin rfl (by simp [laidC]) (Tr.retX rfl rfl rfl rfl trivial)))

/-! ### Needs -/
def needOk (g : Gd) (l : List Int) : Bool := decide (l.length = g.cls.length) && !(l.any fun n => !btw n 0 100)

theorem c_need1 (n : Int) : C Tryz.prog F.bin_needed_1 [I n] (.bool (!btw n 0 100)) := by
  refine C_of mixed chk.bin_needed_1 (by simp) fun S ok => ?_
  exact Tr.seqR rfl (by simp) (Tr.seqC rfl (by simp) (Steps.call rfl rfl (c_within n 0 100) (Steps.fin rfl (by simp) (Tr.retX rfl rfl rfl rfl trivial))))

theorem c_needed {g : Gd} {l : List Int} (hl : l.length ≤ 9223372036854775807) : C Tryz.prog F.bin_needed [.agg (gridC g), intsV l] (.bool (needOk g l)) := by
  refine C_of mixed chk.bin_needed (by simp) fun S ok => ?_
  refine Tr.seqR rfl (by simp) ?_
  refine Tr.seqC rfl (by simp [intsV]) (Steps.gcall rfl rfl rfl rfl (by simp) (fun _ => c_containsI hl fun n _ => c_need1 n) (Steps.fin rfl (by simp) (Tr.retX rfl rfl rfl ?_ trivial)))
  show V.bool (needOk g l) = .bool (bif (((l.map I).length : Int) == ((g.cls.map eB).length : Int)) then !(l.any fun n => !btw n 0 100) else false)
  unfold needOk
  congr 1
  by_cases h : l.length = g.cls.length
  · simp [h]
  · have : ¬ ((l.length : Int) = (g.cls.length : Int)) := by omega
    simp [h, this]

def cmpN (a b : Int × Int) : Int := if a.1 ≠ b.1 then w (a.1 - b.1) else w (a.2 - b.2)

theorem c_ordered (a b : Int × Int) : C Tryz.prog F.bin_ordered [eB a, eB b] (I (cmpN a b)) := by
  refine C_of mixed chk.bin_ordered (by simp) fun S ok => ?_
  refine Tr.seqR rfl (by simp) (Tr.seq (Tr.seqR rfl (by simp) (Tr.cond rfl rfl (fun h => ?_) (fun h => Tr.skip ?_))))
  · have h : a.1 ≠ b.1 := by
      have h : (a.1 != b.1) = true := h
      simpa using h
    refine Tr.seqR rfl (by simp) (Tr.retX rfl rfl rfl ?_ trivial)
    unfold cmpN; rw [if_pos h]; rfl
  · have h : ¬ a.1 ≠ b.1 := by
      have h : (a.1 != b.1) = false := h
      simpa using h
    refine Tr.seqR rfl (by simp) (Tr.retX rfl rfl rfl ?_ trivial)
    unfold cmpN; rw [if_neg h]; rfl

end Go.Proofs.YtdejdblopmfjfaaGreatDoor


/-! Contracts: copies; infills, checked. -/
set_option linter.unusedVariables false
set_option linter.unusedSimpArgs false
set_option maxRecDepth 20000
set_option maxHeartbeats 2000000
namespace Go.Proofs.YtdejdblopmfjfaaGreatDoor
open Go.Am
attribute [local simp] cells scalar mkv splice under2 under dem dem1 eB
theorem c_CloneI {l : List Int} (hne : l ≠ []) (hl : l.length ≤ 2 ^ 24) : CO Tryz.prog F.slices_Clone_int_int [intsV l] 1 (l.map I) := by
  refine CO_of mixed chk.slices_Clone_int_int (by simp) fun S ok => ?_
  refine Tr.seqR rfl (by simp) (Tr.seq (Tr.seq (Tr.reg (Steps.runN 1 rfl (by simp) ?_))))
  refine Steps.nilS rfl fun b hb => ?_
  obtain rfl := hb (by simpa using hne)
  refine Steps.fin rfl (by simp) (Tr.condF rfl (Tr.skip (Tr.seq (Tr.reg ?_))))
  refine Steps.mkE rfl fun blk => Steps.runN 1 rfl (by simp) ?_
  refine Steps.appendE (r := 0) (sz := 1) (ys := l.map I) rfl rfl (by omega) (by simp; omega) (by simp; omega) (by simpa using hne) ?_
  refine Steps.fin rfl (by simp) (Tr.ret ?_)
  exact ⟨7, rfl, rfl, by rw [flat_ints]; exact ints_isD l⟩

theorem c_CloneI0 : C Tryz.prog F.slices_Clone_int_int [intsV []] (intsV []) := by
  refine C_of mixed chk.slices_Clone_int_int (by simp) fun S ok => ?_
  refine Tr.seqR rfl (by simp) (Tr.seq (Tr.seq (Tr.reg (Steps.runN 1 rfl (by simp) ?_))))
  refine Steps.nilS rfl fun b hb => ?_
  cases b with
  | true =>
    refine Steps.fin rfl (by simp) (Tr.condT rfl (Tr.seqR rfl (by simp) ?_))
    exact Tr.weak (s' := { env := [(2, intsV [])], bx := [], rw := [], log := [], stp := false }) (Wk.le (.cons rfl (.nil 0 1) .nil) .nil .nil rfl rfl) (Tr.retX rfl rfl rfl rfl trivial)
  | false =>
    refine Steps.fin rfl (by simp) (Tr.condF rfl (Tr.skip (Tr.seq (Tr.reg ?_))))
    refine Steps.mkE rfl fun blk => Steps.runN 1 rfl (by simp) ?_
    refine Steps.appendE0 (r := 0) (sz := 1) rfl ?_
    exact Steps.fin rfl (by simp) (Tr.retX rfl rfl rfl rfl trivial)

/-! ### Infills -/
structure Ps where
  cost : Int
  adds : List Int

structure Nf where
  lacks : List Int
  passes : List Ps

def eQ (p : Ps) : V := .agg [I p.cost, intsV p.adds]
def nfC (x : Nf) : List V := [intsV x.lacks, .slice 0 2 (x.passes.map eQ)]
attribute [local simp] eQ nfC intsV
def passOk (n : Nat) (p : Ps) : Bool := btw p.cost 1 1000 && decide (p.adds.length = n) && !(p.adds.any fun n => !btw n 0 100)
def nfOk (x : Nf) : Bool := decide (x.lacks.length ≤ 16) && decide (x.passes.length ≤ 10) && x.lacks.all (btw · 1 100) && x.passes.all (passOk x.lacks.length)

theorem c_inf1 (n : Int) : C Tryz.prog F.bin_CheckInfill_1 [I n] (.bool (!btw n 0 100)) := by
  refine C_of mixed chk.bin_CheckInfill_1 (by simp) fun S ok => ?_
  exact Tr.seqR rfl (by simp) (Tr.seqC rfl (by simp) (Steps.call rfl rfl (c_within n 0 100) (Steps.fin rfl (by simp) (Tr.retX rfl rfl rfl rfl trivial))))

theorem c_CheckInfill {x : Nf} (hx : ∀ p ∈ x.passes, p.adds.length ≤ 9223372036854775807) : C Tryz.prog F.bin_CheckInfill [.agg (nfC x)] (I (if nfOk x then 0 else 74)) := by
  refine C_of mixed chk.bin_CheckInfill (by simp) fun S ok => ?_
  refine Tr.seqR rfl (by simp) (Tr.seq (Tr.seqR rfl (by simp) (Tr.cond rfl rfl (fun h1 => ?_) (fun h1 => Tr.skip ?_))))
  · refine Tr.seqR rfl (by simp) (Tr.retX rfl rfl rfl ?_ trivial)
    have h1 : (bif decide (((x.lacks.map I).length : Int) > 16) then true else decide (((x.passes.map eQ).length : Int) > 10)) = true := h1
    have : nfOk x = false := by
      unfold nfOk
      by_cases a1 : x.lacks.length ≤ 16
      · by_cases a2 : x.passes.length ≤ 10
        · simp at h1; omega
        · simp [a2]
      · simp [a1]
    rw [this]; rfl
  have h1 : (bif decide (((x.lacks.map I).length : Int) > 16) then true else decide (((x.passes.map eQ).length : Int) > 10)) = false := h1
  have hnl : x.lacks.length ≤ 16 ∧ x.passes.length ≤ 10 := by
    simp at h1; omega
  refine Tr.seq (Tr.seqR rfl (by simp) (Tr.block ?_))
  refine Tr.loop (fun (k : Nat) st => (k ≤ x.lacks.length ∧ (x.lacks.take k).all (btw · 1 100) = true) ∧ st = { env := [(1, .ptr 1 0), (18, intsV x.lacks), (19, I (x.lacks.length : Nat)), (20, I (k : Nat))], bx := [(1, ⟨nfC x, false⟩)], rw := [], log := [], stp := false }) (fun k => x.lacks.length - k) 0
    (Wk.le (.cons rfl (.refl _) (.cons rfl (.refl _) (.cons rfl (VLe.i (by simp)) (.cons rfl (.refl _) .nil)))) (.cons rfl (LLe.refl _) .nil) .nil rfl rfl) ⟨⟨by omega, by simp⟩, rfl⟩ ?_
  rintro k st ⟨⟨hk, hall⟩, rfl⟩
  refine Tr.seqR rfl (by simp) (Tr.seqI rfl (fun h2 => ?_) (fun h2 => ?_))
  · have h2 : k < x.lacks.length := by simpa using h2
    refine Tr.skipT (Tr.seq (Tr.block (Tr.seq (Tr.reg (Steps.runN 1 rfl (by simp; omega) ?_)))))
    rw [getD_map h2]
    refine Steps.fin rfl (by simp) ?_
    refine Tr.seqC rfl (by simp) (Steps.call rfl rfl (c_within x.lacks[k] 1 100) (Steps.fin rfl (by simp) ?_))
    refine Tr.cond rfl rfl (fun h3 => ?_) (fun h3 => Tr.skip (Tr.regR rfl (by simp) ?_))
    · have h3 : btw x.lacks[k] 1 100 = false := by simpa using h3
      refine Tr.seqR rfl (by simp) (Tr.retX rfl rfl rfl ?_ trivial)
      have : nfOk x = false := by
        unfold nfOk
        rw [all_false (p := fun n => btw n 1 100) h2 h3]; simp
      rw [this]; rfl
    · have h3 : btw x.lacks[k] 1 100 = true := by simpa using h3
      exact ⟨k + 1, _, Wk.le (.cons rfl (.refl _) (.cons rfl (.refl _) (.cons rfl (.refl _) (.cons rfl (VLe.i (w64 (by omega) (by omega))) .nil)))) (.cons rfl (LLe.refl _) .nil) .nil rfl rfl, ⟨⟨h2, by rw [all_take_succ h2, hall, h3]; rfl⟩, rfl⟩, by omega⟩
  have h2 : k = x.lacks.length := by simp at h2; omega
  subst h2
  rw [List.take_length] at hall
  refine Tr.exit (Tr.seq (Tr.seqR rfl (by simp) (Tr.block ?_)))
  refine Tr.loop (fun (k : Nat) st => (k ≤ x.passes.length ∧ (x.passes.take k).all (passOk x.lacks.length) = true) ∧ st = { env := [(1, .ptr 1 0), (29, .slice 0 2 (x.passes.map eQ)), (30, I (x.passes.length : Nat)), (31, I (k : Nat))], bx := [(1, ⟨nfC x, false⟩)], rw := [], log := [], stp := false }) (fun k => x.passes.length - k) 0
    (Wk.le (.cons rfl (.refl _) (.cons rfl (.refl _) (.cons rfl (VLe.i (by simp)) (.cons rfl (.refl _) .nil)))) (.cons rfl (LLe.refl _) .nil) .nil rfl rfl) ⟨⟨by omega, by simp⟩, rfl⟩ ?_
  rintro k st ⟨⟨hk, hallT⟩, rfl⟩
  refine Tr.seqR rfl (by simp) (Tr.seqI rfl (fun h2 => ?_) (fun h2 => ?_))
  · have h2 : k < x.passes.length := by simpa using h2
    refine Tr.skipT (Tr.seq (Tr.block (Tr.seq (Tr.reg (Steps.runN 1 rfl (by simp; omega) ?_)))))
    rw [getD_map h2]
    refine Steps.fin rfl (by simp) ?_
    have hpl := hx _ (List.getElem_mem h2)
    refine Tr.seqC rfl (by simp) (Steps.call rfl rfl (c_within x.passes[k].cost 1 1000) (Steps.run rfl (by simp) ?_))
    refine Steps.gcall rfl rfl rfl rfl (by simp) (fun _ => c_containsI hpl fun n _ => c_inf1 n) (Steps.fin rfl (by simp) ?_)
    have hT : passOk x.lacks.length x.passes[k] = (btw x.passes[k].cost 1 1000 && decide (x.passes[k].adds.length = x.lacks.length) && !(x.passes[k].adds.any fun n => !btw n 0 100)) := rfl
    have hne : ((((x.passes[k].adds.map I).length : Int)) != (((x.lacks.map I).length : Int))) = !decide (x.passes[k].adds.length = x.lacks.length) := by
      by_cases h : x.passes[k].adds.length = x.lacks.length
      · simp [h]
      · have : ¬ ((x.passes[k].adds.length : Int) = (x.lacks.length : Int)) := by omega
        simp [h, this]
    refine Tr.cond rfl rfl (fun h3 => ?_) (fun h3 => Tr.skip (Tr.regR rfl (by simp) ?_))
    · refine Tr.seqR rfl (by simp) (Tr.retX rfl rfl rfl ?_ trivial)
      have hf : passOk x.lacks.length x.passes[k] = false := by
        rw [hT]
        revert h3
        simp only [hne]
        cases btw x.passes[k].cost 1 1000 <;> cases decide (x.passes[k].adds.length = x.lacks.length) <;> cases (x.passes[k].adds.any fun n => !btw n 0 100) <;> first | (intro _; rfl) | (intro h; cases h)
      have : nfOk x = false := by
        unfold nfOk
        rw [all_false (p := passOk x.lacks.length) h2 hf]; simp
      rw [this]; rfl
    · have hf : passOk x.lacks.length x.passes[k] = true := by
        rw [hT]
        revert h3
        simp only [hne]
        cases btw x.passes[k].cost 1 1000 <;> cases decide (x.passes[k].adds.length = x.lacks.length) <;> cases (x.passes[k].adds.any fun n => !btw n 0 100) <;> first | (intro _; rfl) | (intro h; cases h)
      exact ⟨k + 1, _, Wk.le (.cons rfl (.refl _) (.cons rfl (.refl _) (.cons rfl (.refl _) (.cons rfl (VLe.i (w64 (by omega) (by omega))) .nil)))) (.cons rfl (LLe.refl _) .nil) .nil rfl rfl, ⟨⟨h2, by rw [all_take_succ h2, hallT, hf]; rfl⟩, rfl⟩, by omega⟩
  have h2 : k = x.passes.length := by simp at h2; omega
  subst h2
  rw [List.take_length] at hallT
  refine Tr.exit (Tr.seqR rfl (by simp) (Tr.retX rfl rfl rfl ?_ trivial))
  have : nfOk x = true := by
    unfold nfOk
    rw [hall, hallT, decide_eq_true hnl.1, decide_eq_true hnl.2]; rfl
  rw [this]; rfl

end Go.Proofs.YtdejdblopmfjfaaGreatDoor


/-! Contracts: choices as numbers; sums; costs. -/
set_option linter.unusedVariables false
set_option linter.unusedSimpArgs false
set_option maxRecDepth 20000
set_option maxHeartbeats 2000000
namespace Go.Proofs.YtdejdblopmfjfaaGreatDoor
open Go.Am
attribute [local simp] cells scalar mkv splice under2 under dem dem1 eB eQ nfC intsV
/-! ### Bits -/
theorem bit_shr (b k : Nat) (hk : k < 64) : ((b : Int).fdiv (2 ^ (min (k : Int).toNat 64))).tmod 2 = if b.testBit k then 1 else 0 := by
  have e1 : min (k : Int).toNat 64 = k := by omega
  rw [e1, Nat.testBit_eq_decide_div_mod_eq]
  have e2 : ((2 : Int) ^ k) = ((2 ^ k : Nat) : Int) := by simp
  rw [e2]
  generalize 2 ^ k = m
  rw [Int.fdiv_eq_ediv_of_nonneg _ (Int.natCast_nonneg _), ← Int.natCast_ediv]
  generalize b / m = q
  have : ((q : Int)).tmod 2 = ((q % 2 : Nat) : Int) := by
    rw [Int.tmod_eq_emod_of_nonneg (Int.natCast_nonneg _)]; simp
  rw [this]
  have := Nat.mod_lt q (show 0 < 2 by omega)
  by_cases h : q % 2 = 1
  · simp [h]
  · have h0 : q % 2 = 0 := by omega
    simp [h0]

theorem bits_or (a b : Nat) (ha : a < 2 ^ 62) (hb : b < 2 ^ 62) : bitsV .or .i64 a b = ((a ||| b : Nat) : Int) := by
  have hlt : a ||| b < 2 ^ 62 := Nat.or_lt_two_pow ha hb
  show IntKind.wrap .i64 ((BitVec.ofInt 64 (a : Int) ||| BitVec.ofInt 64 (b : Int)).toNat : Int) = _
  have e : (BitVec.ofInt 64 (a : Int) ||| BitVec.ofInt 64 (b : Int)).toNat = a ||| b := by
    rw [BitVec.toNat_or, BitVec.ofInt_natCast, BitVec.ofInt_natCast, BitVec.toNat_ofNat, BitVec.toNat_ofNat, Nat.mod_eq_of_lt (by omega), Nat.mod_eq_of_lt (by omega)]
  rw [e, w64 (by omega) (by omega)]

theorem bits_and (a b : Nat) (ha : a < 2 ^ 62) (hb : b < 2 ^ 62) : bitsV .and .i64 a b = ((a &&& b : Nat) : Int) := by
  have hlt : a &&& b < 2 ^ 62 := Nat.lt_of_le_of_lt Nat.and_le_left ha
  show IntKind.wrap .i64 ((BitVec.ofInt 64 (a : Int) &&& BitVec.ofInt 64 (b : Int)).toNat : Int) = _
  have e : (BitVec.ofInt 64 (a : Int) &&& BitVec.ofInt 64 (b : Int)).toNat = a &&& b := by
    rw [BitVec.toNat_and, BitVec.ofInt_natCast, BitVec.ofInt_natCast, BitVec.toNat_ofNat, BitVec.toNat_ofNat, Nat.mod_eq_of_lt (by omega), Nat.mod_eq_of_lt (by omega)]
  rw [e, w64 (by omega) (by omega)]

theorem bit_shl (k : Nat) (hk : k ≤ 61) : IntKind.wrap .i64 (1 * 2 ^ (min (k : Int).toNat 64)) = ((2 ^ k : Nat) : Int) := by
  have e1 : min (k : Int).toNat 64 = k := by omega
  have h : 2 ^ k ≤ 2 ^ 61 := Nat.pow_le_pow_right (by omega) hk
  rw [e1, Int.one_mul]
  have e2 : ((2 : Int) ^ k) = ((2 ^ k : Nat) : Int) := by simp
  rw [e2]
  generalize 2 ^ k = m at h
  rw [w64 (by omega) (by omega)]

/-- A number as a choice. -/
def choiceN (b : Nat) : List Nat := (List.range 10).filter fun i => b.testBit i
def castL (l : List Nat) : List Int := l.map fun (i : Nat) => (i : Int)
def choiceL (b : Nat) : List Int := castL (choiceN b)

theorem c_choice (b : Nat) : C Tryz.prog F.bin_choice [I (b : Nat)] (intsV (choiceL b)) := by
  refine C_of mixed chk.bin_choice (by simp) fun S ok => ?_
  refine Tr.seqR rfl (by simp) (Tr.seqR rfl (by simp) (Tr.seq (Tr.seqR rfl (by simp) (Tr.block ?_))))
  refine Tr.loop (fun (k : Nat) st => k ≤ 10 ∧ st = { env := [(0, I (b : Nat)), (3, .slice 17 1 ((castL ((List.range k).filter fun i => b.testBit i)).map I)), (5, I (k : Nat))], bx := [], rw := [(16, (castL ((List.range k).filter fun i => b.testBit i)).length, 1, 3)], log := [], stp := false }) (fun k => 10 - k) 0
    (Wk.le (.cons rfl (.refl _) (.cons rfl (.nil 17 1) (.cons rfl (.refl _) .nil))) .nil (.new rfl .nil) rfl rfl) ⟨by omega, rfl⟩ ?_
  rintro k st ⟨hk, rfl⟩
  refine Tr.seqR rfl (by simp) (Tr.seqI rfl (fun h1 => ?_) (fun h1 => ?_))
  · have h1 : k < 10 := by
      have h1 : decide ((k : Int) < 10) = true := h1
      simp at h1; omega
    have hlen : (castL ((List.range k).filter fun i => b.testBit i)).length ≤ 10 := by
      have := List.length_filter_le (fun i => b.testBit i) (List.range k)
      simp [castL] at this ⊢; omega
    have e : ((List.range (k + 1)).filter fun i => b.testBit i) = ((List.range k).filter fun i => b.testBit i) ++ (if b.testBit k then [k] else []) := by
      rw [List.range_succ, List.filter_append]
      congr 1
      by_cases h : b.testBit k <;> simp [h]
    refine Tr.skipT (Tr.seq (Tr.block (Tr.seqR rfl (by simp) (Tr.seqR rfl (by simp) ?_))))
    have hb := bit_shr b k (by omega)
    refine Tr.cond rfl rfl (fun h2 => ?_) (fun h2 => Tr.skip ?_)
    · have h2 : ((((b : Int).fdiv (2 ^ (min (k : Int).toNat 64))).tmod 2) == 1) = true := h2
      have ht : b.testBit k = true := by
        rw [hb] at h2
        by_cases h : b.testBit k
        · exact h
        · simp [h] at h2
      refine Tr.regR rfl (by simp; omega) (Tr.regR rfl (by simp) ?_)
      rw [ht] at e
      refine ⟨k + 1, _, Wk.le (.cons rfl (.refl _) (.cons rfl (.of_eq ?_) (.cons rfl (VLe.i (w64 (by omega) (by omega))) .nil))) .nil (.cons ?_ .nil) rfl rfl, ⟨h1, rfl⟩, by omega⟩
      · rw [e]; simp [castL]
      · rw [e]
        show some _ = some _
        simp [castL]
    · have h2 : ((((b : Int).fdiv (2 ^ (min (k : Int).toNat 64))).tmod 2) == 1) = false := h2
      have ht : b.testBit k = false := by
        rw [hb] at h2
        by_cases h : b.testBit k
        · simp [h] at h2
        · simpa using h
      refine Tr.regR rfl (by simp) ?_
      rw [ht] at e
      refine ⟨k + 1, _, Wk.le (.cons rfl (.refl _) (.cons rfl (.of_eq ?_) (.cons rfl (VLe.i (w64 (by omega) (by omega))) .nil))) .nil (.cons ?_ .nil) rfl rfl, ⟨h1, rfl⟩, by omega⟩
      · rw [e]; simp
      · rw [e]
        show some _ = some _
        simp [castL]
  · have h1 : k = 10 := by
      have h1 : decide ((k : Int) < 10) = false := h1
      simp at h1; omega
    subst h1
    exact Tr.exit (Tr.seqR rfl (by simp) (Tr.retX rfl rfl rfl rfl trivial))

/-! ### Sums -/
def sumF (v : Int → Int) (l : List Int) : Int := (l.map v).foldl (· + ·) 0

theorem sumF_bd {v : Int → Int} {m : Int} : ∀ (l : List Int) (a : Int), (∀ n ∈ l, 0 ≤ v n ∧ v n ≤ m) → a ≤ (l.map v).foldl (· + ·) a ∧ (l.map v).foldl (· + ·) a ≤ a + l.length * m
  | [], a, _ => by simp
  | n :: l, a, h => by
    have h1 := h n (by simp)
    have h2 := sumF_bd l (a + v n) (fun r hr => h r (by simp [hr]))
    simp only [List.map_cons, List.foldl_cons, List.length_cons]
    have : ((l.length + 1 : Nat) : Int) * m = l.length * m + m := by push_cast; rw [Int.add_mul]; omega
    omega

theorem c_sum {f : FuncId} {us : List V} {v : Int → Int} {l : List Int} (hpl : Plain us) (hl : l.length ≤ 16) (hv : ∀ n ∈ l, 0 ≤ v n ∧ v n ≤ 1000) (hf : ∀ n ∈ l, C Tryz.prog f (I n :: us) (I (v n))) :
    C Tryz.prog F.bin_sum_int [intsV l, .func (.func f) [] us] (I (sumF v l)) := by
  refine C_of mixed chk.bin_sum_int (by simp) fun S ok => ?_
  refine Tr.seqR rfl (by simp) (Tr.seqR rfl (by simp) (Tr.seq (Tr.seqR rfl (by simp) (Tr.block ?_))))
  refine Tr.loop (fun (k : Nat) st => k ≤ l.length ∧ st = { env := [(1, .func (.func f) [] us), (5, I (sumF v (l.take k))), (8, intsV l), (9, I (l.length : Nat)), (10, I (k : Nat))], bx := [], rw := [], log := [], stp := false }) (fun k => l.length - k) 0
    (Wk.le (.cons rfl (.refl _) (.cons rfl (.refl _) (.cons rfl (.refl _) (.cons rfl (VLe.i (by simp)) (.cons rfl (.refl _) .nil))))) .nil .nil (by simp only [okRefs, List.all_cons, refs_plain hpl]; rfl) rfl) ⟨by omega, rfl⟩ ?_
  rintro k st ⟨hk, rfl⟩
  refine Tr.seqR rfl (by simp) (Tr.seqI rfl (fun h1 => ?_) (fun h1 => ?_))
  · have h1 : k < l.length := by simpa using h1
    refine Tr.skipT (Tr.seq (Tr.block (Tr.seq (Tr.reg (Steps.runN 1 rfl (by simp; omega) ?_)))))
    rw [getD_map h1]
    refine Steps.fin rfl (by simp) ?_
    refine Tr.reg (Steps.run rfl (by simp) (Steps.callv (us := I l[k] :: us) (ids := []) rfl ?_ (hf _ (List.getElem_mem h1)) (Steps.fin rfl (by simp) (Tr.regR rfl (by simp) ?_))))
    · show cons2 _ (toDs _ us) = _
      rw [hpl.d]; rfl
    have hb := sumF_bd (l.take k) 0 (v := v) (m := 1000) (fun n hn => hv n (List.mem_of_mem_take hn))
    have hb2 := hv _ (List.getElem_mem h1)
    have hlt : (l.take k).length = k := by simp; omega
    rw [hlt] at hb
    have e : sumF v (l.take (k + 1)) = sumF v (l.take k) + v l[k] := by
      unfold sumF
      rw [List.take_add_one, List.getElem?_eq_getElem h1, List.map_append, List.foldl_append]; rfl
    refine ⟨k + 1, _, Wk.le (.cons rfl (.refl _) (.cons rfl (VLe.i ?_) (.cons rfl (.refl _) (.cons rfl (.refl _) (.cons rfl (VLe.i (w64 (by omega) (by omega))) .nil))))) .nil .nil (by simp only [okRefs, List.all_cons, refs_plain hpl]; rfl) rfl, ⟨h1, rfl⟩, by omega⟩
    rw [e]
    unfold sumF
    exact w64 (by omega) (by omega)
  · have h1 : k = l.length := by simp at h1; omega
    subst h1
    rw [List.take_length]
    exact Tr.exit (Tr.seqR rfl (by simp) (Tr.retX rfl rfl rfl rfl trivial))

theorem plain_nil : Plain [] := ⟨fun _ => rfl, fun _ _ => rfl⟩

theorem c_covers1 (n : Int) : C Tryz.prog F.bin_covers_1 [I n] (I n) := by
  refine C_of mixed chk.bin_covers_1 (by simp) fun S ok => ?_
  exact Tr.seqR rfl (by simp) (Tr.seqR rfl (by simp) (Tr.retX rfl rfl rfl rfl trivial))

/-! ### Infills that are such -/
theorem nfOk_spec {x : Nf} (h : nfOk x = true) : (x.lacks.length ≤ 16 ∧ x.passes.length ≤ 10) ∧ (∀ n ∈ x.lacks, 1 ≤ n ∧ n ≤ 100) ∧ ∀ p ∈ x.passes, (1 ≤ p.cost ∧ p.cost ≤ 1000) ∧ p.adds.length = x.lacks.length ∧ ∀ n ∈ p.adds, 0 ≤ n ∧ n ≤ 100 := by
  simp only [nfOk, passOk, Bool.and_eq_true, decide_eq_true_eq, List.all_eq_true, btw_iff, Bool.not_eq_true', List.any_eq_false, Bool.not_eq_true, Bool.not_eq_false'] at h
  obtain ⟨⟨h1, h2⟩, h3⟩ := h
  refine ⟨h1, h2, fun p hp => ⟨(h3 p hp).1.1, (h3 p hp).1.2, fun n hn => ?_⟩⟩
  have := (h3 p hp).2 n hn
  simpa [btw_iff] using this

def p0 : Ps := ⟨0, []⟩
def costOf (x : Nf) (i : Nat) : Int := (x.passes.getD i p0).cost
def costB (x : Nf) (b : Nat) : Int := sumF (fun i => costOf x i.toNat) (choiceL b)

theorem mem_choice {b i : Nat} : i ∈ choiceN b ↔ i < 10 ∧ b.testBit i = true := by simp [choiceN]

theorem bit_lt {b i m : Nat} (h : b < 2 ^ m) (hi : b.testBit i = true) : i < m := by
  rcases Nat.lt_or_ge i m with h1 | h1
  · exact h1
  · have := Nat.testBit_lt_two_pow (i := i) (Nat.lt_of_lt_of_le h (Nat.pow_le_pow_right (by omega) h1))
    rw [hi] at this; cases this

theorem choice_lt {b : Nat} {x : Nf} (h : b < 2 ^ x.passes.length) {n : Int} (hn : n ∈ choiceL b) : ∃ i : Nat, n = (i : Nat) ∧ i < x.passes.length := by
  obtain ⟨i, hi, rfl⟩ := List.mem_map.1 hn
  exact ⟨i, rfl, bit_lt h (mem_choice.1 hi).2⟩

theorem choiceN_len (b : Nat) : (choiceN b).length ≤ 10 := by
  have := List.length_filter_le (fun i => b.testBit i) (List.range 10)
  simpa [choiceN] using this

theorem choiceL_len (b : Nat) : (choiceL b).length ≤ 10 := by
  have := choiceN_len b
  simpa [choiceL, castL] using this

theorem c_cost1 {x : Nf} {i : Nat} (hi : i < x.passes.length) : C Tryz.prog F.bin_cost_1 [I (i : Nat), .vptr (nfC x) 0] (I (costOf x i)) := by
  refine C_of mixed chk.bin_cost_1 (by simp) fun S ok => ?_
  refine Tr.seqR rfl (by simp) (Tr.seq (Tr.reg (Steps.runN 4 rfl (by simp; omega) ?_)))
  rw [getD_map hi]
  refine Steps.fin rfl (by simp) (Tr.retX rfl rfl rfl ?_ trivial)
  simp [packR, costOf, hi]

theorem plain_vptr (x : Nf) : Plain [.vptr (nfC x) 0] := ⟨fun _ => rfl, fun _ _ => rfl⟩

theorem c_cost {x : Nf} (hx : nfOk x = true) {b : Nat} (hb : b < 2 ^ x.passes.length) : C Tryz.prog F.bin_cost [.agg (nfC x), I (b : Nat)] (I (costB x b)) := by
  have hs := nfOk_spec hx
  have hC : ∀ n ∈ choiceL b, 0 ≤ costOf x n.toNat ∧ costOf x n.toNat ≤ 1000 := fun n hn => by
    obtain ⟨i, rfl, hi⟩ := choice_lt hb hn
    have := (hs.2.2 _ (List.getElem_mem hi)).1
    simp [costOf, hi]; omega
  have k := c_sum (f := F.bin_cost_1) (us := [.vptr (nfC x) 0]) (v := fun i => costOf x i.toNat) (l := choiceL b) (plain_vptr x) (by have := choiceL_len b; omega) hC fun n hn => by
    obtain ⟨i, rfl, hi⟩ := choice_lt hb hn
    exact c_cost1 hi
  refine C_of mixed chk.bin_cost (by simp) fun S ok => ?_
  refine Tr.seqR rfl (by simp) (Tr.seqC rfl (by simp) (Steps.call rfl rfl (c_choice b) (Steps.run rfl (by simp) (Steps.call rfl rfl k (Steps.fin rfl (by simp) (Tr.retX rfl rfl rfl rfl trivial))))))

end Go.Proofs.YtdejdblopmfjfaaGreatDoor


/-! Contracts: what a choice leaves; whether it covers. -/
set_option linter.unusedVariables false
set_option linter.unusedSimpArgs false
set_option maxRecDepth 20000
set_option maxHeartbeats 2000000
namespace Go.Proofs.YtdejdblopmfjfaaGreatDoor
open Go.Am
attribute [local simp] cells scalar mkv splice under2 under dem dem1 eB eQ nfC intsV
def addsOf (x : Nf) (i : Nat) : List Int := (x.passes.getD i p0).adds
def restN (c a : List Int) : List Int := List.zipWith (fun m n => max 0 (m - n)) c a
def restsL (x : Nf) (l : List Nat) : List Int := l.foldl (fun c i => restN c (addsOf x i)) x.lacks
def small (n : Nat) (c : List Int) : Prop := c.length = n ∧ ∀ m ∈ c, 0 ≤ m ∧ m ≤ 100

theorem restN_small {n : Nat} {c a : List Int} (hc : small n c) (ha : a.length = n ∧ ∀ m ∈ a, 0 ≤ m ∧ m ≤ 100) : small n (restN c a) := by
  refine ⟨by simp [restN, hc.1, ha.1], fun m hm => ?_⟩
  unfold restN at hm
  obtain ⟨i, hi, rfl⟩ := List.getElem_of_mem hm
  simp only [List.length_zipWith] at hi
  rw [List.getElem_zipWith]
  have h1 := hc.2 _ (List.getElem_mem (show i < c.length by omega))
  have h2 := ha.2 _ (List.getElem_mem (show i < a.length by omega))
  omega

theorem adds_small {x : Nf} (hx : nfOk x = true) {i : Nat} (hi : i < x.passes.length) : (addsOf x i).length = x.lacks.length ∧ ∀ m ∈ addsOf x i, 0 ≤ m ∧ m ≤ 100 := by
  have := (nfOk_spec hx).2.2 _ (List.getElem_mem hi)
  have e : addsOf x i = x.passes[i].adds := by simp [addsOf, hi]
  rw [e]; exact this.2

theorem foldl_small {x : Nf} (hx : nfOk x = true) : ∀ (l : List Nat) (c : List Int), small x.lacks.length c → (∀ i ∈ l, i < x.passes.length) → small x.lacks.length (l.foldl (fun c i => restN c (addsOf x i)) c)
  | [], c, h, _ => h
  | i :: l, c, h, hl => foldl_small hx l _ (restN_small h (adds_small hx (hl i (by simp)))) fun j hj => hl j (by simp [hj])

theorem restsL_small {x : Nf} (hx : nfOk x = true) {l : List Nat} (hl : ∀ i ∈ l, i < x.passes.length) : small x.lacks.length (restsL x l) :=
  foldl_small hx l _ ⟨rfl, fun m hm => by have := (nfOk_spec hx).2.1 m hm; omega⟩ hl

theorem choiceN_lt {b m : Nat} (h : b < 2 ^ m) : ∀ i ∈ choiceN b, i < m := fun i hi => bit_lt h (mem_choice.1 hi).2

theorem c_rests0 {x : Nf} (hx : nfOk x = true) (h0 : x.lacks = []) {b : Nat} (hb : b < 2 ^ x.passes.length) : C Tryz.prog F.bin_rests [.agg (nfC x), I (b : Nat)] (intsV []) := by
  have hcl := choiceL_len b
  refine C_of mixed chk.bin_rests (by simp) fun S ok => ?_
  have kc : C Tryz.prog F.slices_Clone_int_int [intsV x.lacks] (intsV []) := by rw [h0]; exact c_CloneI0
  refine Tr.seqR rfl (by simp) (Tr.seqC rfl (by simp) (Steps.call rfl rfl kc (Steps.fin rfl (by simp) ?_)))
  refine Tr.seq (Tr.seqC rfl (by simp) (Steps.call rfl rfl (c_choice b) (Steps.fin rfl (by simp) (Tr.block ?_))))
  refine Tr.loop (fun (k : Nat) st => k ≤ (choiceL b).length ∧ st = { env := [(2, .ptr 2 0), (5, intsV []), (14, intsV (choiceL b)), (15, I ((choiceL b).length : Nat)), (16, I (k : Nat))], bx := [(2, ⟨nfC x, false⟩)], rw := [], log := [], stp := false }) (fun k => (choiceL b).length - k) 0
    (Wk.le (.cons rfl (.refl _) (.cons rfl (.refl _) (.cons rfl (.refl _) (.cons rfl (VLe.i (by simp)) (.cons rfl (.refl _) .nil))))) (.cons rfl (LLe.refl _) .nil) .nil rfl rfl) ⟨by omega, rfl⟩ ?_
  rintro k st ⟨hk, rfl⟩
  refine Tr.seqR rfl (by simp) (Tr.seqI rfl (fun h1 => ?_) (fun h1 => ?_))
  · have h1 : k < (choiceL b).length := by simpa using h1
    obtain ⟨i, hi, hip⟩ := choice_lt hb (List.getElem_mem h1)
    refine Tr.skipT (Tr.seq (Tr.block (Tr.seq (Tr.reg (Steps.runN 1 rfl (by simp; omega) ?_)))))
    rw [getD_map h1, hi]
    refine Steps.fin rfl (by simp) (Tr.seq (Tr.reg (Steps.runN 4 rfl (by simp; omega) ?_)))
    rw [getD_map hip]
    refine Steps.fin rfl (by simp) (Tr.block ?_)
    have ha := (adds_small hx hip).1
    have e : addsOf x i = x.passes[i].adds := by simp [addsOf, hip]
    rw [e, h0] at ha
    have ha : x.passes[i].adds = [] := List.length_eq_zero_iff.1 ha
    rw [ha]
    refine Tr.rounds 1 (TrN.succ ?_)
    refine Tr.seqR rfl (by simp) (Tr.seq (Tr.condF rfl (Tr.exit ?_)))
    refine Tr.regR rfl (by simp) ?_
    exact ⟨k + 1, _, Wk.le (.cons rfl (.refl _) (.cons rfl (.refl _) (.cons rfl (.refl _) (.cons rfl (.refl _) (.cons rfl (VLe.i (w64 (by omega) (by omega))) .nil))))) (.cons rfl (LLe.refl _) .nil) .nil rfl rfl, ⟨h1, rfl⟩, by omega⟩
  · have h1 : k = (choiceL b).length := by simp at h1; omega
    subst h1
    exact Tr.exit (Tr.seqR rfl (by simp) (Tr.retX rfl rfl rfl rfl trivial))

theorem foldl_take {α β : Type} (f : β → α → β) (l : List α) (z : β) {k : Nat} (h : k < l.length) : (l.take (k + 1)).foldl f z = f ((l.take k).foldl f z) l[k] := by
  rw [List.take_add_one, List.getElem?_eq_getElem h, List.foldl_append]; rfl

theorem c_rests1 {x : Nf} (hx : nfOk x = true) (h0 : x.lacks ≠ []) {b : Nat} (hb : b < 2 ^ x.passes.length) : C Tryz.prog F.bin_rests [.agg (nfC x), I (b : Nat)] (intsV (restsL x (choiceN b))) := by
  have hcl := choiceL_len b
  have hsp := nfOk_spec hx
  have hcN : (choiceN b).length = (choiceL b).length := by simp [choiceL, castL]
  have kc := c_CloneI h0 (by omega)
  have hw := choiceN_lt hb
  refine C_of mixed chk.bin_rests (by simp) fun S ok => ?_
  refine Tr.seqR rfl (by simp) (Tr.seq (Tr.reg (Steps.run rfl (by simp) (Steps.callO rfl (fun _ => rfl) kc rfl (Steps.fin rfl (by simp) ?_)))))
  refine Tr.seq (Tr.seqC rfl (by simp) (Steps.call rfl rfl (c_choice b) (Steps.fin rfl (by simp) (Tr.block ?_))))
  have hsm : ∀ k, k ≤ (choiceN b).length → small x.lacks.length (restsL x ((choiceN b).take k)) := fun k hk => restsL_small hx fun i hi => hw i (List.mem_of_mem_take hi)
  refine Tr.loop (fun (k : Nat) st => k ≤ (choiceL b).length ∧ st = { env := [(2, .ptr 2 0), (5, .bsl 12 0 1 x.lacks.length), (14, intsV (choiceL b)), (15, I ((choiceL b).length : Nat)), (16, I (k : Nat))], bx := [(12, ⟨(restsL x ((choiceN b).take k)).map I, false⟩), (2, ⟨nfC x, false⟩)], rw := [], log := [], stp := false }) (fun k => (choiceL b).length - k) 0
    (Wk.le (.cons rfl (.refl _) (.cons rfl (.of_eq (by simp)) (.cons rfl (.refl _) (.cons rfl (VLe.i (by simp)) (.cons rfl (.refl _) .nil))))) (.cons rfl (by rw [flat_ints]; exact LLe.refl _) (.cons rfl (LLe.refl _) .nil)) .nil (okI rfl) rfl) ⟨by omega, rfl⟩ ?_
  rintro k st ⟨hk, rfl⟩
  refine Tr.seqR rfl (by simp) (Tr.seqI rfl (fun h1 => ?_) (fun h1 => ?_))
  · have h1 : k < (choiceL b).length := by simpa using h1
    have h1N : k < (choiceN b).length := by omega
    have hip := hw _ (List.getElem_mem h1N)
    have hi : (choiceL b)[k] = (((choiceN b)[k] : Nat) : Int) := by simp [choiceL, castL]
    obtain ⟨i, ei⟩ : ∃ i, (choiceN b)[k] = i := ⟨_, rfl⟩
    rw [ei] at hip hi
    refine Tr.skipT (Tr.seq (Tr.block (Tr.seq (Tr.reg (Steps.runN 1 rfl (by simp; omega) ?_)))))
    rw [getD_map h1, hi]
    refine Steps.fin rfl (by simp) (Tr.seq (Tr.reg (Steps.runN 4 rfl (by simp; omega) ?_)))
    rw [getD_map hip]
    refine Steps.fin rfl (by simp) (Tr.block ?_)
    have ha := adds_small hx hip
    have e : addsOf x i = x.passes[i].adds := by simp [addsOf, hip]
    have hst : restsL x ((choiceN b).take (k + 1)) = restN (restsL x ((choiceN b).take k)) x.passes[i].adds := by
      unfold restsL
      rw [foldl_take _ _ _ h1N, ei, e]
    have hs0 := hsm k (by omega)
    rw [e] at ha
    generalize restsL x ((choiceN b).take k) = c0 at hs0 hst
    refine Tr.loop (fun (j : Nat) st => j ≤ x.passes[i].adds.length ∧ st = { env := [(2, .ptr 2 0), (5, .bsl 12 0 1 x.lacks.length), (14, intsV (choiceL b)), (15, I ((choiceL b).length : Nat)), (16, I (k : Nat)), (25, intsV x.passes[i].adds), (26, I (x.passes[i].adds.length : Nat)), (27, I (j : Nat))], bx := [(12, ⟨((restN c0 x.passes[i].adds).take j ++ c0.drop j).map I, false⟩), (2, ⟨nfC x, false⟩)], rw := [], log := [], stp := false }) (fun j => x.passes[i].adds.length - j) 0
      (Wk.le (.cons rfl (.refl _) (.cons rfl (.refl _) (.cons rfl (.refl _) (.cons rfl (.refl _) (.cons rfl (.refl _) (.cons rfl (.refl _) (.cons rfl (VLe.i ?_) (.cons rfl (.refl _) .nil)))))))) (.cons rfl ?_ (.cons rfl (LLe.refl _) .nil)) .nil (okI rfl) rfl) ⟨by omega, rfl⟩ ?_
    · show ((x.passes[i].adds.map I).length : Int) = _
      rw [List.length_map]
    · rw [List.take_zero, List.nil_append, List.drop_zero]; exact LLe.refl _
    rintro j st ⟨hj, rfl⟩
    have hrl : (restN c0 x.passes[i].adds).length = x.passes[i].adds.length := by simp [restN, hs0.1, ha.1]
    refine Tr.seqR rfl (by simp) (Tr.seqI rfl (fun h2 => ?_) (fun h2 => ?_))
    · have h2 : j < x.passes[i].adds.length := by simpa using h2
      have hj0 : j < c0.length := by rw [hs0.1, ← ha.1]; exact h2
      have hmt : ((restN c0 x.passes[i].adds).take j).length = j := by rw [List.length_take]; omega
      have hml : ((restN c0 x.passes[i].adds).take j ++ c0.drop j).length = x.lacks.length := by rw [List.length_append, hmt, List.length_drop]; have := hs0.1; omega
      have hk0 : 0 + (j : Int).toNat * 1 = j := by omega
      have hdr : (((restN c0 x.passes[i].adds).take j ++ c0.drop j).map I).drop j = I c0[j] :: (c0.drop (j + 1)).map I := by
        rw [← List.map_drop, List.drop_append_of_le_length (by omega), List.drop_eq_nil_of_le (by omega), List.nil_append, List.drop_eq_getElem_cons hj0]; rfl
      have hv : (restN c0 x.passes[i].adds)[j]'(by omega) = max 0 (c0[j] - x.passes[i].adds[j]) := by simp [restN]
      have hb1 := hs0.2 _ (List.getElem_mem hj0)
      have hb2 := ha.2 _ (List.getElem_mem h2)
      have hnew : List.take j (((restN c0 x.passes[i].adds).take j ++ c0.drop j).map I) ++ [I (if IntKind.wrap .i64 (c0[j] - x.passes[i].adds[j]) > 0 then IntKind.wrap .i64 (c0[j] - x.passes[i].adds[j]) else 0)] ++ List.drop (j + 1) (((restN c0 x.passes[i].adds).take j ++ c0.drop j).map I) = ((restN c0 x.passes[i].adds).take (j + 1) ++ c0.drop (j + 1)).map I := by
        have e1 : (((restN c0 x.passes[i].adds).take j ++ c0.drop j).map I).drop (j + 1) = (c0.drop (j + 1)).map I := by
          have := congrArg (List.drop 1) hdr
          rw [List.drop_drop] at this
          simpa using this
        rw [ite_max, w64 (n := c0[j] - x.passes[i].adds[j]) (by omega) (by omega), e1, ← List.map_take, List.take_append_of_le_length (by omega), List.take_take, Nat.min_self, List.take_add_one, List.getElem?_eq_getElem (by omega), hv]
        simp
      refine Tr.skipT (Tr.seq (Tr.block (Tr.seq (Tr.reg (Steps.runN 2 rfl (by simp; omega) ?_)))))
      rw [getD_map h2]
      refine Steps.fin rfl (by simp) (Tr.reg (Steps.runN 5 rfl (by simp; omega) ?_))
      rw [hk0]
      refine Steps.runN 1 rfl (by simp; omega) ?_
      rw [hdr]
      refine Steps.runN 4 rfl (by simp; omega) ?_
      rw [hk0]
      refine Steps.fin rfl (by simp; omega) ?_
      refine Tr.regR rfl (by simp) ?_
      refine ⟨j + 1, _, Wk.le (.cons rfl (.refl _) (.cons rfl (.refl _) (.cons rfl (.refl _) (.cons rfl (.refl _) (.cons rfl (.refl _) (.cons rfl (.refl _) (.cons rfl (.refl _) (.cons rfl (VLe.i (w64 (by omega) (by omega))) .nil)))))))) (.cons rfl ?_ (.cons rfl (LLe.refl _) .nil)) .nil (okI rfl) rfl, ⟨h2, rfl⟩, by omega⟩
      rw [← hnew]
      exact LLe.refl _
    · have h2 : j = x.passes[i].adds.length := by simp at h2; omega
      subst h2
      have hc : c0.length = x.passes[i].adds.length := by rw [hs0.1, ha.1]
      have e1 : (restN c0 x.passes[i].adds).take x.passes[i].adds.length ++ c0.drop x.passes[i].adds.length = restN c0 x.passes[i].adds := by rw [List.take_of_length_le (by omega), List.drop_eq_nil_of_le (by omega), List.append_nil]
      rw [e1]
      refine Tr.exit (Tr.regR rfl (by simp) ?_)
      exact ⟨k + 1, _, Wk.le (.cons rfl (.refl _) (.cons rfl (.refl _) (.cons rfl (.refl _) (.cons rfl (.refl _) (.cons rfl (VLe.i (w64 (by omega) (by omega))) .nil))))) (.cons rfl (by rw [hst]; exact LLe.refl _) (.cons rfl (LLe.refl _) .nil)) .nil (okI rfl) rfl, ⟨h1, rfl⟩, by omega⟩
  · have h1 : k = (choiceL b).length := by simp at h1; omega
    subst h1
    rw [← hcN, List.take_length]
    refine Tr.exit ?_
    refine Tr.weak (s' := { env := [(5, .bsl 12 0 1 x.lacks.length)], bx := [(12, ⟨(restsL x (choiceN b)).map I, false⟩)], rw := [], log := [], stp := false }) (Wk.le (.cons rfl (.refl _) .nil) (.cons rfl (LLe.refl _) .nil) .nil (okI rfl) rfl) ?_
    have hs0 := restsL_small hx hw
    refine Tr.weak (Wk.bsl (t := 5) rfl rfl (by rw [← hs0.1]; exact holds_ints _)) ?_
    exact (Tr.seqR rfl (by simp) (Tr.retX rfl rfl rfl rfl trivial))

theorem c_rests {x : Nf} (hx : nfOk x = true) {b : Nat} (hb : b < 2 ^ x.passes.length) : C Tryz.prog F.bin_rests [.agg (nfC x), I (b : Nat)] (intsV (restsL x (choiceN b))) := by
  by_cases h0 : x.lacks = []
  · have h := c_rests0 hx h0 hb
    have hs0 := (restsL_small hx (choiceN_lt hb)).1
    rw [h0] at hs0
    rw [List.length_eq_zero_iff.1 hs0]
    exact h
  · exact c_rests1 hx h0 hb

def coversB (x : Nf) (b : Nat) : Bool := decide (sumF id (restsL x (choiceN b)) = 0)

theorem c_covers {x : Nf} (hx : nfOk x = true) {b : Nat} (hb : b < 2 ^ x.passes.length) : C Tryz.prog F.bin_covers [.agg (nfC x), I (b : Nat)] (.bool (coversB x b)) := by
  have hs0 := restsL_small hx (choiceN_lt hb)
  have hn := (nfOk_spec hx).1.1
  have k := c_sum (f := F.bin_covers_1) (us := []) (v := id) (l := restsL x (choiceN b)) plain_nil (by rw [hs0.1]; exact hn) (fun n h => by have := hs0.2 n h; simp only [id]; omega) fun n _ => c_covers1 n
  refine C_of mixed chk.bin_covers (by simp) fun S ok => ?_
  refine Tr.seqR rfl (by simp) (Tr.seqC rfl (by simp) (Steps.call rfl rfl (c_rests hx hb) (Steps.run rfl (by simp) (Steps.call rfl rfl k (Steps.fin rfl (by simp) (Tr.retX rfl rfl rfl ?_ trivial))))))
  show V.bool (coversB x b) = .bool (sumF id (restsL x (choiceN b)) == 0)
  unfold coversB
  by_cases h : sumF id (restsL x (choiceN b)) = 0
  · rw [h]; rfl
  · simp [h]

end Go.Proofs.YtdejdblopmfjfaaGreatDoor


/-! Contracts: lists compared; the best choice. -/
set_option linter.unusedVariables false
set_option linter.unusedSimpArgs false
set_option maxRecDepth 40000
set_option maxHeartbeats 4000000
namespace Go.Proofs.YtdejdblopmfjfaaGreatDoor
open Go.Am
attribute [local simp] cells scalar mkv splice under2 under dem dem1 eB eQ nfC intsV
theorem c_isNaN (n : Int) : C Tryz.prog F.cmp_isNaN_int [I n] (.bool false) := by
  refine C_of mixed chk.cmp_isNaN_int (by simp) fun S ok => ?_
  refine Tr.seqR rfl (by simp) (Tr.seqR rfl (by simp) (Tr.retX rfl rfl rfl ?_ trivial))
  show V.bool false = .bool (n != n)
  simp

def cmpI (a b : Int) : Int := if a < b then -1 else if a > b then 1 else 0

theorem c_Cmp (a b : Int) : C Tryz.prog F.cmp_Compare_int [I a, I b] (I (cmpI a b)) := by
  refine C_of mixed chk.cmp_Compare_int (by simp) fun S ok => ?_
  refine Tr.seqR rfl (by simp) (Tr.seqC rfl (by simp) (Steps.call rfl rfl (c_isNaN a) (Steps.fin rfl (by simp) ?_)))
  refine Tr.seqC rfl (by simp) (Steps.call rfl rfl (c_isNaN b) (Steps.fin rfl (by simp) ?_))
  refine Tr.seq (Tr.seqR rfl (by simp) (Tr.condF rfl (Tr.skip ?_)))
  refine Tr.seq (Tr.seqR rfl (by simp) (Tr.condF rfl (Tr.skip ?_)))
  refine Tr.seq (Tr.seqR rfl (by simp) (Tr.cond rfl rfl (fun h => ?_) (fun h => Tr.skip ?_)))
  · have h : a < b := by
      have h : decide (a < b) = true := h
      simpa using h
    exact Tr.seqR rfl (by simp) (Tr.retX rfl rfl rfl (by unfold cmpI; rw [if_pos h]; rfl) trivial)
  have h : ¬ a < b := by
    have h : decide (a < b) = false := h
    simpa using h
  refine Tr.seq (Tr.seqR rfl (by simp) (Tr.cond rfl rfl (fun h2 => ?_) (fun h2 => Tr.skip ?_)))
  · have h2 : a > b := by
      have h2 : decide (a > b) = true := h2
      simpa using h2
    exact Tr.seqR rfl (by simp) (Tr.retX rfl rfl rfl (by unfold cmpI; rw [if_neg h, if_pos h2]; rfl) trivial)
  have h2 : ¬ a > b := by
    have h2 : decide (a > b) = false := h2
    simpa using h2
  exact Tr.seqR rfl (by simp) (Tr.retX rfl rfl rfl (by unfold cmpI; rw [if_neg h, if_neg h2]; rfl) trivial)

def cmpL : List Int → List Int → Int
  | [], [] => 0
  | [], _ :: _ => -1
  | _ :: _, [] => 1
  | a :: l, b :: m => if cmpI a b ≠ 0 then cmpI a b else cmpL l m

theorem c_CompareL {l m : List Int} (hl : l.length ≤ 1000000) : C Tryz.prog F.slices_Compare_int_int [intsV l, intsV m] (I (cmpL l m)) := by
  refine C_of mixed chk.slices_Compare_int_int (by simp) fun S ok => ?_
  refine Tr.seqR rfl (by simp) (Tr.seq (Tr.seqR rfl (by simp) (Tr.block ?_)))
  refine Tr.loop (fun (k : Nat) st => (k ≤ l.length ∧ k ≤ m.length ∧ cmpL l m = cmpL (l.drop k) (m.drop k)) ∧ st = { env := [(0, intsV l), (1, intsV m), (9, intsV l), (10, I (l.length : Nat)), (11, I (k : Nat))], bx := [], rw := [], log := [], stp := false }) (fun k => l.length - k) 0
    (Wk.le (.cons rfl (.refl _) (.cons rfl (.refl _) (.cons rfl (.refl _) (.cons rfl (VLe.i (by simp)) (.cons rfl (.refl _) .nil))))) .nil .nil rfl rfl) ⟨⟨by omega, by omega, by simp⟩, rfl⟩ ?_
  rintro k st ⟨⟨hk, hkm, he⟩, rfl⟩
  refine Tr.seqR rfl (by simp) (Tr.seqI rfl (fun h1 => ?_) (fun h1 => ?_))
  · have h1 : k < l.length := by simpa using h1
    refine Tr.skipT (Tr.seq (Tr.block (Tr.seq (Tr.reg (Steps.runN 2 rfl (by simp; omega) ?_)))))
    rw [getD_map h1]
    refine Steps.fin rfl (by simp) (Tr.seq (Tr.seqR rfl (by simp) (Tr.cond rfl rfl (fun h2 => ?_) (fun h2 => Tr.skip ?_))))
    · have h2 : k = m.length := by
        have h2 : decide ((k : Int) ≥ ((m.map I).length : Int)) = true := h2
        simp at h2; omega
      refine Tr.seqR rfl (by simp) (Tr.retX rfl rfl rfl ?_ trivial)
      rw [he, h2, List.drop_length, List.drop_eq_getElem_cons (by omega)]; rfl
    have h2 : k < m.length := by
      have h2 : decide ((k : Int) ≥ ((m.map I).length : Int)) = false := h2
      simp at h2; omega
    refine Tr.seq (Tr.reg (Steps.runN 3 rfl (by simp; omega) ?_))
    rw [getD_map h2]
    refine Steps.fin rfl (by simp) (Tr.seqC rfl (by simp) (Steps.call rfl rfl (c_Cmp l[k] m[k]) (Steps.fin rfl (by simp) ?_)))
    have hd : cmpL l m = if cmpI l[k] m[k] ≠ 0 then cmpI l[k] m[k] else cmpL (l.drop (k + 1)) (m.drop (k + 1)) := by
      rw [he, List.drop_eq_getElem_cons h1, List.drop_eq_getElem_cons h2]; rfl
    refine Tr.seqR rfl (by simp) (Tr.cond rfl rfl (fun h3 => ?_) (fun h3 => Tr.skip (Tr.regR rfl (by simp) ?_)))
    · have h3 : cmpI l[k] m[k] ≠ 0 := by
        have h3 : (cmpI l[k] m[k] != 0) = true := h3
        simpa using h3
      rw [if_pos h3] at hd
      exact Tr.seqR rfl (by simp) (Tr.retX rfl rfl rfl (by rw [hd]; rfl) trivial)
    · have h3 : ¬ cmpI l[k] m[k] ≠ 0 := by
        have h3 : (cmpI l[k] m[k] != 0) = false := h3
        simpa using h3
      rw [if_neg h3] at hd
      exact ⟨k + 1, _, Wk.le (.cons rfl (.refl _) (.cons rfl (.refl _) (.cons rfl (.refl _) (.cons rfl (.refl _) (.cons rfl (VLe.i (w64 (by omega) (by omega))) .nil))))) .nil .nil rfl rfl, ⟨⟨h1, h2, hd⟩, rfl⟩, by omega⟩
  · have h1 : k = l.length := by simp at h1; omega
    subst h1
    rw [List.drop_length] at he
    refine Tr.exit (Tr.seq (Tr.seqR rfl (by simp) (Tr.cond rfl rfl (fun h2 => ?_) (fun h2 => Tr.skip ?_))))
    · have h2 : l.length < m.length := by
        have h2 : decide (((l.map I).length : Int) < ((m.map I).length : Int)) = true := h2
        simpa using h2
      refine Tr.seqR rfl (by simp) (Tr.retX rfl rfl rfl ?_ trivial)
      rw [he, List.drop_eq_getElem_cons h2]; rfl
    · have h2 : m.length = l.length := by
        have h2 : decide (((l.map I).length : Int) < ((m.map I).length : Int)) = false := h2
        simp at h2; omega
      refine Tr.seqR rfl (by simp) (Tr.retX rfl rfl rfl ?_ trivial)
      rw [he, ← h2, List.drop_length]; rfl

/-! ### The best choice -/
def better (x : Nf) (b o : Nat) : Bool :=
  if costB x b ≠ costB x o then decide (costB x b < costB x o)
  else if (choiceL b).length ≠ (choiceL o).length then decide ((choiceL b).length < (choiceL o).length)
  else decide (cmpL (choiceL b) (choiceL o) < 0)
def skips (x : Nf) (wo b : Nat) : Bool := decide (b &&& wo ≠ 0) || !coversB x b
def bestStep (x : Nf) (wo : Nat) (p : Nat × Bool) (b : Nat) : Nat × Bool := if skips x wo b then p else if !p.2 then (b, true) else if better x b p.1 then (b, true) else p
def bestN (x : Nf) (wo : Nat) : Nat × Bool := (List.range (2 ^ x.passes.length)).foldl (bestStep x wo) (0, false)

theorem drop_ints {L : List Int} {k : Nat} (h : k < L.length) {v : Int} (hv : L[k] = v) : (L.map I).drop k = I v :: (L.map I).drop (k + 1) := by
  rw [List.drop_eq_getElem_cons (by simpa using h)]; simp [hv]

theorem splice_ints {L : List Int} {k : Nat} (h : k < L.length) (v : Int) : splice (L.map I) k [I v] = (L.set k v).map I := by
  unfold splice
  rw [List.set_eq_take_append_cons_drop, if_pos h]
  simp

theorem costB_bd {x : Nf} (hx : nfOk x = true) {b : Nat} (hb : b < 2 ^ x.passes.length) : 0 ≤ costB x b ∧ costB x b ≤ 10000 := by
  have h := sumF_bd (v := fun i => costOf x i.toNat) (m := 1000) (choiceL b) 0 (fun n hn => by
    obtain ⟨i, rfl, hi⟩ := choice_lt hb hn
    have := ((nfOk_spec hx).2.2 _ (List.getElem_mem hi)).1
    simp [costOf, hi]; omega)
  have hl := choiceL_len b
  unfold costB sumF
  omega

theorem c_best {x : Nf} (hx : nfOk x = true) {wo : Nat} (hwo : wo < 2 ^ 62) : C Tryz.prog F.bin_best [.agg (nfC x), I (wo : Nat)] (.tuple [I ((bestN x wo).1 : Nat), .bool (bestN x wo).2]) := by
  have hm := (nfOk_spec hx).1.2
  have hm2 : 2 ^ x.passes.length ≤ 1024 := Nat.pow_le_pow_right (n := 2) (by omega) hm
  refine C_of mixed chk.bin_best (by simp) fun S ok => ?_
  refine Tr.seqR rfl (by simp) (Tr.seqR rfl (by simp) (Tr.seqR rfl (by simp) (Tr.seq (Tr.seqR rfl (by simp) (Tr.block ?_)))))
  refine Tr.loop (α := Nat × List Int) (fun p st => (p.1 ≤ 2 ^ x.passes.length ∧ p.2.length = 1024 ∧ (((List.range p.1).foldl (bestStep x wo) (0, false)).2 = true → ((List.range p.1).foldl (bestStep x wo) (0, false)).1 < p.1 ∧ p.2[((List.range p.1).foldl (bestStep x wo) (0, false)).1]? = some (costB x ((List.range p.1).foldl (bestStep x wo) (0, false)).1))) ∧
      st = { env := [(1, I (wo : Nat)), (2, .ptr 2 0), (6, .ptr 6 0), (7, I (((List.range p.1).foldl (bestStep x wo) (0, false)).1 : Nat)), (8, .bool ((List.range p.1).foldl (bestStep x wo) (0, false)).2), (15, I ((2 ^ x.passes.length : Nat) : Int)), (16, I (p.1 : Nat))], bx := [(6, ⟨p.2.map I, false⟩), (2, ⟨nfC x, false⟩)], rw := [], log := [], stp := false }) (fun p => 2 ^ x.passes.length - p.1) (0, List.replicate 1024 0)
    (Wk.le (.cons rfl (.refl _) (.cons rfl (.refl _) (.cons rfl (.refl _) (.cons rfl (.refl _) (.cons rfl (.refl _) (.cons rfl (VLe.i ?_) (.cons rfl (.refl _) .nil))))))) (.cons rfl ?_ (.cons rfl (LLe.refl _) .nil)) .nil (okI rfl) rfl) ⟨⟨Nat.zero_le _, by simp, fun h => by cases h⟩, rfl⟩ ?_
  · show IntKind.wrap .i64 (1 * 2 ^ (min ((x.passes.map eQ).length : Int).toNat 64)) = _
    rw [List.length_map]
    exact bit_shl _ (by omega)
  · rw [List.map_replicate]; exact LLe.refl _
  rintro ⟨b, L⟩ st ⟨⟨hk, hL, hout⟩, rfl⟩
  simp only at hk hL hout
  obtain ⟨⟨o, so⟩, hos⟩ : ∃ p, (List.range b).foldl (bestStep x wo) (0, false) = p := ⟨_, rfl⟩
  rw [hos] at hout
  simp only at hout
  refine Tr.seqR rfl (by simp) (Tr.seqI rfl (fun h1 => ?_) (fun h1 => ?_))
  rotate_left
  · have h1 : b = 2 ^ x.passes.length := by
      have h1 : decide ((b : Int) < ((2 ^ x.passes.length : Nat) : Int)) = false := h1
      rw [decide_eq_false_iff_not, Int.ofNat_lt] at h1; omega
    subst h1
    refine Tr.exit (Tr.seqR rfl (by simp) (Tr.retX rfl rfl rfl ?_ trivial))
    rfl
  have h1 : b < 2 ^ x.passes.length := by
    have h1 : decide ((b : Int) < ((2 ^ x.passes.length : Nat) : Int)) = true := h1
    rw [decide_eq_true_eq, Int.ofNat_lt] at h1; exact h1
  have hb62 : b < 2 ^ 62 := by omega
  have hfold : (List.range (b + 1)).foldl (bestStep x wo) (0, false) = bestStep x wo (o, so) b := by
    rw [List.range_succ, List.foldl_append, hos]; rfl
  obtain ⟨p', hp'⟩ : ∃ p', bestStep x wo (o, so) b = p' := ⟨_, rfl⟩
  obtain ⟨L', hL'⟩ : ∃ L', (if skips x wo b then L else L.set b (costB x b)) = L' := ⟨_, rfl⟩
  have hfin : L'.length = 1024 ∧ (p'.2 = true → p'.1 < b + 1 ∧ L'[p'.1]? = some (costB x p'.1)) := by
    subst hp' hL'
    unfold bestStep
    by_cases hs : skips x wo b = true
    · rw [if_pos hs, if_pos hs]
      exact ⟨hL, fun h => by have := hout h; exact ⟨by simp only; omega, this.2⟩⟩
    · rw [if_neg hs, if_neg hs]
      have hbs : (L.set b (costB x b))[b]? = some (costB x b) := by rw [List.getElem?_set_self (by omega)]
      refine ⟨by rw [List.length_set]; exact hL, fun h => ?_⟩
      cases so with
      | false => exact ⟨by simp, by simpa using hbs⟩
      | true =>
        simp only [Bool.not_true, Bool.false_eq_true, if_false] at h ⊢
        by_cases hbt : better x b o = true
        · rw [if_pos hbt]; exact ⟨by simp only; omega, hbs⟩
        · rw [if_neg hbt]
          have h2 := hout rfl
          exact ⟨by simp only; omega, by rw [List.getElem?_set_ne (by omega)]; exact h2.2⟩
  rw [hos]
  refine Tr.skipT (Tr.meet { env := [(1, I (wo : Nat)), (2, .ptr 2 0), (6, .ptr 6 0), (7, I (p'.1 : Nat)), (8, .bool p'.2), (15, I ((2 ^ x.passes.length : Nat) : Int)), (16, I (b : Nat))], bx := [(6, ⟨L'.map I, false⟩), (2, ⟨nfC x, false⟩)], rw := [], log := [], stp := false } (Tr.block ?_) (Tr.regR rfl (by simp) ?_))
  rotate_left
  · refine ⟨(b + 1, L'), _, Wk.le (.cons rfl (.refl _) (.cons rfl (.refl _) (.cons rfl (.refl _) (.cons rfl (.of_eq (by rw [hfold, hp'])) (.cons rfl (.of_eq (by rw [hfold, hp'])) (.cons rfl (.refl _) (.cons rfl (VLe.i (w64 (by omega) (by omega))) .nil))))))) (.cons rfl (LLe.refl _) (.cons rfl (LLe.refl _) .nil)) .nil (okI rfl) rfl, ⟨⟨h1, hfin.1, ?_⟩, rfl⟩, by simp only; omega⟩
    simp only [hfold, hp']; exact hfin.2
  refine Tr.seqR rfl (by simp) (Tr.seq (Tr.seqC rfl (by simp) (Steps.gcall rfl rfl rfl rfl (by simp) (fun _ => c_covers hx h1) (Steps.fin rfl (by simp) ?_))))
  have hsk : (bif (bitsV .and .i64 (b : Int) (wo : Int) != 0) then true else !(coversB x b)) = skips x wo b := by
    rw [bits_and _ _ hb62 hwo]
    unfold skips
    by_cases h : b &&& wo = 0
    · simp [h]
    · simp [h]
  refine Tr.cond rfl rfl (fun h2 => ?_) (fun h2 => Tr.skip ?_)
  · have h2 : (bif (bitsV .and .i64 (b : Int) (wo : Int) != 0) then true else !(coversB x b)) = true := h2
    rw [hsk] at h2
    have e1 : p' = (o, so) := by rw [← hp']; unfold bestStep; rw [if_pos h2]
    have e2 : L' = L := by rw [← hL', if_pos h2]
    subst e1 e2
    exact Tr.exit (Wk.le (.cons rfl (.refl _) (.cons rfl (.refl _) (.cons rfl (.refl _) (.cons rfl (.refl _) (.cons rfl (.refl _) (.cons rfl (.refl _) (.cons rfl (.refl _) .nil))))))) (.cons rfl (LLe.refl _) (.cons rfl (LLe.refl _) .nil)) .nil (okI rfl) rfl)
  have h2 : (bif (bitsV .and .i64 (b : Int) (wo : Int) != 0) then true else !(coversB x b)) = false := h2
  rw [hsk] at h2
  have e2 : L' = L.set b (costB x b) := by rw [← hL', if_neg (by simp [h2])]
  have e1 : p' = if !so then (b, true) else if better x b o then (b, true) else (o, so) := by rw [← hp']; unfold bestStep; rw [if_neg (by simp [h2])]
  have hbL : b < L.length := by omega
  have hk0 : 0 + (b : Int).toNat * 1 = b := by omega
  refine Tr.seq (Tr.reg (Steps.run rfl (by simp) (Steps.call rfl rfl (c_cost hx h1) (Steps.runN 1 rfl (by simp; omega) ?_))))
  rw [hk0]
  refine Steps.fin rfl (by simp; omega) ?_
  have hin : b < L'.length := by rw [e2, List.length_set]; omega
  refine Tr.weak (s' := { env := [(1, I (wo : Nat)), (2, .ptr 2 0), (6, .ptr 6 0), (7, I (o : Nat)), (8, .bool so), (9, I (b : Nat)), (15, I ((2 ^ x.passes.length : Nat) : Int)), (16, I (b : Nat))], bx := [(6, ⟨L'.map I, false⟩), (2, ⟨nfC x, false⟩)], rw := [], log := [], stp := false })
    (Wk.le (.cons rfl (.refl _) (.cons rfl (.refl _) (.cons rfl (.refl _) (.cons rfl (.refl _) (.cons rfl (.refl _) (.cons rfl (.refl _) (.cons rfl (.refl _) (.cons rfl (.refl _) .nil)))))))) (.cons rfl (by rw [e2, ← splice_ints hbL]; exact LLe.refl _) (.cons rfl (LLe.refl _) .nil)) .nil (okI rfl) rfl) ?_
  refine Tr.seq (Tr.seqR rfl (by simp) (Tr.cond rfl rfl (fun h3 => ?_) (fun h3 => Tr.skip ?_)))
  · have h3 : (!so) = true := h3
    rw [if_pos h3] at e1
    subst e1
    refine Tr.seqR rfl (by simp) (Tr.exit ?_)
    exact Wk.le (.cons rfl (.refl _) (.cons rfl (.refl _) (.cons rfl (.refl _) (.cons rfl (.refl _) (.cons rfl (.refl _) (.cons rfl (.refl _) (.cons rfl (.refl _) .nil))))))) (.cons rfl (LLe.refl _) (.cons rfl (LLe.refl _) .nil)) .nil (okI rfl) rfl
  have h3 : (!so) = false := h3
  obtain rfl : so = true := by simpa using h3
  have h4 := hout rfl
  have hoL : o < L'.length := by omega
  have hvb : L'[b] = costB x b := by simp [e2]
  have hvo : L'[o] = costB x o := by
    have h5 := h4.2
    rw [List.getElem?_eq_getElem (by omega)] at h5
    simp only [e2]
    rw [List.getElem_set_ne (by omega)]
    simpa using h5
  have e1 : p' = if better x b o then (b, true) else (o, true) := by rw [e1]; rfl
  have yes : better x b o = true → p' = (b, true) := fun h => by rw [e1, if_pos h]
  have no : better x b o = false → p' = (o, true) := fun h => by rw [e1, if_neg (by simp [h])]
  refine Tr.seqC rfl (by simp) (Steps.call rfl rfl (c_choice b) (Steps.run rfl (by simp) (Steps.call rfl rfl (c_choice o) (Steps.fin rfl (by simp) (Tr.block ?_)))))
  have ho0 : 0 + (o : Int).toNat * 1 = o := by omega
  refine Tr.seq (Tr.drawK (TraceK.runN 2 rfl (by simp; omega) ?_))
  rw [hk0]
  refine TraceK.runN 1 rfl (by simp; omega) ?_
  rw [drop_ints hin hvb]
  refine TraceK.runN 2 rfl (by simp; omega) ?_
  rw [ho0]
  refine TraceK.runN 1 rfl (by simp; omega) ?_
  rw [drop_ints hoL hvo]
  refine TraceK.run rfl (by simp) (.done ⟨by kernel_rfl, by kernel_rfl, ?_⟩)
  refine Tr.cond rfl rfl (fun h5 => ?_) (fun h5 => ?_)
  · have h5 : (costB x b != costB x o) = true := h5
    have h5 : costB x b ≠ costB x o := by simpa using h5
    have hbt : better x b o = decide (costB x b < costB x o) := by unfold better; rw [if_pos h5]
    refine Tr.seq (Tr.drawK (TraceK.runN 2 rfl (by simp; omega) ?_))
    rw [hk0]
    refine TraceK.runN 1 rfl (by simp; omega) ?_
    rw [drop_ints hin hvb]
    refine TraceK.runN 2 rfl (by simp; omega) ?_
    rw [ho0]
    refine TraceK.runN 1 rfl (by simp; omega) ?_
    rw [drop_ints hoL hvo]
    refine TraceK.run rfl (by simp) (.done ⟨by kernel_rfl, by kernel_rfl, ?_⟩)
    refine Tr.cond rfl rfl (fun h6 => ?_) (fun h6 => Tr.skip ?_)
    · have h6 : decide (costB x b < costB x o) = true := h6
      rw [yes (by rw [hbt, h6])]
      refine Tr.regR rfl (by simp) ?_
      exact Wk.le (.cons rfl (.refl _) (.cons rfl (.refl _) (.cons rfl (.refl _) (.cons rfl (.refl _) (.cons rfl (.refl _) (.cons rfl (.refl _) (.cons rfl (.refl _) .nil))))))) (.cons rfl (LLe.refl _) (.cons rfl (LLe.refl _) .nil)) .nil (okI rfl) rfl
    · have h6 : decide (costB x b < costB x o) = false := h6
      rw [no (by rw [hbt, h6])]
      exact Wk.le (.cons rfl (.refl _) (.cons rfl (.refl _) (.cons rfl (.refl _) (.cons rfl (.refl _) (.cons rfl (.refl _) (.cons rfl (.refl _) (.cons rfl (.refl _) .nil))))))) (.cons rfl (LLe.refl _) (.cons rfl (LLe.refl _) .nil)) .nil (okI rfl) rfl
  have h5 : (costB x b != costB x o) = false := h5
  have h5 : ¬ costB x b ≠ costB x o := by simpa using h5
  have hlens : ∀ c : Nat, (((choiceL c).map I).length : Int) = ((choiceL c).length : Int) := fun c => by rw [List.length_map]
  refine Tr.seqR rfl (by simp) (Tr.cond rfl rfl (fun h6 => ?_) (fun h6 => ?_))
  · have h6 : ((((choiceL b).map I).length : Int) != (((choiceL o).map I).length : Int)) = true := h6
    have h6 : (choiceL b).length ≠ (choiceL o).length := by
      rw [hlens, hlens] at h6
      intro h; rw [h] at h6; simp at h6
    have hbt : better x b o = decide ((choiceL b).length < (choiceL o).length) := by unfold better; rw [if_neg h5, if_pos h6]
    refine Tr.seqR rfl (by simp) (Tr.cond rfl rfl (fun h7 => ?_) (fun h7 => Tr.skip ?_))
    · have h7 : decide ((((choiceL b).map I).length : Int) < (((choiceL o).map I).length : Int)) = true := h7
      rw [hlens, hlens, decide_eq_true_eq, Int.ofNat_lt] at h7
      rw [yes (by rw [hbt, decide_eq_true h7])]
      refine Tr.regR rfl (by simp) ?_
      exact Wk.le (.cons rfl (.refl _) (.cons rfl (.refl _) (.cons rfl (.refl _) (.cons rfl (.refl _) (.cons rfl (.refl _) (.cons rfl (.refl _) (.cons rfl (.refl _) .nil))))))) (.cons rfl (LLe.refl _) (.cons rfl (LLe.refl _) .nil)) .nil (okI rfl) rfl
    · have h7 : decide ((((choiceL b).map I).length : Int) < (((choiceL o).map I).length : Int)) = false := h7
      rw [hlens, hlens, decide_eq_false_iff_not, Int.ofNat_lt] at h7
      rw [no (by rw [hbt, decide_eq_false h7])]
      exact Wk.le (.cons rfl (.refl _) (.cons rfl (.refl _) (.cons rfl (.refl _) (.cons rfl (.refl _) (.cons rfl (.refl _) (.cons rfl (.refl _) (.cons rfl (.refl _) .nil))))))) (.cons rfl (LLe.refl _) (.cons rfl (LLe.refl _) .nil)) .nil (okI rfl) rfl
  have h6 : ((((choiceL b).map I).length : Int) != (((choiceL o).map I).length : Int)) = false := h6
  have h6 : ¬ (choiceL b).length ≠ (choiceL o).length := by
    rw [hlens, hlens] at h6
    simp at h6; omega
  have hbt : better x b o = decide (cmpL (choiceL b) (choiceL o) < 0) := by unfold better; rw [if_neg h5, if_neg h6]
  refine Tr.seqC rfl (by simp) (Steps.call rfl rfl (c_CompareL (by have := choiceL_len b; omega)) (Steps.fin rfl (by simp) ?_))
  refine Tr.cond rfl rfl (fun h7 => ?_) (fun h7 => Tr.skip ?_)
  · have h7 : decide (cmpL (choiceL b) (choiceL o) < 0) = true := h7
    rw [yes (by rw [hbt, h7])]
    refine Tr.regR rfl (by simp) ?_
    exact Wk.le (.cons rfl (.refl _) (.cons rfl (.refl _) (.cons rfl (.refl _) (.cons rfl (.refl _) (.cons rfl (.refl _) (.cons rfl (.refl _) (.cons rfl (.refl _) .nil))))))) (.cons rfl (LLe.refl _) (.cons rfl (LLe.refl _) .nil)) .nil (okI rfl) rfl
  · have h7 : decide (cmpL (choiceL b) (choiceL o) < 0) = false := h7
    rw [no (by rw [hbt, h7])]
    exact Wk.le (.cons rfl (.refl _) (.cons rfl (.refl _) (.cons rfl (.refl _) (.cons rfl (.refl _) (.cons rfl (.refl _) (.cons rfl (.refl _) (.cons rfl (.refl _) .nil))))))) (.cons rfl (LLe.refl _) (.cons rfl (LLe.refl _) .nil)) .nil (okI rfl) rfl

theorem bestN_lt (x : Nf) (wo : Nat) : (bestN x wo).1 < 2 ^ x.passes.length := by
  have key : ∀ n, (((List.range n).foldl (bestStep x wo) (0, false)).1 < n ∨ ((List.range n).foldl (bestStep x wo) (0, false)).1 = 0) := by
    intro n
    induction n with
    | zero => exact .inr rfl
    | succ n ih =>
      rw [List.range_succ, List.foldl_append]
      simp only [List.foldl_cons, List.foldl_nil]
      generalize (List.range n).foldl (bestStep x wo) (0, false) = p at ih ⊢
      unfold bestStep
      split
      · omega
      · split
        · exact .inl (by simp only; omega)
        · split
          · exact .inl (by simp only; omega)
          · omega
  have h := key (2 ^ x.passes.length)
  have hp : 0 < 2 ^ x.passes.length := Nat.two_pow_pos _
  unfold bestN
  omega

/-- What Best returns. -/
def BestR (x : Nf) : V := if nfOk x then (if (bestN x 0).2 then .tuple [intsV (choiceL (bestN x 0).1), I (costB x (bestN x 0).1), I 0] else .tuple [intsV [], I 0, I 4]) else .tuple [intsV [], I 0, I 74]

theorem c_Best {x : Nf} (hx : ∀ p ∈ x.passes, p.adds.length ≤ 9223372036854775807) : C Tryz.prog F.bin_Best [.agg (nfC x)] (BestR x) := by
  have kc := c_CheckInfill hx
  unfold BestR
  refine C_of mixed chk.bin_Best (by simp) fun S ok => ?_
  refine Tr.seqR rfl (by simp) ?_
  by_cases hk : nfOk x = true
  rotate_left
  · rw [if_neg hk] at kc ⊢
    refine Tr.seq (Tr.seqC rfl (by simp) (Steps.call rfl rfl kc (Steps.fin rfl (by simp) (Tr.seqR rfl (by simp) (Tr.condT rfl (Tr.seqR rfl (by simp) ?_))))))
    exact Tr.weak (s' := { env := [(2, intsV []), (3, I 0), (4, I 74)], bx := [], rw := [], log := [], stp := false }) (Wk.le (.cons rfl (.nil 0 1) (.cons rfl (.refl _) (.cons rfl (.refl _) .nil))) .nil .nil rfl rfl) (Tr.retX rfl rfl rfl rfl trivial)
  rw [if_pos hk] at kc ⊢
  refine Tr.seq (Tr.seqC rfl (by simp) (Steps.call rfl rfl kc (Steps.fin rfl (by simp) (Tr.seqR rfl (by simp) (Tr.condF rfl (Tr.skip ?_))))))
  have kb := c_best (wo := 0) hk (by omega)
  have hlt := bestN_lt x 0
  obtain ⟨⟨o, so⟩, hos⟩ : ∃ p, bestN x 0 = p := ⟨_, rfl⟩
  rw [hos] at kb hlt ⊢
  refine Tr.seqC rfl (by simp) (Steps.call rfl rfl kb (Steps.fin rfl (by simp) ?_))
  refine Tr.seq (Tr.seqR rfl (by simp) (Tr.cond rfl rfl (fun h => ?_) (fun h => Tr.skip ?_)))
  · have h : (!so) = true := h
    obtain rfl : so = false := by simpa using h
    refine Tr.seqR rfl (by simp) ?_
    exact Tr.weak (s' := { env := [(2, intsV []), (3, I 0), (4, I 4)], bx := [], rw := [], log := [], stp := false }) (Wk.le (.cons rfl (.nil 0 1) (.cons rfl (.refl _) (.cons rfl (.refl _) .nil))) .nil .nil rfl rfl) (Tr.retX rfl rfl rfl rfl trivial)
  · have h : (!so) = false := h
    obtain rfl : so = true := by simpa using h
    refine Tr.seq (Tr.drawK (TraceK.run rfl (by simp) (TraceK.call rfl rfl (c_choice o) (TraceK.run rfl (by simp) (TraceK.call rfl rfl (c_cost hk hlt) (TraceK.run rfl (by simp) (.done ⟨by kernel_rfl, by kernel_rfl, ?_⟩)))))))
    exact Tr.retX rfl rfl rfl rfl trivial

/-- What Without returns. -/
def WithoutR (x : Nf) (p : Int) : V := if nfOk x then (if btw p 0 ((x.passes.length : Int) - 1) then (if (bestN x (2 ^ p.toNat)).2 then .tuple [I (costB x (bestN x (2 ^ p.toNat)).1 - costB x (bestN x 0).1), I 0] else .tuple [I 0, I 4]) else .tuple [I 0, I 75]) else .tuple [I 0, I 74]

theorem c_Without {x : Nf} (hx : ∀ p ∈ x.passes, p.adds.length ≤ 9223372036854775807) (p : Int) : C Tryz.prog F.bin_Without [.agg (nfC x), I p] (WithoutR x p) := by
  have kc := c_CheckInfill hx
  unfold WithoutR
  refine C_of mixed chk.bin_Without (by simp) fun S ok => ?_
  refine Tr.seqR rfl (by simp) ?_
  by_cases hk : nfOk x = true
  rotate_left
  · rw [if_neg hk] at kc ⊢
    refine Tr.seq (Tr.seqC rfl (by simp) (Steps.call rfl rfl kc (Steps.fin rfl (by simp) (Tr.seqR rfl (by simp) (Tr.condT rfl (Tr.seqR rfl (by simp) ?_))))))
    exact Tr.retX rfl rfl rfl rfl trivial
  rw [if_pos hk] at kc ⊢
  have hm := (nfOk_spec hk).1.2
  refine Tr.seq (Tr.seqC rfl (by simp) (Steps.call rfl rfl kc (Steps.fin rfl (by simp) (Tr.seqR rfl (by simp) (Tr.condF rfl (Tr.skip ?_))))))
  have kw := c_within p 0 (IntKind.wrap .i64 (((x.passes.map eQ).length : Int) - 1))
  have hw1 : IntKind.wrap .i64 (((x.passes.map eQ).length : Int) - 1) = (x.passes.length : Int) - 1 := by rw [List.length_map, w64 (by omega) (by omega)]
  refine Tr.seq (Tr.seqC rfl (by simp) (Steps.call rfl rfl kw (Steps.fin rfl (by simp) (Tr.cond rfl rfl (fun h => ?_) (fun h => Tr.skip ?_)))))
  · have h : (!btw p 0 (IntKind.wrap .i64 (((x.passes.map eQ).length : Int) - 1))) = true := h
    rw [hw1] at h
    rw [if_neg (by simpa using h)]
    exact Tr.seqR rfl (by simp) (Tr.retX rfl rfl rfl rfl trivial)
  have h : (!btw p 0 (IntKind.wrap .i64 (((x.passes.map eQ).length : Int) - 1))) = false := h
  rw [hw1] at h
  have h : btw p 0 ((x.passes.length : Int) - 1) = true := by simpa using h
  rw [if_pos h]
  rw [btw_iff] at h
  obtain ⟨q, rfl⟩ : ∃ q : Nat, p = (q : Int) := ⟨p.toNat, by omega⟩
  have hq : q < 10 := by omega
  have e2 : ((q : Int)).toNat = q := by omega
  rw [e2]
  have hqp : 2 ^ q ≤ 2 ^ 10 := Nat.pow_le_pow_right (by omega) (by omega)
  have kb := c_best (wo := 2 ^ q) hk (by omega)
  have kb0 := c_best (wo := 0) hk (by omega)
  have hlt := bestN_lt x (2 ^ q)
  have hlt0 := bestN_lt x 0
  obtain ⟨⟨o, so⟩, hos⟩ : ∃ p, bestN x (2 ^ q) = p := ⟨_, rfl⟩
  obtain ⟨⟨o0, so0⟩, hos0⟩ : ∃ p, bestN x 0 = p := ⟨_, rfl⟩
  rw [hos] at kb hlt ⊢
  rw [hos0] at kb0 hlt0 ⊢
  have hsh := bit_shl q (by omega)
  rw [← hsh] at kb
  refine Tr.seq (Tr.drawK (TraceK.run rfl (by simp) ?_))
  refine TraceK.call rfl rfl kb (TraceK.run rfl (by simp) (.done ⟨by kernel_rfl, by kernel_rfl, ?_⟩))
  refine Tr.seq (Tr.seqR rfl (by simp) (Tr.cond rfl rfl (fun h => ?_) (fun h => Tr.skip ?_)))
  · have h : (!so) = true := h
    obtain rfl : so = false := by simpa using h
    exact Tr.seqR rfl (by simp) (Tr.retX rfl rfl rfl rfl trivial)
  · have h : (!so) = false := h
    obtain rfl : so = true := by simpa using h
    refine Tr.seqC rfl (by simp) (Steps.call rfl rfl kb0 (Steps.fin rfl (by simp) ?_))
    refine Tr.seq (Tr.drawK (TraceK.run rfl (by simp) (TraceK.call rfl rfl (c_cost hk hlt) (TraceK.run rfl (by simp) (TraceK.call rfl rfl (c_cost hk hlt0) (TraceK.run rfl (by simp) (.done ⟨by kernel_rfl, by kernel_rfl, ?_⟩)))))))
    have b1 : 0 ≤ costB x o ∧ costB x o ≤ 10000 := costB_bd hk hlt
    have b2 : 0 ≤ costB x o0 ∧ costB x o0 ≤ 10000 := costB_bd hk hlt0
    refine Tr.retX rfl rfl rfl ?_ trivial
    show V.tuple [I (costB x o - costB x o0), I 0] = .tuple [I (IntKind.wrap .i64 (costB x o - costB x o0)), I 0]
    rw [w64 (by omega) (by omega)]

end Go.Proofs.YtdejdblopmfjfaaGreatDoor


/-! Contracts: the bound of a leaf. -/
set_option linter.unusedVariables false
set_option linter.unusedSimpArgs false
set_option maxRecDepth 40000
set_option maxHeartbeats 4000000
namespace Go.Proofs.YtdejdblopmfjfaaGreatDoor
open Go.Am
attribute [local simp] cells scalar mkv splice under2 under dem dem1 eB eQ nfC intsV
def dotL (a b : List Int) (z : Int) : Int := (List.zipWith (· * ·) a b).foldl (· + ·) z
def minL (a b : List Int) : List Int := List.zipWith min a b
def gainN (x : Nf) (pr R : List Int) (i : Nat) : Int := dotL pr (minL (addsOf x i) R) (-costOf x i)
def leafStep (x : Nf) (pr R : List Int) (d : Nat) (n : Int) (i : Nat) : Int := if d.testBit i then n else n - max 0 (gainN x pr R i)
def leafN (x : Nf) (pr : List Int) (c d : Nat) : Int := (List.range x.passes.length).foldl (leafStep x pr (restsL x (choiceN c)) d) (dotL pr (restsL x (choiceN c)) (costB x c))

theorem dot_bd : ∀ (a b : List Int) (z : Int), (∀ m ∈ a, 0 ≤ m ∧ m ≤ 1000000) → (∀ m ∈ b, 0 ≤ m ∧ m ≤ 100) → z ≤ dotL a b z ∧ dotL a b z ≤ z + a.length * 100000000
  | [], b, z, _, _ => by simp [dotL]
  | m :: a, [], z, h1, _ => by
    have : (0 : Int) ≤ ((m :: a).length : Int) * 100000000 := by omega
    simp only [dotL, List.zipWith_nil_right, List.foldl_nil]; omega
  | m :: a, n :: b, z, h1, h2 => by
    have hm := h1 m (by simp)
    have hn := h2 n (by simp)
    have ih := dot_bd a b (z + m * n) (fun p hp => h1 p (by simp [hp])) (fun p hp => h2 p (by simp [hp]))
    have e : dotL (m :: a) (n :: b) z = dotL a b (z + m * n) := rfl
    have q1 : 0 ≤ m * n := Int.mul_nonneg hm.1 hn.1
    have q2 : m * n ≤ 1000000 * 100 := Int.mul_le_mul hm.2 hn.2 hn.1 (by omega)
    rw [e, List.length_cons]
    push_cast
    omega

theorem dot_take (a b : List Int) (z : Int) {k : Nat} (ha : k < a.length) (hb : k < b.length) : dotL (a.take (k + 1)) (b.take (k + 1)) z = dotL (a.take k) (b.take k) z + a[k] * b[k] := by
  unfold dotL
  rw [← List.take_zipWith, ← List.take_zipWith, foldl_take _ _ _ (by simp; omega)]
  simp

theorem minL_small {n : Nat} {a R : List Int} (ha : a.length = n ∧ ∀ m ∈ a, 0 ≤ m ∧ m ≤ 100) (hR : small n R) : small n (minL a R) := by
  refine ⟨by simp [minL, hR.1, ha.1], fun m hm => ?_⟩
  unfold minL at hm
  obtain ⟨i, hi, rfl⟩ := List.getElem_of_mem hm
  simp only [List.length_zipWith] at hi
  rw [List.getElem_zipWith]
  have h1 := hR.2 _ (List.getElem_mem (show i < R.length by omega))
  have h2 := ha.2 _ (List.getElem_mem (show i < a.length by omega))
  omega

theorem gain_bd {x : Nf} (hx : nfOk x = true) {pr R : List Int} (hp : ∀ m ∈ pr, 0 ≤ m ∧ m ≤ 1000000) (hl : pr.length = x.lacks.length) (hR : small x.lacks.length R) {i : Nat} (hi : i < x.passes.length) : -1000 ≤ gainN x pr R i ∧ gainN x pr R i ≤ 1600000000 := by
  have h := dot_bd pr (minL (addsOf x i) R) (-costOf x i) hp (minL_small (adds_small hx hi) hR).2
  have hn := (nfOk_spec hx).1.1
  have hc := ((nfOk_spec hx).2.2 _ (List.getElem_mem hi)).1
  have e : costOf x i = x.passes[i].cost := by simp [costOf, hi]
  unfold gainN
  rw [e] at h ⊢
  omega

theorem leaf_bd {x : Nf} (hx : nfOk x = true) {pr R : List Int} (hp : ∀ m ∈ pr, 0 ≤ m ∧ m ≤ 1000000) (hl : pr.length = x.lacks.length) (hR : small x.lacks.length R) (d : Nat) (z : Int) : ∀ n, n ≤ x.passes.length → z - n * 1600000000 ≤ (List.range n).foldl (leafStep x pr R d) z ∧ (List.range n).foldl (leafStep x pr R d) z ≤ z
  | 0, _ => by simp
  | n + 1, h => by
    have ih := leaf_bd hx hp hl hR d z n (by omega)
    have hg := gain_bd hx hp hl hR (show n < x.passes.length by omega)
    rw [List.range_succ, List.foldl_append]
    simp only [List.foldl_cons, List.foldl_nil]
    generalize (List.range n).foldl (leafStep x pr R d) z = s at ih ⊢
    unfold leafStep
    push_cast
    split <;> omega

theorem c_leaf {x : Nf} (hx : nfOk x = true) {pr : List Int} (hp : ∀ m ∈ pr, 0 ≤ m ∧ m ≤ 1000000) (hl : pr.length = x.lacks.length) {c d : Nat} (hc : c < 2 ^ x.passes.length) :
    C Tryz.prog F.bin_leaf [.agg (nfC x), intsV pr, I (c : Nat), I (d : Nat)] (I (leafN x pr c d)) := by
  have hm := (nfOk_spec hx).1
  have hR := restsL_small hx (choiceN_lt hc)
  have hcb := costB_bd hx hc
  unfold leafN
  have kr := c_rests hx hc
  obtain ⟨R, eR⟩ : ∃ R, restsL x (choiceN c) = R := ⟨_, rfl⟩
  rw [eR] at kr hR ⊢
  refine C_of mixed chk.bin_leaf (by simp) fun S ok => ?_
  refine Tr.seqR rfl (by simp) (Tr.seqC rfl (by simp) (Steps.call rfl rfl kr (Steps.fin rfl (by simp) ?_)))
  refine Tr.seqC rfl (by simp) (Steps.call rfl rfl (c_cost hx hc) (Steps.fin rfl (by simp) ?_))
  refine Tr.seq (Tr.seqR rfl (by simp) (Tr.block ?_))
  refine Tr.loop (fun (k : Nat) st => k ≤ pr.length ∧ st = { env := [(1, intsV pr), (3, I (d : Nat)), (4, .ptr 4 0), (9, intsV R), (10, I (dotL (pr.take k) (R.take k) (costB x c))), (24, intsV pr), (25, I (pr.length : Nat)), (26, I (k : Nat))], bx := [(4, ⟨nfC x, false⟩)], rw := [], log := [], stp := false }) (fun k => pr.length - k) 0
    (Wk.le (.cons rfl (.refl _) (.cons rfl (.refl _) (.cons rfl (.refl _) (.cons rfl (.refl _) (.cons rfl (.refl _) (.cons rfl (.refl _) (.cons rfl (VLe.i (by simp)) (.cons rfl (.refl _) .nil)))))))) (.cons rfl (LLe.refl _) .nil) .nil rfl rfl) ⟨by omega, rfl⟩ ?_
  rintro k st ⟨hk, rfl⟩
  have hdb : ∀ k, k ≤ pr.length → 0 ≤ dotL (pr.take k) (R.take k) (costB x c) ∧ dotL (pr.take k) (R.take k) (costB x c) ≤ 1700000000 := fun k hk => by
    have := dot_bd (pr.take k) (R.take k) (costB x c) (fun m hm => hp m (List.mem_of_mem_take hm)) (fun m hm => hR.2 m (List.mem_of_mem_take hm))
    have e : (pr.take k).length = k := by rw [List.length_take]; omega
    rw [e] at this
    omega
  refine Tr.seqR rfl (by simp) (Tr.seqI rfl (fun h1 => ?_) (fun h1 => ?_))
  · have h1 : k < pr.length := by simpa using h1
    have h1R : k < R.length := by rw [hR.1, ← hl]; exact h1
    refine Tr.skipT (Tr.seq (Tr.block (Tr.seq (Tr.reg (Steps.runN 2 rfl (by simp; omega) ?_)))))
    rw [getD_map h1]
    refine Steps.fin rfl (by simp) (Tr.reg (Steps.runN 5 rfl (by simp; omega) ?_))
    rw [getD_map h1R]
    refine Steps.fin rfl (by simp) (Tr.regR rfl (by simp) ?_)
    have b1 := hp _ (List.getElem_mem h1)
    have b2 := hR.2 _ (List.getElem_mem h1R)
    have q1 : 0 ≤ pr[k] * R[k] := Int.mul_nonneg b1.1 b2.1
    have q2 : pr[k] * R[k] ≤ 1000000 * 100 := Int.mul_le_mul b1.2 b2.2 b2.1 (by omega)
    have b3 := hdb k (by omega)
    refine ⟨k + 1, _, Wk.le (.cons rfl (.refl _) (.cons rfl (.refl _) (.cons rfl (.refl _) (.cons rfl (.refl _) (.cons rfl (VLe.i ?_) (.cons rfl (.refl _) (.cons rfl (.refl _) (.cons rfl (VLe.i (w64 (by omega) (by omega))) .nil)))))))) (.cons rfl (LLe.refl _) .nil) .nil rfl rfl, ⟨h1, rfl⟩, by omega⟩
    rw [dot_take _ _ _ h1 h1R]
    show IntKind.wrap .i64 (dotL (pr.take k) (R.take k) (costB x c) + IntKind.wrap .i64 (pr[k] * R[k])) = _
    rw [w64 (n := pr[k] * R[k]) (by omega) (by omega), w64 (by omega) (by omega)]
  have h1 : k = pr.length := by simp at h1; omega
  subst h1
  rw [List.take_length, List.take_of_length_le (show R.length ≤ pr.length by rw [hR.1, ← hl]; omega)]
  have hz : 0 ≤ dotL pr R (costB x c) ∧ dotL pr R (costB x c) ≤ 1700000000 := by
    have := hdb pr.length (by omega)
    rwa [List.take_length, List.take_of_length_le (show R.length ≤ pr.length by rw [hR.1, ← hl]; omega)] at this
  generalize dotL pr R (costB x c) = z at hz ⊢
  refine Tr.exit (Tr.seq (Tr.seqR rfl (by simp) (Tr.block ?_)))
  refine Tr.loop (fun (i : Nat) st => i ≤ x.passes.length ∧ st = { env := [(1, intsV pr), (3, I (d : Nat)), (4, .ptr 4 0), (9, intsV R), (10, I ((List.range i).foldl (leafStep x pr R d) z)), (41, .slice 0 2 (x.passes.map eQ)), (42, I (x.passes.length : Nat)), (43, I (i : Nat))], bx := [(4, ⟨nfC x, false⟩)], rw := [], log := [], stp := false }) (fun i => x.passes.length - i) 0
    (Wk.le (.cons rfl (.refl _) (.cons rfl (.refl _) (.cons rfl (.refl _) (.cons rfl (.refl _) (.cons rfl (.refl _) (.cons rfl (.refl _) (.cons rfl (VLe.i (by simp)) (.cons rfl (.refl _) .nil)))))))) (.cons rfl (LLe.refl _) .nil) .nil rfl rfl) ⟨by omega, rfl⟩ ?_
  rintro i st ⟨hi, rfl⟩
  have hlb := leaf_bd hx hp hl hR d z i hi
  have hst : (List.range (i + 1)).foldl (leafStep x pr R d) z = leafStep x pr R d ((List.range i).foldl (leafStep x pr R d) z) i := by
    rw [List.range_succ, List.foldl_append]; rfl
  generalize hs0 : (List.range i).foldl (leafStep x pr R d) z = s0 at hlb hst ⊢
  refine Tr.seqR rfl (by simp) (Tr.seqI rfl (fun h2 => ?_) (fun h2 => ?_))
  rotate_left
  · have h2 : i = x.passes.length := by simp at h2; omega
    subst h2
    exact Tr.exit (Tr.seqR rfl (by simp) (Tr.retX rfl rfl rfl (by rw [hs0]; rfl) trivial))
  have h2 : i < x.passes.length := by simpa using h2
  have hbit := bit_shr d i (by omega)
  refine Tr.skipT (Tr.meet { env := [(1, intsV pr), (3, I (d : Nat)), (4, .ptr 4 0), (9, intsV R), (10, I (leafStep x pr R d s0 i)), (41, .slice 0 2 (x.passes.map eQ)), (42, I (x.passes.length : Nat)), (43, I (i : Nat))], bx := [(4, ⟨nfC x, false⟩)], rw := [], log := [], stp := false } (Tr.block ?_) (Tr.regR rfl (by simp) ?_))
  rotate_left
  · exact ⟨i + 1, _, Wk.le (.cons rfl (.refl _) (.cons rfl (.refl _) (.cons rfl (.refl _) (.cons rfl (.refl _) (.cons rfl (.of_eq (by rw [hst])) (.cons rfl (.refl _) (.cons rfl (.refl _) (.cons rfl (VLe.i (w64 (by omega) (by omega))) .nil)))))))) (.cons rfl (LLe.refl _) .nil) .nil rfl rfl, ⟨h2, rfl⟩, by omega⟩
  refine Tr.seq (Tr.reg (Steps.runN 2 rfl (by simp; omega) ?_))
  rw [getD_map h2]
  refine Steps.fin rfl (by simp) ?_
  have ha := adds_small hx h2
  have ea : addsOf x i = x.passes[i].adds := by simp [addsOf, h2]
  have ec : costOf x i = x.passes[i].cost := by simp [costOf, h2]
  have hco := ((nfOk_spec hx).2.2 _ (List.getElem_mem h2)).1
  refine Tr.seq (Tr.seqR rfl (by simp) (Tr.cond rfl rfl (fun h3 => ?_) (fun h3 => Tr.skip ?_)))
  · have h3 : ((((d : Int).fdiv (2 ^ (min (i : Int).toNat 64))).tmod 2) == 1) = true := h3
    rw [hbit] at h3
    have hd : d.testBit i = true := by
      by_cases h : d.testBit i = true
      · exact h
      · rw [if_neg h] at h3; cases h3
    have e : leafStep x pr R d s0 i = s0 := by unfold leafStep; rw [if_pos hd]
    rw [e]
    exact Tr.exit (Wk.le (.cons rfl (.refl _) (.cons rfl (.refl _) (.cons rfl (.refl _) (.cons rfl (.refl _) (.cons rfl (.refl _) (.cons rfl (.refl _) (.cons rfl (.refl _) (.cons rfl (.refl _) .nil)))))))) (.cons rfl (LLe.refl _) .nil) .nil rfl rfl)
  have h3 : ((((d : Int).fdiv (2 ^ (min (i : Int).toNat 64))).tmod 2) == 1) = false := h3
  rw [hbit] at h3
  have hd : ¬ d.testBit i = true := by
    intro h
    rw [if_pos h] at h3; cases h3
  have e : leafStep x pr R d s0 i = s0 - max 0 (gainN x pr R i) := by unfold leafStep; rw [if_neg hd]
  have hgb := gain_bd hx hp hl hR h2
  rw [e]
  refine Tr.seqR rfl (by simp) ?_
  rw [ea] at ha
  have hml := minL_small ha hR
  have hge : gainN x pr R i = dotL pr (minL x.passes[i].adds R) (-x.passes[i].cost) := by unfold gainN; rw [ea, ec]
  refine Tr.seq (Tr.seqR rfl (by simp) (Tr.block ?_))
  refine Tr.loop (fun (k : Nat) st => k ≤ x.passes[i].adds.length ∧ st = { env := [(1, intsV pr), (3, I (d : Nat)), (4, .ptr 4 0), (9, intsV R), (10, I s0), (15, I (dotL (pr.take k) ((minL x.passes[i].adds R).take k) (-x.passes[i].cost))), (41, .slice 0 2 (x.passes.map eQ)), (42, I (x.passes.length : Nat)), (43, I (i : Nat)), (57, intsV x.passes[i].adds), (58, I (x.passes[i].adds.length : Nat)), (59, I (k : Nat))], bx := [(4, ⟨nfC x, false⟩)], rw := [], log := [], stp := false }) (fun k => x.passes[i].adds.length - k) 0
    (Wk.le (.cons rfl (.refl _) (.cons rfl (.refl _) (.cons rfl (.refl _) (.cons rfl (.refl _) (.cons rfl (.refl _) (.cons rfl (VLe.i ?_) (.cons rfl (.refl _) (.cons rfl (.refl _) (.cons rfl (.refl _) (.cons rfl (.refl _) (.cons rfl (VLe.i ?_) (.cons rfl (.refl _) .nil)))))))))))) (.cons rfl (LLe.refl _) .nil) .nil rfl rfl) ⟨by omega, rfl⟩ ?_
  · show IntKind.wrap .i64 (0 - x.passes[i].cost) = _
    rw [w64 (by omega) (by omega)]
    simp [dotL]
  · show ((x.passes[i].adds.map I).length : Int) = _
    rw [List.length_map]
  rintro k st ⟨hk, rfl⟩
  have hdb2 : ∀ k, k ≤ pr.length → -1000 ≤ dotL (pr.take k) ((minL x.passes[i].adds R).take k) (-x.passes[i].cost) ∧ dotL (pr.take k) ((minL x.passes[i].adds R).take k) (-x.passes[i].cost) ≤ 1700000000 := fun k hk => by
    have := dot_bd (pr.take k) ((minL x.passes[i].adds R).take k) (-x.passes[i].cost) (fun m hm => hp m (List.mem_of_mem_take hm)) (fun m hm => hml.2 m (List.mem_of_mem_take hm))
    have e : (pr.take k).length = k := by rw [List.length_take]; omega
    rw [e] at this
    omega
  have hal : x.passes[i].adds.length = pr.length := by rw [ha.1, hl]
  refine Tr.seqR rfl (by simp) (Tr.seqI rfl (fun h4 => ?_) (fun h4 => ?_))
  · have h4 : k < x.passes[i].adds.length := by simpa using h4
    have h4p : k < pr.length := by omega
    have h4R : k < R.length := by rw [hR.1, ← hl]; omega
    have h4m : k < (minL x.passes[i].adds R).length := by rw [hml.1, ← hl]; omega
    refine Tr.skipT (Tr.seq (Tr.block (Tr.seq (Tr.reg (Steps.runN 2 rfl (by simp; omega) ?_)))))
    rw [getD_map h4]
    refine Steps.fin rfl (by simp) (Tr.drawK (TraceK.runN 4 rfl (by simp; omega) ?_))
    rw [getD_map h4p]
    refine TraceK.runN 5 rfl (by simp; omega) ?_
    rw [getD_map h4R]
    refine TraceK.run rfl (by simp) (.done ⟨by kernel_rfl, by kernel_rfl, ?_⟩)
    refine Tr.regR rfl (by simp) ?_
    have b1 := hp _ (List.getElem_mem h4p)
    have b2 := hml.2 _ (List.getElem_mem h4m)
    have q1 : 0 ≤ pr[k] * (minL x.passes[i].adds R)[k] := Int.mul_nonneg b1.1 b2.1
    have q2 : pr[k] * (minL x.passes[i].adds R)[k] ≤ 1000000 * 100 := Int.mul_le_mul b1.2 b2.2 b2.1 (by omega)
    have b3 := hdb2 k (by omega)
    refine ⟨k + 1, _, Wk.le (.cons rfl (.refl _) (.cons rfl (.refl _) (.cons rfl (.refl _) (.cons rfl (.refl _) (.cons rfl (.refl _) (.cons rfl (VLe.i ?_) (.cons rfl (.refl _) (.cons rfl (.refl _) (.cons rfl (.refl _) (.cons rfl (.refl _) (.cons rfl (.refl _) (.cons rfl (VLe.i (w64 (by omega) (by omega))) .nil)))))))))))) (.cons rfl (LLe.refl _) .nil) .nil rfl rfl, ⟨h4, rfl⟩, by omega⟩
    rw [dot_take _ _ _ h4p h4m]
    have em : (minL x.passes[i].adds R)[k] = min x.passes[i].adds[k] R[k] := by simp [minL]
    show IntKind.wrap .i64 (dotL (pr.take k) ((minL x.passes[i].adds R).take k) (-x.passes[i].cost) + IntKind.wrap .i64 (pr[k] * (if R[k] < x.passes[i].adds[k] then R[k] else x.passes[i].adds[k]))) = _
    rw [ite_min, ← em, w64 (n := pr[k] * _) (by omega) (by omega), w64 (by omega) (by omega)]
  have h4 : k = x.passes[i].adds.length := by simp at h4; omega
  subst h4
  have hge2 : dotL (pr.take x.passes[i].adds.length) ((minL x.passes[i].adds R).take x.passes[i].adds.length) (-x.passes[i].cost) = gainN x pr R i := by
    rw [hge, List.take_of_length_le (by omega), List.take_of_length_le (by rw [hml.1, ha.1]; omega)]
  rw [hge2]
  refine Tr.exit (Tr.regR rfl (by simp) ?_)
  refine Wk.le (.cons rfl (.refl _) (.cons rfl (.refl _) (.cons rfl (.refl _) (.cons rfl (.refl _) (.cons rfl (VLe.i ?_) (.cons rfl (.refl _) (.cons rfl (.refl _) (.cons rfl (.refl _) .nil)))))))) (.cons rfl (LLe.refl _) .nil) .nil rfl rfl
  show IntKind.wrap .i64 (s0 - (if gainN x pr R i > 0 then gainN x pr R i else 0)) = _
  rw [ite_max, w64 (by omega) (by omega)]

end Go.Proofs.YtdejdblopmfjfaaGreatDoor

