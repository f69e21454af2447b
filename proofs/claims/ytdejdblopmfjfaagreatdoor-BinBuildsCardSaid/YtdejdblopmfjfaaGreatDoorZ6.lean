/-
  Parts of the proof, 6: the abstract machine, the compiled code, contracts of the functions, plain laws.
-/
import Derived.Test.YtdejdblopmfjfaaGreatDoorZ5


/-! AM, part Zv: calls that return what lies in an arena. -/
set_option linter.unusedVariables false
set_option linter.unusedSimpArgs false
namespace Go.Am
open Go.RowKit

/-- At the end of a body: of the result something is known. -/
def qRetX (P : Program) (rs : List ResultVar) (K : V → St → Prop) : Exit → St → Prop
  | .ret, s | .normal, s => ∃ r, K r s ∧ ∃ vs us ids, rs.mapM (resV P s) = some vs ∧ toDs s.fs.b vs = some (us, ids) ∧ r = packR us
  | _, _ => False

theorem Tr.retZ {E : Env} {ro : Option Nat} {Q : Exit → St → Prop} {s : St} {P : Program} {rs : List ResultVar} {K : V → St → Prop} {vs us : List V} {ids : List Nat} (hQ : Q .ret = qRetX P rs K .ret) (h : resVs P s rs = some vs) (hd : toDs s.fs.b vs = some (us, ids)) (hk : K (packR us) s) : Tr E ro .ret Q s :=
  Tr.ret (by rw [hQ]; exact ⟨_, hk, vs, us, ids, resVs_ok h, hd, rfl⟩)

theorem calls_bodyX {E : Env} {f : FuncId} {fn : Func} {c : Code} {ic : IC} (hf : E.P.funcs[f]? = some fn) (hb : fn.body = some c) (hc : compC E.P E.nt c = some ic) (hnt : fn.ntmps = E.nt) {args : List V} {xs : Array Value} {w : World} {φ : Nat → Nat} {y : Option Nat}
    (hlen : args.length ≤ E.nt) (hl : args.length = xs.size) (hrep : ∀ (i : Nat) v x, args[i]? = some v → xs[i]? = some x → Rep w φ (fun _ => none) y v x ∧ ∀ σ h, GrowV σ h w v x)
    (hS : E.S [] false (fun _ => False) w φ) (htop : ∀ b, w.heap.size ≤ b → φ b = 0) (hy : ∀ l, y = some l → Yields E.P E.S E.ys l ∧ E.lk l) {K : V → St → Prop} (hT : Tr E none ic (qRetX E.P fn.results.toList K) (entry args)) :
    Calls E.P f xs w fun e w' => ∃ (r : V) (s' : St) (h' : Gh) (x : Value), e = .returned x ∧ RepR w' h'.φ r x ∧ E.S s'.log s'.stp h'.M w' h'.φ ∧ (∀ b, w'.heap.size ≤ b → h'.φ b = 0) ∧ K r s' := by
  rw [← callsIn_wide (n := 0)]
  refine callsIn_of_wp_marks hf hb trivial ?_
  have R0 : E.rel (entry args) { tmps := xs ++ Array.replicate (fn.ntmps - xs.size) undef, defers := [] } w { φ := φ, β := fun _ => none, γ := fun _ => none, M := fun _ => False, y := ⟨y, fun _ => none⟩ } := by
    refine ⟨{ size := by simp; omega, env := fun t v hv => ?_, bx := fun i bo hb => ?_, dom := fun _ _ h => ((by cases h)), inj := fun _ _ _ h => ((by cases h)), rows := fun r n sz e hr => ?_, rdom := fun _ _ h => ((by cases h)), rinj := fun _ _ _ h => ((by cases h)), apart := fun _ _ _ h => ((by cases h)), pins := fun _ _ h => ((by cases h)), mine := fun _ h => ((by cases h)), top := htop, marks := trivial, sur := hS }, hy, fun _ h => ((by cases h))⟩
    · rw [fs_g] at hv
      obtain ⟨_, h1⟩ := get_entryL 0 args t v hv
      simp only [Nat.sub_zero] at h1
      have ht : t < args.length := (List.getElem?_eq_some_iff.1 h1).1
      have ht' : t < xs.size := by omega
      have e : (xs ++ Array.replicate (fn.ntmps - xs.size) undef).getD t undef = xs[t] := by
        simp [Array.getElem?_append_left ht', ht']
      rw [e]
      obtain ⟨h2, h3⟩ := hrep t v _ h1 (Array.getElem?_eq_getElem ht')
      exact ⟨by omega, h2, h3 _ _⟩
    · rw [fs_b] at hb; simp [entry, get] at hb
    · rw [fs_r] at hr; simp [entry, get] at hr
  refine hT c hc 0 _ w _ R0 _ fun e s' a' w' h' k R' ey => ?_
  have fin : (∃ r, K r s' ∧ ∃ vs us ids, fn.results.toList.mapM (resV E.P s') = some vs ∧ toDs s'.fs.b vs = some (us, ids) ∧ r = packR us) → LeavesInM Fence.wide 0 E.P fn a'.tmps
      (fun e w' => ∃ (r : V) (s' : St) (h' : Gh) (x : Value), e = .returned x ∧ RepR w' h'.φ r x ∧ E.S s'.log s'.stp h'.M w' h'.φ ∧ (∀ b, w'.heap.size ≤ b → h'.φ b = 0) ∧ K r s') a'.defers .returning w' := by
    rintro ⟨_, hk, vs, us, ids, e1, e2, rfl⟩
    refine leave a'.defers a' w' rfl R' fun a2 w2 ht R2 => ?_
    -- the values of the results
    have hx : ∃ xs : List Value, vs.length = xs.length ∧ fn.results.toList.length = xs.length ∧ (∀ (i : Nat) r x, fn.results.toList[i]? = some r → xs[i]? = some x → (match r with | .tmp t => (pure (a2.tmps.getD t undef) : Sem Value) | .cell b t => do loadVar t (← asAddr (a2.tmps.getD b undef))).run E.P w2 = .ok x w2) ∧
        (∀ (i : Nat) v x, vs[i]? = some v → xs[i]? = some x → Rep w2 h'.φ h'.β h'.y.l v x) := by
      clear e2
      generalize fn.results.toList = rl at e1
      induction rl generalizing vs with
      | nil => simp at e1; subst e1; exact ⟨[], rfl, rfl, fun i r x h => by simp at h, fun i r x h => by simp at h⟩
      | cons rv rl ih =>
        simp only [List.mapM_cons, Option.bind_eq_bind, Option.bind_eq_some_iff, Option.pure_def, Option.some.injEq] at e1
        obtain ⟨v, hv, vs', hvs, rfl⟩ := e1
        obtain ⟨x, hx1, hx2⟩ := resV_ok R2 hv
        obtain ⟨xs, l1, l2, l3, l4⟩ := ih vs' hvs
        refine ⟨x :: xs, by simp [l1], by simp [l2], fun i r z h1 h2 => ?_, fun i v z h1 h2 => ?_⟩
        · cases i with
          | zero => simp at h1 h2; subst h1 h2; exact hx1
          | succ i => simp at h1 h2; exact l3 i r z h1 h2
        · cases i with
          | zero => simp at h1 h2; subst h1 h2; exact hx2
          | succ i => simp at h1 h2; exact l4 i v z h1 h2
    obtain ⟨xs, l1, l2, l3, l4⟩ := hx
    obtain ⟨h3, R3, ext, q1, q2, q3, hrepL⟩ := args_data R2.1 e2
    have hL := hrepL xs.toArray (by simpa using l1) (fun i v x h1 h2 => l4 i v x h1 (by simpa using h2))
    have hrun := run_results (P := E.P) (w := w2) (fn := fn) (tmps := a2.tmps) l2 l3
    rw [ht] at hrun
    refine ⟨_, hrun, _, s', h3, _, rfl, ?_, R3.sur, R3.top, hk⟩
    obtain ⟨m1, m2⟩ := hL
    cases us with
    | nil =>
      cases xs with
      | nil => exact .tuple [] #[] rfl (fun i v x h => by simp at h)
      | cons x xs => simp at m1
    | cons u us =>
      cases xs with
      | nil => simp at m1
      | cons x xs =>
        cases us with
        | nil =>
          cases xs with
          | nil => exact .data (m2 0 u x rfl rfl)
          | cons y xs => simp at m1
        | cons u2 us =>
          cases xs with
          | nil => simp at m1
          | cons y xs => exact .tuple _ _ (by simpa using m1) (fun i v z h1 h2 => m2 i v z h1 h2)
  cases e with
  | normal => exact fin k
  | ret => exact fin k
  | _ => exact k.elim

/-- **A CONTRACT OVER AN ARENA, OF WHICH AND OF THE RESULT SOMETHING IS KNOWN THEN**. -/
def CX (P : Program) (f : FuncId) (A : Arena) (K : List (Nat × List V)) (args : List V) (Φ : V → Arena → Prop) : Prop :=
  callable P f = true ∧ ∀ (w : World) (φ : Nat → Nat) (xs : Array Value), (∀ b, w.heap.size ≤ b → φ b = 0) → Gl w φ → Ar w φ (fun _ => False) A → Kons w φ K → (∀ p ∈ K, p.1 ∉ A.map (·.1)) → RepL w φ args xs →
    Calls P f xs w fun e w' => ∃ φ' x r B, Φ r B ∧ e = .returned x ∧ RepR w' φ' r x ∧ Ar w' φ' (fun _ => False) B ∧ Moved (fun b => b ∈ A.map (·.1)) w φ (fun b => b ∈ B.map (·.1)) w' φ'

theorem CX_of {P : Program} {f nt : Nat} {ic : IC} {rs : List ResultVar} (hmix : P.follows .mixedOrders = true) (hch : chkF P f = some (nt, ic, rs)) {A : Arena} {K : List (Nat × List V)} {args : List V} {Φ : V → Arena → Prop} (hlen : args.length ≤ nt)
    (hT : ∀ (S : Sur) (ok : S.ok) (S1 : Sur), InA (env0 P hmix nt S ok) S1 [] false → InK (env0 P hmix nt S ok) K → InKD (env0 P hmix nt S ok) K → Tr (env0 P hmix nt S ok) none ic (qRetX P rs fun r s => ∃ B, s.log = encA B ∧ Φ r B) { entry args with log := encA A }) : CX P f A K args Φ := by
  obtain ⟨fn, c, hf, hb, hnt, hc, rfl, hcall⟩ := chkF_ok hch
  refine ⟨hcall, fun w φ xs htop hgl hA hK hKA hrep => ?_⟩
  have okI := SQ_ok w φ A hgl
  have hInK : InK (env0 P hmix nt (SA (SQ w φ A) [] false) (SA_ok okI [] false)) K := by
    rintro log stp M w' φ' ⟨B', _, _, _, hm⟩ p hp
    obtain ⟨h1, h2⟩ := hK p hp
    have := hm.old p.1 h2 (hKA p hp)
    exact ⟨h1.mono this.1 hm.ext, Nat.lt_of_lt_of_le h2 hm.size⟩
  have hKD : InKD (env0 P hmix nt (SA (SQ w φ A) [] false) (SA_ok okI [] false)) K := by
    rintro B stp M w' φ' ⟨B', e, _, _, hm⟩ p hp hb
    obtain rfl := encA_inj e
    rcases hm.mine p.1 (.inr hb) with h | h
    · exact hKA p hp h
    · have := (hK p hp).2; omega
  have hT1 := hT (SA (SQ w φ A) [] false) (SA_ok okI [] false) (SQ w φ A) (⟨Sub.refl _, okI⟩) hInK hKD
  have e0 : (fun b => False ∨ b ∈ A.map (·.1)) = fun b => b ∈ A.map (·.1) := by funext b; simp
  have hT2 : Tr (env0 P hmix nt (SQ1 w φ A) (SQ1_ok w φ A hgl)) none ic (qRetX P fn.results.toList fun r s => ∃ B, s.log = encA B ∧ Φ r B) (entry args) := by
    intro c hc n a w1 g R Q' hq
    obtain ⟨B0, h1, h2, h3, h4⟩ := R.1.sur
    have hB0 : B0 = A := by
      rcases h1 with ⟨_, h⟩ | h
      · exact h
      · exact absurd h.symm (encA_ne _)
    subst hB0
    have R1 : (env0 P hmix nt (SA (SQ w φ B0) [] false) (SA_ok okI [] false)).rel { entry args with log := encA B0 } a w1 g := by
      refine ⟨{ R.1 with sur := ⟨B0, rfl, rfl, h3, h4⟩ }, fun l hl => ⟨?_, trivial⟩, R.2.2⟩
      intro log x M w φ xs hp
      exact absurd hp.length_le (by simp)
    refine hT1 c hc n a w1 g R1 Q' fun e t a' w' h' hQ R' hy => ?_
    refine hq e t a' w' h' hQ ?_ hy
    obtain ⟨B', k1, k2, k3, k4⟩ := R'.1.sur
    refine ⟨{ R'.1 with sur := ⟨B', .inr k1, k2, k3, k4⟩ }, fun l hl => ⟨?_, trivial⟩, R'.2.2⟩
    intro log x M w φ xs hp
    exact absurd hp.length_le (by simp)
  refine (calls_bodyX (E := env0 P hmix nt (SQ1 w φ A) (SQ1_ok w φ A hgl)) (φ := φ) (y := none) hf hb hc hnt hlen hrep.1 (fun i v x h1 h2 => ⟨.data (hrep.2 i v x h1 h2), fun σ h => GrowV.of_data (hrep.2 i v x h1 h2)⟩)
    ⟨A, .inl ⟨rfl, rfl⟩, rfl, hA, by rw [e0]; exact Moved.refl _ htop⟩ htop (fun _ h => ((by cases h))) hT2).mono ?_
  rintro e w' ⟨r, s', h', x, rfl, hr, ⟨B', k1, k2, k3, k4⟩, ht, hk⟩
  obtain ⟨B, hk, hΦ⟩ := hk
  have hB : B' = B := by
    rw [hk] at k1
    rcases k1 with ⟨h, _⟩ | h
    · exact absurd h (encA_ne _)
    · exact (encA_inj h).symm
  subst hB
  exact ⟨h'.φ, x, r, B', hΦ, rfl, hr, ⟨k3.nd, k3.ok, fun _ _ h => h, k3.lt, k3.z⟩, ⟨k4.ext, k4.old, k4.size, k4.os, k4.tape, k4.output, fun b hb => k4.mine b (.inr hb), k4.top⟩⟩

section
variable {E : Env} {S0 : Sur} {l0 : List (List V)} {s0 : Bool} {A : Arena} {stp : Bool} {σ : FSt} {a : Act} {w : World} {h : Gh}

/-- A call over an arena. -/
theorem wp_callX (hE : InA E S0 l0 s0) {F A1 : Arena} {K : List (Nat × List V)} {ro : Option Nat} {n i : Nat} {ops : Array Oper} {slots : List (Option Nat)} {o : Oper} {ins : Ins} (R : E.relF (encA (F ++ A1)) stp σ a w h) {f : FuncId} {vs us : List V} {ids : List Nat} {Φ : V → Arena → Prop} {os : List Operand} (cc : Comp E.P E.nt slots o ins os) (hd : toDs σ.b vs = some (us, ids)) (hC : CX E.P f A1 K us Φ)
    (hK : ∀ h', E.relF (encA (F ++ A1)) stp ((freeze σ.b ids).foldl (fun τ p => τ.set (.bx p.1) (.b p.2)) σ) a w h' → Kons w h'.φ K) (hKA : ∀ p ∈ K, p.1 ∉ A1.map (·.1)) (xs : Array Value) (hl : vs.length = xs.size)
    (hr : ∀ (i : Nat) v x, vs[i]? = some v → xs[i]? = some x → Rep w h.φ h.β h.y.l v x) (hi : ops[i]? = some o) (hw : Region.wanted o (yielded ops a.tmps) = true) (hrun : (execOp a.eval o).run E.P w = .ok (.enter f xs) w)
    {Q : Exit → Act → World → Prop} {next : Act → World → Prop} (hn : ∀ r B, Φ r B → ∀ a' w' h', E.relF (encA (F ++ B)) stp ((σ.eff { v := r, wb := freeze σ.b ids }).put ins.d r) a' w' h' → h'.y = h.y → next a' w') : wpOpIn (wideR ro) n E.P ops Q i next a w := by
  unfold wpOpIn
  simp only [hi, hw, if_true, Oper.wpIn]
  refine ⟨fun _ _ => trivial, ?_⟩
  rw [Oper.semAt_eq _ _ _ (opK_defer cc.op), hrun]
  simp only [Oper.uponIn]
  refine ⟨fun e => by simp [wideR, Fence.wide] at e, ?_⟩
  obtain ⟨h1, R1, ext1, q1, q2, q3, hrep⟩ := args_data R.1 hd
  have R1' : E.relF (encA (F ++ A1)) stp ((freeze σ.b ids).foldl (fun τ p => τ.set (.bx p.1) (.b p.2)) σ) a w h1 := ⟨R1, by rw [q3]; exact R.2⟩
  have hAr := hE.ar R1'
  have hnd := hAr.nd
  rw [List.map_append, List.nodup_append] at hnd
  have arA : Ar w h1.φ (fun _ => False) A1 := ⟨hnd.2.1, fun p hp => hAr.ok p (List.mem_append.2 (.inr hp)), fun _ _ h => h, fun p hp => hAr.lt p (List.mem_append.2 (.inr hp)), fun p hp => hAr.z p (List.mem_append.2 (.inr hp))⟩
  refine (callsIn_wideR (hC.2 w h1.φ xs R1.top (E.ok.gl _ _ _ _ _ R1.sur) arA (hK h1 R1') hKA (hrep xs hl hr))).mono ?_
  rintro e w' ⟨φ', x, r, B, hΦ, rfl, hres, hB, hm⟩
  have R2 := hE.moved R1' hm hB
  have hx : Rep w' φ' h1.β h1.y.l r x ∧ ∀ σ h w0, GrowV σ h w0 r x := by
    cases hres with
    | data hh => exact ⟨.data hh, fun σ h w0 => GrowV.of_data hh⟩
    | tuple vs xs hl hh =>
      refine ⟨.tuple vs xs hl hh, fun σ h w0 j u z hu hz => ?_⟩
      cases j with
      | zero => simp [cells] at hu; subst hu; intro r' sz xs' e; cases e
      | succ j => simp [cells] at hu
  have fin : Ok (σ.eff { v := r, wb := freeze σ.b ids }) { h1 with φ := φ' } w' r x := ⟨hx.1, hx.2 _ _ _⟩
  refine hn r B hΦ _ _ { h1 with φ := φ' } ⟨?_, ?_⟩ (by simpa using q3)
  · rw [cc.d]
    cases hd : o.dst with
    | none => exact R2.1
    | some d => exact R2.1.put (cc.dst d hd) fin.1 fin.2
  · exact R2.2

theorem Steps.callX (hE : InA E S0 l0 s0) {K : St → Prop} {Ks : List (Nat × List V)} {s : St} {d : Option Nat} {f : FuncId} {xs : List X} {rest : List Ins} {vs us : List V} {ids : List Nat} {Φ : V → Arena → Prop} {F A1 : Arena} (hx : evXs s.env xs = some vs) (hd : toDs s.fs.b vs = some (us, ids)) (hl : s.log = encA (F ++ A1))
    (hC : CX E.P f A1 Ks us Φ) (hKs : (∀ p ∈ Ks, (p.1, Ob.cells p.2) ∈ F) ∨ InK E Ks ∧ ∀ p ∈ Ks, p.1 ∉ A1.map (·.1))
    (hk : ∀ r B, Φ r B → Steps E rest K { (s.eff { v := r, wb := freeze s.fs.b ids }).put d r with log := encA (F ++ B) }) : Steps E (⟨d, .call f, xs, none⟩ :: rest) K s := by
  refine Step1.raw fun slots ops o i ro n a w h hc hs hi R Q next hn => ?_
  obtain ⟨os, cc⟩ := comp_of hc
  have hgo := guard_none cc rfl
  obtain ⟨c, e1, e2, rfl⟩ := opK_call cc.op
  have R' : E.relF (encA (F ++ A1)) s.stp s.fs a w h := by rw [← hl]; exact R
  have hAr := hE.ar R'
  have hnd := hAr.nd
  rw [List.map_append, List.nodup_append] at hnd
  obtain ⟨l1, l2⟩ := opds_args (opds_of R.1 cc.xs (evXs_ok hx))
  refine wp_callX hE R' cc hd hC (fun h' R1 => ?_) (fun p hp => ?_) _ l1 l2 hi (wanted_none hgo) (run_call hC.1 e2 e1) fun r B hΦ a' w' h' R2 hy => hn _ a' w' h' (hk r B hΦ) ?_ hy
  · rcases hKs with hKs | hKs
    · intro p hp
      have := (hE.ar R1)
      exact ⟨this.ok _ (List.mem_append.2 (.inl (hKs p hp))), this.lt _ (List.mem_append.2 (.inl (hKs p hp)))⟩
    · exact hKs.1 _ _ _ _ _ R1.1.sur
  · rcases hKs with hKs | hKs
    · exact fun h => hnd.2.2 _ (List.mem_map.2 ⟨_, hKs p hp, rfl⟩) _ h rfl
    · exact hKs.2 p hp
  · show E.relF _ _ _ _ _ _
    have e : ({ (s.eff { v := r, wb := freeze s.fs.b ids }).put d r with log := encA (F ++ B) } : St).fs = ((s.fs.eff { v := r, wb := freeze s.fs.b ids }).put d r) := by
      cases d with
      | none => exact fs_eff s _
      | some d => show ((s.eff _).put (some d) r).fs = _; rw [fs_put, fs_eff]; rfl
    have e2 : ({ (s.eff { v := r, wb := freeze s.fs.b ids }).put d r with log := encA (F ++ B) } : St).stp = s.stp := by
      show ((s.eff _).put d r).stp = _
      rw [(put_log _ _ _).2, (eff_log _ _).2]
    rw [e, e2]
    exact R2


end
end Go.Am


/-! Contracts of the specification: spread and all over an arena; surely; Gain. -/
set_option linter.unusedVariables false
set_option linter.unusedSimpArgs false
set_option maxRecDepth 40000
set_option maxHeartbeats 4000000
namespace Go.Proofs.YtdejdblopmfjfaaGreatDoor
open Go.Am
attribute [local simp] cells scalar mkv splice under2 under dem dem1 eB gridC sB fourC layC eF nestV
theorem cx_spread07 {s : Ly} (hn : s.nodes.length ≤ 16) (hN : ∀ f ∈ s.nodes, nodeOk f = true) : CX Tryz.prog F.ref07_spread [] [] [.agg (layC s)] (fun r B => OwnS B 1 ((s.nodes.map placesL).map sB) r) := by
  refine CX_of mixed chk.ref07_spread (by simp) fun S ok S1 hA hK hD => ?_
  refine Tr.seqR rfl (by simp) (Tr.seqR rfl (by simp) (Tr.seq (Tr.seqR rfl (by simp) (Tr.block ?_))))
  refine Tr.loop (α := Nat × V × Arena) (fun p st => (p.1 ≤ s.nodes.length ∧ OwnS p.2.2 1 (((s.nodes.take p.1).map placesL).map sB) p.2.1) ∧ st = { env := [(1, .ptr 1 0), (3, p.2.1), (4, I (p.1 : Nat))], bx := [(1, ⟨layC s, false⟩)], rw := [], log := encA p.2.2, stp := false }) (fun p => s.nodes.length - p.1) (0, .nils, [])
    (Wk.le (.cons rfl (.refl _) (.cons rfl (.refl _) (.cons rfl (.refl _) .nil))) (.cons rfl (LLe.refl _) .nil) .nil rfl rfl) ⟨⟨Nat.zero_le _, .inl ⟨rfl, rfl⟩⟩, rfl⟩ ?_
  rintro ⟨k, v, A⟩ st ⟨⟨hk, hO⟩, rfl⟩
  simp only at hk hO
  refine Tr.seq (Tr.seqR rfl (by simp) (Tr.cond rfl rfl (fun h1 => Tr.skip ?_) (fun h1 => Tr.exit ?_)))
  rotate_left
  · have h1 : k = s.nodes.length := by simp at h1; omega
    subst h1
    rw [List.take_length] at hO
    refine Tr.seqR rfl (by simp) ?_
    have hO' := hO
    rcases hO with ⟨_, rfl⟩ | ⟨blk, cap, cs, rfl, _⟩
    · exact Tr.retZ rfl rfl rfl ⟨A, rfl, hO'⟩
    · exact Tr.retZ rfl rfl rfl ⟨A, rfl, hO'⟩
  have h1 : k < s.nodes.length := by simpa using h1
  have hlen : (((s.nodes.take k).map placesL).map sB).length = k := by simp; omega
  refine Tr.seq (Tr.block (Tr.reg (Steps.runN 5 rfl (by simp; omega) ?_)))
  rw [getD_map h1]
  have e : ((s.nodes.take (k + 1)).map placesL).map sB = ((s.nodes.take k).map placesL).map sB ++ [sB (placesL s.nodes[k])] := by
    rw [List.take_add_one, List.getElem?_eq_getElem h1, List.map_append, List.map_append]; rfl
  refine Steps.run rfl (by simp) (Steps.call rfl rfl (c_places07 (hN _ (List.getElem_mem h1))) (Steps.runN 1 rfl (by simp) ?_))
  refine Steps.appendOwn (A := A) (v := v) (xs := ((s.nodes.take k).map placesL).map sB) (ys := [sB (placesL s.nodes[k])]) (zs := [.nils]) hA rfl rfl hO (by kernel_rfl) (by omega) (by simp only [List.length_cons, List.length_nil, hlen]; omega) (by simp only [List.length_cons, List.length_nil, hlen]; omega) (by simp) fun v' A' hO' hkeep => ?_
  rw [← e] at hO'
  refine Steps.fin rfl (by simp) (Tr.regR rfl (by simp) ?_)
  exact ⟨(k + 1, v', A'), _, Wk.le (.cons rfl (.refl _) (.cons rfl (.refl _) (.cons rfl (VLe.i (w64 (by omega) (by omega))) .nil))) (.cons rfl (LLe.refl _) .nil) .nil (by simp only [okRefs, List.all_cons, ownS_refs hO']; rfl) rfl, ⟨⟨h1, hO'⟩, rfl⟩, by simp only; omega⟩

/-- A part of a list of cells that is known. -/
theorem take_at {cs : List V} {ls : List (List (Int × Int))} (h : cs.take ls.length = ls.map sB) {i : Nat} (hi : i < ls.length) : i < cs.length ∧ cs[i]? = some (sB ls[i]) ∧ mkv false 1 (cs.drop i) = sB ls[i] := by
  have hl : ls.length ≤ cs.length := by
    have := congrArg List.length h
    rw [List.length_take, List.length_map] at this; omega
  have h1 : i < cs.length := by omega
  have h2 : cs[i]? = some (sB ls[i]) := by
    have h3 : (cs.take ls.length)[i]? = (ls.map sB)[i]? := by rw [h]
    rw [List.getElem?_take_of_lt hi, List.getElem?_map, List.getElem?_eq_getElem hi] at h3
    exact h3
  refine ⟨h1, h2, ?_⟩
  rw [List.drop_eq_getElem_cons h1]
  rw [List.getElem?_eq_getElem h1] at h2
  rw [Option.some.inj h2]; rfl

theorem ca_all07 {L : Ld} (hL : LdOk L) {blk cap : Nat} {cs : List V} (hcs : cs.take L.places.length = L.places.map sB) : CA Tryz.prog F.ref07_all [(blk, .cells cs)] [] [.agg (gridC L.g), sB L.traces, .sref blk 0 L.places.length cap] (nestV (hitsAll L)) [(blk, .cells cs)] := by
  have ht64 := hL.t
  refine CA_of mixed chk.ref07_all (by simp) fun S ok S1 hA hK => ?_
  have hmem : (blk, Ob.cells cs) ∈ ([(blk, Ob.cells cs)] : Arena) := List.mem_singleton.2 rfl
  refine Tr.seqR rfl (by simp) (Tr.seqR rfl (by simp) (Tr.seq (Tr.seqR rfl (by simp) (Tr.block ?_))))
  refine Tr.loop (fun (k : Nat) st => k ≤ L.traces.length ∧ st = { env := [(1, sB L.traces), (2, .sref blk 0 L.places.length cap), (3, .ptr 3 0), (7, .slice 35 1 (((hitsAll L).take k).map sB)), (8, I (k : Nat))], bx := [(3, ⟨gridC L.g, false⟩)], rw := [(34, k, 1, 42)], log := encA [(blk, Ob.cells cs)], stp := false }) (fun k => L.traces.length - k) 0
    (Wk.le (.cons rfl (.refl _) (.cons rfl (.refl _) (.cons rfl (.refl _) (.cons rfl (.nil 35 1) (.cons rfl (.refl _) .nil))))) (.cons rfl (LLe.refl _) .nil) (.new rfl .nil) rfl rfl) ⟨by omega, rfl⟩ ?_
  rintro k st ⟨hk, rfl⟩
  refine Tr.seq (Tr.seqR rfl (by simp) (Tr.cond rfl rfl (fun h1 => Tr.skip ?_) (fun h1 => Tr.exit ?_)))
  rotate_left
  · have h1 : k = L.traces.length := by simp at h1; omega
    subst h1
    rw [List.take_of_length_le (by rw [hitsAll_len]; exact Nat.le_refl _)]
    refine Tr.seqR rfl (by simp) (Tr.weak (s' := { env := [(6, nestV (hitsAll L))], bx := [], rw := [], log := encA [(blk, Ob.cells cs)], stp := false }) (Wk.le (.cons rfl (.dem _ _ _) .nil) .nil .nil rfl rfl) (Tr.retX rfl rfl rfl rfl rfl))
  have h1 : k < L.traces.length := by simpa using h1
  have hlen : (((hitsAll L).take k).map sB).length = k := by simp [hitsAll_len]; omega
  obtain ⟨i, j, hij, hi, hj⟩ := hL.tr _ (List.getElem_mem h1)
  have hpi := hL.p _ (List.getElem_mem hi)
  have hpj := hL.p _ (List.getElem_mem hj)
  obtain ⟨ci1, _, ci3⟩ := take_at hcs hi
  obtain ⟨cj1, _, cj3⟩ := take_at hcs hj
  have hHT : hitsT L k = hitsL L.g L.places[i] L.places[j] := by
    unfold hitsT pl
    have e : L.traces.getD k (0, 0) = ((i : Int), (j : Int)) := by simp [h1, hij]
    rw [e]
    simp [hi, hj]
  have kh := c_hits07 hL.g (l := L.places[i]) (m := L.places[j]) ⟨hpi.1.2, hpi.2⟩ ⟨hpj.1.2, hpj.2⟩
  rw [← hHT] at kh
  refine Tr.seq (Tr.block (Tr.seqN 3 rfl (by simp; omega) ?_))
  rw [getD_map h1, hij]
  refine Steps.fin rfl (by simp) ?_
  refine Tr.drawP rfl rfl (A := [(blk, Ob.cells cs)]) rfl (TraceK.runN 5 rfl (by simp) ?_)
  refine TraceK.sidx (blk := blk) (j := i) rfl rfl hi ?_
  refine TraceK.aload hA rfl rfl rfl hmem (by omega) ?_
  rw [show mkv false 1 (cs.drop (0 + i * 1)) = sB L.places[i] by rw [Nat.zero_add, Nat.mul_one]; exact ci3]
  refine TraceK.runN 3 rfl (by simp) ?_
  refine TraceK.sidx (blk := blk) (j := j) rfl rfl hj ?_
  refine TraceK.aload hA rfl rfl rfl hmem (by omega) ?_
  rw [show mkv false 1 (cs.drop (0 + j * 1)) = sB L.places[j] by rw [Nat.zero_add, Nat.mul_one]; exact cj3]
  refine TraceK.call rfl rfl kh (TraceK.run rfl (by simp [hitsAll_len]; omega) (.done ⟨by kernel_rfl, by kernel_rfl, ?_⟩))
  refine Tr.regR rfl (by simp) ?_
  have e : ((hitsAll L).take (k + 1)).map sB = ((hitsAll L).take k).map sB ++ [sB (hitsT L k)] := by
    rw [List.take_add_one, hitsAll_get h1, List.map_append]; rfl
  refine ⟨k + 1, _, Wk.le (.cons rfl (.refl _) (.cons rfl (.refl _) (.cons rfl (.refl _) (.cons rfl (.of_eq ?_) (.cons rfl (VLe.i (w64 (by omega) (by omega))) .nil))))) (.cons rfl (LLe.refl _) .nil) (.cons ?_ .nil) rfl rfl, ⟨h1, rfl⟩, by omega⟩
  · rw [e]; rfl
  · show some _ = some _
    simp [hitsAll_len]; omega

theorem c_surely07 {hs : List (List (Int × Int))} (hl : hs.length ≤ 1000000) : C Tryz.prog F.ref07_surely [nestV hs] (I (hs.countP sureB : Nat)) := by
  refine C_of mixed chk.ref07_surely (by simp) fun S ok => ?_
  refine Tr.seqR rfl (by simp) (Tr.seqR rfl (by simp) (Tr.seq (Tr.seqR rfl (by simp) (Tr.block ?_))))
  refine Tr.loop (fun (k : Nat) st => k ≤ hs.length ∧ st = { env := [(0, nestV hs), (3, I ((hs.take k).countP sureB : Nat)), (4, I (k : Nat))], bx := [], rw := [], log := [], stp := false }) (fun k => hs.length - k) 0
    (Wk.le (.cons rfl (.refl _) (.cons rfl (.refl _) (.cons rfl (.refl _) .nil))) .nil .nil rfl rfl) ⟨by omega, rfl⟩ ?_
  rintro k st ⟨hk, rfl⟩
  refine Tr.seq (Tr.seqR rfl (by simp) (Tr.cond rfl rfl (fun h1 => Tr.skip ?_) (fun h1 => Tr.exit ?_)))
  rotate_left
  · have h1 : k = hs.length := by simp at h1; omega
    subst h1
    rw [List.take_length]
    exact Tr.seqR rfl (by simp) (Tr.retX rfl rfl rfl rfl trivial)
  have h1 : k < hs.length := by simpa using h1
  have hc : (hs.take (k + 1)).countP sureB = (hs.take k).countP sureB + if sureB hs[k] then 1 else 0 := by
    rw [List.take_add_one, List.getElem?_eq_getElem h1, List.countP_append]
    simp [List.countP_cons]
  have hcl : (hs.take k).countP sureB ≤ 1000000 := by
    have h5 : (hs.take k).countP sureB ≤ (hs.take k).length := List.countP_le_length
    rw [List.length_take] at h5; omega
  have ks := c_sure07 hs[k]
  refine Tr.meet { env := [(0, nestV hs), (3, I ((hs.take (k + 1)).countP sureB : Nat)), (4, I (k : Nat))], bx := [], rw := [], log := [], stp := false } (Tr.block (Tr.seq (Tr.reg (Steps.runN 3 rfl (by simp; omega) ?_)))) (Tr.regR rfl (by simp) ?_)
  rotate_left
  · exact ⟨k + 1, _, Wk.le (.cons rfl (.refl _) (.cons rfl (.refl _) (.cons rfl (VLe.i (w64 (by omega) (by omega))) .nil))) .nil .nil rfl rfl, ⟨h1, rfl⟩, by omega⟩
  rw [getD_map h1, hc]
  obtain ⟨b, hb⟩ : ∃ b, sureB hs[k] = b := ⟨_, rfl⟩
  rw [hb] at ks ⊢
  refine Steps.run rfl (by simp) (Steps.call rfl rfl ks (Steps.fin rfl (by simp) ?_))
  cases b with
  | true =>
    refine Tr.condT rfl (Tr.regR rfl (by simp) ?_)
    exact Wk.le (.cons rfl (.refl _) (.cons rfl (VLe.i (w64 (by omega) (by omega))) (.cons rfl (.refl _) .nil))) .nil .nil rfl rfl
  | false =>
    refine Tr.condF rfl (Tr.skip ?_)
    exact Wk.le (.cons rfl (.refl _) (.cons rfl (.refl _) (.cons rfl (.refl _) .nil))) .nil .nil rfl rfl

/-! ### The two ways to say what a node would gain -/
theorem sureL_len (l : List (Int × Int)) : (sureL l).length = if sureB l then 1 else 0 := by
  rcases l with _ | ⟨c, _ | ⟨d, r⟩⟩
  · rfl
  · by_cases h : c = noneC
    · simp [sureL, sureB, h]
    · simp [sureL, sureB, h]
  · rfl

theorem surely_eq (L : Ld) : (hitsAll L).countP sureB = sureC L := by
  unfold hitsAll sureC allH
  generalize List.range L.traces.length = xs
  induction xs with
  | nil => rfl
  | cons a xs ih =>
    rw [List.map_cons, List.countP_cons, ih, List.flatMap_cons, List.length_append]
    show _ = (sureL (hitsT L a)).length + _
    rw [sureL_len]; omega

theorem surely_le (L : Ld) : sureC L ≤ L.traces.length := by
  rw [← surely_eq]
  have : (hitsAll L).countP sureB ≤ (hitsAll L).length := List.countP_le_length
  rwa [hitsAll_len] at this

theorem least_min : ∀ (xs : List Int) (m : Int), 0 ≤ m → (∀ x ∈ xs, 0 ≤ x) → xs.foldl leastStep m = xs.foldl min m
  | [], m, _, _ => rfl
  | x :: xs, m, hm, hx => by
    have h0 := hx x (by simp)
    rw [List.foldl_cons, List.foldl_cons]
    have e : leastStep m x = min m x := by unfold leastStep; split <;> omega
    rw [e]
    exact least_min xs _ (by omega) fun y hy => hx y (by simp [hy])

theorem least_same {xs : List Int} {T : Int} (hne : xs ≠ []) (hb : ∀ x ∈ xs, 0 ≤ x ∧ x ≤ T) : leastL xs = xs.foldl min T := by
  cases xs with
  | nil => exact absurd rfl hne
  | cons x xs =>
    have h0 := hb x (by simp)
    unfold leastL
    rw [List.foldl_cons, List.foldl_cons]
    have e : leastStep (-1) x = x := by unfold leastStep; simp
    have e2 : min T x = x := by omega
    rw [e, e2]
    exact least_min xs x h0.1 fun y hy => (hb y (by simp [hy])).1

theorem min_bd : ∀ (xs : List Int) (m : Int), (∀ x ∈ xs, 0 ≤ x) → 0 ≤ m → 0 ≤ xs.foldl min m ∧ xs.foldl min m ≤ m
  | [], m, _, h => ⟨h, Int.le_refl _⟩
  | x :: xs, m, hx, h => by
    have h0 := hx x (by simp)
    have := min_bd xs (min m x) (fun y hy => hx y (by simp [hy])) (by omega)
    rw [List.foldl_cons]; omega

theorem c_Gain07 {g : Gd} {s : Ly} (hl : g.cls.length ≤ 9223372036854775807) (hn : s.nodes.length ≤ 9223372036854775807) (ht : s.traces.length ≤ 9223372036854775807) (i : Int) : C Tryz.prog F.ref07_Gain [.agg (gridC g), .agg (layC s), I i] (GainR g s i) := by
  have kb := c_both07 (g := g) (s := s) hl hn ht
  unfold bothE at kb
  unfold GainR
  refine C_of mixed chk.ref07_Gain (by simp) fun S ok => ?_
  refine Tr.seqR rfl (by simp) ?_
  by_cases hg : gridOk g = true
  rotate_left
  · rw [if_neg hg] at kb ⊢
    refine Tr.seq (Tr.seqC rfl (by simp) (Steps.call rfl rfl kb (Steps.fin rfl (by simp) (Tr.seqR rfl (by simp) (Tr.condT rfl (Tr.seqR rfl (by simp) ?_))))))
    exact Tr.retX rfl rfl rfl rfl trivial
  rw [if_pos hg] at kb ⊢
  by_cases hs : layOk s = true
  rotate_left
  · rw [if_neg hs] at kb ⊢
    refine Tr.seq (Tr.seqC rfl (by simp) (Steps.call rfl rfl kb (Steps.fin rfl (by simp) (Tr.seqR rfl (by simp) (Tr.condT rfl (Tr.seqR rfl (by simp) ?_))))))
    exact Tr.retX rfl rfl rfl rfl trivial
  rw [if_pos hs] at kb ⊢
  have hL := lay_ok hg hs
  obtain ⟨⟨hns, ht64⟩, hN, hT⟩ := layOk_spec hs
  have hw : IntKind.wrap .i64 (((s.nodes.map eF).length : Int) - 1) = (s.nodes.length : Int) - 1 := by rw [List.length_map, w64 (by omega) (by omega)]
  refine Tr.seq (Tr.seqC rfl (by simp) (Steps.call rfl rfl kb (Steps.fin rfl (by simp) (Tr.seqR rfl (by simp) (Tr.condF rfl (Tr.skip ?_))))))
  refine Tr.seq (Tr.seqC rfl (by simp) (Steps.call rfl rfl (c_between i 0 (IntKind.wrap .i64 (((s.nodes.map eF).length : Int) - 1))) (Steps.fin rfl (by simp) ?_)))
  rw [hw]
  refine Tr.cond rfl rfl (fun h1 => Tr.seqR rfl (by simp) ?_) (fun h1 => Tr.skip ?_)
  · have h1 : btw i 0 ((s.nodes.length : Int) - 1) = false := by simpa using h1
    refine Tr.retX rfl rfl rfl ?_ trivial
    rw [h1]; rfl
  have h1 : btw i 0 ((s.nodes.length : Int) - 1) = true := by simpa using h1
  have h1' := h1
  rw [btw_iff] at h1'
  obtain ⟨n, rfl⟩ : ∃ n : Nat, i = n := ⟨i.toNat, by omega⟩
  rw [if_pos h1, Int.toNat_natCast]
  have hnn : n < s.nodes.length := by omega
  have hpls : (layD g s).places = s.nodes.map placesL := rfl
  have htrs : (layD g s).traces = s.traces := rfl
  have hLg : (layD g s).g = g := rfl
  have cx := cx_spread07 hns hN
  rw [← hpls] at cx
  obtain ⟨L, eL0⟩ : ∃ L, layD g s = L := ⟨_, rfl⟩
  rw [eL0] at hL hpls htrs hLg cx ⊢
  have hLn : n < L.places.length := by rw [hpls]; simpa using hnn
  have hLm := hL.n
  have hpl : pl L n = L.places[n] := by unfold pl; simp [hLn]
  have hpn := hL.p _ (List.getElem_mem hLn)
  refine Tr.weak (s' := { env := [(2, I (n : Nat)), (3, .ptr 3 0), (4, .ptr 4 0)], bx := [(4, ⟨layC s, false⟩), (3, ⟨gridC g, false⟩)], rw := [], log := [], stp := false }) (Wk.le (.cons rfl (.refl _) (.cons rfl (.refl _) (.cons rfl (.refl _) .nil))) (.cons rfl (LLe.refl _) (.cons rfl (LLe.refl _) .nil)) .nil rfl rfl) ?_
  refine Tr.arena rfl rfl ?_
  have hA := InA.main (E := env0 Tryz.prog mixed 67 S ok) [] false
  refine Tr.seq (Tr.reg (Steps.runN 1 rfl (by simp) (Steps.callX (F := []) hA rfl rfl rfl cx (.inl (by simp)) fun r B hO => Steps.fin rfl (by simp) ?_)))
  rcases hO with ⟨h, _⟩ | ⟨blk, cap, cs, rfl, a1, a2, a3, a4⟩
  · exfalso
    rw [List.map_eq_nil_iff] at h
    rw [h] at hLn; simp at hLn
  rw [Nat.mul_one, List.length_map] at a4
  have hcs : cs.take L.places.length = L.places.map sB := by
    rw [a4]
    have : ∀ ls : List (List (Int × Int)), (ls.map sB).flatMap cells = ls.map sB := flat_sB
    exact this _
  rw [List.length_map] at a3 ⊢
  have hone : ∀ q : List V, (blk, Ob.cells q) ∈ ([(blk, Ob.cells q)] : Arena) := fun q => List.mem_singleton.2 rfl
  refine Tr.weak (Wk.keep hA (A := [] ++ B) (B := [(blk, .cells cs)]) rfl (fun p hp => by rw [List.mem_singleton.1 hp]; simpa using a1) (by simp)) ?_
  refine Tr.seqR rfl (by simp) ?_
  obtain ⟨cn1, cn2, _⟩ := take_at hcs hLn
  refine Tr.seq (Tr.reg (Steps.runN 2 rfl (by simp) (Steps.sidx (blk := blk) (j := n) rfl rfl hLn (Steps.aload hA rfl rfl (hone cs) (by rw [Nat.zero_add, Nat.mul_one]; exact cn2) (Steps.fin rfl (by simp) ?_)))))
  have kall : ∀ (M : Ld) (q : List V), LdOk M → M.g = g → M.traces = s.traces → q.take M.places.length = M.places.map sB → M.places.length = L.places.length → CA Tryz.prog F.ref07_all [(blk, .cells q)] [] [.agg (gridC g), sB s.traces, .sref blk 0 L.places.length cap] (nestV (hitsAll M)) [(blk, .cells q)] := fun M q hM e1 e2 e3 e4 => by
    have := ca_all07 hM (blk := blk) (cap := cap) e3
    rw [e1, e2, e4] at this; exact this
  have ksl : ∀ M : Ld, M.traces = s.traces → C Tryz.prog F.ref07_surely [nestV (hitsAll M)] (I (sureC M : Nat)) := fun M e => by
    have := c_surely07 (hs := hitsAll M) (by rw [hitsAll_len, e]; omega)
    rw [surely_eq] at this; exact this
  refine Tr.seq (Tr.reg (Steps.runN 4 rfl (by simp) (Steps.callA (F := []) hA rfl rfl rfl (kall L cs hL hLg htrs hcs rfl) (.inl (by simp)) (Steps.call rfl rfl (ksl L htrs) (Steps.fin rfl (by simp) ?_)))))
  obtain ⟨P, hP⟩ : ∃ P, L.places[n] = P := ⟨_, rfl⟩
  rw [hP] at hpl hpn ⊢
  obtain ⟨F, hF⟩ : ∃ F : Int × Int → Int, (fun p => (sureC (knownL L n p) : Int)) = F := ⟨_, rfl⟩
  have hFp : ∀ p, F p = (sureC (knownL L n p) : Int) := fun p => by rw [← hF]
  have hF0 : ∀ p, 0 ≤ F p ∧ F p ≤ (s.traces.length : Int) := fun p => by
    rw [hFp]
    have := surely_le (knownL L n p)
    have e : (knownL L n p).traces = s.traces := htrs
    rw [e] at this; omega
  have hres : gainL L n = (P.map F).foldl min (s.traces.length : Int) - sureC L := by
    unfold gainL
    rw [hpl, hF, least_same (T := (s.traces.length : Int))]
    · intro e
      rw [List.map_eq_nil_iff] at e
      rw [e] at hpn; simp at hpn
    · intro x hx
      obtain ⟨p, _, rfl⟩ := List.mem_map.1 hx
      exact hF0 p
  have hsl : sureC L ≤ s.traces.length := by rw [← htrs]; exact surely_le L
  rw [hres]
  refine Tr.seq (Tr.seqR rfl (by simp) (Tr.block ?_))
  refine Tr.loop (α := Nat × List V) (fun p st => (p.1 ≤ P.length ∧ p.2.length = cs.length ∧ ∀ x, (p.2.set n (sB [x])).take L.places.length = (L.places.set n [x]).map sB) ∧ st = { env := [(2, I (n : Nat)), (3, .ptr 3 0), (4, .ptr 4 0), (9, .sref blk 0 L.places.length cap), (10, I (((P.take p.1).map F).foldl min (s.traces.length : Int))), (11, sB P), (12, I (sureC L : Nat)), (13, I (p.1 : Nat))], bx := [(4, ⟨layC s, false⟩), (3, ⟨gridC g, false⟩)], rw := [], log := encA [(blk, Ob.cells p.2)], stp := false }) (fun p => P.length - p.1) (0, cs)
    (Wk.le (.cons rfl (.refl _) (.cons rfl (.refl _) (.cons rfl (.refl _) (.cons rfl (.refl _) (.cons rfl (VLe.i (by simp)) (.cons rfl (.refl _) (.cons rfl (.refl _) (.cons rfl (.refl _) .nil)))))))) (.cons rfl (LLe.refl _) (.cons rfl (LLe.refl _) .nil)) .nil rfl rfl) ⟨⟨Nat.zero_le _, rfl, fun x => by show (cs.set n (sB [x])).take L.places.length = _; rw [List.take_set, hcs, List.map_set]⟩, rfl⟩ ?_
  rintro ⟨k, q⟩ st ⟨⟨hk, hql, hq⟩, rfl⟩
  simp only at hk hql hq
  have hmb := min_bd ((P.take k).map F) (s.traces.length : Int) (fun x hx => by obtain ⟨p, _, rfl⟩ := List.mem_map.1 hx; exact (hF0 p).1) (by omega)
  refine Tr.seq (Tr.seqR rfl (by simp) (Tr.cond rfl rfl (fun h2 => Tr.skip ?_) (fun h2 => Tr.exit ?_)))
  rotate_left
  · have h2 : k = P.length := by simp at h2; omega
    subst h2
    rw [List.take_length] at hmb ⊢
    refine Tr.seqR rfl (by simp) (Tr.retX rfl rfl rfl ?_ trivial)
    show V.tuple [I ((P.map F).foldl min (s.traces.length : Int) - sureC L), I 0] = V.tuple [I (IntKind.wrap .i64 ((P.map F).foldl min (s.traces.length : Int) - sureC L)), I 0]
    rw [w64 (by omega) (by omega)]
  have h2 : k < P.length := by simpa using h2
  have hk1 : IntKind.wrap .i64 ((k : Int) + 1) = ((k + 1 : Nat) : Int) := w64 (by omega) (by omega)
  have hsl1 : ((P.map eB).drop ((k : Nat) : Int).toNat).take ((IntKind.wrap .i64 ((k : Int) + 1)).toNat - ((k : Nat) : Int).toNat) = ([P[k]] : List (Int × Int)).map eB := by
    rw [hk1, Int.toNat_natCast, Int.toNat_natCast, Nat.add_sub_cancel_left, List.drop_eq_getElem_cons (by simpa using h2)]
    simp
  have hKn : knownL L n P[k] = { L with places := L.places.set n [P[k]] } := rfl
  have hLK := known_ok hL (i := n) (p := P[k]) (hpn.2 _ (List.getElem_mem h2))
  have hset := hq P[k]
  refine Tr.seq (Tr.block (Tr.seq (Tr.reg (Steps.runN 7 rfl ?_ ?_))))
  · simp
    rw [hk1]
    omega
  rw [hsl1]
  refine Steps.sidx (blk := blk) (j := n) rfl rfl hLn (Steps.astore hA rfl rfl (hone q) (by rw [hql]; omega) rfl rfl (Steps.fin rfl (by simp) ?_))
  rw [setA_one, Nat.zero_add, Nat.mul_one]
  obtain ⟨q2, hq2⟩ : ∃ q2, q.set n (.slice 0 2 (([P[k]] : List (Int × Int)).map eB)) = q2 := ⟨_, rfl⟩
  have hq2' : q2 = q.set n (sB [P[k]]) := hq2.symm
  rw [hq2]
  refine Tr.reg (Steps.runN 5 rfl (by simp) (Steps.callA (F := []) hA rfl rfl rfl (kall (knownL L n P[k]) q2 hLK hLg htrs (by rw [hKn, hq2']; simpa using hset) (by rw [hKn]; simp)) (.inl (by simp)) (Steps.call rfl rfl (ksl (knownL L n P[k]) htrs) (Steps.fin rfl (by simp) ?_))))
  refine Tr.regR rfl (by simp) ?_
  have hF0k := hF0 P[k]
  refine ⟨(k + 1, q2), _, Wk.le (.cons rfl (.refl _) (.cons rfl (.refl _) (.cons rfl (.refl _) (.cons rfl (.refl _) (.cons rfl (VLe.i ?_) (.cons rfl (.refl _) (.cons rfl (.refl _) (.cons rfl (VLe.i (w64 (by omega) (by omega))) .nil)))))))) (.cons rfl (LLe.refl _) (.cons rfl (LLe.refl _) .nil)) .nil rfl rfl, ⟨⟨h2, by rw [hq2', List.length_set, hql], fun x => ?_⟩, rfl⟩, by simp only; omega⟩
  · simp only
    rw [List.take_add_one, List.getElem?_eq_getElem h2, List.map_append, List.foldl_append]
    show (bif false then _ else (if (sureC (knownL L n P[k]) : Int) < _ then (sureC (knownL L n P[k]) : Int) else _)) = min _ (F P[k])
    rw [cond_false, ite_min, hFp]
  · rw [hq2', List.set_set]; exact hq x

end Go.Proofs.YtdejdblopmfjfaaGreatDoor


/-! Contract of the law BinGains. -/
set_option linter.unusedVariables false
set_option linter.unusedSimpArgs false
set_option maxRecDepth 40000
set_option maxHeartbeats 4000000
namespace Go.Proofs.YtdejdblopmfjfaaGreatDoor
open Go.Am
attribute [local simp] cells scalar mkv splice under2 under dem dem1 eB gridC sB fourC layC eF
theorem gain_form (g : Gd) (s : Ly) (i : Int) : ∃ n e, GainR g s i = .tuple [I n, I e] := by
  unfold GainR
  split
  · split
    · split
      · exact ⟨_, _, rfl⟩
      · exact ⟨_, _, rfl⟩
    · exact ⟨_, _, rfl⟩
  · exact ⟨_, _, rfl⟩

theorem c_BinGains {g : Gd} (hl : g.cls.length ≤ 9223372036854775807) {s : Ly} (hn : s.nodes.length ≤ 9223372036854775807) (ht : s.traces.length ≤ 9223372036854775807) (i : Int) : C Tryz.prog F.law07_BinGains [.agg (gridC g), .agg (layC s), I i] (.bool true) := by
  have k1 := c_Gain (g := g) (s := s) hl hn ht i
  have k2 := c_Gain07 (g := g) (s := s) hl hn ht i
  obtain ⟨a, e, h1⟩ := gain_form g s i
  rw [h1] at k1 k2
  refine C_of mixed chk.law07_BinGains (by simp) fun S ok => ?_
  refine Tr.seqR rfl (by simp) ?_
  refine Tr.seqC rfl (by simp) (Steps.call rfl rfl k1 (Steps.fin rfl (by simp) ?_))
  refine Tr.seqC rfl (by simp) (Steps.call rfl rfl k2 (Steps.fin rfl (by simp) ?_))
  refine Tr.seqC rfl (by simp) (Steps.gcall rfl rfl rfl rfl (by simp) (fun _ => c_works) (Steps.fin rfl (by simp) (Tr.retX rfl rfl rfl ?_ trivial)))
  show V.bool true = V.bool (bif (bif (a == a) then (e == e) else false) then true else false)
  simp

end Go.Proofs.YtdejdblopmfjfaaGreatDoor

