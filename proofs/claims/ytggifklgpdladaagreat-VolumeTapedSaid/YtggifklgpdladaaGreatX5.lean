/-
  Parts of the proof, 5: the abstract machine, the compiled code, contracts of the functions, plain laws.
-/
import Derived.Test.YtggifklgpdladaaGreatX4
import Derived.RecoverIn
import Derived.Shelf.SlSortCmp.WholeK
import Derived.WalkKit


/-! The tape: a reading that does not fail. -/
set_option linter.unusedVariables false
set_option linter.unusedSimpArgs false
set_option maxRecDepth 40000
set_option maxHeartbeats 4000000
namespace Go.Proofs.YtggifklgpdladaaGreat
open Go.Am Go.RowKit
attribute [local simp] cells scalar mkv splice under2 under dem dem1
/-- The reading of a frame, as the closure that 'read' runs. -/
theorem ca_whole1 {b6 b8 b12 : Nat} {g0 g1 g2 : V} {s r : List UInt8} (hs : s.length ≤ 65536) {f : Fm} (hf : fmOk f) {p : Nat} (hd : s.drop p = frameL f ++ r) (n1 : b6 ≠ b8) (n2 : b12 ≠ b8) :
    CA Tryz.prog F.tape_rack_whole_1 ([(b6, .cells [.rptr b12 0]), (b8, .cells [g0, g1, g2])] ++ rdA b12 s p) [] [.rptr b6 0, .rptr b8 0] (.tuple []) ([(b6, .cells [.rptr b12 0]), (b8, .cells (fmC f))] ++ rdA b12 s (p + (frameL f).length)) := by
  have k1 := ca_frame (b := b12) hs hf hd
  refine CA_of mixed chk.tape_rack_whole_1 (by simp) fun S ok S1 hA hK => ?_
  refine Tr.reg (Steps.aload hA rfl rfl (List.mem_cons_self) rfl ?_)
  refine Steps.callA hA (F := [(b6, .cells [.rptr b12 0]), (b8, .cells [g0, g1, g2])]) rfl rfl rfl k1 (.inl (by simp)) ?_
  refine Steps.astoreT hA rfl rfl (List.mem_cons_of_mem _ (List.mem_cons_self)) rfl (by simp [fmC]) (by simp [fmC, intsT, isD, I]) (by simp [fmC, intsT, I]) ?_
  exact Steps.fin rfl (by simp) ⟨by simp [setA, n1, n2, splice, fmC, rdA], _, _, _, resVs_ok rfl, rfl, rfl⟩

theorem Ar.keepA {w w' : World} {φ φ' : Nat → Nat} {A : Arena} (h : Ar w φ (fun _ => False) A) (hold : ∀ p ∈ A, w'.heap[p.1]? = w.heap[p.1]?) (ext : Ext w φ w' φ') (hsz : w.heap.size ≤ w'.heap.size) (hz : ∀ p ∈ A, φ' p.1 = φ p.1) : Ar w' φ' (fun _ => False) A :=
  ⟨h.nd, fun p hp => (h.ok p hp).mono (hold p hp) ext, fun _ _ h => h, fun p hp => Nat.lt_of_lt_of_le (h.lt p hp) hsz, fun p hp => (hz p hp).trans (h.z p hp)⟩

section
variable {F : Fence} {n : Nat} {P : Program} {ops : Array Oper} {Q : Exit → Act → List Frame → World → Prop} {i : Nat} {rest : List Nat} {a : Act} {cs : List Frame} {w w' : World} {o : Oper}
theorem opS_rec (ho : ops[i]? = some o) (hg : o.guard = none) (hr : (execOp a.eval o).run P w = .ok .recover w) (hrec : recoverD cs = none) (h : wpOpsSIn Fence.wide n P ops Q rest (a.put o.dst .nilIface) cs w) : wpOpsSIn Fence.wide n P ops Q (i :: rest) a cs w := by
  rw [wpOpsSIn]
  simp only [ho]
  refine ⟨fun _ _ => trivial, ?_⟩
  simp only [Region.wanted, hg, if_true, hr, hrec]
  exact h
theorem opS_val {v : Value} (ho : ops[i]? = some o) (hg : o.guard = none) (hr : (execOp a.eval o).run P w = .ok (.value v) w') (h : wpOpsSIn Fence.wide n P ops Q rest (a.put o.dst v) cs w') : wpOpsSIn Fence.wide n P ops Q (i :: rest) a cs w := by
  rw [wpOpsSIn]
  simp only [ho]
  refine ⟨fun _ _ => trivial, ?_⟩
  simp only [Region.wanted, hg, if_true, hr]
  exact h
end

theorem run_eq_nilD (d : Nat) (w : World) : (Op.equalIn (d + 1) 20 Value.nilIface Value.nilIface).run Tryz.prog w = .ok true w := by
  simp only [Op.equalIn, Sem.run_bind, run_underlying Tryz.underlying20, Result.andThen_ok, Sem.run_pure]
theorem run_eq_nil (w : World) : (Op.equalIn Op.maxDepth 20 Value.nilIface Value.nilIface).run Tryz.prog w = .ok true w := run_eq_nilD 9999 w
theorem run_neq_nil (ρ : Operand → Value) (o : Oper) (p : Operand) (u : TypeId) (w : World) (ho : o.op = .binOp .neq 20 p (.const .nilIface) u) (hp : ρ p = .nilIface) (hc : ρ (.const .nilIface) = .nilIface) : (execOp ρ o).run Tryz.prog w = .ok (.value (.bool false)) w := by
  simp [execOp, ho, hp, hc, eqGuard, binOp, Op.equal, run_eq_nil]

/-- What is deferred finds nothing to recover. -/
theorem calls_read1 (v : Value) (w : World) (R : Ending → FrameMode → World → Prop) (hR : R (.returned (.tuple #[])) .returning w) : CallsDIn Fence.wide 0 Tryz.prog 83 #[v] .returning w R := by
  refine callsDIn_of_wpSIn Tryz.func83 rfl trivial fun c0 cs hm => ?_
  have hrec : recoverD (c0 :: cs) = none := by simp [recoverD, hm]
  have e0 : (#[v] ++ Array.replicate (Tryz.f83.ntmps - #[v].size) undef) = #[v, undef, undef, undef, undef, undef, undef, undef, undef, undef, undef, undef, undef, undef, undef] := rfl
  rw [e0]
  refine wpSIn_seq (wpSIn_region ?_)
  refine opS_rec (i := 0) (rest := [1]) rfl rfl rfl hrec (opS_val (i := 1) (rest := []) (v := .nilIface) rfl rfl rfl ?_)
  have e1 : (({ tmps := #[v, undef, undef, undef, undef, undef, undef, undef, undef, undef, undef, undef, undef, undef, undef], defers := [] } : Act).put (some 4) .nilIface).put (some 1) .nilIface = { tmps := #[v, .nilIface, undef, undef, .nilIface, undef, undef, undef, undef, undef, undef, undef, undef, undef, undef], defers := [] } := rfl
  show Exit.thenS _ _ .normal ((({ tmps := #[v, undef, undef, undef, undef, undef, undef, undef, undef, undef, undef, undef, undef, undef, undef], defers := [] } : Act).put (some 4) .nilIface).put (some 1) .nilIface) _ _
  rw [e1]
  refine wpSIn_seq (wpSIn_region ?_)
  refine opS_val (i := 0) (rest := [1]) (v := .nilIface) rfl rfl rfl (opS_val (i := 1) (rest := []) (v := .bool false) (w' := w) rfl rfl ?_ ?_)
  · exact run_neq_nil _ _ (.tmp 5) 20 w rfl rfl rfl
  show Exit.thenS _ _ .normal _ _ _
  refine wpSIn_cond (t := false) rfl ?_
  refine wpSIn_of_wpIn rfl (wpIn_skip ?_)
  exact ⟨rfl, .returning, by rw [← hm], .tuple #[], by simp [results, show Tryz.f83.results = #[] from rfl], hR⟩

theorem wpOp_doneW {P : Program} {n i : Nat} {ops : Array Oper} {o : Oper} {a : Act} {w w' : World} {x : Value} {Q : Exit → Act → World → Prop} {next : Act → World → Prop} (ho : ops[i]? = some o) (hg : o.guard = none) (hd : ∀ c, o.op ≠ .defer c)
    (hr : (execOp a.eval o).run P w = .ok (.value x) w' ∨ ((execOp a.eval o).run P w = .ok .skip w' ∧ x = undef)) (hn : next (a.put o.dst x) w') : wpOpIn Fence.wide n P ops Q i next a w := by
  unfold wpOpIn
  simp only [ho, Region.wanted, hg, if_true, Oper.wpIn]
  refine ⟨fun _ _ => trivial, ?_⟩
  rw [Oper.semAt_eq _ _ _ hd]
  rcases hr with hr | ⟨hr, rfl⟩ <;> rw [hr] <;> exact hn

section
variable {n : Nat} {P : Program} {ops : Array Oper} {Q : Exit → Act → World → Prop} {i : Nat} {rest : List Nat} {a : Act} {w w' : World} {o : Oper}
theorem opI_val {v : Value} (ho : ops[i]? = some o) (hg : o.guard = none) (hd : ∀ c, o.op ≠ .defer c) (hr : (execOp a.eval o).run P w = .ok (.value v) w') (h : wpOpsIn Fence.wide n P ops Q rest (a.put o.dst v) w') : wpOpsIn Fence.wide n P ops Q (i :: rest) a w := by
  rw [wpOpsIn_cons]
  exact wpOp_doneW ho hg hd (.inl hr) h
theorem opI_skip (ho : ops[i]? = some o) (hg : o.guard = none) (hd : ∀ c, o.op ≠ .defer c) (hr : (execOp a.eval o).run P w = .ok .skip w') (h : wpOpsIn Fence.wide n P ops Q rest (a.put o.dst undef) w') : wpOpsIn Fence.wide n P ops Q (i :: rest) a w := by
  rw [wpOpsIn_cons]
  exact wpOp_doneW ho hg hd (.inr ⟨hr, rfl⟩) h
theorem opI_defer {d : Deferred} (ho : ops[i]? = some o) (hg : o.guard = none) (hr : (execOp a.eval o).run P w = .ok (.defer d) w') (h : wpOpsIn Fence.wide n P ops Q rest ({ a with defers := d :: a.defers }.put o.dst undef) w') : wpOpsIn Fence.wide n P ops Q (i :: rest) a w := by
  rw [wpOpsIn_cons]
  unfold wpOpIn
  simp only [ho, Region.wanted, hg, if_true, Oper.wpIn]
  refine ⟨fun _ _ => trivial, ?_⟩
  show Oper.uponIn _ _ _ _ _ _ _ ((execOp a.eval o).run P w)
  rw [hr]; exact h
theorem opI_call {f : FuncId} {args : Array Value} (ho : ops[i]? = some o) (hg : o.guard = none) (hr : (execOp a.eval o).run P w = .ok (.enter f args) w') (h : Calls P f args w' fun e w2 => ∃ v, e = .returned v ∧ wpOpsIn Fence.wide n P ops Q rest (a.put o.dst v) w2) (hd : ∀ c, o.op ≠ .defer c) : wpOpsIn Fence.wide n P ops Q (i :: rest) a w := by
  rw [wpOpsIn_cons]
  unfold wpOpIn
  simp only [ho, Region.wanted, hg, if_true, Oper.wpIn]
  refine ⟨fun _ _ => trivial, ?_⟩
  show Oper.uponIn _ _ _ _ _ _ _ ((execOp a.eval o).run P w)
  rw [hr]
  refine ⟨fun h => (by cases h), ((callsIn_wide (n := n - 1)).2 h).mono ?_⟩
  rintro e w2 ⟨v, rfl, h⟩
  exact h
end

theorem run_callvP {P : Program} {o : Oper} {a : Act} {w : World} {f : FuncId} {c : Call} {t : Nat} {f' c' : Array Value} (hcall : callable P f = true) (hc : c.callee = .value (.tmp t)) (ho : o.op = .call c) (hv : a.eval (.tmp t) = .func (.func f) f' c') :
    (execOp a.eval o).run P w = .ok (.enter f (f' ++ c.args.map a.eval ++ c')) w := by
  unfold callable at hcall
  cases hf : P.funcs[f]? with
  | none => simp [hf] at hcall
  | some fn =>
    simp only [hf, Bool.and_eq_true, bne_iff_ne, ne_eq] at hcall
    have hb : fn.body.isNone = false := by cases h : fn.body <;> simp [h] at hcall ⊢
    have hnm : (fn.name == "runtime.NumGoroutine") = false := by simpa using hcall.1
    simp only [execOp, ho, resolve, hc, Sem.run_bind, hv, Deferred.ofValue, Sem.run_pure, Result.andThen_ok, invoke, callFunc, run_program, hf, hnm, hb]
    simp

/-- A reading that does not fail: 'read' reports it. -/
theorem ca_read {f : FuncId} {cap : List V} {A B : Arena} {K : List (Nat × List V)} (hc : CA Tryz.prog f A K cap (.tuple []) B) : CA Tryz.prog F.tape_read A K [.func (.func f) [] cap] (.bool true) B := by
  refine ⟨by kernel_rfl, fun w φ vals htop hgl hA hK hKA hrep => ?_⟩
  obtain ⟨hl, hr⟩ := hrep
  obtain ⟨vals⟩ := vals
  match vals, hl with
  | [v1], _ =>
  have h1 := hr 0 _ v1 rfl rfl
  cases h1 with
  | func fn first cap f' c' g1 g2 g3 g4 =>
  have e1 : f' = #[] := Array.eq_empty_of_size_eq_zero (by simpa using g1.symm)
  subst e1
  rw [← callsIn_wide (n := 0)]
  refine callsIn_of_wp_marks Tryz.func48 rfl trivial ?_
  have e0 : (#[Value.func (.func f) #[] c'] ++ Array.replicate (Tryz.f48.ntmps - #[Value.func (.func f) #[] c'].size) undef) = #[.func (.func f) #[] c', undef, undef, undef, undef, undef] := rfl
  show Code.wpIn _ _ _ _ _ { tmps := (#[Value.func (.func f) #[] c'] ++ Array.replicate (Tryz.f48.ntmps - #[Value.func (.func f) #[] c'].size) undef), defers := [] } _
  rw [e0]
  obtain ⟨nb, hnb⟩ : ∃ nb, w.heap.size = nb := ⟨_, rfl⟩
  obtain ⟨w1, hw1⟩ : ∃ w1, w.alloc (.cells #[.bool false] 4 (0, 0)) = w1 := ⟨_, rfl⟩
  refine wpIn_seq (wpIn_region (opI_val (i := 0) (rest := []) (v := .pointer (some ⟨nb, 0, none⟩)) (w' := w1) rfl rfl (by simp) ?_ ?_))
  · simp [execOp, Instr.alloc, Tryz.zeroValue4, newVar, newRow, hnb]
    exact hw1
  show Exit.then _ _ .normal _ _
  refine wpIn_seq (wpIn_region (opI_val (i := 0) (rest := [1]) (v := .func (.func 83) #[] #[.pointer (some ⟨nb, 0, none⟩)]) (w' := w1) rfl rfl (by simp) ?_ (opI_defer (i := 1) (rest := []) (d := { target := .fn (.func 83) #[.pointer (some ⟨nb, 0, none⟩)], args := #[] }) (w' := w1) rfl rfl ?_ ?_)))
  · show Sem.run Tryz.prog (execOp (({ tmps := #[Value.func (.func f) #[] c', undef, .pointer (some ⟨nb, 0, none⟩), undef, undef, undef], defers := [] } : Act).eval) _) w1 = _
    simp [execOp, Instr.makeFunc, Act.eval]
  · show Sem.run Tryz.prog (execOp (({ tmps := #[Value.func (.func f) #[] c', undef, .pointer (some ⟨nb, 0, none⟩), .func (.func 83) #[] #[.pointer (some ⟨nb, 0, none⟩)], undef, undef], defers := [] } : Act).eval) _) w1 = _
    simp [execOp, resolve, Deferred.ofValue, Act.eval]
  have e1 : ((({ tmps := #[Value.func (.func f) #[] c', undef, .pointer (some ⟨nb, 0, none⟩), .func (.func 83) #[] #[.pointer (some ⟨nb, 0, none⟩)], undef, undef], defers := [{ target := .fn (.func 83) #[.pointer (some ⟨nb, 0, none⟩)], args := #[] }] } : Act)).put none undef) = { tmps := #[Value.func (.func f) #[] c', undef, .pointer (some ⟨nb, 0, none⟩), .func (.func 83) #[] #[.pointer (some ⟨nb, 0, none⟩)], undef, undef], defers := [{ target := .fn (.func 83) #[.pointer (some ⟨nb, 0, none⟩)], args := #[] }] } := rfl
  show Exit.then _ _ .normal ((({ tmps := #[Value.func (.func f) #[] c', undef, .pointer (some ⟨nb, 0, none⟩), .func (.func 83) #[] #[.pointer (some ⟨nb, 0, none⟩)], undef, undef], defers := [{ target := .fn (.func 83) #[.pointer (some ⟨nb, 0, none⟩)], args := #[] }] } : Act)).put none undef) _
  rw [e1]
  have hsz1 : w1.heap.size = nb + 1 := by
    rw [← hw1]
    show (w.heap.push _).size = _
    rw [Array.size_push, hnb]
  have old1 : ∀ b, b < nb → w1.heap[b]? = w.heap[b]? := fun b hb => by rw [← hw1]; exact heap_alloc_old w _ (by omega)
  have new1 : w1.heap[nb]? = some (.cells #[.bool false] 4 (0, 0)) := by rw [← hw1, ← hnb]; exact heap_alloc_new w _
  have os1 : w1.os = w.os ∧ w1.tape = w.tape ∧ w1.output = w.output := by rw [← hw1]; exact ⟨rfl, rfl, rfl⟩
  have ext1 : Ext w φ w1 φ := fun b o ho => by
    have hb : b < nb := by
      rcases Nat.lt_or_ge b nb with h1 | h1
      · exact h1
      · rw [htop b (by omega)] at ho; omega
    exact ⟨ho, World.cell?_of_block (old1 b hb), mapAt_of_block (old1 b hb)⟩
  have hA1 : Ar w1 φ (fun _ => False) A := Ar.keepA hA (fun p hp => old1 _ (by have := hA.lt p hp; omega)) ext1 (by omega) fun _ _ => rfl
  have hnA : nb ∉ A.map (·.1) := fun hm => by
    obtain ⟨p, hp, e⟩ := List.mem_map.1 hm
    have := hA.lt p hp; omega
  have hcall := hc.2 w1 φ c' (fun b hb => htop b (by omega)) (hgl.mono ext1) hA1 (fun p hp => ⟨(hK p hp).1.mono (old1 _ (by have := (hK p hp).2; omega)) ext1, by have := (hK p hp).2; omega⟩) hKA ⟨by simpa using g2, fun i v x h1 h2 => (g4 i v x h1 h2).mono ext1⟩
  refine wpIn_seq (wpIn_region (opI_val (i := 0) (rest := [1]) (v := .func (.func f) #[] c') (w' := w1) rfl rfl (by simp) rfl (opI_call (i := 1) (rest := []) (f := f) (args := c') (w' := w1) rfl rfl ?_ (hcall.mono ?_) (by simp))))
  · show Sem.run Tryz.prog (execOp (({ tmps := #[Value.func (.func f) #[] c', undef, .pointer (some ⟨nb, 0, none⟩), .func (.func 83) #[] #[.pointer (some ⟨nb, 0, none⟩)], .func (.func f) #[] c', undef], defers := [{ target := .fn (.func 83) #[.pointer (some ⟨nb, 0, none⟩)], args := #[] }] } : Act).eval) _) w1 = _
    have := run_callvP (P := Tryz.prog) (o := { dst := some 5, op := .call { callee := .value (.tmp 4), args := #[], argTypes := #[] }, type := 0, pos := "frame.go:161", after := #[{ on := 0, ground := Ground.data }], guard := none }) (a := { tmps := #[Value.func (.func f) #[] c', undef, .pointer (some ⟨nb, 0, none⟩), .func (.func 83) #[] #[.pointer (some ⟨nb, 0, none⟩)], .func (.func f) #[] c', undef], defers := [{ target := .fn (.func 83) #[.pointer (some ⟨nb, 0, none⟩)], args := #[] }] }) (w := w1) hc.1 rfl rfl (f' := #[]) (c' := c') rfl
    simpa using this
  rintro e w2 ⟨φ2, x, rfl, hx, hB, mv⟩
  refine ⟨x, rfl, ?_⟩
  have hnb2 := mv.old nb (by omega) hnA
  obtain ⟨tm, htm⟩ : ∃ tm, #[Value.func (.func f) #[] c', undef, .pointer (some ⟨nb, 0, none⟩), .func (.func 83) #[] #[.pointer (some ⟨nb, 0, none⟩)], .func (.func f) #[] c', x] = tm := ⟨_, rfl⟩
  have e2 : (({ tmps := #[Value.func (.func f) #[] c', undef, .pointer (some ⟨nb, 0, none⟩), .func (.func 83) #[] #[.pointer (some ⟨nb, 0, none⟩)], .func (.func f) #[] c', undef], defers := [{ target := .fn (.func 83) #[.pointer (some ⟨nb, 0, none⟩)], args := #[] }] } : Act).put (some 5) x) = { tmps := tm, defers := [{ target := .fn (.func 83) #[.pointer (some ⟨nb, 0, none⟩)], args := #[] }] } := by rw [← htm]; rfl
  show Exit.then _ _ .normal (({ tmps := #[Value.func (.func f) #[] c', undef, .pointer (some ⟨nb, 0, none⟩), .func (.func 83) #[] #[.pointer (some ⟨nb, 0, none⟩)], .func (.func f) #[] c', undef], defers := [{ target := .fn (.func 83) #[.pointer (some ⟨nb, 0, none⟩)], args := #[] }] } : Act).put (some 5) x) w2
  rw [e2]
  have t2 : tm.getD 2 undef = .pointer (some ⟨nb, 0, none⟩) := by rw [← htm]; rfl
  have h2nb : w2.heap[nb]? = some (.cells #[.bool false] 4 (0, 0)) := hnb2.1.trans new1
  obtain ⟨w3, hw3⟩ : ∃ w3, w2.setRow nb #[.bool true] = w3 := ⟨_, rfl⟩
  refine wpIn_seq (wpIn_region (opI_skip (i := 0) (rest := []) (w' := w3) rfl rfl (by simp) ?_ ?_))
  · show Sem.run Tryz.prog (execOp (({ tmps := tm, defers := [{ target := .fn (.func 83) #[.pointer (some ⟨nb, 0, none⟩)], args := #[] }] } : Act).eval) ({ dst := none, op := .store 4 (.tmp 2) (.const (.bool true)), type := 0, pos := "frame.go:162", after := #[], guard := none } : Oper)) w2 = _
    obtain ⟨ac, hac⟩ : ∃ ac : Act, { tmps := tm, defers := [{ target := .fn (.func 83) #[.pointer (some ⟨nb, 0, none⟩)], args := #[] }] } = ac := ⟨_, rfl⟩
    rw [hac]
    have ev1 : ac.eval (.tmp 2) = .pointer (some ⟨nb, 0, none⟩) := by rw [← hac]; exact t2
    have ev2 : ac.eval (.const (.bool true)) = .bool true := rfl
    have hrun := run_storeCells_at (P := Tryz.prog) nb 0 4 [.bool true] 0 #[.bool false] w2 h2nb (by simp) (by simp [Value.oneCell'])
    have hrun' : (storeCells ⟨nb, 0, none⟩ [Value.bool true]).run Tryz.prog w2 = .ok () w3 := by rw [← hw3]; simpa using hrun
    simp only [execOp, ev1, ev2, Instr.storeAt, Instr.sureAddr, Sem.run_bind, Sem.run_pure, Result.andThen_ok, storeVar, Tryz.sizeOf4]
    rw [if_neg (fun h => h rfl), show (Value.bool true).cells.toList = [Value.bool true] from rfl, hrun']
    rfl
  show Exit.then _ _ .normal { tmps := tm, defers := [{ target := .fn (.func 83) #[.pointer (some ⟨nb, 0, none⟩)], args := #[] }] } w3
  refine wpIn_ret ?_
  refine ⟨by simp, .inr ⟨fun h => (by cases h), .func 83, #[.pointer (some ⟨nb, 0, none⟩)], 83, #[.pointer (some ⟨nb, 0, none⟩)], rfl, ?_, fun _ _ => trivial, calls_read1 _ w3 _ ?_⟩⟩
  · have e83 : Tryz.prog.funcs[83]? = some Tryz.f83 := Tryz.func83
    have hb : Tryz.f83.body.isNone = false := rfl
    have hnm : (Tryz.f83.name == "runtime.NumGoroutine") = false := by decide
    simp only [invoke, callFunc, Sem.run_bind, run_program, Result.andThen_ok, e83, hnm, hb]
    simp
  refine ⟨.bool true, ?_, ?_⟩
  · have t2' : tm[2]?.getD undef = .pointer (some ⟨nb, 0, none⟩) := by rw [← htm]; rfl
    have h3 : w3.heap[nb]? = some (.cells #[.bool true] 4 (0, 0)) := by rw [← hw3]; exact setRow_heap w2 nb _ _ 4 (0, 0) h2nb
    have hload := run_loadAt (P := Tryz.prog) (w := w3) (t := 4) (n := 1) (b := nb) (off := 0) (cs := [Value.bool true]) (x := .bool true) (by kernel_rfl) Tryz.underlying4 rfl (fun j v hv => by
      cases j with
      | zero => simp at hv; subst hv; rw [cell_of_row w3 nb _ _ 4 (0, 0) h3]; rfl
      | succ j => simp at hv) (by rw [show aggB Tryz.prog 4 = false from by kernel_rfl]; rfl)
    simp only [Instr.loadAt, Instr.sureAddr, Sem.run_bind, Sem.run_pure, Result.andThen_ok] at hload
    simp [results, show Tryz.f48.results = #[.cell 2 4] from rfl, t2', asAddr, hload]
  have old3 : ∀ b, b ≠ nb → w3.heap[b]? = w2.heap[b]? := fun b hb => by rw [← hw3]; exact setRow_other w2 nb b _ hb
  have sz3 : w3.heap.size = w2.heap.size := by rw [← hw3]; simp
  have os3 : w3.os = w2.os ∧ w3.tape = w2.tape ∧ w3.output = w2.output := by rw [← hw3]; exact ⟨rfl, rfl, rfl⟩
  have hnb0 : φ2 nb = 0 := by rw [hnb2.2]; exact htop nb (by omega)
  have ext3 : Ext w2 φ2 w3 φ2 := fun b o ho => by
    have hb : b ≠ nb := fun e => by rw [e, hnb0] at ho; omega
    exact ⟨ho, World.cell?_of_block (old3 b hb), mapAt_of_block (old3 b hb)⟩
  have hnB : nb ∉ B.map (·.1) := fun hm => by
    rcases mv.mine nb hm with h | h
    · exact hnA h
    · omega
  have hsz2 := mv.size
  refine ⟨φ2, .bool true, rfl, .data (.bool true), Ar.keepA hB (fun p hp => old3 _ fun e => hnB (e ▸ List.mem_map.2 ⟨p, hp, rfl⟩)) ext3 (by omega) (fun _ _ => rfl), ⟨(ext1.trans mv.ext).trans ext3, fun b hb hn => ?_, by omega, ?_, ?_, ?_, fun b hb => ?_, fun b hb => mv.top b (by omega)⟩⟩
  · have := mv.old b (by omega) hn
    exact ⟨(old3 b (by omega)).trans (this.1.trans (old1 b (by omega))), this.2⟩
  · rw [os3.1, mv.os, os1.1]
  · rw [os3.2.1, mv.tape, os1.2.1]
  · rw [os3.2.2, mv.output, os1.2.2]
  · rcases mv.mine b hb with h | h
    · exact .inl h
    · exact .inr (by omega)

end Go.Proofs.YtggifklgpdladaaGreat


/-! AM: maps from pairs of numbers to slices, in an arena: keys that are not there yet are put, all are gone through, one is looked up. -/
set_option linter.unusedVariables false
set_option linter.unusedSimpArgs false
namespace Go.Am
open Go.RowKit

/-- The map's type: pairs of numbers to slices. -/
def pairOk (P : Program) (t : TypeId) : Bool := match P.underlying t with
  | some (.map kt e) => laidOutB P && decide (kt < P.types.size) && P.keyTypeAt 2 kt && P.keyType kt && P.cellsOf kt == 2 &&
    (match P.info? e with | some i => (match i.zero with | some (.slice none 0 0) => true | _ => false) | none => false) &&
    match P.underlying kt with
    | some (.array 2 ie) => isI64 P ie && P.cellsOf ie == 1
    | _ => false
  | _ => false

theorem pairOk_law {P : Program} {t : TypeId} (hm : pairOk P t = true) : ∃ kt e, P.underlying t = some (.map kt e) ∧ Maps.Keyed P kt ∧ (∀ w, (zeroValue e).run P w = .ok (.slice none 0 0) w) ∧
    ∀ k : Int × Int, inI k.1 → inI k.2 → ∃ l, keyOf P kt (keyV k) = some l := by
  unfold pairOk at hm
  split at hm
  · rename_i kt e hu
    simp only [Bool.and_eq_true, decide_eq_true_eq, beq_iff_eq] at hm
    obtain ⟨⟨⟨⟨⟨⟨h1, h2⟩, h3⟩, h4⟩, h5⟩, h6⟩, h7⟩ := hm
    refine ⟨kt, e, hu, Maps.Keyed.of_law (deep_law_laid h1 (m := 2) (by omega) h2 h3 ?_), fun w => ?_, fun k ha hb => ?_⟩
    · split at h7
      · rename_i ie hk; rw [hk]
      · cases h7
    · split at h6
      · rename_i i hi
        split at h6
        · rename_i hz
          simp [zeroValue, typeInfo, hi, hz, Sem.run_bind, Sem.run_pure]
        · cases h6
      · cases h6
    · split at h7
      · rename_i ie hk
        simp only [Bool.and_eq_true, beq_iff_eq] at h7
        obtain ⟨g1, g2⟩ := h7
        have i64 : P.underlying ie = some (.int .i64) := by
          unfold isI64 at g1
          split at g1
          · assumption
          · cases g1
        have wf : ∀ n : Int, inI n → (Lit.int .i64 n).wf = true := fun n hn => WalkArith.wf_i64 ⟨hn.1, by unfold inI at hn; omega⟩
        obtain ⟨n, hn⟩ : ∃ n, P.types.size = n + 1 := by
          cases hs : P.types.size with
          | zero => rw [hs] at h2; exact absurd h2 (Nat.not_lt_zero _)
          | succ n => exact ⟨n, rfl⟩
        refine ⟨_, by
          unfold keyOf keyV
          rw [hk]
          simp only [h4, Value.formed, hk, h5, Bool.true_and]
          rw [if_pos (by simp)]
          rw [hn]
          simp only [Program.keyLits, hk, Value.cells]
          rw [if_pos (by simp [h5])]
          simp [List.range, List.range.loop, g2, i64, wf _ ha, wf _ hb]
          rfl⟩
      · cases h7
  · cases hm

theorem mesD_len : ∀ (i : Nat) (ks : List (Int × Int)) (xs : List Value), xs.length = ks.length → (mesD i ks xs).length = ks.length
  | _, [], [], _ => rfl
  | i, _ :: ks, _ :: xs, h => by simp [mesD, mesD_len (i + 1) ks xs (by simpa using h)]
  | _, [], _ :: _, h => by simp at h
  | _, _ :: _, [], h => by simp at h
theorem mesD_app : ∀ (i : Nat) (ks : List (Int × Int)) (xs : List Value) (k : Int × Int) (x : Value), xs.length = ks.length → mesD i (ks ++ [k]) (xs ++ [x]) = mesD i ks xs ++ [{ key := keyV k, val := x, born := i + ks.length }]
  | i, [], [], k, x, _ => rfl
  | i, a :: ks, y :: xs, k, x, h => by
    have e : i + 1 + ks.length = i + (ks.length + 1) := by omega
    simp only [List.cons_append, mesD, mesD_app (i + 1) ks xs k x (by simpa using h), List.length_cons, e]
  | _, [], _ :: _, _, _, h => by simp at h
  | _, _ :: _, [], _, _, h => by simp at h
theorem mesD_get : ∀ (i : Nat) (ks : List (Int × Int)) (xs : List Value) (h : xs.length = ks.length) (j : Nat) (hj : j < ks.length), (mesD i ks xs)[j]? = some { key := keyV ks[j], val := xs[j], born := i + j }
  | i, k :: ks, x :: xs, _, 0, _ => rfl
  | i, k :: ks, x :: xs, h, j + 1, hj => by
    have := mesD_get (i + 1) ks xs (by simpa using h) j (by simpa using hj)
    simp only [mesD, List.getElem?_cons_succ, List.getElem_cons_succ, this]
    congr 2; omega
  | _, [], _, _, _, hj => by simp at hj
theorem mesD_mem {i : Nat} {ks : List (Int × Int)} {xs : List Value} (h : xs.length = ks.length) {e : MapEntry} (he : e ∈ mesD i ks xs) : ∃ (j : Nat) (hj : j < ks.length), e = { key := keyV ks[j], val := xs[j], born := i + j } := by
  obtain ⟨j, hj, rfl⟩ := List.getElem_of_mem he
  have hj' : j < ks.length := by rwa [mesD_len i ks xs h] at hj
  exact ⟨j, hj', by have := mesD_get i ks xs h j hj'; rw [List.getElem?_eq_getElem hj] at this; exact Option.some.inj this⟩

section
variable {P : Program} {t : TypeId}

theorem run_mput (hm : pairOk P t = true) {w : World} {mb : Nat} {ks : List (Int × Int)} {xs : List Value} (hx : xs.length = ks.length) (hb : w.heap[mb]? = some (.map (mesD 0 ks xs).toArray ks.length)) (hin : ∀ q ∈ ks, inI q.1 ∧ inI q.2) {k : Int × Int} (hk : inI k.1 ∧ inI k.2) (hnew : k ∉ ks) (x : Value) :
    (Instr.mapUpdate t (.map (some mb)) (keyV k) x).run P w = .ok () (ChangeMaps.setBlock w mb (.map (mesD 0 (ks ++ [k]) (xs ++ [x])).toArray (ks ++ [k]).length)) := by
  obtain ⟨kt, e, hu, K, hz, hkey⟩ := pairOk_law hm
  obtain ⟨kl, hkl⟩ := hkey k hk.1 hk.2
  have hfind := K.find w hkl (mesD 0 ks xs) (fun x hx' => by
    obtain ⟨j, hj, rfl⟩ := mesD_mem hx hx'
    exact hkey _ (hin _ (List.getElem_mem hj)).1 (hin _ (List.getElem_mem hj)).2)
  rcases hfind with ⟨h1, _⟩ | ⟨j, y, h1, h2, h3⟩
  · simp only [Instr.mapUpdate, Sem.run_bind, run_underlying hu, Result.andThen_ok, MapKept.run_getObj_map hb, K.check w false hkl, h1]
    rw [MapKept.run_setObj_map _ hb, mesD_app 0 ks xs k x hx]
    simp [ChangeMaps.setBlock]
  · exfalso
    obtain ⟨j', hj', rfl⟩ := mesD_mem hx (List.mem_of_getElem? h2)
    exact hnew (keyV_inj h3 ▸ List.getElem_mem hj')

theorem run_mmiss (hm : pairOk P t = true) {w : World} {mb : Nat} {ks : List (Int × Int)} {xs : List Value} (hx : xs.length = ks.length) (hb : w.heap[mb]? = some (.map (mesD 0 ks xs).toArray ks.length)) (hin : ∀ q ∈ ks, inI q.1 ∧ inI q.2) {k : Int × Int} (hk : inI k.1 ∧ inI k.2) (hnew : k ∉ ks) :
    (Instr.lookup t (.map (some mb)) (keyV k) false).run P w = .ok (.slice none 0 0) w := by
  obtain ⟨kt, e, hu, K, hz, hkey⟩ := pairOk_law hm
  obtain ⟨kl, hkl⟩ := hkey k hk.1 hk.2
  have hfind := K.find w hkl (mesD 0 ks xs) (fun x hx' => by
    obtain ⟨j, hj, rfl⟩ := mesD_mem hx hx'
    exact hkey _ (hin _ (List.getElem_mem hj)).1 (hin _ (List.getElem_mem hj)).2)
  rcases hfind with ⟨h1, _⟩ | ⟨j, y, h1, h2, h3⟩
  · simp only [Instr.lookup, Sem.run_bind, run_underlying hu, Result.andThen_ok, MapKept.run_getObj_map hb, Sem.run_pure, K.check w _ hkl, h1, hz]
    rfl
  · exfalso
    obtain ⟨j', hj', rfl⟩ := mesD_mem hx (List.mem_of_getElem? h2)
    exact hnew (keyV_inj h3 ▸ List.getElem_mem hj')

theorem run_mhit (hm : pairOk P t = true) {w : World} {mb : Nat} {ks : List (Int × Int)} {xs : List Value} (hx : xs.length = ks.length) (hb : mapAt w mb = some ((mesD 0 ks xs).toArray, ks.length)) (hin : ∀ q ∈ ks, inI q.1 ∧ inI q.2) (hnd : ks.Nodup) {j : Nat} (hj : j < ks.length) :
    (Instr.lookup t (.map (some mb)) (keyV ks[j]) false).run P w = .ok xs[j] w := by
  have hb : w.heap[mb]? = some (.map (mesD 0 ks xs).toArray ks.length) := by
    unfold mapAt at hb
    split at hb
    · rename_i h; simp only [Option.some.injEq, Prod.mk.injEq] at hb; rw [h, hb.1, hb.2]
    · cases hb
  obtain ⟨kt, e, hu, K, hz, hkey⟩ := pairOk_law hm
  obtain ⟨kl, hkl⟩ := hkey ks[j] (hin _ (List.getElem_mem hj)).1 (hin _ (List.getElem_mem hj)).2
  have hfind := K.find w hkl (mesD 0 ks xs) (fun x hx' => by
    obtain ⟨j, hj, rfl⟩ := mesD_mem hx hx'
    exact hkey _ (hin _ (List.getElem_mem hj)).1 (hin _ (List.getElem_mem hj)).2)
  rcases hfind with ⟨h1, h2⟩ | ⟨i, y, h1, h2, h3⟩
  · exact absurd rfl (h2 _ (List.mem_of_getElem? (mesD_get 0 ks xs hx j hj)))
  · obtain ⟨j', hj', e1⟩ := mesD_mem hx (List.mem_of_getElem? h2)
    have : j' = j := by
      rw [e1] at h3
      exact (List.getElem_inj hnd).1 (keyV_inj h3)
    subst this
    simp only [Instr.lookup, Sem.run_bind, run_underlying hu, Result.andThen_ok, MapKept.run_getObj_map hb, Sem.run_pure, K.check w _ hkl, h1]
    rw [e1]
    rfl
end

section
variable {P : Program}
theorem opK_raw11 {o : Op} {t u : Nat} {os : List Operand} (h : opK P o = some (.raw 11 t u, os)) : ∃ x k, o = .lookup t x k false ∧ os = [x, k] := by
  have h := opKr_of h (by simp [tagOf])
  unfold opKr at h
  split at h <;> (try (repeat' (split at h))) <;> first
    | (simp at h; done)
    | (simp only [Option.some.injEq, Prod.mk.injEq, K.raw.injEq, true_and] at h; obtain ⟨⟨rfl, rfl⟩, rfl⟩ := h; exact ⟨_, _, rfl, rfl⟩)
theorem opK_raw12 {o : Op} {t u : Nat} {os : List Operand} (h : opK P o = some (.raw 12 t u, os)) : ∃ x k v, o = .mapUpdate t x k v ∧ os = [x, k, v] := by
  have h := opKr_of h (by simp [tagOf])
  unfold opKr at h
  split at h <;> (try (repeat' (split at h))) <;> first
    | (simp at h; done)
    | (simp only [Option.some.injEq, Prod.mk.injEq, K.raw.injEq, true_and] at h; obtain ⟨⟨rfl, rfl⟩, rfl⟩ := h; exact ⟨_, _, _, rfl, rfl⟩)
theorem opK_raw13 {o : Op} {t u : Nat} {os : List Operand} (h : opK P o = some (.raw 13 t u, os)) : o = .makeMap t none ∧ os = [] := by
  have h := opKr_of h (by simp [tagOf])
  unfold opKr at h
  split at h <;> (try (repeat' (split at h))) <;> first
    | (simp at h; done)
    | (simp only [Option.some.injEq, Prod.mk.injEq, K.raw.injEq, true_and] at h; obtain ⟨⟨rfl, rfl⟩, rfl⟩ := h; exact ⟨rfl, rfl⟩)
theorem opK_raw14 {o : Op} {t u : Nat} {os : List Operand} (h : opK P o = some (.raw 14 t u, os)) : ∃ c x kt e, o = .call c ∧ c.callee = .builtin .len ∧ c.args.toList = [x] ∧ c.argTypes.toList = [t] ∧ P.underlying t = some (.map kt e) ∧ os = [x] := by
  have h := opKr_of h (by simp [tagOf])
  unfold opKr at h
  split at h <;> (try (repeat' (split at h))) <;> first
    | (simp at h; done)
    | (simp only [Option.some.injEq, Prod.mk.injEq, K.raw.injEq, true_and] at h; obtain ⟨⟨rfl, rfl⟩, rfl⟩ := h; exact ⟨_, _, _, _, rfl, by assumption, by assumption, by assumption, by assumption, rfl⟩)
theorem opK_raw15 {o : Op} {t u : Nat} {os : List Operand} (h : opK P o = some (.raw 15 t u, os)) : ∃ x, o = .range t x ∧ os = [x] := by
  have h := opKr_of h (by simp [tagOf])
  unfold opKr at h
  split at h <;> (try (repeat' (split at h))) <;> first
    | (simp at h; done)
    | (simp only [Option.some.injEq, Prod.mk.injEq, K.raw.injEq, true_and] at h; obtain ⟨⟨rfl, rfl⟩, rfl⟩ := h; exact ⟨_, rfl, rfl⟩)
end

section
variable {E : Env} {S0 : Sur} {l0 : List (List V)} {s0 : Bool} {A : Arena}

/-- A map is made. -/
theorem Steps.mmk (hE : InA E S0 l0 s0) {K : St → Prop} {s : St} {d t u : Nat} {rest : List Ins} (hl : s.log = encA A)
    (hk : ∀ mb, mb ∉ A.map (·.1) → Steps E rest K { s.put (some d) (.rmap mb) with log := encA ((mb, .mapd [] []) :: A) }) : Steps E (⟨some d, .raw 13 t u, [], none⟩ :: rest) K s := by
  refine Step1.raw fun slots ops o i ro n a w h hc hs hi R Q next hn => ?_
  obtain ⟨os, cc⟩ := comp_of hc
  obtain ⟨e1, rfl⟩ := opK_raw13 cc.op
  have R' : E.relF (encA A) s.stp s.fs a w h := by rw [← hl]; exact R
  obtain ⟨R2, hnm⟩ := hE.fresh R' (.map #[] 0) (.mapd [] []) (fun _ => ⟨[], rfl, rfl, heap_alloc_new w _, fun i v x hv => by simp at hv⟩)
  refine wpOp_done hi (wanted_none (guard_none cc rfl)) (opK_defer cc.op) (.inl ?_) (hn _ _ _ h (hk _ hnm) (rel_putA cc R2 (.data (.rmap _)) rfl) rfl)
  simp only [execOp, e1, Sem.run_bind]
  rfl

/-- A key that is not there is put. -/
theorem Steps.mput (hE : InA E S0 l0 s0) {K : St → Prop} {s : St} {t u : Nat} (hm : pairOk E.P t = true) {x y z : X} {rest : List Ins} {mb : Nat} {ks : List (Int × Int)} {vs : List V} {k : Int × Int} {v : V} (hx : evXs s.env [x, y, z] = some [.rmap mb, .agg [.int .i64 k.1, .int .i64 k.2], v]) (hl : s.log = encA A)
    (hA : (mb, .mapd ks vs) ∈ A) (hin : ∀ q ∈ ks, inI q.1 ∧ inI q.2) (hkk : inI k.1 ∧ inI k.2) (hnew : k ∉ ks) (hv : isD v = true)
    (hk : Steps E rest K { s with log := encA (setA A mb (.mapd (ks ++ [k]) (vs ++ [v]))) }) : Steps E (⟨none, .raw 12 t u, [x, y, z], none⟩ :: rest) K s := by
  refine Step1.raw fun slots ops o i ro n a w h hc hs hi R Q next hn => ?_
  obtain ⟨os, cc⟩ := comp_of hc
  obtain ⟨p, q, r, e1, rfl⟩ := opK_raw12 cc.op
  obtain ⟨v1, v2, v3, hu, o1, o2, o3⟩ := (opds_of R.1 cc.xs (evXs_ok hx)).three
  simp only [List.cons.injEq, and_true] at hu
  obtain ⟨hu1, hu2, hu3⟩ := hu
  subst hu1 hu2 hu3
  have R' : E.relF (encA A) s.stp s.fs a w h := by rw [← hl]; exact R
  obtain ⟨xs, b1, b2, hb, b4⟩ := (hE.ar R').ok _ hA
  have hrun := run_mput hm b2 hb hin hkk hnew (a.eval r)
  have rv := rep_isD hv o3.1
  have R2 := hE.turn R' hA (.mapd (ks ++ [k]) (vs ++ [v])) (w' := ChangeMaps.setBlock w mb (.map (mesD 0 (ks ++ [k]) (xs ++ [a.eval r])).toArray (ks ++ [k]).length)) (fun k hk => setB_other _ hk) (by simp [ChangeMaps.setBlock]) rfl rfl rfl (fun ext => by
    refine ⟨xs ++ [a.eval r], by simp [b1], by simp [b2], setB_same hb _, fun i v' x' hv' hx' => ?_⟩
    rw [List.getElem?_append] at hv' hx'
    by_cases hi : i < vs.length
    · rw [if_pos hi] at hv'
      rw [if_pos (by omega)] at hx'
      exact (b4 i v' x' hv' hx').mono ext
    · rw [if_neg hi] at hv'
      rw [if_neg (by omega)] at hx'
      have e0 : i - vs.length = 0 := by
        have := (List.getElem?_eq_some_iff.1 hv').1
        simp at this; omega
      rw [e0] at hv'
      rw [show i - xs.length = 0 by omega] at hx'
      simp at hv' hx'
      subst hv' hx'
      exact rv.mono ext)
  have hd : o.dst = none := cc.d.symm
  have R3 : E.rel { s with log := encA (setA A mb (.mapd (ks ++ [k]) (vs ++ [v]))) } (a.put o.dst undef) (ChangeMaps.setBlock w mb (.map (mesD 0 (ks ++ [k]) (xs ++ [a.eval r])).toArray (ks ++ [k]).length)) h := by rw [hd]; exact R2
  refine wpOp_done (x := undef) hi (wanted_none (guard_none cc rfl)) (opK_defer cc.op) (.inr ⟨?_, rfl⟩) (hn _ _ _ h hk R3 rfl)
  simp only [execOp, e1, ok_rmap o1, ok_pair o2, Sem.run_bind]
  rw [show keyV (k.1, k.2) = keyV k from rfl, hrun]; rfl

/-- A key that is not there is looked up. -/
theorem does_mmiss (hE : InA E S0 l0 s0) (hys : E.ys = noYs) (hlk : E.lk = fun _ => True) {σ : FSt} {d t u : Nat} (hm : pairOk E.P t = true) {x y : X} {mb : Nat} {ks : List (Int × Int)} {vs : List V} {k : Int × Int} (hx : [x, y].mapM (evX σ) = some [.rmap mb, .agg [.int .i64 k.1, .int .i64 k.2]])
    (hA : (mb, Ob.mapd ks vs) ∈ A) (hin : ∀ q ∈ ks, inI q.1 ∧ inI q.2) (hkk : inI k.1 ∧ inI k.2) (hnew : k ∉ ks) : Does (E.pinA A) σ ⟨some d, .raw 11 t u, [x, y], none⟩ { v := .nils } (xslots [x, y]) := by
  refine .ext rfl hx fun o os log stp σ' a w h ho R hO => ?_
  obtain ⟨p, q, e1, rfl⟩ := opK_raw11 ho
  obtain ⟨v1, v2, hu, o1, o2⟩ := hO.two
  simp only [List.cons.injEq, and_true] at hu
  obtain ⟨hu1, hu2⟩ := hu
  subst hu1 hu2
  have hll : log = encA A := R.1.sur.1
  have R' : E.relF (encA A) stp σ' a w h := by rw [← hll]; exact of_pin hys hlk R
  obtain ⟨xs, b1, b2, hb, b4⟩ := (hE.ar R').ok _ hA
  have hrun := run_mmiss hm b2 hb hin hkk hnew
  refine ⟨.slice none 0 0, ?_, .data .nils, GrowV.of_data (w0 := w) (φ0 := h.φ) .nils⟩
  simp only [execOp, e1, ok_rmap o1, ok_pair o2, Sem.run_bind]
  have hrun' : (Instr.lookup t (.map (some mb)) (keyV (k.1, k.2)) false).run (E.pinA A).P w = .ok (.slice none 0 0) w := hrun
  rw [hrun']; rfl

theorem TraceK.mmiss (hE : InA E S0 l0 s0) (hys : E.ys = noYs) (hlk : E.lk = fun _ => True) {s : St} {K : List (List Loc × List Loc) → St → List Ins → Prop} {d t u : Nat} (hm : pairOk E.P t = true) {x y : X} {mb : Nat} {ks : List (Int × Int)} {vs : List V} {k : Int × Int} {rest : List Ins} (hx : evXs s.env [x, y] = some [.rmap mb, .agg [.int .i64 k.1, .int .i64 k.2]])
    (hA : (mb, Ob.mapd ks vs) ∈ A) (hin : ∀ q ∈ ks, inI q.1 ∧ inI q.2) (hkk : inI k.1 ∧ inI k.2) (hnew : k ∉ ks)
    (tr : TraceK (E.pinA A) (s.put (some d) .nils) rest fun fp s' r' => K (([.slot d], xslots [x, y]) :: fp) s' r') : TraceK (E.pinA A) s (⟨some d, .raw 11 t u, [x, y], none⟩ :: rest) K :=
  .step (ins := ⟨some d, .raw 11 t u, [x, y], none⟩) (eff := { v := .nils }) (does_mmiss hE hys hlk hm (evXs_ok hx) hA hin hkk hnew) tr

/-- A map of an arena becomes data. -/
theorem Wk.closeM (hE : InA E S0 l0 s0) {s : St} {t mb : Nat} {ks : List (Int × Int)} {vs : List V} (ht : get s.env t = some (.rmap mb)) (hl : s.log = encA A) (hA : (mb, Ob.mapd ks vs) ∈ A) :
    Wk E s { s.put (some t) (.mpd ks vs) with log := encA (dropA A mb) } := by
  intro a w h R
  obtain ⟨q1, q2, _⟩ := R.1.env t _ (by rw [fs_g]; exact ht)
  have R' : E.relF (encA A) s.stp s.fs a w h := by rw [← hl]; exact R
  have hAr := hE.ar R'
  obtain ⟨ext, R2⟩ := hE.close R' hA 1 (B := dropA A mb) (fun p hp => ⟨List.mem_map.2 ⟨p, (dropA_mem.1 hp).1, rfl⟩, (dropA_mem.1 hp).2⟩) (dropA_nd hAr.nd) (fun ext p hp => (hAr.ok p (dropA_mem.1 hp).1).mono rfl ext)
  obtain ⟨xs, b1, b2, hb, b4⟩ := hAr.ok _ hA
  have e : a.tmps.getD t undef = .map (some mb) := by
    revert q2
    generalize a.tmps.getD t undef = x1
    intro q2
    cases q2 with
    | data r => cases r; rfl
  have rd : RepD w (cut h.φ mb 1) (.mpd ks vs) (.map (some mb)) :=
    .mpd ks vs xs mb (by unfold cut; rw [if_pos rfl]; omega) b1 b2 (by unfold mapAt; simp only at hb; rw [hb]) (fun i v x hv hx => (b4 i v x hv hx).mono ext)
  have R3 := R2.1.put (d := t) (v := .mpd ks vs) (x := a.tmps.getD t undef) q1 (by rw [e]; exact .data rd) (by rw [e]; exact GrowV.of_data rd)
  rw [put_self (by rw [R.1.size]; exact q1)] at R3
  refine ⟨_, ⟨?_, R2.2⟩, rfl⟩
  show Rel E.nt E.S _ s.stp (s.put (some t) (.mpd ks vs)).fs _ _ _
  rw [fs_put]
  exact R3

end

section
variable {E : Env} {σ : FSt}

theorem ok_mpd {h : Gh} {w : World} {ks : List (Int × Int)} {vs : List V} {x : Value} (o : Ok σ h w (.mpd ks vs) x) : ∃ xs mb, x = .map (some mb) ∧ 0 < h.φ mb ∧ vs.length = ks.length ∧ xs.length = ks.length ∧ mapAt w mb = some ((mesD 0 ks xs).toArray, ks.length) ∧ ∀ (i : Nat) v x, vs[i]? = some v → xs[i]? = some x → RepD w h.φ v x := by
  obtain ⟨r, _⟩ := o
  cases r with
  | data r => cases r with
    | mpd _ _ xs mb h0 hv hx hm hr => exact ⟨xs, mb, rfl, h0, hv, hx, hm, hr⟩

theorem heap_of_mapAt {w : World} {mb : Nat} {es : Array MapEntry} {c : Nat} (hb : mapAt w mb = some (es, c)) : w.heap[mb]? = some (.map es c) := by
  unfold mapAt at hb
  split at hb
  · rename_i h; simp only [Option.some.injEq, Prod.mk.injEq] at hb; rw [h, hb.1, hb.2]
  · cases hb

/-- How many there are. -/
theorem does_mlen {d t u : Nat} {x : X} {ks : List (Int × Int)} {vs : List V} (hx : [x].mapM (evX σ) = some [.mpd ks vs]) : Does E σ ⟨some d, .raw 14 t u, [x], none⟩ { v := .int .i64 ks.length } (xslots [x]) := by
  refine .ext rfl hx fun o os log stp σ' a w h ho R hO => ?_
  obtain ⟨c, p, kt, e, e1, hc, e2, e3, e4, rfl⟩ := opK_raw14 ho
  obtain ⟨v1, hu, o1⟩ := hO.one
  simp only [List.cons.injEq, and_true] at hu
  subst hu
  obtain ⟨xs, mb, f1, f2, f3, f4, f5, f6⟩ := ok_mpd o1
  have ea : c.args = #[p] := by rw [← Array.toList_inj]; simpa using e2
  have et : c.argTypes = #[t] := by rw [← Array.toList_inj]; simpa using e3
  refine ⟨.int .i64 ks.length, ?_, .data (.int _ _), GrowV.of_data (w0 := w) (φ0 := h.φ) (.int _ _)⟩
  simp only [execOp, e1, resolve, hc, ea, et, Sem.run_bind, Sem.run_pure, Result.andThen_ok, invoke, builtin]
  simp [Builtin.len_, run_underlying e4, f1, MapKept.run_getObj_map (heap_of_mapAt f5), goInt, mesD_len 0 ks xs f4]

theorem Steps.mlen {s : St} {K : St → Prop} {d t u : Nat} {x : X} {ks : List (Int × Int)} {vs : List V} {rest : List Ins} (hx : evXs s.env [x] = some [.mpd ks vs]) (hk : Steps E rest K (s.put (some d) (.int .i64 ks.length))) : Steps E (⟨some d, .raw 14 t u, [x], none⟩ :: rest) K s :=
  Step1.does (ins := ⟨some d, .raw 14 t u, [x], none⟩) (does_mlen (evXs_ok hx)) hk

/-- A key that is there is looked up. -/
theorem does_mhit {d t u : Nat} (hm : pairOk E.P t = true) {x y : X} {ks : List (Int × Int)} {vs : List V} {k : Int × Int} {v : V} {j : Nat} (hx : [x, y].mapM (evX σ) = some [.mpd ks vs, .agg [.int .i64 k.1, .int .i64 k.2]]) (hin : ∀ q ∈ ks, inI q.1 ∧ inI q.2) (hnd : ks.Nodup) (hk : ks[j]? = some k) (hv : vs[j]? = some v) :
    Does E σ ⟨some d, .raw 11 t u, [x, y], none⟩ { v := v } (xslots [x, y]) := by
  refine .ext rfl hx fun o os log stp σ' a w h ho R hO => ?_
  obtain ⟨p, q, e1, rfl⟩ := opK_raw11 ho
  obtain ⟨v1, v2, hu, o1, o2⟩ := hO.two
  simp only [List.cons.injEq, and_true] at hu
  obtain ⟨hu1, hu2⟩ := hu
  subst hu1 hu2
  obtain ⟨xs, mb, f1, f2, f3, f4, f5, f6⟩ := ok_mpd o1
  obtain ⟨hj, rfl⟩ := List.getElem?_eq_some_iff.1 hk
  have hrun := run_mhit hm f4 f5 hin hnd hj
  have hr := f6 j v xs[j] hv (List.getElem?_eq_getElem (by omega))
  refine ⟨xs[j], ?_, .data hr, GrowV.of_data hr⟩
  simp only [execOp, e1, f1, ok_pair o2, Sem.run_bind]
  rw [show keyV ((ks[j]).1, (ks[j]).2) = keyV ks[j] from rfl, hrun]; rfl

theorem TraceK.mhit {s : St} {K : List (List Loc × List Loc) → St → List Ins → Prop} {d t u : Nat} (hm : pairOk E.P t = true) {x y : X} {ks : List (Int × Int)} {vs : List V} {k : Int × Int} {v : V} {j : Nat} {rest : List Ins} (hx : evXs s.env [x, y] = some [.mpd ks vs, .agg [.int .i64 k.1, .int .i64 k.2]])
    (hin : ∀ q ∈ ks, inI q.1 ∧ inI q.2) (hnd : ks.Nodup) (hk : ks[j]? = some k) (hv : vs[j]? = some v)
    (tr : TraceK E (s.put (some d) v) rest fun fp s' r' => K (([.slot d], xslots [x, y]) :: fp) s' r') : TraceK E s (⟨some d, .raw 11 t u, [x, y], none⟩ :: rest) K :=
  .step (ins := ⟨some d, .raw 11 t u, [x, y], none⟩) (eff := { v := v }) (does_mhit hm (evXs_ok hx) hin hnd hk hv) tr

end
end Go.Am


/-! AM: an iterator that goes through a map of data, in whatever order. -/
set_option linter.unusedVariables false
set_option linter.unusedSimpArgs false
namespace Go.Am
open Go.RowKit

/-- Where a going through a map stands. -/
def IterAt (w : World) (φ : Nat → Nat) (ib : Nat) (ks : List (Int × Int)) (vs : List V) (seen : List Nat) : Prop :=
  ∃ mb xs, w.heap[ib]? = some (.mapIter (some mb) ks.length seen.toArray ks.length) ∧ 0 < φ mb ∧ vs.length = ks.length ∧ xs.length = ks.length ∧ mapAt w mb = some ((mesD 0 ks xs).toArray, ks.length) ∧ ∀ (i : Nat) v x, vs[i]? = some v → xs[i]? = some x → RepD w φ v x

theorem IterAt.mono {w w' : World} {φ φ' : Nat → Nat} {ib : Nat} {ks : List (Int × Int)} {vs : List V} {seen seen' : List Nat} (h : IterAt w φ ib ks vs seen) (hb : ∀ mb, w.heap[ib]? = some (.mapIter (some mb) ks.length seen.toArray ks.length) → w'.heap[ib]? = some (.mapIter (some mb) ks.length seen'.toArray ks.length)) (e : Ext w φ w' φ') : IterAt w' φ' ib ks vs seen' := by
  obtain ⟨mb, xs, h1, h2, h3, h4, h5, h6⟩ := h
  obtain ⟨e1, _, e3⟩ := e mb 0 h2
  exact ⟨mb, xs, hb mb h1, by omega, h3, h4, e3.trans h5, fun i v x hv hx => (h6 i v x hv hx).mono e⟩

abbrev IterO := Option (Nat × List (Int × Int) × List V × List Nat)
def headI : IterO → List V
  | none => []
  | some (ib, ks, vs, seen) => [.rptr ib 0, .mpd ks vs, .agg (seen.map fun j => .int .i64 ((j : Nat) : Int))]

theorem headI_inj : ∀ {a b : IterO}, headI a = headI b → a = b
  | none, none, _ => rfl
  | none, some (_, _, _, _), h => by simp [headI] at h
  | some (_, _, _, _), none, h => by simp [headI] at h
  | some (i, ks, vs, se), some (i', ks', vs', se'), h => by
    simp only [headI, List.cons.injEq, V.rptr.injEq, V.mpd.injEq, V.agg.injEq, and_true] at h
    have h1 := h.1
    have h2 := h.2.1.1
    have h3 := h.2.1.2
    have h4 := congrArg (List.map fun v => match v with | V.int _ n => n.toNat | _ => 0) h.2.2
    have h5 : se = se' := by simpa [Function.comp_def] using h4
    rw [h1, h2, h3, h5]

/-- The surroundings with the iterator's own object in them. -/
def SIt (S : Sur) : Sur := fun log stp M w φ => ∃ (o : IterO) (l : List (List V)), log = headI o :: l ∧ match o with
  | none => S l stp M w φ
  | some (ib, ks, vs, seen) => IterAt w φ ib ks vs seen ∧ ¬ M ib ∧ ib < w.heap.size ∧ φ ib = 0 ∧ S l stp (fun b => M b ∨ b = ib) w φ

theorem SIt_ok {S : Sur} (h0 : S.ok) : (SIt S).ok := by
  refine ⟨?_, fun log s M w φ ⟨o, l, _, h2⟩ => ?_⟩
  · intro log s M w φ M' w' φ' ⟨o, l, h1, h2⟩ mv
    refine ⟨o, l, h1, ?_⟩
    match o, h2 with
    | none, h2 => exact h0 _ _ _ _ _ _ _ _ h2 mv
    | some (ib, ks, vs, seen), ⟨g1, g2, g3, g4, g5⟩ =>
      have old := mv.old ib g3 g2
      refine ⟨g1.mono (fun mb hb => old.1.trans hb) mv.ext, fun hM => ?_, Nat.lt_of_lt_of_le g3 mv.size, old.2.trans g4, h0 _ _ _ _ _ _ _ _ g5 ⟨mv.ext, fun b hb hn => mv.old b hb fun hM => hn (.inl hM), mv.size, mv.os, mv.tape, mv.output, fun b hb => ?_, mv.top⟩⟩
      · rcases mv.mine _ hM with h | h
        · exact g2 h
        · omega
      · rcases hb with hb | hb
        · exact (mv.mine b hb).imp .inl id
        · exact .inl (.inr hb)
  · match o, h2 with
    | none, h2 => exact h0.gl _ _ _ _ _ h2
    | some (ib, ks, vs, seen), ⟨g1, g2, g3, g4, g5⟩ => exact h0.gl _ _ _ _ _ g5

theorem yields_I {P : Program} {S : Sur} {ys : YL} {l : Nat} (h : Yields P S ys l) : Yields P (SIt S) (fun l => ys l.tail) l := by
  intro log x M w φ xs hp ⟨o, l0, h1, h2⟩ htop hlt hrep
  subst h1
  have hp : ys (l0 ++ [x]) := hp
  match o, h2 with
  | none, h2 =>
    obtain ⟨fn, tmps, assign, body, k1, k2⟩ := h l0 x M w φ xs hp h2 htop hlt hrep
    refine ⟨fn, tmps, assign, body, k1, fun n => (k2 n).mono ?_⟩
    rintro e w' ⟨b, φ', he, hS, rest⟩
    exact ⟨b, φ', he, ⟨none, l0 ++ [x], rfl, hS⟩, rest⟩
  | some (ib, ks, vs, seen), ⟨g1, g2, g3, g4, g5⟩ =>
    obtain ⟨fn, tmps, assign, body, k1, k2⟩ := h l0 x (fun b => M b ∨ b = ib) w φ xs hp g5 htop (fun b hb => by
      rcases hb with hb | rfl
      · exact hlt b hb
      · exact g3) hrep
    refine ⟨fn, tmps, assign, body, k1, fun n => (k2 n).mono ?_⟩
    rintro e w' ⟨b, φ', he, hS, ext, keep, hsz, top', r1, r2, r3⟩
    have old := keep ib (.inr rfl)
    exact ⟨b, φ', he, ⟨some (ib, ks, vs, seen), l0 ++ [x], rfl, g1.mono (fun mb hb => old.1.trans hb) ext, g2, Nat.lt_of_lt_of_le g3 hsz, old.2.trans g4, hS⟩, ext, fun k hk => keep k (.inl hk), hsz, top', r1, r2, r3⟩

abbrev Env.withI (E : Env) : Env := { E with S := SIt E.S, ys := fun l => E.ys l.tail, ok := SIt_ok E.ok, lk := fun _ => True }

/-- **A FRAME WITH AN ITERATOR OF ITS OWN.** -/
theorem Tr.withI {E : Env} {ro : Option Nat} {ic : IC} {Q : Exit → St → Prop} {s : St} (h : Tr E.withI ro ic (fun e t => Q e { t with log := t.log.tail }) { s with log := [] :: s.log }) : Tr E ro ic Q s := fun c hc n a w g R Q' hq => by
  have R1 : E.withI.rel { s with log := [] :: s.log } a w g :=
    ⟨{ R.1 with sur := ⟨none, s.log, rfl, R.1.sur⟩ }, fun l hl => ⟨yields_I (R.2.1 l hl).1, trivial⟩, R.2.2⟩
  refine h c hc n a w g R1 Q' fun e t a' w' h' hQ R' hy => ?_
  obtain ⟨o, l0, h1, h2⟩ := R'.1.sur
  have hlog : t.log.tail = l0 := by rw [h1]; rfl
  match o, h1, h2 with
  | none, h1, h2 =>
    refine hq e _ a' w' h' hQ ⟨{ R'.1 with sur := ?_ }, hy ▸ R.2⟩ hy
    show E.S t.log.tail t.stp h'.M w' h'.φ
    rw [hlog]; exact h2
  | some (ib, ks, vs, seen), h1, ⟨g1, g2, g3, g4, g5⟩ =>
    refine hq e _ a' w' { h' with M := fun b => h'.M b ∨ b = ib } hQ ⟨?_, ?_⟩ hy
    · refine R'.1.grow _ (fun b hb => .inl hb) (fun b hb => by
        rcases hb with hb | rfl
        · exact R'.1.mine b hb
        · exact g3) ?_
      show E.S t.log.tail t.stp _ w' h'.φ
      rw [hlog]; exact g5
    · show E.yok h'.y
      rw [hy]; exact R.2

section
variable {E : Env}

theorem rel_putL {E : Env} {L : List (List V)} {s : St} {a : Act} {w' : World} {h : Gh} {o : Oper} {os : List Operand} {slots : List (Option Nat)} {ins : Ins} {v : V} {x : Value} (cc : Comp E.P E.nt slots o ins os) (R2 : E.relF L s.stp s.fs a w' h) (ok : Ok s.fs h w' v x) {d : Nat} (hd : ins.d = some d) : E.rel { s.put (some d) v with log := L } (a.put o.dst x) w' h := by
  have R3 := rel_after (eff := { v := v }) cc R2 R2.1 ok rfl
  rw [hd] at R3
  show E.relF L s.stp (s.put (some d) v).fs _ _ _
  rw [fs_put]
  exact R3

def SIb (S : Sur) (o : IterO) (l : List (List V)) (stp : Bool) (M : Nat → Prop) (w : World) (φ : Nat → Nat) : Prop := match o with
  | none => S l stp M w φ
  | some (ib, ks, vs, seen) => IterAt w φ ib ks vs seen ∧ ¬ M ib ∧ ib < w.heap.size ∧ φ ib = 0 ∧ S l stp (fun b => M b ∨ b = ib) w φ

theorem SIt_at {S : Sur} {o : IterO} {l : List (List V)} {stp : Bool} {M : Nat → Prop} {w : World} {φ : Nat → Nat} (h : SIt S (headI o :: l) stp M w φ) : SIb S o l stp M w φ := by
  obtain ⟨o', l', h1, h2⟩ := h
  simp only [List.cons.injEq] at h1
  have e1 := headI_inj h1.1
  have e2 := h1.2
  subst e1 e2
  exact h2

/-- The going through begins. -/
theorem Steps.irange {K : St → Prop} {s : St} {d t u : Nat} (hm : pairOk E.P t = true) {x : X} {rest : List Ins} {ks : List (Int × Int)} {vs : List V} {l : List (List V)} (hx : evXs s.env [x] = some [.mpd ks vs]) (hl : s.log = headI none :: l)
    (hk : ∀ ib, Steps E.withI rest K { s.put (some d) (.rptr ib 0) with log := headI (some (ib, ks, vs, [])) :: l }) : Steps E.withI (⟨some d, .raw 15 t u, [x], none⟩ :: rest) K s := by
  refine Step1.raw fun slots ops o i ro n a w h hc hs hi R Q next hn => ?_
  obtain ⟨os, cc⟩ := comp_of hc
  obtain ⟨p, e1, rfl⟩ := opK_raw15 cc.op
  obtain ⟨kt, e, e2, _⟩ := pairOk_law hm
  obtain ⟨v, hu, o1⟩ := (opds_of R.1 cc.xs (evXs_ok hx)).one
  simp only [List.cons.injEq, and_true] at hu
  subst hu
  obtain ⟨xs, mb, f1, f2, f3, f4, f5, f6⟩ := ok_mpd o1
  have R' : E.withI.relF (headI none :: l) s.stp s.fs a w h := by rw [← hl]; exact R
  have hS : E.S l s.stp h.M w h.φ := SIt_at R'.1.sur
  have hsz : (w.alloc (.mapIter (some mb) ks.length #[] ks.length)).heap.size = w.heap.size + 1 := by
    show (w.heap.push _).size = _
    rw [Array.size_push]
  have old : ∀ b, b < w.heap.size → (w.alloc (.mapIter (some mb) ks.length #[] ks.length)).heap[b]? = w.heap[b]? := fun b hb => heap_alloc_old w _ hb
  have bel : ∀ b o, o < h.φ b → b < w.heap.size := fun b o ho => by
    rcases Nat.lt_or_ge b w.heap.size with h1 | h1
    · exact h1
    · rw [R.1.top b h1] at ho; omega
  have ext : Ext w h.φ (w.alloc (.mapIter (some mb) ks.length #[] ks.length)) h.φ := fun b o ho => ⟨ho, World.cell?_of_block (old b (bel b o ho)), mapAt_of_block (old b (bel b o ho))⟩
  have top' : ∀ b, (w.alloc (.mapIter (some mb) ks.length #[] ks.length)).heap.size ≤ b → h.φ b = 0 := fun b hb => R.1.top b (by omega)
  have hnM : ¬ h.M w.heap.size := fun hM => by have := R.1.mine _ hM; omega
  have sur' : SIt E.S (headI (some (w.heap.size, ks, vs, [])) :: l) s.stp h.M (w.alloc (.mapIter (some mb) ks.length #[] ks.length)) h.φ := by
    refine ⟨_, l, rfl, ⟨mb, xs, heap_alloc_new w _, f2, f3, f4, ?_, fun i v x hv hx => (f6 i v x hv hx).mono ext⟩, hnM, by omega, R.1.top _ (Nat.le_refl _), E.ok _ _ _ _ _ _ _ _ hS ⟨ext, fun b hb _ => ⟨old b hb, rfl⟩, by omega, rfl, rfl, rfl, fun b hb => ?_, top'⟩⟩
    · rw [mapAt_of_block (old mb (bel mb 0 f2))]; exact f5
    · rcases hb with hb | rfl
      · exact .inl hb
      · exact .inr (Nat.le_refl _)
  have R2 : E.withI.relF (headI (some (w.heap.size, ks, vs, [])) :: l) s.stp s.fs a (w.alloc (.mapIter (some mb) ks.length #[] ks.length)) h :=
    ⟨rel_round R.1 ext (fun b hb => ⟨old b (R.1.mine b hb), rfl⟩) (by omega) top' sur', R.2⟩
  refine wpOp_done hi (wanted_none (guard_none cc rfl)) (opK_defer cc.op) (.inl ?_) (hn _ _ _ h (hk w.heap.size) (rel_putL cc R2 (.data (.rptr _ _)) rfl) rfl)
  simp only [execOp, e1, f1, Sem.run_bind]
  rw [run_range_map w t kt e mb _ _ e2 (heap_of_mapAt f5)]; rfl

theorem tup_ok {σ : FSt} {h : Gh} {w : World} {vs : List V} {xs : List Value} (hl : vs.length = xs.length) (hr : ∀ (i : Nat) v x, vs[i]? = some v → xs[i]? = some x → RepD w h.φ v x) : Ok σ h w (.tuple vs) (.tuple xs.toArray) :=
  ⟨.tuple _ _ (by simpa using hl) (fun i v x h1 h2 => hr i v x h1 (by simpa using h2)), fun j u z hu hz => by
    cases j with
    | zero => simp [cells] at hu; subst hu; intro r sz xs e; cases e
    | succ j => simp [cells] at hu⟩

theorem repD_key {w : World} {φ : Nat → Nat} (k : Int × Int) : RepD w φ (.agg [.int .i64 k.1, .int .i64 k.2]) (keyV k) :=
  .agg _ _ rfl fun j u z g1 g2 => by
    match j with
    | 0 => cases g1; cases g2; exact .int _ _
    | 1 => cases g1; cases g2; exact .int _ _

/-- The next one, whichever it is. -/
theorem Steps.inext {K : St → Prop} {s : St} {d t u : Nat} {x : X} {rest : List Ins} {ib : Nat} {ks : List (Int × Int)} {vs : List V} {seen : List Nat} {l : List (List V)} (hx : evXs s.env [x] = some [.rptr ib 0]) (hl : s.log = headI (some (ib, ks, vs, seen)) :: l)
    (h0 : (∀ j < ks.length, j ∈ seen) → Steps E.withI rest K (s.put (some d) (.tuple [.bool false])))
    (h1 : ∀ (j : Nat) (hj : j < ks.length) (hv : j < vs.length), j ∉ seen → Steps E.withI rest K { s.put (some d) (.tuple [.bool true, .agg [.int .i64 ks[j].1, .int .i64 ks[j].2], vs[j]]) with log := headI (some (ib, ks, vs, seen ++ [j])) :: l }) : Steps E.withI (⟨some d, .raw 3 t u, [x], none⟩ :: rest) K s := by
  refine Step1.raw fun slots ops o i ro n a w h hc hs hi R Q next hn => ?_
  obtain ⟨os, cc⟩ := comp_of hc
  obtain ⟨p, e1, rfl⟩ := opK_raw3 cc.op
  obtain ⟨v, hu, o1⟩ := (opds_of R.1 cc.xs (evXs_ok hx)).one
  simp only [List.cons.injEq, and_true] at hu
  subst hu
  have R' : E.withI.relF (headI (some (ib, ks, vs, seen)) :: l) s.stp s.fs a w h := by rw [← hl]; exact R
  obtain ⟨⟨mb, xs, f1, f2, f3, f4, f5, f6⟩, g2, g3, g4, g5⟩ := SIt_at R'.1.sur
  have hold : ∀ x ∈ (mesD 0 ks xs).toArray.toList, x.born < ks.length := fun x hx => by
    obtain ⟨j, hj, rfl⟩ := mesD_mem f4 hx
    simp only; omega
  rcases run_next_at (P := E.P) w o.type ib mb ks.length ks.length seen.toArray _ _ f1 (heap_of_mapAt f5) hold (Nat.le_refl _) with ⟨hz, hrun⟩ | ⟨e, he, w1, hal, hrun⟩
  · have hall : ∀ j < ks.length, j ∈ seen := fun j hj => by
      apply Classical.byContradiction
      intro hno
      have hmem : ({ key := keyV ks[j], val := xs[j], born := 0 + j } : MapEntry) ∈ (leftOf (mesD 0 ks xs).toArray seen.toArray).toList := by
        unfold leftOf
        simp only [Array.toList_filter, List.mem_filter]
        refine ⟨List.mem_of_getElem? (mesD_get 0 ks xs f4 j hj), ?_⟩
        simpa using hno
      have : (leftOf (mesD 0 ks xs).toArray seen.toArray).toList = [] := by
        rw [← List.length_eq_zero_iff]; simpa using hz
      rw [this] at hmem; cases hmem
    have ok : Ok s.fs h w (.tuple [.bool false]) (.tuple [Value.bool false].toArray) := tup_ok rfl (fun i v x h1 h2 => by
      match i with
      | 0 => cases h1; cases h2; exact .bool _)
    refine wpOp_done (x := .tuple #[.bool false]) (w' := w) hi (wanted_none (guard_none cc rfl)) (opK_defer cc.op) (.inl ?_) (hn _ _ w h (h0 hall) ?_ rfl)
    · simp only [execOp, e1, ok_rptr o1, Sem.run_bind]
      rw [hrun]; rfl
    · show E.withI.relF _ _ _ _ _ _
      rw [(put_log _ _ _).1, (put_log _ _ _).2, fs_put]
      exact rel_after (eff := { v := _ }) cc R R.1 ok rfl
  · have hee : e ∈ mesD 0 ks xs ∧ ¬ e.born ∈ seen := by
      unfold leftOf at he
      simp only [Array.toList_filter, List.mem_filter] at he
      exact ⟨he.1, by simpa using he.2⟩
    obtain ⟨j, hj, rfl⟩ := mesD_mem f4 hee.1
    have hjs := hee.2
    simp only [Nat.zero_add] at hjs hrun
    have hjv : j < vs.length := by omega
    have R1 : E.withI.relF (headI (some (ib, ks, vs, seen)) :: l) s.stp s.fs a w1 h := by
      rcases hal with rfl | rfl
      · exact R'
      · exact ⟨R'.1.drew E.withI.ok, R'.2⟩
    obtain ⟨I1, g2, g3, g4, g5⟩ := SIt_at R1.1.sur
    have hrb : ∀ mb', w1.heap[ib]? = some (.mapIter (some mb') ks.length seen.toArray ks.length) → mb' = mb := fun mb' hb => by
      have : w1.heap[ib]? = w.heap[ib]? := by rcases hal with rfl | rfl <;> rfl
      rw [this, f1] at hb
      simpa using hb.symm
    obtain ⟨w2, hw2⟩ : ∃ w2, ChangeMaps.setBlock w1 ib (.mapIter (some mb) ks.length (seen.toArray.push j) ks.length) = w2 := ⟨_, rfl⟩
    rw [hw2] at hrun
    have old : ∀ b, b ≠ ib → w2.heap[b]? = w1.heap[b]? := fun b hb => by rw [← hw2]; exact setB_other _ hb
    have hsz : w2.heap.size = w1.heap.size := by rw [← hw2]; simp [ChangeMaps.setBlock]
    have ne : ∀ b o, o < h.φ b → b ≠ ib := fun b o ho e => by rw [e, g4] at ho; omega
    have ext : Ext w1 h.φ w2 h.φ := fun b o ho => ⟨ho, World.cell?_of_block (old b (ne b o ho)), mapAt_of_block (old b (ne b o ho))⟩
    have top' : ∀ b, w2.heap.size ≤ b → h.φ b = 0 := fun b hb => R1.1.top b (by omega)
    have hos : w2.os = w1.os ∧ w2.tape = w1.tape ∧ w2.output = w1.output := by rw [← hw2]; exact ⟨rfl, rfl, rfl⟩
    have sur' : SIt E.S (headI (some (ib, ks, vs, seen ++ [j])) :: l) s.stp h.M w2 h.φ := by
      refine ⟨_, l, rfl, I1.mono (fun mb' hb => ?_) ext, g2, by omega, g4, E.ok _ _ _ _ _ _ _ _ g5 ⟨ext, fun b hb hn => ⟨old b fun e => hn (.inr e), rfl⟩, by omega, hos.1, hos.2.1, hos.2.2, fun b hb => .inl hb, top'⟩⟩
      rw [hrb mb' hb, ← hw2, setB_same hb]
      simp
    have R2 : E.withI.relF (headI (some (ib, ks, vs, seen ++ [j])) :: l) s.stp s.fs a w2 h :=
      ⟨rel_round R1.1 ext (fun b hb => ⟨old b fun e => g2 (e ▸ hb), rfl⟩) (by omega) top' sur', R1.2⟩
    have e12 : Ext w h.φ w2 h.φ := by
      rcases hal with rfl | rfl
      · exact ext
      · exact fun b o ho => let ⟨a1, a2, a3⟩ := ext b o ho; ⟨a1, a2, a3⟩
    have ok : Ok s.fs h w2 (.tuple [.bool true, .agg [.int .i64 ks[j].1, .int .i64 ks[j].2], vs[j]]) (.tuple [.bool true, keyV ks[j], xs[j]].toArray) := tup_ok rfl (fun i v x h1 h2 => by
      match i with
      | 0 => cases h1; cases h2; exact .bool _
      | 1 => cases h1; cases h2; exact repD_key _
      | 2 => cases h1; cases h2; exact (f6 j _ _ (List.getElem?_eq_getElem hjv) (List.getElem?_eq_getElem (by omega))).mono e12)
    refine wpOp_done (x := .tuple #[.bool true, keyV ks[j], xs[j]]) hi (wanted_none (guard_none cc rfl)) (opK_defer cc.op) (.inl ?_) (hn _ _ _ h (h1 j hj hjv hjs) (rel_putL cc R2 ok rfl) rfl)
    simp only [execOp, e1, ok_rptr o1, Sem.run_bind]
    rw [hrun]; rfl

/-- The entry at hand. -/
theorem Steps.ientry {K : St → Prop} {s : St} {d t u : Nat} {x : X} {rest : List Ins} {ib j : Nat} {ks : List (Int × Int)} {vs : List V} {seen : List Nat} {l : List (List V)} (hx : evXs s.env [x] = some [.rptr ib 0]) (hl : s.log = headI (some (ib, ks, vs, seen ++ [j])) :: l) (hj : j < ks.length) (hv : j < vs.length)
    (hk : Steps E.withI rest K (s.put (some d) (.tuple [.agg [.int .i64 ks[j].1, .int .i64 ks[j].2], vs[j]]))) : Steps E.withI (⟨some d, .raw 4 t u, [x], none⟩ :: rest) K s := by
  refine Step1.raw fun slots ops o i ro n a w h hc hs hi R Q next hn => ?_
  obtain ⟨os, cc⟩ := comp_of hc
  obtain ⟨p, e1, rfl⟩ := opK_raw4 cc.op
  obtain ⟨v, hu, o1⟩ := (opds_of R.1 cc.xs (evXs_ok hx)).one
  simp only [List.cons.injEq, and_true] at hu
  subst hu
  have R' : E.withI.relF (headI (some (ib, ks, vs, seen ++ [j])) :: l) s.stp s.fs a w h := by rw [← hl]; exact R
  obtain ⟨⟨mb, xs, f1, f2, f3, f4, f5, f6⟩, g2, g3, g4, g5⟩ := SIt_at R'.1.sur
  have hget := mesD_get 0 ks xs f4 j hj
  have hnd : ((mesD 0 ks xs).toArray.toList.map (·.born)).Nodup := by
    have : (mesD 0 ks xs).map (·.born) = List.range ks.length := by
      apply List.ext_getElem?
      intro i
      rw [List.getElem?_map]
      by_cases hi : i < ks.length
      · rw [mesD_get 0 ks xs f4 i hi]; simp [hi]
      · rw [List.getElem?_eq_none (by rw [mesD_len 0 ks xs f4]; omega), List.getElem?_eq_none (by simp; omega)]; rfl
    show ((mesD 0 ks xs).map (·.born)).Nodup
    rw [this]; exact List.nodup_range
  have f1' : w.heap[ib]? = some (.mapIter (some mb) ks.length (seen.toArray.push ({ key := keyV ks[j], val := xs[j], born := 0 + j } : MapEntry).born) ks.length) := by rw [f1]; simp
  have hrun := run_entry_at (P := E.P) w ib mb ks.length seen.toArray (mesD 0 ks xs).toArray ks.length { key := keyV ks[j], val := xs[j], born := 0 + j } f1' (heap_of_mapAt f5) (List.mem_of_getElem? hget) hnd
  have ok : Ok s.fs h w (.tuple [.agg [.int .i64 ks[j].1, .int .i64 ks[j].2], vs[j]]) (.tuple [keyV ks[j], xs[j]].toArray) := tup_ok rfl (fun i v x h1 h2 => by
    match i with
    | 0 => cases h1; cases h2; exact repD_key _
    | 1 => cases h1; cases h2; exact f6 j _ _ (List.getElem?_eq_getElem hv) (List.getElem?_eq_getElem (by omega)))
  refine wpOp_done (x := .tuple #[keyV ks[j], xs[j]]) (w' := w) hi (wanted_none (guard_none cc rfl)) (opK_defer cc.op) (.inl ?_) (hn _ _ w h hk ?_ rfl)
  · simp only [execOp, e1, ok_rptr o1, Sem.run_bind]
    rw [hrun]; rfl
  · show E.withI.relF _ _ _ _ _ _
    rw [(put_log _ _ _).1, (put_log _ _ _).2, fs_put]
    exact rel_after (eff := { v := _ }) cc R R.1 ok rfl

end
end Go.Am


/-! The tape: frames are put into a rack. -/
set_option linter.unusedVariables false
set_option linter.unusedSimpArgs false
set_option maxRecDepth 40000
set_option maxHeartbeats 4000000
namespace Go.Proofs.YtggifklgpdladaaGreat
open Go.Am
attribute [local simp] cells scalar mkv splice under2 under dem dem1
def keyI (f : Fm) : Int × Int := ((f.shot : Nat), (f.ch : Nat))

theorem c_keyOf (f : Fm) : C Tryz.prog F.tape_keyOf [.agg (fmC f)] (.agg [I (keyI f).1, I (keyI f).2]) := by
  refine C_of mixed chk.tape_keyOf (by simp) fun S ok => ?_
  exact Tr.seqR rfl (by simp [fmC, intsT, I]) (Tr.seqR rfl (by simp [fmC, intsT, I]) (Tr.retX rfl rfl rfl rfl trivial))

theorem c_get_nil {i : Int} (hi : 0 ≤ i) : C Tryz.prog F.tape_both_1 [.nils, I i] (I 40000) := by
  refine C_of mixed chk.tape_both_1 (by simp) fun S ok => ?_
  refine Tr.seqR rfl (by simp) (Tr.seq (Tr.seqR rfl (by simp) (Tr.condF (congrArg (fun b => some (V.bool b)) (show decide (i < 0) = false from decide_eq_false (by omega))) (Tr.skip ?_))))
  exact Tr.seqR rfl (by simp) (Tr.retX rfl rfl rfl rfl trivial)

theorem c_get {l : List Int} {i : Nat} (hi : i < l.length) : C Tryz.prog F.tape_both_1 [intsT l, I (i : Nat)] (I l[i]) := by
  refine C_of mixed chk.tape_both_1 (by simp) fun S ok => ?_
  refine Tr.seqR rfl (by simp) (Tr.seq (Tr.seqR rfl (by simp) (Tr.condT (congrArg (fun b => some (V.bool b)) (show decide ((i : Int) < ((l.map I).length : Nat)) = true from decide_eq_true (by simp; omega))) ?_)))
  refine Tr.seq (Tr.reg (Steps.runN 3 rfl (by simp; omega) ?_))
  rw [getD_map hi]
  exact Steps.fin rfl (by simp [I]) (Tr.retX rfl rfl rfl rfl trivial)

theorem c_joined_nil (n : Int) : C Tryz.prog F.tape_joined_int [I 40000, I n, I 40000, I 40001] (I n) := by
  refine C_of mixed chk.tape_joined_int (by simp) fun S ok => ?_
  by_cases h : n = 40000
  · subst h
    refine Tr.seqR rfl (by simp) (Tr.seq (Tr.block (Tr.seq (Tr.seqR rfl (by simp) (Tr.condT rfl (Tr.skip ?_)))))) 
    exact Tr.condT rfl (Tr.seqR rfl (by simp) (Tr.retX rfl rfl rfl rfl trivial))
  · refine Tr.seqR rfl (by simp) (Tr.seq (Tr.block (Tr.seq (Tr.seqR rfl (by simp) (Tr.condF (congrArg (fun b => some (V.bool b)) (show ((40000 : Int) == n) = false by rw [beq_eq_false_iff_ne]; omega)) (Tr.regR rfl (by simp) ?_))))))
    refine Tr.condF (congrArg (fun b => some (V.bool b)) (show (n == (40000 : Int)) = false by rw [beq_eq_false_iff_ne]; omega)) (Tr.seqR rfl (by simp) (Tr.condT rfl ?_))
    exact Tr.seqR rfl (by simp) (Tr.retX rfl rfl rfl rfl trivial)

theorem c_both_nil {l : List Int} (hl : l.length ≤ 64) : C Tryz.prog F.tape_both [.nils, intsT l] (intsT l) := by
  refine C_of mixed chk.tape_both (by simp) fun S ok => ?_
  refine Tr.seqR rfl (by simp) (Tr.seqR rfl (by simp) (Tr.seqR rfl (by simp) (Tr.seq (Tr.seqR rfl (by simp) (Tr.block ?_)))))
  refine Tr.loop (fun (k : Nat) st => k ≤ l.length ∧ st = { env := [(0, .nils), (1, intsT l), (5, .func (.func 113) [] []), (6, .slice 28 1 ((l.take k).map I)), (12, I (l.length : Nat)), (13, I (k : Nat))], bx := [], rw := [(27, k, 1, 3)], log := [], stp := false }) (fun k => l.length - k) 0
    (Wk.le (.cons rfl (.refl _) (.cons rfl (.refl _) (.cons rfl (.refl _) (.cons rfl (.nil 28 1) (.cons rfl (VLe.i ?_) (.cons rfl (.refl _) .nil)))))) .nil (.new rfl .nil) rfl rfl) ⟨by omega, rfl⟩ ?_
  · show (if ((l.map I).length : Int) > 0 then ((l.map I).length : Int) else 0) = (l.length : Nat)
    rw [List.length_map]
    split <;> omega
  rintro k st ⟨hk1, rfl⟩
  refine Tr.seqR rfl (by simp) (Tr.seqI rfl (fun h1 => ?_) (fun h1 => ?_))
  rotate_left
  · have h1 : k = l.length := by simp at h1; omega
    subst h1
    rw [List.take_length]
    refine Tr.exit (Tr.seqR rfl (by simp) (Tr.weak (s' := { env := [(4, intsT l)], bx := [], rw := [], log := [], stp := false }) (Wk.le (.cons rfl (.dem _ _ _) .nil) .nil .nil rfl rfl) (Tr.retX rfl rfl rfl rfl trivial)))
  have h1 : k < l.length := by simpa using h1
  have htk : l.take (k + 1) = l.take k ++ [l[k]] := by rw [List.take_add_one, List.getElem?_eq_getElem h1]; rfl
  have hlen : ((l.take k).map I).length = k := by simp; omega
  refine Tr.skipT (Tr.seq (Tr.block (Tr.seqR rfl (by simp) (Tr.reg ?_))))
  refine Steps.run rfl (by simp) (Steps.callv rfl rfl (c_get_nil (by omega)) (Steps.run rfl (by simp) (Steps.callv rfl rfl (c_get h1) (Steps.run rfl (by simp) (Steps.call rfl rfl (c_joined_nil _) (Steps.fin rfl (by simp; omega) ?_))))))
  refine Tr.regR rfl (by simp) ?_
  refine ⟨k + 1, _, Wk.le (.cons rfl (.refl _) (.cons rfl (.refl _) (.cons rfl (.refl _) (.cons rfl (.of_eq ?_) (.cons rfl (.refl _) (.cons rfl (VLe.i (w64 (by omega) (by omega))) .nil)))))) .nil (.cons ?_ .nil) rfl rfl, ⟨h1, rfl⟩, by omega⟩
  · rw [htk, List.map_append]; rfl
  · show some _ = some _
    simp; omega

/-- A frame is put into a rack. -/
theorem ca_add {mb : Nat} {ks : List (Int × Int)} {vs : List V} {f : Fm} (hf : fmOk f) (hin : ∀ q ∈ ks, inI q.1 ∧ inI q.2) (hnew : keyI f ∉ ks) :
    CA Tryz.prog F.tape_rack_add [(mb, .mapd ks vs)] [] [.rmap mb, .slice 0 3 [.agg (fmC f)]] (.tuple []) [(mb, .mapd (ks ++ [keyI f]) (vs ++ [intsT f.s]))] := by
  obtain ⟨h1, h2, ⟨h3, h4⟩, h5⟩ := hf
  have hkk : inI (keyI f).1 ∧ inI (keyI f).2 := by unfold keyI inI; simp only; omega
  have hm : pairOk Tryz.prog 68 = true := by kernel_rfl
  refine CA_of mixed chk.tape_rack_add (by simp) fun S ok S1 hA hK => ?_
  refine Tr.seqR rfl (by simp) (Tr.block ?_)
  refine Tr.loop (fun (k : Nat) st => k ≤ 1 ∧ st = { env := [(0, .rmap mb), (6, .slice 0 3 [.agg (fmC f)]), (7, I 1), (8, I (k : Nat))], bx := [], rw := [], log := encA (if k = 0 then [(mb, .mapd ks vs)] else [(mb, .mapd (ks ++ [keyI f]) (vs ++ [intsT f.s]))]), stp := false }) (fun k => 1 - k) 0
    (Wk.le (.cons rfl (.refl _) (.cons rfl (.refl _) (.cons rfl (.refl _) (.cons rfl (.refl _) .nil)))) .nil .nil rfl rfl) ⟨by omega, rfl⟩ ?_
  rintro k st ⟨hk, rfl⟩
  obtain rfl | rfl : k = 0 ∨ k = 1 := by omega
  rotate_left
  · refine Tr.seqR rfl (by simp) (Tr.seq (Tr.condF rfl (Tr.exit ?_)))
    exact ⟨rfl, _, _, _, resVs_ok rfl, rfl, rfl⟩
  refine Tr.seqR rfl (by simp) (Tr.seq (Tr.condT rfl (Tr.skip ?_)))
  refine Tr.seq (Tr.block (Tr.seqR rfl (by simp [fmC, intsT, I]) ?_))
  refine Tr.drawP rfl rfl (A := [(mb, .mapd ks vs)]) rfl ?_
  refine TraceK.runN 2 rfl (by simp [fmC, intsT, I]) (TraceK.call rfl rfl (c_keyOf f) (TraceK.runN 2 rfl (by simp [fmC, intsT, I]) (TraceK.call rfl rfl (c_keyOf f) ?_)))
  refine TraceK.mmiss hA rfl rfl hm (k := keyI f) rfl (List.mem_singleton.2 rfl) hin hkk hnew ?_
  refine TraceK.runN 2 rfl (by simp [fmC, intsT, I]) (TraceK.call rfl rfl (c_both_nil h4) (.done ⟨by kernel_rfl, by kernel_rfl, ?_⟩))
  refine Steps.mput hA hm (k := keyI f) (v := intsT f.s) rfl rfl (List.mem_singleton.2 rfl) hin hkk hnew rfl ?_
  refine Steps.fin rfl (by simp) (Tr.regR rfl (by simp) ?_)
  exact ⟨1, _, Wk.leL (.cons rfl (.refl _) (.cons rfl (.refl _) (.cons rfl (.refl _) (.cons rfl (VLe.i (w64 (by omega) (by omega))) .nil)))) .nil .nil rfl rfl (by show encA (setA [(mb, .mapd ks vs)] mb (.mapd (ks ++ [keyI f]) (vs ++ [intsT f.s]))) = _; simp [setA]), ⟨by omega, rfl⟩, by omega⟩

end Go.Proofs.YtggifklgpdladaaGreat


/-! The tape: what is whole in some bytes goes into a rack. -/
set_option linter.unusedVariables false
set_option linter.unusedSimpArgs false
set_option maxRecDepth 40000
set_option maxHeartbeats 4000000
namespace Go.Proofs.YtggifklgpdladaaGreat
open Go.Am
attribute [local simp] cells scalar mkv splice under2 under dem dem1
def tapeL (fs : List Fm) : List UInt8 := fs.flatMap frameL
def keysF (fs : List Fm) : List (Int × Int) := fs.map keyI
def valsF (fs : List Fm) : List V := fs.map fun f => intsT f.s

theorem frameL_pos (f : Fm) : 0 < (frameL f).length := by unfold frameL bodyL; simp

theorem keyI_in {f : Fm} (hf : fmOk f) : inI (keyI f).1 ∧ inI (keyI f).2 := by
  obtain ⟨h1, h2, _⟩ := hf
  unfold keyI inI; simp only; omega

theorem drop_tape {fs : List Fm} {k : Nat} (h : k < fs.length) : (tapeL fs).drop (tapeL (fs.take k)).length = frameL fs[k] ++ tapeL (fs.drop (k + 1)) := by
  have e : tapeL fs = tapeL (fs.take k) ++ (frameL fs[k] ++ tapeL (fs.drop (k + 1))) := by
    unfold tapeL
    have e1 : fs = fs.take k ++ fs[k] :: fs.drop (k + 1) := by rw [← List.drop_eq_getElem_cons h, List.take_append_drop]
    conv => lhs; rw [e1]
    rw [List.flatMap_append, List.flatMap_cons]
  rw [e, List.drop_left]

theorem tape_succ {fs : List Fm} {k : Nat} (h : k < fs.length) : (tapeL (fs.take (k + 1))).length = (tapeL (fs.take k)).length + (frameL fs[k]).length := by
  unfold tapeL
  rw [List.take_add_one, List.getElem?_eq_getElem h, List.flatMap_append, List.length_append]
  simp

theorem ca_whole {mb : Nat} {ks : List (Int × Int)} {vs : List V} {fs : List Fm} (hlen : (tapeL fs).length ≤ 65536) (hok : ∀ f ∈ fs, fmOk f) (hin : ∀ q ∈ ks, inI q.1 ∧ inI q.2) (hnd : (ks ++ keysF fs).Nodup) :
    CA Tryz.prog F.tape_rack_whole [(mb, .mapd ks vs)] [] [.rmap mb, strV (tapeL fs)] .nils [(mb, .mapd (ks ++ keysF fs) (vs ++ valsF fs))] := by
  refine CA_of mixed chk.tape_rack_whole (by simp) fun S ok S1 hA hK => ?_
  refine Tr.seqR rfl (by simp) (Tr.seqR rfl (by simp) (Tr.seq (Tr.reg (Steps.runN 2 rfl (by simp [strV, I]) (Steps.abox hA (v := .agg [strV (tapeL fs), I 0]) rfl rfl (by simp [strV, I]) (by simp [strV, I, isD]) fun b12 hb12 => ?_)))))
  refine Steps.aalloc hA rfl fun b6 hb6 => ?_
  refine Steps.astore hA rfl rfl (List.mem_cons_self) (by simp) rfl rfl (Steps.fin rfl (by simp) ?_)
  simp only [List.map_cons, List.map_nil, List.mem_cons, List.not_mem_nil, or_false, not_or] at hb12 hb6
  have n6 : b6 ≠ b12 := hb6.1
  have n6m : b6 ≠ mb := hb6.2
  have n12 : b12 ≠ mb := hb12
  obtain ⟨arn, harn⟩ : ∃ arn : Nat → Arena, arn = fun k => [(mb, .mapd (ks ++ keysF (fs.take k)) (vs ++ valsF (fs.take k))), (b6, .cells [.rptr b12 0]), (b12, .cells [strV (tapeL fs), I ((tapeL (fs.take k)).length : Nat)])] := ⟨_, rfl⟩
  refine Tr.weak (Wk.keep hA (B := arn 0) rfl ?_ ?_) ?_
  · rw [harn]
    intro p hp
    simp only [List.mem_cons, List.not_mem_nil, or_false] at hp
    have e : ([strV (tapeL fs), I 0] : List V) = [strV (tapeL fs), I ((tapeL (fs.take 0)).length : Nat)] := rfl
    rcases hp with rfl | rfl | rfl
    · simp [setA, n6m.symm, n12.symm, keysF, valsF]
    · simp [setA]
    · simp [setA, n6.symm, tapeL]
  · rw [harn]; simp [n6, n6m, n12, n6.symm, n6m.symm, n12.symm]
  refine Tr.seq (Tr.block ?_)
  refine Tr.loop (fun (k : Nat) st => k ≤ fs.length ∧ st = { env := [(0, .rmap mb), (1, strV (tapeL fs)), (5, .nils), (6, .rptr b6 0)], bx := [], rw := [], log := encA (arn k), stp := false }) (fun k => fs.length - k) 0
    (Wk.le (.cons rfl (.refl _) (.cons rfl (.refl _) (.cons rfl (.refl _) (.cons rfl (.refl _) .nil)))) .nil .nil rfl rfl) ⟨by omega, rfl⟩ ?_
  rintro k st ⟨hk, rfl⟩
  obtain ⟨p, hp⟩ : ∃ p, (tapeL (fs.take k)).length = p := ⟨_, rfl⟩
  have m6 : (b6, Ob.cells [.rptr b12 0]) ∈ arn k := by rw [harn]; simp
  have m12 : (b12, Ob.cells [strV (tapeL fs), I (p : Nat)]) ∈ arn k := by rw [harn, ← hp]; simp
  have hsz : (⟨(tapeL fs).toArray⟩ : ByteArray).size = (tapeL fs).length := by simp [ByteArray.size]
  refine Tr.seq (Tr.seq (Tr.reg (Steps.aload hA rfl rfl m6 rfl (Steps.rnil rfl (Steps.rfaddr rfl (Steps.aload hA rfl rfl m12 rfl (Steps.fin rfl (by simp [strV, I]) ?_)))))))
  by_cases h1 : k < fs.length
  rotate_left
  · have h1 : k = fs.length := by omega
    subst h1
    rw [List.take_length] at hp
    refine Tr.condF (congrArg (fun b => some (V.bool b)) (show decide ((p : Int) < ((⟨(tapeL fs).toArray⟩ : ByteArray).size : Int)) = false by rw [hsz]; exact decide_eq_false (by omega))) (Tr.exit ?_)
    refine Tr.seqR rfl (by simp) ?_
    refine Tr.weak (Wk.keep hA (B := [(mb, .mapd (ks ++ keysF fs) (vs ++ valsF fs))]) rfl ?_ (by simp)) ?_
    · rw [harn]
      intro q hq
      rw [List.mem_singleton.1 hq]
      simp
    exact Tr.retX rfl rfl rfl rfl rfl
  have hdr := drop_tape h1
  rw [hp] at hdr
  have hpl : p < (tapeL fs).length := by
    have := congrArg List.length hdr
    have := frameL_pos fs[k]
    simp at this ⊢; simp at *; omega
  refine Tr.condT (congrArg (fun b => some (V.bool b)) (show decide ((p : Int) < ((⟨(tapeL fs).toArray⟩ : ByteArray).size : Int)) = true by rw [hsz]; exact decide_eq_true (by omega))) (Tr.skip ?_)
  refine Tr.block (Tr.seq (Tr.reg (Steps.aload hA rfl rfl m6 rfl (Steps.rnil rfl (Steps.rfaddr rfl (Steps.aload hA rfl rfl m12 rfl (Steps.fin rfl (by simp [strV, I]) ?_)))))))
  refine Tr.seq (Tr.reg (Steps.aalloc hA rfl fun b8 hb8 => Steps.fin rfl (by simp) ?_))
  have hb8' : b8 ≠ mb ∧ b8 ≠ b6 ∧ b8 ≠ b12 := by
    rw [harn] at hb8
    simpa using hb8
  obtain ⟨n8m, n86, n812⟩ := hb8'
  obtain ⟨f, hfk⟩ : ∃ f, fs[k] = f := ⟨_, rfl⟩
  have hf : fmOk f := hfk ▸ hok _ (List.getElem_mem h1)
  rw [hfk] at hdr
  have kread := ca_read (ca_whole1 (b6 := b6) (b8 := b8) (b12 := b12) (g0 := I 0) (g1 := I 0) (g2 := .nils) hlen hf hdr n86.symm n812.symm)
  refine Tr.weak (Wk.keep hA (B := [(mb, .mapd (ks ++ keysF (fs.take k)) (vs ++ valsF (fs.take k)))] ++ ([(b6, .cells [.rptr b12 0]), (b8, .cells [I 0, I 0, .nils])] ++ rdA b12 (tapeL fs) p)) rfl ?_ ?_) ?_
  · rw [harn]
    intro q hq
    simp only [List.cons_append, List.nil_append, List.mem_cons, List.not_mem_nil, or_false, rdA] at hq ⊢
    rw [hp]
    rcases hq with rfl | rfl | rfl | rfl <;> simp
  · simp [rdA, n6, n6m, n12, n6m.symm, n12.symm, n8m, n8m.symm, n86, n86.symm, n812, n812.symm]
  refine Tr.seq (Tr.seq (Tr.reg (Steps.runN 1 rfl (by simp) (Steps.callA hA (F := [(mb, .mapd (ks ++ keysF (fs.take k)) (vs ++ valsF (fs.take k)))]) rfl rfl rfl kread (.inl (by simp)) (Steps.fin rfl (by simp) (Tr.condT rfl ?_))))))
  have hnew : keyI f ∉ ks ++ keysF (fs.take k) := by
    intro hm
    have e1 : keysF fs = keysF (fs.take k) ++ keyI f :: keysF (fs.drop (k + 1)) := by
      unfold keysF
      conv => lhs; rw [← List.take_append_drop k fs, List.drop_eq_getElem_cons h1, hfk]
      simp
    rw [e1, ← List.append_assoc, List.nodup_append] at hnd
    exact hnd.2.2 _ hm _ (List.mem_cons_self) rfl
  have hin' : ∀ q ∈ ks ++ keysF (fs.take k), inI q.1 ∧ inI q.2 := by
    intro q hq
    rcases List.mem_append.1 hq with hq | hq
    · exact hin q hq
    · obtain ⟨g, hg, rfl⟩ := List.mem_map.1 hq
      exact keyI_in (hok g (List.mem_of_mem_take hg))
  have kadd := ca_add (mb := mb) (vs := vs ++ valsF (fs.take k)) hf hin' hnew
  refine Tr.weak (Wk.keep hA (B := ([(b6, .cells [.rptr b12 0]), (b8, .cells (fmC f))] ++ rdA b12 (tapeL fs) (p + (frameL f).length)) ++ [(mb, .mapd (ks ++ keysF (fs.take k)) (vs ++ valsF (fs.take k)))]) rfl ?_ ?_) ?_
  · intro q hq
    simp only [List.cons_append, List.nil_append, List.mem_cons, List.not_mem_nil, or_false, rdA] at hq ⊢
    rcases hq with rfl | rfl | rfl | rfl <;> simp
  · simp [rdA, n6, n6m, n12, n6m.symm, n12.symm, n8m, n8m.symm, n86, n86.symm, n812, n812.symm]
  have m8 : (b8, Ob.cells (fmC f)) ∈ ([(b6, Ob.cells [.rptr b12 0]), (b8, .cells (fmC f))] ++ rdA b12 (tapeL fs) (p + (frameL f).length)) ++ [(mb, .mapd (ks ++ keysF (fs.take k)) (vs ++ valsF (fs.take k)))] := by simp
  refine Tr.seq (Tr.reg (Steps.runN 1 rfl (by simp) (Steps.aloadT hA rfl rfl m8 (by simp [fmC]) (Steps.runN 1 rfl (by simp [fmC, intsT, I]) ?_))))
  refine Steps.callA hA (F := ([(b6, Ob.cells [.rptr b12 0]), (b8, .cells (fmC f))] ++ rdA b12 (tapeL fs) (p + (frameL f).length))) rfl rfl rfl kadd (.inl (by simp)) (Steps.fin rfl (by simp) (Tr.exit ?_))
  have hk1 := tape_succ h1
  rw [hp, hfk] at hk1
  refine ⟨k + 1, _, Wk.trans (Wk.le (.cons rfl (.refl _) (.cons rfl (.refl _) (.cons rfl (.refl _) (.cons rfl (.refl _) .nil)))) .nil .nil rfl rfl) (Wk.keep hA (B := arn (k + 1)) rfl ?_ ?_), ⟨h1, rfl⟩, by omega⟩
  · have e1 : keysF (fs.take (k + 1)) = keysF (fs.take k) ++ [keyI f] := by
      unfold keysF
      rw [List.take_add_one, List.getElem?_eq_getElem h1, hfk]
      simp
    have e2 : valsF (fs.take (k + 1)) = valsF (fs.take k) ++ [intsT f.s] := by
      unfold valsF
      rw [List.take_add_one, List.getElem?_eq_getElem h1, hfk]
      simp
    rw [harn]
    intro q hq
    simp only [List.cons_append, List.nil_append, List.mem_cons, List.not_mem_nil, or_false, rdA] at hq ⊢
    rw [hk1, e1, e2, ← List.append_assoc, ← List.append_assoc] at hq
    rcases hq with rfl | rfl | rfl <;> simp
  · rw [harn]; simp [n6, n6m, n12, n6m.symm, n12.symm]

end Go.Proofs.YtggifklgpdladaaGreat


/-! The tape: the keys of a rack, in whatever order, as a slice. -/
set_option linter.unusedVariables false
set_option linter.unusedSimpArgs false
set_option maxRecDepth 40000
set_option maxHeartbeats 4000000
namespace Go.Proofs.YtggifklgpdladaaGreat
open Go.Am
attribute [local simp] cells scalar mkv splice under2 under dem dem1
def keyA (k : Int × Int) : V := .agg [I k.1, I k.2]
def keyAt (ks : List (Int × Int)) (j : Nat) : Int × Int := ks.getD j (0, 0)
def logK (ks : List (Int × Int)) (js : List Nat) : List (List V) := js.map fun j => [keyA (keyAt ks j)]
def logX (xs : List (Int × Int)) : List (List V) := xs.map fun k => [keyA k]
def ysK (ks : List (Int × Int)) : YL := fun l => ∃ xs : List (Int × Int), xs.Nodup ∧ (∀ k ∈ xs, k ∈ ks) ∧ l = logX xs
def dnK (ks : List (Int × Int)) : YL := fun l => ∃ xs : List (Int × Int), xs.Nodup ∧ (∀ k, k ∈ xs ↔ k ∈ ks) ∧ l = logX xs

theorem keyAt_mem {ks : List (Int × Int)} {j : Nat} (h : j < ks.length) : keyAt ks j ∈ ks := by
  unfold keyAt; simp [h]
theorem keys_nd {ks : List (Int × Int)} (hk : ks.Nodup) {js : List Nat} (h : js.Nodup) (hb : ∀ j ∈ js, j < ks.length) : (js.map (keyAt ks)).Nodup := by
  unfold List.Nodup
  rw [List.pairwise_map]
  refine h.imp_of_mem fun {a b} ha hb' hne e => hne ?_
  have h1 := hb a ha
  have h2 := hb b hb'
  unfold keyAt at e
  simp only [List.getD_eq_getElem?_getD, List.getElem?_eq_getElem h1, List.getElem?_eq_getElem h2, Option.getD_some] at e
  exact (List.getElem_inj hk).1 e
theorem logK_X (ks : List (Int × Int)) (js : List Nat) : logK ks js = logX (js.map (keyAt ks)) := by simp [logK, logX]
theorem logX_inj : ∀ {a b : List (Int × Int)}, logX a = logX b → a = b
  | [], [], _ => rfl
  | [], _ :: _, h => by simp [logX] at h
  | _ :: _, [], h => by simp [logX] at h
  | x :: a, y :: b, h => by
    simp only [logX, List.map_cons, List.cons.injEq, keyA, I, V.agg.injEq, V.int.injEq, true_and, and_true] at h
    obtain ⟨⟨h1, h2⟩, h3⟩ := h
    rw [Prod.ext h1 h2, logX_inj h3]
/-- What is yielded next is a key. -/
theorem logX_snoc {xs ys : List (Int × Int)} {q : List V} (h : logX xs ++ [q] = logX ys) : ∃ k, q = [keyA k] ∧ ys = xs ++ [k] := by
  have hne : ys ≠ [] := fun e => by rw [e] at h; simp [logX] at h
  obtain ⟨zs, k, rfl⟩ : ∃ zs k, ys = zs ++ [k] := ⟨_, _, (List.dropLast_concat_getLast hne).symm⟩
  have e : logX (zs ++ [k]) = logX zs ++ [[keyA k]] := by simp [logX]
  rw [e] at h
  obtain ⟨h1, h2⟩ := List.append_inj' h rfl
  simp only [List.cons.injEq, and_true] at h2
  exact ⟨k, h2, by rw [logX_inj h1]⟩

theorem nodup_len {n : Nat} {js : List Nat} (h : js.Nodup) (hb : ∀ j ∈ js, j < n) : js.length ≤ n := by
  have := h.length_le_of_subset (l₂ := List.range n) fun j hj => List.mem_range.2 (hb j hj)
  simpa using this

theorem i_keys {ks : List (Int × Int)} {vs : List V} (hkn : ks.Nodup) : IterN Tryz.prog F.maps_Keys_tape_rack_tape_key_int_1 [.vptr [.mpd ks vs] 0] (ysK ks) (dnK ks) := by
  have hm : pairOk Tryz.prog 68 = true := by kernel_rfl
  refine IterN_of mixed chk.maps_Keys_tape_rack_tape_key_int_1 (by simp) fun S ok => ?_
  refine Tr.withI ?_
  refine Tr.seq (Tr.reg (Steps.runN 1 rfl (by simp) ?_))
  refine Steps.irange hm (ks := ks) (vs := vs) (l := []) rfl rfl fun ib => Steps.fin rfl (by simp) (Tr.block ?_)
  refine Tr.loop (α := List Nat) (fun js st => (js.Nodup ∧ ∀ j ∈ js, j < ks.length) ∧ st = { env := [(0, .yld), (5, .rptr ib 0)], bx := [], rw := [], log := headI (some (ib, ks, vs, js)) :: logK ks js, stp := false }) (fun js => ks.length - js.length) []
    (Wk.le (.cons rfl (.refl _) (.cons rfl (.refl _) .nil)) .nil .nil rfl rfl) ⟨⟨.nil, by simp⟩, rfl⟩ ?_
  rintro js st ⟨⟨hnd, hbd⟩, rfl⟩
  refine Tr.seq (Tr.reg (Steps.inext (ks := ks) (vs := vs) (seen := js) (l := logK ks js) rfl rfl (fun hall => ?_) (fun j hj hv hnew => ?_)))
  · refine Steps.fin rfl (by simp) (Tr.seq (Tr.condF rfl (Tr.exit ?_)))
    refine ⟨.inr ⟨js.map (keyAt ks), keys_nd hkn hnd hbd, fun k => ⟨fun hk => ?_, fun hk => ?_⟩, logK_X ks js⟩, [], [], [], rfl, rfl, rfl⟩
    · obtain ⟨j, hj, rfl⟩ := List.mem_map.1 hk
      exact keyAt_mem (hbd j hj)
    · obtain ⟨j, hj, rfl⟩ := List.getElem_of_mem hk
      exact List.mem_map.2 ⟨j, hall j hj, by unfold keyAt; simp [hj]⟩
  refine Steps.fin rfl (by simp) (Tr.seq (Tr.condT rfl (Tr.skip (Tr.block (Tr.seq (Tr.reg ?_))))))
  refine Steps.ientry (ks := ks) (vs := vs) (seen := js) (j := j) (l := logK ks js) rfl rfl hj hv (Steps.fin rfl (by simp) ?_)
  have hnd' : (js ++ [j]).Nodup := by
    rw [List.nodup_append]
    exact ⟨hnd, by simp, fun a ha b hb e => by rw [List.mem_singleton.1 hb] at e; exact hnew (e ▸ ha)⟩
  have hbd' : ∀ i ∈ js ++ [j], i < ks.length := fun i hi => by
    rcases List.mem_append.1 hi with hi | hi
    · exact hbd i hi
    · rw [List.mem_singleton.1 hi]; exact hj
  have hlog : logK ks (js ++ [j]) = logK ks js ++ [[V.agg [I ks[j].1, I ks[j].2]]] := by
    unfold logK keyA keyAt
    simp [hj]
  refine Tr.seqC rfl (by simp) (Steps.yield rfl (by simp) rfl ⟨(js ++ [j]).map (keyAt ks), keys_nd hkn hnd' hbd', fun k hk => (by obtain ⟨i, hi, rfl⟩ := List.mem_map.1 hk; exact keyAt_mem (hbd' i hi)), by rw [← logK_X]; exact hlog.symm⟩ rfl (fun b => Steps.fin rfl (by simp) ?_))
  have hl := nodup_len hnd' hbd'
  simp at hl
  cases b with
  | false => exact Tr.condT rfl (Tr.ret ⟨.inl rfl, [], [], [], rfl, rfl, rfl⟩)
  | true =>
    refine Tr.condF rfl (Tr.skip ⟨js ++ [j], _, Wk.leL (.cons rfl (.refl _) (.cons rfl (.refl _) .nil)) .nil .nil rfl rfl ?_, ⟨⟨hnd', hbd'⟩, rfl⟩, by simp; omega⟩)
    rw [hlog]; rfl

theorem c_Keys (ks : List (Int × Int)) (vs : List V) : C Tryz.prog F.maps_Keys_tape_rack_tape_key_int [.mpd ks vs] (.func (.func 93) [] [.vptr [.mpd ks vs] 0]) := by
  refine C_of mixed chk.maps_Keys_tape_rack_tape_key_int (by simp) fun S ok => ?_
  exact Tr.seqR rfl (by simp) (Tr.seqR rfl (by simp) (Tr.retX rfl rfl rfl rfl trivial))

/-- What a slice of keys is, that its caller owns. -/
def OwnK (xs : List (Int × Int)) (v : V) (A : Arena) : Prop := (xs = [] ∧ v = .nils ∧ A = []) ∨ ∃ (blk cap : Nat) (cs : List V), v = .sref blk 0 xs.length cap ∧ A = [(blk, .cells cs)] ∧ cs.length = cap * 2 ∧ xs.length ≤ cap ∧ cs.take (xs.length * 2) = (xs.map keyA).flatMap cells

def permK (ks xs : List (Int × Int)) : Prop := xs.Nodup ∧ ∀ k, k ∈ xs ↔ k ∈ ks

theorem inner_InA {E : Env} {S0 S2 : Sur} {l0 : List (List V)} {s0 : Bool} {cc : LC} (hA : InA E S0 l0 s0) (h : SurIn E.S S2) : InA (E.inner cc S2 h.ok) S0 l0 s0 := ⟨h.sub.trans hA.sub, hA.ok⟩

theorem lenK {ks : List (Int × Int)} {pre : List (List V)} {x : List V} (h : ysK ks (pre ++ [x])) : x.length = [7].length := by
  obtain ⟨ys, _, _, h⟩ := h
  have hx : x ∈ logX ys := by rw [← h]; simp
  obtain ⟨k, _, rfl⟩ := List.mem_map.1 hx
  rfl

theorem cx_AppendSeq {ks : List (Int × Int)} {vs : List V} (hkn : ks.Nodup) (hn : ks.length ≤ 100000) : CX Tryz.prog F.slices_AppendSeq_tape_key_tape_key [] [] [.nils, .func (.func 93) [] [.vptr [.mpd ks vs] 0]] (fun r B => ∃ xs, permK ks xs ∧ OwnK xs r B) := by
  refine CX_of mixed chk.slices_AppendSeq_tape_key_tape_key (by simp) fun S ok S1 hA hK hD => ?_
  refine Tr.seqR rfl (by simp) (Tr.seq (Tr.seqR rfl (by simp) (Tr.block ?_)))
  refine Tr.weak (s' := { env := [(2, .ptr 2 0), (6, .func (.func 93) [] [.vptr [.mpd ks vs] 0])], bx := [(2, ⟨[.nils], false⟩)], rw := [], log := encA [], stp := false })
    (Wk.le (.cons rfl (.refl _) (.cons rfl (.refl _) .nil)) (.cons rfl (LLe.refl _) .nil) .nil rfl rfl) ?_
  refine Tr.rangeN rfl rfl (i_keys (vs := vs) hkn) rfl rfl rfl (fun pre x h => lenK h)
    (fun pre t => ∃ xs v A, xs.Nodup ∧ (∀ k ∈ xs, k ∈ ks) ∧ pre = logX xs ∧ OwnK xs v A ∧ t.bx = [(2, ⟨[v], false⟩)] ∧ t.rw = [] ∧ t.log = encA A)
    (fun _ _ => False) ⟨[], .nils, [], .nil, by simp, rfl, .inl ⟨rfl, rfl, rfl⟩, rfl, rfl, rfl⟩ ?_ ?_ ?_
  · rintro a0 L0 rc0 h0 S1' S2' ok1 ok2 pre q t lp ⟨ys, hnd2, hbd2, hl2⟩ ⟨xs, v, A, hnd, hbd, rfl, hO, hbx, hrw, hlog⟩ henv hstp
    obtain ⟨env, bx, rw, log, stp⟩ := t
    simp only at hbx hrw hlog henv hstp
    subst hbx hrw hlog henv hstp
    obtain ⟨k, rfl, rfl⟩ := logX_snoc hl2
    have hsub := hnd2.length_le_of_subset (l₂ := ks) hbd2
    simp only [List.length_append, List.length_cons, List.length_nil] at hsub
    refine Tr.regR rfl (by simp [keyA, I]) (Tr.block (Tr.reg (Steps.runN 3 rfl (by simp [keyA, I]) ?_)))
    have hO' : OwnS A 2 (xs.map keyA) v := by
      rcases hO with ⟨h1, h2, h3⟩ | ⟨blk, cap, cs, h1, h2, h3, h4, h5⟩
      · exact .inl ⟨by rw [h1]; rfl, h2⟩
      · exact .inr ⟨blk, cap, cs, by rw [List.length_map]; exact h1, by rw [h2]; simp, h3, by rw [List.length_map]; exact h4, by rw [List.length_map]; exact h5⟩
    refine Steps.appendOwn (A := A) (v := v) (xs := xs.map keyA) (ys := [keyA k]) (zs := [I 0, I 0]) (inner_InA hA ok2) rfl rfl hO' (by kernel_rfl) (by omega) (by simp only [List.length_map, List.length_cons, List.length_nil]; omega) (by simp only [List.length_map, List.length_cons, List.length_nil]; omega) (by simp) fun v' A' hO2 hkeep => ?_
    rcases hO2 with ⟨h, _⟩ | ⟨blk, cap, cs, rfl, h2, h3, h4, h5⟩
    · simp at h
    have el : (xs.map keyA ++ [keyA k]).length = (xs ++ [k]).length := by simp
    rw [el] at h4 h5 ⊢
    refine Steps.fin rfl (by simp) ?_
    refine ⟨{ env := [], bx := [(2, ⟨[.sref blk 0 (xs ++ [k]).length cap], false⟩)], rw := [], log := encA [(blk, .cells cs)], stp := false }, Wk.trans (Wk.le .nil (.cons rfl (LLe.refl _) .nil) .nil rfl rfl) (Wk.keep (inner_InA hA ok2) (B := [(blk, .cells cs)]) rfl (by simpa using h2) (by simp)), ⟨xs ++ [k], _, [(blk, .cells cs)], hnd2, hbd2, by simp [logX], .inr ⟨blk, cap, cs, rfl, rfl, h3, h4, by rw [h5]; simp⟩, rfl, rfl, rfl⟩, rfl⟩
  · rintro ⟨env, bx, rw, log, stp⟩ lg ⟨ys, hnd2, hbd2, rfl⟩ henv hstp ⟨xs, v, A, hnd, hbd, hl, hO, hbx, hrw, hlog⟩
    simp only at hbx hrw hlog henv hstp
    subst hbx hrw hlog henv hstp
    obtain rfl := logX_inj hl
    have hp : permK ks ys := ⟨hnd2, hbd2⟩
    rcases hO with ⟨h1, h2, h3⟩ | ⟨blk, cap, cs, h1, h2, h3, h4, h5⟩
    · subst h2 h3
      exact Tr.seqR rfl (by simp) (Tr.retZ rfl rfl rfl ⟨_, rfl, ys, hp, .inl ⟨h1, rfl, rfl⟩⟩)
    · subst h1 h2
      exact Tr.seqR rfl (by simp) (Tr.retZ rfl rfl rfl ⟨_, rfl, ys, hp, .inr ⟨blk, cap, cs, rfl, rfl, h3, h4, h5⟩⟩)
  · intro e t _ h
    exact h.elim

theorem cx_Collect {ks : List (Int × Int)} {vs : List V} (hkn : ks.Nodup) (hn : ks.length ≤ 100000) : CX Tryz.prog F.slices_Collect_tape_key [] [] [.func (.func 93) [] [.vptr [.mpd ks vs] 0]] (fun r B => ∃ xs, permK ks xs ∧ OwnK xs r B) := by
  have k1 := cx_AppendSeq (vs := vs) hkn hn
  refine CX_of mixed chk.slices_Collect_tape_key (by simp) fun S ok S1 hA hK hD => ?_
  refine Tr.seqR rfl (by simp) (Tr.seq (Tr.reg (Steps.runN 1 rfl (by simp) ?_)))
  refine Steps.callX (F := []) hA rfl rfl rfl k1 (.inl (by simp)) (fun r B hB => ?_)
  obtain ⟨xs, hp, hO⟩ := hB
  refine Steps.fin rfl (by simp) ?_
  rcases hO with ⟨h1, h2, h3⟩ | ⟨blk, cap, cs, h1, h2, h3, h4, h5⟩
  · subst h2 h3
    exact Tr.retZ rfl rfl rfl ⟨_, rfl, xs, hp, .inl ⟨h1, rfl, rfl⟩⟩
  · subst h1 h2
    exact Tr.retZ rfl rfl rfl ⟨_, rfl, xs, hp, .inr ⟨blk, cap, cs, rfl, rfl, h3, h4, h5⟩⟩

end Go.Proofs.YtggifklgpdladaaGreat


/-! The sort of keys: the kit's contract of slices.SortFunc, laid at this program (the laying is printed by wip/tools/lay_sort.sh); what it is to compare two keys. -/
set_option linter.unusedVariables false
set_option linter.unusedSimpArgs false
set_option maxRecDepth 100000
set_option maxHeartbeats 4000000
namespace Go.Proofs.YtggifklgpdladaaGreat
open Go.Shelf Go.Proofs Go.RowKit Go.Lib Go.Sort

def Tryz.sortKey_ren : Go.Shelf.Ren := ⟨fun | 6 => 92 | 15 => 117 | 14 => 116 | 28 => 131 | 29 => 132 | 20 => 123 | 21 => 124 | 22 => 125 | 23 => 126 | 24 => 127 | 25 => 128 | 26 => 129 | 27 => 130 | 46 => 134 | 47 => 135 | 48 => 136 | 49 => 137 | 50 => 138 | 57 => 139 | n => n, fun | 22 => 118 | 24 => 120 | 25 => 124 | 3 => 3 | 39 => 166 | 0 => 0 | 53 => 209 | 55 => 211 | 4 => 4 | 46 => 203 | 45 => 202 | 50 => 189 | 5 => 5 | 9 => 9 | 66 => 212 | 70 => 216 | 76 => 218 | 77 => 219 | n => n, fun | n => n⟩
theorem Tryz.sortKey : Go.Proofs.SlLaysF0.n6 Tryz.prog Tryz.sortKey_ren := {
  mixed := by kernel_rfl,
  f6 := ⟨Tryz.f92.name, by decide, Tryz.func92.trans (congrArg some (by kernel_rfl))⟩,
  f14 := ⟨Tryz.f116.name, by decide, Tryz.func116.trans (congrArg some (by kernel_rfl))⟩,
  f15 := Tryz.func117.trans (congrArg some (by kernel_rfl)),
  f20 := ⟨Tryz.f123.name, by decide, Tryz.func123.trans (congrArg some (by kernel_rfl))⟩,
  f21 := ⟨Tryz.f124.name, by decide, Tryz.func124.trans (congrArg some (by kernel_rfl))⟩,
  f22 := ⟨Tryz.f125.name, by decide, Tryz.func125.trans (congrArg some (by kernel_rfl))⟩,
  f23 := ⟨Tryz.f126.name, by decide, Tryz.func126.trans (congrArg some (by kernel_rfl))⟩,
  f24 := ⟨Tryz.f127.name, by decide, Tryz.func127.trans (congrArg some (by kernel_rfl))⟩,
  f25 := ⟨Tryz.f128.name, by decide, Tryz.func128.trans (congrArg some (by kernel_rfl))⟩,
  f26 := ⟨Tryz.f129.name, by decide, Tryz.func129.trans (congrArg some (by kernel_rfl))⟩,
  f27 := ⟨Tryz.f130.name, by decide, Tryz.func130.trans (congrArg some (by kernel_rfl))⟩,
  f28 := Tryz.func131.trans (congrArg some (by kernel_rfl)),
  f29 := Tryz.func132.trans (congrArg some (by kernel_rfl)),
  f46 := ⟨Tryz.f134.name, by decide, Tryz.func134.trans (congrArg some (by kernel_rfl))⟩,
  f47 := Tryz.func135.trans (congrArg some (by kernel_rfl)),
  f48 := Tryz.func136.trans (congrArg some (by kernel_rfl)),
  f49 := ⟨Tryz.f137.name, by decide, Tryz.func137.trans (congrArg some (by kernel_rfl))⟩,
  f50 := ⟨Tryz.f138.name, by decide, Tryz.func138.trans (congrArg some (by kernel_rfl))⟩,
  f57 := ⟨Tryz.f139.name, by decide, Tryz.func139.trans (congrArg some (by kernel_rfl))⟩,
  t0 := Tryz.underlying0,
  a0 := Tryz.isAgg0,
  z0 := Tryz.sizeOf0,
  v0 := Tryz.zeroValue0,
  t3 := Tryz.underlying3,
  a3 := Tryz.isAgg3,
  z3 := Tryz.sizeOf3,
  v3 := Tryz.zeroValue3,
  t4 := Tryz.underlying4,
  a4 := Tryz.isAgg4,
  z4 := Tryz.sizeOf4,
  v4 := Tryz.zeroValue4,
  t5 := Tryz.underlying5,
  a5 := Tryz.isAgg5,
  z5 := Tryz.sizeOf5,
  v5 := Tryz.zeroValue5,
  t9 := Tryz.underlying9,
  a9 := Tryz.isAgg9,
  z9 := Tryz.sizeOf9,
  v9 := Tryz.zeroValue9,
  t22 := Tryz.underlying118,
  a22 := Tryz.isAgg118,
  z22 := Tryz.sizeOf118,
  v22 := Tryz.zeroValue118,
  t25 := Tryz.underlying124,
  a25 := Tryz.isAgg124,
  z25 := Tryz.sizeOf124,
  v25 := Tryz.zeroValue124,
  t39 := Tryz.underlying166,
  a39 := Tryz.isAgg166,
  z39 := Tryz.sizeOf166,
  v39 := Tryz.zeroValue166,
  t45 := Tryz.underlying202,
  a45 := Tryz.isAgg202,
  z45 := Tryz.sizeOf202,
  v45 := Tryz.zeroValue202,
  t46 := Tryz.underlying203,
  a46 := Tryz.isAgg203,
  z46 := Tryz.sizeOf203,
  v46 := Tryz.zeroValue203,
  t50 := Tryz.underlying189,
  a50 := Tryz.isAgg189,
  z50 := Tryz.sizeOf189,
  v50 := Tryz.zeroValue189,
  t53 := Tryz.underlying209,
  a53 := Tryz.isAgg209,
  z53 := Tryz.sizeOf209,
  v53 := Tryz.zeroValue209,
  t55 := Tryz.underlying211,
  a55 := Tryz.isAgg211,
  z55 := Tryz.sizeOf211,
  v55 := Tryz.zeroValue211,
  t66 := Tryz.underlying212,
  a66 := Tryz.isAgg212,
  z66 := Tryz.sizeOf212,
  v66 := Tryz.zeroValue212,
  t70 := Tryz.underlying216,
  a70 := Tryz.isAgg216,
  z70 := Tryz.sizeOf216,
  v70 := Tryz.zeroValue216,
  t76 := Tryz.underlying218,
  a76 := Tryz.isAgg218,
  z76 := Tryz.sizeOf218,
  v76 := Tryz.zeroValue218,
  t77 := Tryz.underlying219,
  a77 := Tryz.isAgg219,
  z77 := Tryz.sizeOf219,
  v77 := Tryz.zeroValue219 }

theorem isNaN_k (x : Int) (w : World) : Calls Tryz.prog 133 #[.int .i64 x] w fun e w' => e = .returned (.bool false) ∧ w' = w := by
  go_enter Tryz.func133, Tryz.ntmps133
  go_wp2
  go_ret
  exact ⟨by simp, rfl⟩

def cmpI (x y : Int) : Int := if x < y then -1 else if x > y then 1 else 0

theorem cmp_k (x y : Int) (w : World) : Calls Tryz.prog 118 #[.int .i64 x, .int .i64 y] w fun e w' => e = .returned (.int .i64 (cmpI x y)) ∧ w' = w := by
  unfold cmpI
  by_cases h1 : x < y
  · rw [if_pos h1]
    go_enter Tryz.func118, Tryz.ntmps118
    go_wp2_with (go_at_call 133; refine (isNaN_k _ _).mono ?_; rintro e w' ⟨rfl, rfl⟩)
    all_goals (try (go_ret; exact ⟨rfl, rfl⟩))
  · rw [if_neg h1]
    by_cases h2 : x > y
    · rw [if_pos h2]
      go_enter Tryz.func118, Tryz.ntmps118
      go_wp2_with (go_at_call 133; refine (isNaN_k _ _).mono ?_; rintro e w' ⟨rfl, rfl⟩)
      all_goals (try (go_ret; exact ⟨rfl, rfl⟩))
    · rw [if_neg h2]
      go_enter Tryz.func118, Tryz.ntmps118
      go_wp2_with (go_at_call 133; refine (isNaN_k _ _).mono ?_; rintro e w' ⟨rfl, rfl⟩)
      all_goals (try (go_ret; exact ⟨rfl, rfl⟩))

def cmpP (x y : Int × Int) : Int := if cmpI x.1 y.1 ≠ 0 then cmpI x.1 y.1 else cmpI x.2 y.2

theorem compare_k (b1 b2 : Nat) (a b c d : Int) (w : World) (e1 e2 : TypeId) (h1 : w.heap[b1]? = some (.cells #[.int .i64 a, .int .i64 b] e1 (0, 0))) (h2 : w.heap[b2]? = some (.cells #[.int .i64 c, .int .i64 d] e2 (0, 0))) :
    Calls Tryz.prog 94 #[.slice (some ⟨b1, 0, none⟩) 2 2, .slice (some ⟨b2, 0, none⟩) 2 2] w fun e w' => e = .returned (.int .i64 (cmpP (a, b) (c, d))) ∧ w' = w := by
  have c1 : w.cell? ⟨b1, 0, none⟩ = some (.int .i64 a) := by simp [World.cell?, h1]
  have c2 : w.cell? ⟨b1, 1, none⟩ = some (.int .i64 b) := by simp [World.cell?, h1]
  have c3 : w.cell? ⟨b2, 0, none⟩ = some (.int .i64 c) := by simp [World.cell?, h2]
  have c4 : w.cell? ⟨b2, 1, none⟩ = some (.int .i64 d) := by simp [World.cell?, h2]
  have k1 := fun w => cmp_k a c w
  have k2 := fun w => cmp_k b d w
  unfold cmpP
  simp only
  generalize cmpI a c = r1 at k1 ⊢
  generalize cmpI b d = r2 at k2 ⊢
  by_cases hr : r1 = 0
  · rw [if_neg (by simp [hr])]
    by_cases hr2 : r2 = 0
    · go_enter Tryz.func94, Tryz.ntmps94
      go_wp2_with (go_at_call 118; refine (k1 _).mono ?_; rintro e w' ⟨rfl, rfl⟩)
      refine wp_loop_rounds 3 ?_
      rw [rounds_succ]
      go_wp2_with (go_at_call 118; refine (k1 _).mono ?_; rintro e w' ⟨rfl, rfl⟩)
      rw [rounds_succ]
      go_wp2_with (go_at_call 118; refine (k2 _).mono ?_; rintro e w' ⟨rfl, rfl⟩)
      rw [rounds_succ]
      go_wp2_with (go_at_call 118; refine (k2 _).mono ?_; rintro e w' ⟨rfl, rfl⟩)
      go_ret
      exact ⟨by rw [hr2]; rfl, rfl⟩
    · go_enter Tryz.func94, Tryz.ntmps94
      go_wp2_with (go_at_call 118; refine (k1 _).mono ?_; rintro e w' ⟨rfl, rfl⟩)
      refine wp_loop_rounds 2 ?_
      rw [rounds_succ]
      go_wp2_with (go_at_call 118; refine (k1 _).mono ?_; rintro e w' ⟨rfl, rfl⟩)
      rw [rounds_succ]
      go_wp2_with (go_at_call 118; refine (k2 _).mono ?_; rintro e w' ⟨rfl, rfl⟩)
      go_ret
      exact ⟨rfl, rfl⟩
  · rw [if_pos hr]
    go_enter Tryz.func94, Tryz.ntmps94
    go_wp2_with (go_at_call 118; refine (k1 _).mono ?_; rintro e w' ⟨rfl, rfl⟩)
    refine wp_loop_rounds 1 ?_
    rw [rounds_succ]
    go_wp2_with (go_at_call 118; refine (k1 _).mono ?_; rintro e w' ⟨rfl, rfl⟩)
    go_ret
    exact ⟨rfl, rfl⟩

theorem push2_a (h : Array Obj) (o1 o2 : Obj) : ((h.push o1).push o2)[h.size]? = some o1 := by
  rw [Array.getElem?_push, if_neg (by simp), Array.getElem?_push, if_pos rfl]
theorem push2_b (h : Array Obj) (o1 o2 : Obj) : ((h.push o1).push o2)[h.size + 1]? = some o2 := by
  rw [Array.getElem?_push, if_pos (by simp)]
theorem grow2 (W : World) (o1 o2 : Obj) : ((W.alloc o1).alloc o2).drew = grow (W.drewN 1) #[o1, o2] := by
  have e : (W.heap.push o1).push o2 = W.heap ++ #[o1, o2] := by
    apply Array.ext'
    simp
  show ({ W with heap := (W.heap.push o1).push o2, drawn := W.drawn + 1 } : World) = { W with heap := W.heap ++ #[o1, o2], drawn := W.drawn + 1 }
  rw [e]

theorem order_k (x y : Int × Int) (W : World) : Calls Tryz.prog 54 #[.agg #[.int .i64 x.1, .int .i64 x.2], .agg #[.int .i64 y.1, .int .i64 y.2]] W fun e w' => e = .returned (.int .i64 (cmpP x y)) ∧ ∃ q os', w' = grow (W.drewN q) os' := by
  obtain ⟨a, b⟩ := x
  obtain ⟨c, d⟩ := y
  have k := fun b1 b2 w e1 e2 h1 h2 => compare_k b1 b2 a b c d w e1 e2 h1 h2
  simp only at k ⊢
  generalize cmpP (a, b) (c, d) = r at k ⊢
  go_enter Tryz.func54, Tryz.ntmps54
  go_wp2
  refine wp_region_any (by kernel_rfl) ?_
  try (change wpAny _ _ _ _ _ _ _ (World.drew _))
  refine wpAny_ready (rs := [0, 1]) (by kernel_rfl) (by simp) ?_
  refine AllReady.cons rfl (fun K hK => ?_) (AllReady.cons rfl (fun K hK => ?_) AllReady.nil)
  · go_simp
    refine hK _ _ ?_
    clear hK K
    refine wpAny_ready (rs := [1]) (by kernel_rfl) (by simp) ?_
    refine AllReady.cons rfl (fun K hK => ?_) AllReady.nil
    go_simp
    refine hK _ _ ?_
    clear hK K
    refine wpAny_ready (rs := [2]) (by kernel_rfl) (by simp) ?_
    refine AllReady.cons rfl (fun K hK => ?_) AllReady.nil
    go_simp
    refine (k _ _ _ 120 120 ?_ ?_).mono ?_
    · exact push2_a _ _ _
    · exact push2_b _ _ _
    rintro e w' ⟨rfl, rfl⟩
    refine hK _ _ ?_
    clear hK K
    refine wpAny_ready (rs := [3]) (by kernel_rfl) (by simp) ?_
    refine AllReady.cons rfl (fun K hK => ?_) AllReady.nil
    go_simp
    refine hK _ _ ?_
    clear hK K
    refine ⟨by kernel_rfl, ?_⟩
    go_wp2
    go_ret
    exact ⟨rfl, 1, #[.cells #[.int .i64 a, .int .i64 b] 120 (0, 0), .cells #[.int .i64 c, .int .i64 d] 120 (0, 0)], grow2 _ _ _⟩
  · go_simp
    refine hK _ _ ?_
    clear hK K
    refine wpAny_ready (rs := [0]) (by kernel_rfl) (by simp) ?_
    refine AllReady.cons rfl (fun K hK => ?_) AllReady.nil
    go_simp
    refine hK _ _ ?_
    clear hK K
    refine wpAny_ready (rs := [2]) (by kernel_rfl) (by simp) ?_
    refine AllReady.cons rfl (fun K hK => ?_) AllReady.nil
    go_simp
    refine (k _ _ _ 120 120 ?_ ?_).mono ?_
    · exact push2_a _ _ _
    · exact push2_b _ _ _
    rintro e w' ⟨rfl, rfl⟩
    refine hK _ _ ?_
    clear hK K
    refine wpAny_ready (rs := [3]) (by kernel_rfl) (by simp) ?_
    refine AllReady.cons rfl (fun K hK => ?_) AllReady.nil
    go_simp
    refine hK _ _ ?_
    clear hK K
    refine ⟨by kernel_rfl, ?_⟩
    go_wp2
    go_ret
    exact ⟨rfl, 1, #[.cells #[.int .i64 a, .int .i64 b] 120 (0, 0), .cells #[.int .i64 c, .int .i64 d] 120 (0, 0)], grow2 _ _ _⟩

def encK (x : Int × Int) : List Value := [.int .i64 x.1, .int .i64 x.2]

theorem cmpI_neg {x y : Int} : cmpI x y < 0 ↔ x < y := by unfold cmpI; split <;> (try split) <;> omega
theorem cmpI_zero {x y : Int} : cmpI x y = 0 ↔ x = y := by unfold cmpI; split <;> (try split) <;> omega
theorem cmpP_neg {x y : Int × Int} : cmpP x y < 0 ↔ x.1 < y.1 ∨ (x.1 = y.1 ∧ x.2 < y.2) := by
  unfold cmpP
  split
  · rename_i h
    have : x.1 ≠ y.1 := fun e => h (cmpI_zero.2 e)
    rw [cmpI_neg]; omega
  · rename_i h
    have h : x.1 = y.1 := cmpI_zero.1 (by simpa using h)
    rw [cmpI_neg]; omega

theorem swoK : Go.Sort.SWO (ltOf cmpP) where
  irrefl x := by unfold ltOf; simp only [decide_eq_false_iff_not, cmpP_neg]; omega
  trans x y z h1 h2 := by
    unfold ltOf at *
    simp only [decide_eq_true_eq, cmpP_neg] at *
    omega
  ntrans x y z h1 h2 := by
    unfold ltOf at *
    simp only [decide_eq_false_iff_not, cmpP_neg] at *
    omega

theorem cmpLaysK (blk off size : Nat) (w : World) : CmpLays Tryz.prog 54 #[] encK 2 cmpP blk off size w :=
  fun _ _ _ _ x y => order_k x y _

/-- The sort of a row of keys. -/
theorem sort_keys (blk off cap : Nat) (d : Array (Int × Int)) (w : World) (hH : HoldsK encK 2 w blk off d) (hblk : blk < w.heap.size) (hsz : d.size < 4611686018427387904) :
    Calls Tryz.prog 92 #[.slice (some ⟨blk, off, none⟩) d.size cap, .func (.func 54) #[] #[]] w fun e w' => e = .returned (.tuple #[]) ∧ ∃ d' n os, PermIn 0 d.size d d' ∧ SortedIn (ltOf cmpP) 0 d.size d' ∧ w' = sortWorldK encK 2 w blk off n d' os := by
  have eg : ∀ args w, (callFunc 54 args).run Tryz.prog w = .ok (.enter 54 args) w := enters_of Tryz.func54 (by kernel_rfl) rfl
  exact AnyQ.slices_SortFunc Tryz.sortKey 2 Tryz.isAgg120 Tryz.sizeOf120 encK (fun _ => rfl) (fun x v hv => by simp [encK] at hv; rcases hv with rfl | rfl <;> rfl) cmpP swoK 54 #[] blk off cap d w eg (cmpLaysK blk off d.size w) hH hblk hsz

end Go.Proofs.YtggifklgpdladaaGreat


/-! The sort of keys, over an arena. -/
set_option linter.unusedVariables false
set_option linter.unusedSimpArgs false
set_option maxRecDepth 40000
set_option maxHeartbeats 4000000
namespace Go.Proofs.YtggifklgpdladaaGreat
open Go.Am

def befK (a b : Int × Int) : Prop := a.1 < b.1 ∨ (a.1 = b.1 ∧ a.2 < b.2)

theorem befK_irrefl {a : Int × Int} (h : befK a a) : False := by unfold befK at h; omega
theorem befK_trans {a b c : Int × Int} (h : befK a b) (k : befK b c) : befK a c := by unfold befK at *; omega

/-- Two lists in strict order that hold the same are the same. -/
theorem sorted_unique : ∀ (l m : List (Int × Int)), l.Pairwise befK → m.Pairwise befK → (∀ x, x ∈ l ↔ x ∈ m) → l = m
  | [], [], _, _, _ => rfl
  | [], b :: m, _, _, h => absurd ((h b).2 (by simp)) (by simp)
  | a :: l, [], _, _, h => absurd ((h a).1 (by simp)) (by simp)
  | a :: l, b :: m, hl, hm, h => by
    rw [List.pairwise_cons] at hl hm
    have hab : a = b := by
      rcases List.mem_cons.1 ((h a).1 (by simp)) with e | h1
      · exact e
      rcases List.mem_cons.1 ((h b).2 (by simp)) with e | h2
      · exact e.symm
      exact absurd (befK_trans (hl.1 b h2) (hm.1 a h1)) (fun h => befK_irrefl h)
    subst hab
    congr 1
    refine sorted_unique l m hl.2 hm.2 fun x => ?_
    have hx := h x
    simp only [List.mem_cons] at hx
    constructor
    · intro h1
      rcases hx.1 (.inr h1) with e | h2
      · exact absurd (hl.1 x h1) (fun h => befK_irrefl (e ▸ h))
      · exact h2
    · intro h1
      rcases hx.2 (.inr h1) with e | h2
      · exact absurd (hm.1 x h1) (fun h => befK_irrefl (e ▸ h))
      · exact h2

theorem flat_at : ∀ (xs : List (Int × Int)) (j : Nat) (h : j / 2 < xs.length), ((xs.map keyA).flatMap cells)[j]? = some (I (if j % 2 = 0 then xs[j / 2].1 else xs[j / 2].2))
  | [], j, h => by simp at h
  | x :: xs, 0, h => rfl
  | x :: xs, 1, h => rfl
  | x :: xs, j + 2, h => by
    have hj : j / 2 < xs.length := by simp at h; omega
    have ih := flat_at xs j hj
    have e1 : ((x :: xs).map keyA).flatMap cells = I x.1 :: I x.2 :: (xs.map keyA).flatMap cells := rfl
    have e2 : (j + 2) / 2 = j / 2 + 1 := by omega
    have e3 : (j + 2) % 2 = j % 2 := by omega
    rw [e1]
    simp only [List.getElem?_cons_succ, e3]
    rw [ih]
    congr 3
    · congr 1; simp [e2]
    · congr 1; simp [e2]

theorem flat_keyA_len (xs : List (Int × Int)) : ((xs.map keyA).flatMap cells).length = xs.length * 2 := by
  induction xs with
  | nil => rfl
  | cons x xs ih => rw [List.map_cons, List.flatMap_cons, List.length_append, ih, List.length_cons]; simp [keyA, cells]; omega

open Go.Sort in
theorem ca_sortK {blk cap : Nat} {xs ys : List (Int × Int)} {cs : List V} (hcs : cs.take (xs.length * 2) = (xs.map keyA).flatMap cells) (hlen : xs.length * 2 ≤ cs.length) (hsm : xs.length ≤ 100000) (hnd : xs.Nodup) (hp : ∀ x, x ∈ ys ↔ x ∈ xs) (hs : ys.Pairwise befK) :
    CA Tryz.prog F.slices_SortFunc_tape_key_tape_key [(blk, .cells cs)] [] [.sref blk 0 xs.length cap, .func (.func F.tape_order) [] []] (.tuple []) [(blk, .cells ((ys.map keyA).flatMap cells ++ cs.drop (xs.length * 2)))] := by
  refine ⟨by kernel_rfl, fun w φ vals htop hgl hA hK hKA hrep => ?_⟩
  obtain ⟨hl, hr⟩ := hrep
  obtain ⟨vals⟩ := vals
  match vals, hl with
  | [v1, v2], _ =>
  have r1 : v1 = .slice (some ⟨blk, 0, none⟩) xs.length cap := by
    have := hr 0 _ v1 rfl rfl
    cases this; rfl
  have r2 : v2 = .func (.func F.tape_order) #[] #[] := by
    have := hr 1 _ v2 rfl rfl
    cases this with
    | func fn first cap f c h1 h2 _ _ =>
      have e1 : f = #[] := Array.eq_empty_of_size_eq_zero (by simpa using h1.symm)
      have e2 : c = #[] := Array.eq_empty_of_size_eq_zero (by simpa using h2.symm)
      rw [e1, e2]
  subst r1 r2
  obtain ⟨vs, et, w1, w2, w3⟩ := hA.ok (blk, .cells cs) (by simp)
  have hblk := hA.lt (blk, .cells cs) (by simp)
  simp only at hblk
  obtain ⟨d, hd⟩ : ∃ d : Array (Int × Int), d = xs.toArray := ⟨_, rfl⟩
  have hds : d.size = xs.length := by rw [hd]; simp
  have hdget : ∀ i (hi : i < xs.length), d[i]! = xs[i] := fun i hi => by rw [hd]; simp [hi]
  have valat : ∀ j, j < xs.length * 2 → vs[j]? = some (.int .i64 (if j % 2 = 0 then (d[j / 2]!).1 else (d[j / 2]!).2)) := fun j hj => by
    have hj2 : j / 2 < xs.length := by omega
    have hc : cs[j]? = some (I (if j % 2 = 0 then xs[j / 2].1 else xs[j / 2].2)) := by
      rw [← flat_at xs j hj2, ← hcs, List.getElem?_take_of_lt hj]
    have hjs : j < vs.size := by omega
    have := (w3 j _ _ hc (Array.getElem?_eq_getElem hjs)).1
    have hv : vs[j] = .int .i64 (if j % 2 = 0 then xs[j / 2].1 else xs[j / 2].2) := by
      generalize vs[j] = z at this
      cases this; rfl
    rw [Array.getElem?_eq_getElem hjs, hv, hdget _ hj2]
  have hH : HoldsK encK 2 w blk 0 d := fun j hj => by
    rw [size_flatK, hds] at hj
    have hj2 : j / 2 < xs.length := by omega
    refine ⟨?_, ?_⟩
    · rw [get_flatK _ _ _ _ (by rw [hds]; exact hj), Nat.zero_add, cell_of_row w blk j vs et (0, 0) w1, valat j hj]
      unfold encK
      by_cases h : j % 2 = 0
      · rw [if_pos h, h]; rfl
      · have h1 : j % 2 = 1 := by omega
        rw [if_neg h, h1]; rfl
    · simp [World.frozen?, w1]
  have hcall := sort_keys blk 0 cap d w hH hblk (by omega)
  rw [hds] at hcall
  refine hcall.mono ?_
  rintro e w' ⟨rfl, d', n, os, hperm, hsort, rfl⟩
  obtain ⟨hps, _, hpp⟩ := hperm
  have hd's : d'.size = xs.length := by rw [hps, hds]
  have hpp : d'.toList.Perm d.toList := by
    have e1 : d'.extract 0 xs.length = d' := by rw [← hd's]; simp
    have e2 : d.extract 0 xs.length = d := by rw [← hds]; simp
    rw [e1, e2] at hpp
    exact hpp
  have hxs : d.toList = xs := by rw [hd]
  have hzp : d'.toList.Perm xs := by rwa [hxs] at hpp
  have hzl : d'.toList.length = xs.length := hzp.length_eq
  have hzn : d'.toList.Nodup := hzp.nodup_iff.2 hnd
  have hzs : d'.toList.Pairwise befK := by
    rw [List.pairwise_iff_getElem]
    intro i j hi hj hij
    simp only [Array.length_toList] at hi hj
    have h1 := hsort i j (Nat.zero_le _) hij (by omega)
    have h2 : d'.toList[i]'(by simpa using hi) ≠ d'.toList[j]'(by simpa using hj) := (List.pairwise_iff_getElem.1 hzn) i j (by simpa using hi) (by simpa using hj) hij
    have e1 : d'.toList[i]'(by simpa using hi) = d'[i]! := by simp [hi]
    have e2 : d'.toList[j]'(by simpa using hj) = d'[j]! := by simp [hj]
    rw [e1, e2] at h2 ⊢
    unfold ltOf at h1
    generalize d'[i]! = a at h1 h2 ⊢
    generalize d'[j]! = b at h1 h2 ⊢
    simp only [decide_eq_false_iff_not, cmpP_neg] at h1
    unfold befK
    by_cases h3 : a.1 = b.1
    · have h4 : a.2 ≠ b.2 := fun h4 => h2 (Prod.ext h3 h4)
      omega
    · omega
  have hys : d'.toList = ys := sorted_unique _ _ hzs hs fun x => by rw [hzp.mem_iff, hp x]
  have hyl : ys.length = xs.length := by rw [← hys, hzl]
  have hyget : ∀ i (hi : i < ys.length), d'[i]! = ys[i] := fun i hi => by
    have h1 : i < d'.size := by omega
    have : d'.toList[i]? = some ys[i] := by rw [hys]; simp
    simp [h1] at this
    rw [← this]; simp [h1]
  obtain ⟨w', hw'⟩ : ∃ w', sortWorldK encK 2 w blk 0 n d' os = w' := ⟨_, rfl⟩
  rw [hw']
  have hheap : w'.heap = (w.heap.modify blk (onCells (putCells id 0 (flatK encK 2 d')))) ++ os := by rw [← hw']; rfl
  have hsz : w'.heap.size = w.heap.size + os.size := by rw [hheap]; simp
  have hold : ∀ b, b < w.heap.size → b ≠ blk → w'.heap[b]? = w.heap[b]? := fun b h1 h2 => by
    rw [hheap, Array.getElem?_append_left (by simpa using h1), Array.getElem?_modify, if_neg (fun e => h2 e.symm)]
  have hnew : w'.heap[blk]? = some (.cells (putCells id 0 (flatK encK 2 d') vs) et (0, 0)) := by
    rw [hheap, Array.getElem?_append_left (by simpa using hblk), Array.getElem?_modify, if_pos rfl, w1]; rfl
  have ext : Ext w φ w' φ := fun b o ho => by
    have h1 : b < w.heap.size := by
      rcases Nat.lt_or_ge b w.heap.size with h1 | h1
      · exact h1
      · rw [htop b h1] at ho; omega
    have h2 : b ≠ blk := fun e => by
      have := hA.z (blk, .cells cs) (by simp)
      simp only at this
      rw [e, this] at ho; omega
    exact ⟨ho, World.cell?_of_block (hold b h1 h2), mapAt_of_block (hold b h1 h2)⟩
  refine ⟨φ, .tuple #[], rfl, .tuple [] #[] rfl (fun i v x h => by simp at h), ⟨by simp, fun p hp' => ?_, fun _ _ h => h, fun p hp' => ?_, fun p hp' => ?_⟩, ⟨ext, fun b h1 h2 => ⟨hold b h1 fun e => h2 (by simp [e]), rfl⟩, by omega, by rw [← hw']; rfl, by rw [← hw']; rfl, by rw [← hw']; rfl, fun b hb' => .inl (by simpa using hb'), fun b hb' => htop b (by omega)⟩⟩
  · obtain rfl := List.mem_singleton.1 hp'
    refine ⟨_, et, hnew, ?_, fun j v x hv hx => ?_⟩
    · have e1 : (putCells id 0 (flatK encK 2 d') vs).size = vs.size := by simp [putCells]
      rw [e1, List.length_append, flat_keyA_len, hyl, List.length_drop]; omega
    · rw [List.getElem?_append, flat_keyA_len, hyl] at hv
      unfold putCells at hx
      rw [Array.getElem?_mapIdx] at hx
      simp only [Nat.zero_le, true_and, Nat.zero_add, Nat.sub_zero, size_flatK, hd's, id] at hx
      by_cases hj : j < xs.length * 2
      · rw [if_pos hj] at hv
        have hj2 : j / 2 < ys.length := by omega
        rw [flat_at ys j hj2] at hv
        have hjs : j < vs.size := by omega
        rw [Array.getElem?_eq_getElem hjs] at hx
        simp only [Option.map_some, if_pos hj, Option.some.injEq] at hx hv
        rw [get_flatK _ _ _ _ (by rw [hd's]; exact hj)] at hx
        subst hv hx
        unfold encK
        rw [hyget _ hj2]
        by_cases h : j % 2 = 0
        · rw [if_pos h, h]; exact ⟨.int _ _, rfl⟩
        · have h1 : j % 2 = 1 := by omega
          rw [if_neg h, h1]; exact ⟨.int _ _, rfl⟩
      · rw [if_neg hj, List.getElem?_drop] at hv
        have e : xs.length * 2 + (j - xs.length * 2) = j := by omega
        rw [e] at hv
        cases hvj : vs[j]? with
        | none => rw [hvj] at hx; simp at hx
        | some z =>
          rw [hvj] at hx
          simp only [Option.map_some, if_neg hj, Option.some.injEq] at hx
          subst hx
          have := w3 j v z hv hvj
          exact ⟨this.1.mono ext, this.2⟩
  · obtain rfl := List.mem_singleton.1 hp'
    simp only; omega
  · obtain rfl := List.mem_singleton.1 hp'
    exact hA.z (blk, .cells cs) (by simp)

end Go.Proofs.YtggifklgpdladaaGreat


/-! The tape: the frames of a rack, in order. -/
set_option linter.unusedVariables false
set_option linter.unusedSimpArgs false
set_option maxRecDepth 40000
set_option maxHeartbeats 4000000
namespace Go.Proofs.YtggifklgpdladaaGreat
open Go.Am
attribute [local simp] cells scalar mkv splice under2 under dem dem1
def cmpF : V := .func (.func 54) [] []

theorem c_Len64_0 : C Tryz.prog F.math_bits_Len64 [.int .u64 0] (I 0) := by
  refine C_of mixed chk.math_bits_Len64 (by simp) fun S ok => ?_
  refine Tr.seqR rfl (by simp) (Tr.seq (Tr.seqR rfl (by simp) (Tr.condF rfl (Tr.skip ?_))))
  refine Tr.seq (Tr.seqR rfl (by simp) (Tr.condF rfl (Tr.skip ?_)))
  refine Tr.seq (Tr.seqR rfl (by simp) (Tr.condF rfl (Tr.skip ?_)))
  refine Tr.seq (Tr.reg (Steps.runN 3 rfl (by simp) (Steps.stridx (j := 0) rfl rfl (by simp) (Steps.fin rfl (by simp) ?_))))
  exact Tr.retX rfl rfl rfl rfl trivial

theorem c_Len_0 : C Tryz.prog F.math_bits_Len [.int .u64 0] (I 0) := by
  refine C_of mixed chk.math_bits_Len (by simp) fun S ok => ?_
  refine Tr.seqR rfl (by simp) (Tr.seq (Tr.condF rfl (Tr.skip ?_)))
  refine Tr.seqC rfl (by simp) (Steps.call rfl rfl c_Len64_0 (Steps.fin rfl (by simp) ?_))
  exact Tr.retX rfl rfl rfl rfl trivial

theorem c_insertion_nil : C Tryz.prog F.slices_insertionSortCmpFunc_tape_key [.nils, I 0, I 0, cmpF] (.tuple []) := by
  refine C_of mixed chk.slices_insertionSortCmpFunc_tape_key (by simp) fun S ok => ?_
  refine Tr.seqR rfl (by simp) (Tr.block ?_)
  refine Tr.loop (fun (k : Nat) st => st = { env := [(2, I 0), (8, I 1)], bx := [], rw := [], log := [], stp := false }) (fun k => k) 0 (Wk.le (.cons rfl (.refl _) (.cons rfl (.refl _) .nil)) .nil .nil rfl rfl) rfl ?_
  rintro k st rfl
  exact Tr.seq (Tr.seqR rfl (by simp) (Tr.condF rfl (Tr.exit ⟨trivial, _, _, _, resVs_ok rfl, rfl, rfl⟩)))

theorem c_pdq_nil : C Tryz.prog F.slices_pdqsortCmpFunc_tape_key [.nils, I 0, I 0, I 0, cmpF] (.tuple []) := by
  refine C_of mixed chk.slices_pdqsortCmpFunc_tape_key (by simp) fun S ok => ?_
  refine Tr.seqR rfl (by simp) (Tr.seqR rfl (by simp) (Tr.block ?_))
  refine Tr.loop (fun (k : Nat) st => st = { env := [(0, .nils), (1, I 0), (2, I 0), (4, cmpF)], bx := [], rw := [], log := [], stp := false }) (fun k => k) 0 (Wk.le (.cons rfl (.refl _) (.cons rfl (.refl _) (.cons rfl (.refl _) (.cons rfl (.refl _) .nil)))) .nil .nil rfl rfl) rfl ?_
  rintro k st rfl
  refine Tr.block (Tr.seqR rfl (by simp) (Tr.seq (Tr.seqR rfl (by simp) (Tr.condT rfl ?_))))
  refine Tr.seqC rfl (by simp) (Steps.call rfl rfl c_insertion_nil (Steps.fin rfl (by simp) ?_))
  exact Tr.ret ⟨trivial, _, _, _, resVs_ok rfl, rfl, rfl⟩

theorem c_sort_nil : C Tryz.prog F.slices_SortFunc_tape_key_tape_key [.nils, cmpF] (.tuple []) := by
  refine C_of mixed chk.slices_SortFunc_tape_key_tape_key (by simp) fun S ok => ?_
  refine Tr.seqR rfl (by simp) (Tr.reg (Steps.run rfl (by simp) (Steps.call rfl rfl c_Len_0 (Steps.run rfl (by simp) (Steps.call rfl rfl c_pdq_nil (Steps.fin rfl (by simp) ?_))))))
  exact ⟨trivial, _, _, _, resVs_ok rfl, rfl, rfl⟩

/-- The keys in order. -/
theorem c_Sorted {ks ys : List (Int × Int)} {vs : List V} (hkn : ks.Nodup) (hn : ks.length ≤ 100000) (hp : ∀ x, x ∈ ys ↔ x ∈ ks) (hs : ys.Pairwise befK) :
    C Tryz.prog F.slices_SortedFunc_tape_key [.func (.func 93) [] [.vptr [.mpd ks vs] 0], cmpF] (.slice 0 2 (ys.map keyA)) := by
  have k1 := cx_Collect (vs := vs) hkn hn
  have hyn : ys.Nodup := by unfold List.Nodup; exact hs.imp fun {a b} h (e : a = b) => befK_irrefl (by rw [e] at h; exact h)
  refine C_of mixed chk.slices_SortedFunc_tape_key (by simp) fun S ok => ?_
  refine Tr.arena rfl rfl ?_
  have hA := InA.main (E := env0 Tryz.prog mixed 12 S ok) [] false
  refine Tr.seqR rfl (by simp) (Tr.seq (Tr.reg (Steps.runN 1 rfl (by simp) ?_)))
  refine Steps.callX (F := []) hA rfl rfl rfl k1 (.inl (by simp)) (fun r B hB => ?_)
  obtain ⟨xs, ⟨hxn, hxp⟩, hO⟩ := hB
  refine Steps.fin rfl (by simp) ?_
  have hyx : ∀ x, x ∈ ys ↔ x ∈ xs := fun x => by rw [hp, hxp]
  have hyl : ys.length = xs.length := Nat.le_antisymm (hyn.length_le_of_subset fun x hx => (hyx x).1 hx) (hxn.length_le_of_subset fun x hx => (hyx x).2 hx)
  have hxl : xs.length ≤ 100000 := Nat.le_trans (hxn.length_le_of_subset fun x hx => (hxp x).1 hx) hn
  rcases hO with ⟨h1, h2, h3⟩ | ⟨blk, cap, cs, h1, h2, h3, h4, h5⟩
  · subst h1 h2 h3
    have : ys = [] := by simpa using hyl
    subst this
    refine Tr.seqC rfl (by simp) (Steps.call rfl rfl c_sort_nil (Steps.fin rfl (by simp) ?_))
    refine Tr.seqR rfl (by simp) ?_
    refine Tr.weak (s' := { env := [(4, .slice 0 2 [])], bx := [], rw := [], log := encA [], stp := false }) (Wk.le (.cons rfl (.nil 0 2) .nil) .nil .nil rfl rfl) ?_
    exact Tr.ret ⟨trivial, _, _, _, resVs_ok rfl, rfl, rfl⟩
  · subst h1 h2
    have ksort := ca_sortK (blk := blk) (cap := cap) (xs := xs) (ys := ys) (cs := cs) h5 (by rw [h3]; omega) hxl hxn hyx hs
    refine Tr.seq (Tr.reg (Steps.run rfl (by simp) ?_))
    refine Steps.callA (F := []) hA rfl rfl rfl ksort (.inl (by simp)) (Steps.fin rfl (by simp) ?_)
    refine Tr.seqR rfl (by simp) ?_
    refine Tr.weak (s' := { env := [(4, .sref blk 0 (ys.map keyA).length cap)], bx := [], rw := [], log := encA [(blk, .cells ((ys.map keyA).flatMap cells ++ cs.drop (xs.length * 2)))], stp := false }) (Wk.le (.cons rfl (.of_eq ?_) .nil) .nil .nil rfl rfl) ?_
    · rw [List.length_map, hyl]
    refine Tr.weak (Wk.close hA (t := 4) (sz := 2) rfl rfl (by simp; rfl) (by omega) (by rw [List.length_map, hyl]; exact h4) (fun x hx => by obtain ⟨c, _, rfl⟩ := List.mem_map.1 hx; rfl) ?_) ?_
    · rw [List.length_map, ← flat_keyA_len, List.take_left]
    exact Tr.ret ⟨trivial, _, _, _, resVs_ok rfl, rfl, rfl⟩

def framesV (gs : List Fm) : V := .slice 0 3 (gs.map fun f => .agg (fmC f))

/-- The frames in order. -/
theorem c_frames {fs gs : List Fm} (hok : ∀ f ∈ fs, fmOk f) (hkn : (keysF fs).Nodup) (hn : fs.length ≤ 128) (hp : ∀ f, f ∈ gs ↔ f ∈ fs) (hs : (keysF gs).Pairwise befK) (hl : gs.length ≤ 128) :
    C Tryz.prog F.tape_rack_frames [.mpd (keysF fs) (valsF fs)] (.tuple [framesV gs, .bool true]) := by
  have hm : pairOk Tryz.prog 68 = true := by kernel_rfl
  have hin : ∀ q ∈ keysF fs, inI q.1 ∧ inI q.2 := fun q hq => by
    obtain ⟨g, hg, rfl⟩ := List.mem_map.1 hq
    exact keyI_in (hok g hg)
  have ksl : (keysF fs).length ≤ 128 := by unfold keysF; simpa using hn
  have ks1 := c_Sorted (ks := keysF fs) (ys := keysF gs) (vs := valsF fs) hkn (by omega) (fun x => by
    unfold keysF
    simp only [List.mem_map]
    exact ⟨fun ⟨f, h1, h2⟩ => ⟨f, (hp f).1 h1, h2⟩, fun ⟨f, h1, h2⟩ => ⟨f, (hp f).2 h1, h2⟩⟩) hs
  refine C_of mixed chk.tape_rack_frames (by simp) fun S ok => ?_
  refine Tr.seqR rfl (by simp) (Tr.seq (Tr.seq (Tr.reg (Steps.runN 1 rfl (by simp) (Steps.mlen rfl (Steps.fin rfl (by simp) ?_))))))
  refine Tr.condF (congrArg (fun b => some (V.bool b)) (show decide (((keysF fs).length : Int) > 128) = false from decide_eq_false (by omega))) (Tr.skip ?_)
  refine Tr.seqR rfl (by simp) (Tr.seq (Tr.seq (Tr.reg (Steps.runN 1 rfl (by simp) (Steps.call rfl rfl (c_Keys _ _) (Steps.call rfl rfl ks1 (Steps.fin rfl (by simp) (Tr.block ?_))))))))
  refine Tr.loop (fun (k : Nat) st => k ≤ gs.length ∧ st = { env := [(0, .mpd (keysF fs) (valsF fs)), (4, .slice 29 3 ((gs.take k).map fun f => .agg (fmC f))), (12, .slice 0 2 ((keysF gs).map keyA)), (13, I (gs.length : Nat)), (14, I (k : Nat))], bx := [], rw := [(28, k, 3, 39)], log := [], stp := false }) (fun k => gs.length - k) 0
    (Wk.le (.cons rfl (.refl _) (.cons rfl (.nil 29 3) (.cons rfl (.refl _) (.cons rfl (VLe.i (by simp [keysF])) (.cons rfl (.refl _) .nil))))) .nil (.new rfl .nil) rfl rfl) ⟨by omega, rfl⟩ ?_
  rintro k st ⟨hk, rfl⟩
  refine Tr.seqR rfl (by simp) (Tr.seqI rfl (fun h1 => ?_) (fun h1 => ?_))
  rotate_left
  · have h1 : k = gs.length := by simp at h1; omega
    subst h1
    rw [List.take_length]
    refine Tr.exit (Tr.seqR rfl (by simp) (Tr.weak (s' := { env := [(2, framesV gs), (3, .bool true)], bx := [], rw := [], log := [], stp := false }) (Wk.le (.cons rfl (.dem _ _ _) (.cons rfl (.refl _) .nil)) .nil .nil rfl rfl) (Tr.retX rfl rfl rfl rfl trivial)))
  have h1 : k < gs.length := by simpa using h1
  obtain ⟨f, hf⟩ : ∃ f, gs[k] = f := ⟨_, rfl⟩
  have hff : f ∈ fs := (hp f).1 (hf ▸ List.getElem_mem h1)
  obtain ⟨j, hj, hjf⟩ := List.getElem_of_mem hff
  have hkj : (keysF fs)[j]? = some (keyI f) := by unfold keysF; simp [hj, hjf]
  have hvj : (valsF fs)[j]? = some (intsT f.s) := by unfold valsF; simp [hj, hjf]
  have hkk : k < (keysF gs).length := by unfold keysF; simpa using h1
  have hkg : (keysF gs)[k] = keyI f := by
    have : (keysF gs)[k]? = some (keyI f) := by unfold keysF; rw [List.getElem?_map, List.getElem?_eq_getElem h1, hf]; rfl
    rw [List.getElem?_eq_getElem hkk] at this
    exact Option.some.inj this
  refine Tr.skipT (Tr.seq (Tr.block (Tr.seq (Tr.reg (Steps.runN 1 rfl (by simp; omega) ?_)))))
  rw [getD_map hkk, hkg]
  refine Steps.fin rfl (by simp [keyA, I]) ?_
  refine Tr.drawK (TraceK.runN 7 rfl (by simp [keyA, I]) ?_)
  refine TraceK.mhit hm (k := keyI f) rfl hin hkn hkj hvj ?_
  refine TraceK.run rfl (by simp [keyA, I, intsT]; omega) (.done ⟨by kernel_rfl, by kernel_rfl, ?_⟩)
  refine Steps.fin rfl (by simp) (Tr.regR rfl (by simp) ?_)
  refine ⟨k + 1, _, Wk.le (.cons rfl (.refl _) (.cons rfl (.of_eq ?_) (.cons rfl (.refl _) (.cons rfl (.refl _) (.cons rfl (VLe.i (w64 (by omega) (by omega))) .nil))))) .nil (.cons ?_ .nil) rfl rfl, ⟨h1, rfl⟩, by omega⟩
  · rw [List.take_add_one, List.getElem?_eq_getElem h1, hf, List.map_append]; rfl
  · show some _ = some _
    simp; omega

end Go.Proofs.YtggifklgpdladaaGreat


/-! The tape: copies are repaired. -/
set_option linter.unusedVariables false
set_option linter.unusedSimpArgs false
set_option maxRecDepth 40000
set_option maxHeartbeats 4000000
namespace Go.Proofs.YtggifklgpdladaaGreat
open Go.Am
attribute [local simp] cells scalar mkv splice under2 under dem dem1
def lineL : List UInt8 := [108, 105, 110, 101]

theorem c_IsName : C Tryz.prog F.region_IsName [strV lineL] (.bool true) := by
  refine C_of mixed chk.region_IsName (by simp) fun S ok => ?_
  refine Tr.seqR rfl (by simp) (Tr.seq (Tr.seqR rfl (by simp) (Tr.block ?_)))
  refine Tr.loop (fun (k : Nat) st => k ≤ 4 ∧ st = { env := [(0, strV lineL), (7, I 4), (8, I (k : Nat))], bx := [], rw := [], log := [], stp := false }) (fun k => 4 - k) 0
    (Wk.le (.cons rfl (.refl _) (.cons rfl (.refl _) (.cons rfl (.refl _) .nil))) .nil .nil rfl rfl) ⟨by omega, rfl⟩ ?_
  rintro k st ⟨hk, rfl⟩
  have hc : k = 0 ∨ k = 1 ∨ k = 2 ∨ k = 3 ∨ k = 4 := by omega
  rcases hc with rfl | rfl | rfl | rfl | rfl
  · refine Tr.seqR rfl (by simp) (Tr.seq (Tr.condT rfl (Tr.skip ?_)))
    refine Tr.seq (Tr.block (Tr.seqR rfl (by simp) (Tr.seq (Tr.reg (Steps.runN 2 rfl (by simp) (Steps.stridx (l := lineL) (j := 0) rfl rfl (by simp [lineL]) (Steps.fin rfl (by simp) ?_)))))))
    refine Tr.seqR rfl (by simp [lineL]) ?_
    refine Tr.seqR rfl (by simp [lineL]) (Tr.condF rfl (Tr.skip (Tr.regR rfl (by simp) ?_)))
    exact ⟨1, _, Wk.le (.cons rfl (.refl _) (.cons rfl (.refl _) (.cons rfl (.refl _) .nil))) .nil .nil rfl rfl, ⟨by omega, rfl⟩, by omega⟩
  · refine Tr.seqR rfl (by simp) (Tr.seq (Tr.condT rfl (Tr.skip ?_)))
    refine Tr.seq (Tr.block (Tr.seqR rfl (by simp) (Tr.seq (Tr.reg (Steps.runN 2 rfl (by simp) (Steps.stridx (l := lineL) (j := 1) rfl rfl (by simp [lineL]) (Steps.fin rfl (by simp) ?_)))))))
    refine Tr.seqR rfl (by simp [lineL]) ?_
    refine Tr.seqR rfl (by simp [lineL]) (Tr.condF rfl (Tr.skip (Tr.regR rfl (by simp) ?_)))
    exact ⟨2, _, Wk.le (.cons rfl (.refl _) (.cons rfl (.refl _) (.cons rfl (.refl _) .nil))) .nil .nil rfl rfl, ⟨by omega, rfl⟩, by omega⟩
  · refine Tr.seqR rfl (by simp) (Tr.seq (Tr.condT rfl (Tr.skip ?_)))
    refine Tr.seq (Tr.block (Tr.seqR rfl (by simp) (Tr.seq (Tr.reg (Steps.runN 2 rfl (by simp) (Steps.stridx (l := lineL) (j := 2) rfl rfl (by simp [lineL]) (Steps.fin rfl (by simp) ?_)))))))
    refine Tr.seqR rfl (by simp [lineL]) ?_
    refine Tr.seqR rfl (by simp [lineL]) (Tr.condF rfl (Tr.skip (Tr.regR rfl (by simp) ?_)))
    exact ⟨3, _, Wk.le (.cons rfl (.refl _) (.cons rfl (.refl _) (.cons rfl (.refl _) .nil))) .nil .nil rfl rfl, ⟨by omega, rfl⟩, by omega⟩
  · refine Tr.seqR rfl (by simp) (Tr.seq (Tr.condT rfl (Tr.skip ?_)))
    refine Tr.seq (Tr.block (Tr.seqR rfl (by simp) (Tr.seq (Tr.reg (Steps.runN 2 rfl (by simp) (Steps.stridx (l := lineL) (j := 3) rfl rfl (by simp [lineL]) (Steps.fin rfl (by simp) ?_)))))))
    refine Tr.seqR rfl (by simp [lineL]) ?_
    refine Tr.seqR rfl (by simp [lineL]) (Tr.condF rfl (Tr.skip (Tr.regR rfl (by simp) ?_)))
    exact ⟨4, _, Wk.le (.cons rfl (.refl _) (.cons rfl (.refl _) (.cons rfl (.refl _) .nil))) .nil .nil rfl rfl, ⟨by omega, rfl⟩, by omega⟩
  · refine Tr.seqR rfl (by simp) (Tr.seq (Tr.condF rfl (Tr.exit ?_)))
    refine Tr.seqC rfl (by simp) (Steps.call rfl rfl (c_rwithin 4 1 16) (Steps.fin rfl (by simp) ?_))
    exact Tr.retX rfl rfl rfl rfl trivial

def strsV (l : List (List UInt8)) : V := .slice 0 1 (l.map strV)

theorem c_long {s : List UInt8} (h : s.length ≤ 65536) : C Tryz.prog F.tape_Repair_1 [strV s] (.bool false) := by
  have hsz : (⟨s.toArray⟩ : ByteArray).size = s.length := by simp [ByteArray.size]
  refine C_of mixed chk.tape_Repair_1 (by simp) fun S ok => ?_
  refine Tr.seqR rfl (by simp) (Tr.seqR rfl (by simp [strV]) (Tr.retX rfl rfl rfl ?_ trivial))
  show V.bool false = V.bool (decide (((⟨s.toArray⟩ : ByteArray).size : Int) > 65536))
  rw [hsz, decide_eq_false (by omega)]

theorem c_indexS {l : List (List UInt8)} (hl : l.length ≤ 1000) (h : ∀ s ∈ l, s.length ≤ 65536) : C Tryz.prog F.slices_IndexFunc_string_string [strsV l, .func (.func 19) [] []] (I (-1)) := by
  refine C_of mixed chk.slices_IndexFunc_string_string (by simp) fun S ok => ?_
  refine Tr.seqR rfl (by simp) (Tr.seq (Tr.seqR rfl (by simp) (Tr.block ?_)))
  refine Tr.loop (fun (k : Nat) st => k ≤ l.length ∧ st = { env := [(0, strsV l), (1, .func (.func 19) [] []), (7, I (l.length : Nat)), (8, I (k : Nat))], bx := [], rw := [], log := [], stp := false }) (fun k => l.length - k) 0
    (Wk.le (.cons rfl (.refl _) (.cons rfl (.refl _) (.cons rfl (VLe.i (by simp)) (.cons rfl (.refl _) .nil)))) .nil .nil rfl rfl) ⟨by omega, rfl⟩ ?_
  rintro k st ⟨hk, rfl⟩
  refine Tr.seqR rfl (by simp) (Tr.seqI rfl (fun h1 => ?_) (fun h1 => ?_))
  rotate_left
  · exact Tr.exit (Tr.seqR rfl (by simp) (Tr.retX rfl rfl rfl rfl trivial))
  have h1 : k < l.length := by simpa using h1
  refine Tr.skipT (Tr.seq (Tr.block (Tr.seqR rfl (by simp) (Tr.seq (Tr.reg (Steps.runN 4 rfl (by simp; omega) ?_))))))
  rw [getD_map h1]
  refine Steps.run rfl (by simp [strV]) (Steps.callv rfl rfl (c_long (h _ (List.getElem_mem h1))) (Steps.fin rfl (by simp) (Tr.condF rfl (Tr.skip (Tr.regR rfl (by simp) ?_)))))
  exact ⟨k + 1, _, Wk.le (.cons rfl (.refl _) (.cons rfl (.refl _) (.cons rfl (.refl _) (.cons rfl (VLe.i (w64 (by omega) (by omega))) .nil)))) .nil .nil rfl rfl, ⟨h1, rfl⟩, by omega⟩

theorem c_containsS {l : List (List UInt8)} (hl : l.length ≤ 1000) (h : ∀ s ∈ l, s.length ≤ 65536) : C Tryz.prog F.slices_ContainsFunc_string_string [strsV l, .func (.func 19) [] []] (.bool false) := by
  refine C_of mixed chk.slices_ContainsFunc_string_string (by simp) fun S ok => ?_
  exact Tr.seqR rfl (by simp) (Tr.seqC rfl (by simp) (Steps.call rfl rfl (c_indexS hl h) (Steps.fin rfl (by simp) (Tr.retX rfl rfl rfl rfl trivial))))

/-- Two copies are repaired. -/
theorem c_Repair {f0 f1 gs : List Fm} (h0 : (tapeL f0).length ≤ 65536) (h1 : (tapeL f1).length ≤ 65536) (hok : ∀ f ∈ f0 ++ f1, fmOk f) (hkn : (keysF (f0 ++ f1)).Nodup) (hn : (f0 ++ f1).length ≤ 128) (hp : ∀ f, f ∈ gs ↔ f ∈ f0 ++ f1) (hs : (keysF gs).Pairwise befK) (hl : gs.length ≤ 128) :
    C Tryz.prog F.tape_Repair [strV lineL, strsV [tapeL f0, tapeL f1]] (.tuple [.agg [strV lineL, framesV gs], I 0]) := by
  have kf := c_frames hok hkn hn hp hs hl
  have hk0 : (keysF f0).Nodup := by
    unfold keysF at hkn ⊢
    rw [List.map_append, List.nodup_append] at hkn
    exact hkn.1
  have hin0 : ∀ q ∈ keysF f0, inI q.1 ∧ inI q.2 := fun q hq => by
    obtain ⟨g, hg, rfl⟩ := List.mem_map.1 hq
    exact keyI_in (hok g (List.mem_append.2 (.inl hg)))
  refine C_of mixed chk.tape_Repair (by simp) fun S ok => ?_
  refine Tr.arena rfl rfl ?_
  have hA := InA.main (E := env0 Tryz.prog mixed 45 S ok) [] false
  refine Tr.seqR rfl (by simp) (Tr.seq (Tr.seqC rfl (by simp) (Steps.call rfl rfl c_IsName (Steps.fin rfl (by simp) (Tr.condF rfl (Tr.skip ?_))))))
  refine Tr.seq (Tr.seqC rfl (by simp [strsV]) (Steps.gcall rfl rfl rfl rfl (by simp) (fun _ => c_containsS (l := [tapeL f0, tapeL f1]) (by simp) (by simp [h0, h1])) (Steps.fin rfl (by simp) (Tr.condF rfl (Tr.skip ?_)))))
  refine Tr.seq (Tr.reg (Steps.mmk hA rfl fun mb _ => Steps.fin rfl (by simp) ?_))
  refine Tr.seq (Tr.seqR rfl (by simp) (Tr.block ?_))
  refine Tr.loop (fun (k : Nat) st => k ≤ 2 ∧ st = { env := [(0, strV lineL), (4, .ptr 4 0), (6, .rmap mb), (24, strsV [tapeL f0, tapeL f1]), (25, I 2), (26, I (k : Nat))], bx := [(4, ⟨[.str ⟨#[]⟩, .nils], false⟩)], rw := [], log := encA (if k = 0 then [(mb, .mapd [] [])] else if k = 1 then [(mb, .mapd (keysF f0) (valsF f0))] else [(mb, .mapd (keysF (f0 ++ f1)) (valsF (f0 ++ f1)))]), stp := false }) (fun k => 2 - k) 0
    (Wk.le (.cons rfl (.refl _) (.cons rfl (.refl _) (.cons rfl (.refl _) (.cons rfl (.refl _) (.cons rfl (.refl _) (.cons rfl (.refl _) .nil)))))) (.cons rfl (LLe.refl _) .nil) .nil rfl rfl) ⟨by omega, rfl⟩ ?_
  rintro k st ⟨hk, rfl⟩
  have hc : k = 0 ∨ k = 1 ∨ k = 2 := by omega
  rcases hc with rfl | rfl | rfl
  · have kw := ca_whole (mb := mb) (ks := []) (vs := []) (fs := f0) h0 (fun f hf => hok f (List.mem_append.2 (.inl hf))) (by simp) (by simpa using hk0)
    simp only [List.nil_append] at kw
    refine Tr.seqR rfl (by simp) (Tr.seq (Tr.condT rfl (Tr.skip ?_)))
    refine Tr.seq (Tr.block (Tr.seqR rfl (by simp [strV]) (Tr.reg (Steps.run rfl (by simp) ?_))))
    refine Steps.callA hA (F := []) rfl rfl rfl kw (.inl (by simp)) (Steps.fin rfl (by simp) (Tr.regR rfl (by simp) ?_))
    exact ⟨1, _, Wk.le (.cons rfl (.refl _) (.cons rfl (.refl _) (.cons rfl (.refl _) (.cons rfl (.refl _) (.cons rfl (.refl _) (.cons rfl (.refl _) .nil)))))) (.cons rfl (LLe.refl _) .nil) .nil rfl rfl, ⟨by omega, rfl⟩, by omega⟩
  · have kw := ca_whole (mb := mb) (ks := keysF f0) (vs := valsF f0) (fs := f1) h1 (fun f hf => hok f (List.mem_append.2 (.inr hf))) hin0 (by unfold keysF at hkn ⊢; rwa [List.map_append] at hkn)
    have e1 : keysF f0 ++ keysF f1 = keysF (f0 ++ f1) := by unfold keysF; rw [List.map_append]
    have e2 : valsF f0 ++ valsF f1 = valsF (f0 ++ f1) := by unfold valsF; rw [List.map_append]
    rw [e1, e2] at kw
    refine Tr.seqR rfl (by simp) (Tr.seq (Tr.condT rfl (Tr.skip ?_)))
    refine Tr.seq (Tr.block (Tr.seqR rfl (by simp [strV]) (Tr.reg (Steps.run rfl (by simp) ?_))))
    refine Steps.callA hA (F := []) rfl rfl rfl kw (.inl (by simp)) (Steps.fin rfl (by simp) (Tr.regR rfl (by simp) ?_))
    exact ⟨2, _, Wk.le (.cons rfl (.refl _) (.cons rfl (.refl _) (.cons rfl (.refl _) (.cons rfl (.refl _) (.cons rfl (.refl _) (.cons rfl (.refl _) .nil)))))) (.cons rfl (LLe.refl _) .nil) .nil rfl rfl, ⟨by omega, rfl⟩, by omega⟩
  · refine Tr.seqR rfl (by simp) (Tr.seq (Tr.condF rfl (Tr.exit ?_)))
    refine Tr.weak (Wk.closeM hA (t := 6) (mb := mb) (ks := keysF (f0 ++ f1)) (vs := valsF (f0 ++ f1)) rfl rfl (List.mem_cons_self)) ?_
    refine Tr.seqC rfl (by simp) (Steps.call rfl rfl kf (Steps.fin rfl (by simp) ?_))
    refine Tr.seq (Tr.seqR rfl (by simp) (Tr.condF rfl (Tr.skip ?_)))
    refine Tr.seqR rfl (by simp [framesV, strV]) ?_
    exact Tr.ret ⟨trivial, _, _, _, resVs_ok rfl, rfl, rfl⟩

end Go.Proofs.YtggifklgpdladaaGreat


/-! AM: bytes as a string, in a drawn region. -/
set_option linter.unusedVariables false
set_option linter.unusedSimpArgs false
namespace Go.Am
open Go.RowKit

section
variable {E : Env}

theorem does_toStr {σ : FSt} {d t u e r : Nat} {x : X} {bs : List UInt8} (h1 : E.P.underlying t = some (.slice e)) (h2 : E.P.underlying e = some (.int .u8)) (h3 : E.P.underlying u = some .string) (hx : [x].mapM (evX σ) = some [.slice r 1 (bs.map byteV)]) :
    Does E σ ⟨some d, .raw 5 t u, [x], none⟩ { v := .str ⟨bs.toArray⟩ } (xslots [x]) := by
  refine .ext rfl hx fun o os log stp σ' a w h ho' R hO => ?_
  obtain ⟨p, ho, rfl⟩ := opK_raw5 ho'
  obtain ⟨v, hv, o1⟩ := hO.one
  simp only [List.cons.injEq, and_true] at hv
  subst hv
  have rr := ok_slice o1
  refine ⟨.string ⟨bs.toArray⟩, ?_, .data (.str _), GrowV.of_data (w0 := w) (φ0 := h.φ) (.str _)⟩
  generalize hz : a.eval p = z at rr
  have hrun : (convert t u z).run E.P w = .ok (.string ⟨bs.toArray⟩) w := by
    rcases slice_at rr with ⟨⟨ad, cap, rfl⟩, e0⟩ | ⟨blk, off, cap, cv, rfl, hpos, _, hys, ay⟩
    · obtain rfl : bs = [] := by simpa using e0
      cases ad with
      | none => exact Go.Lib.run_convert_nil_bytes w t u e cap h1 h2 h3
      | some ad => exact run_convert_bytes_back (P := E.P) w t u e ad cap [] h1 h2 h3 (fun j hj => by simp at hj)
    · have hb := run_convert_bytes_back (P := E.P) w t u e ⟨blk, off, none⟩ cap bs h1 h2 h3 (fun j hj => by
        have hfl : ((bs.map byteV).flatMap cells)[j]? = some (byteV bs[j]) := by
          rw [flat_bytes bs]; simp [hj]
        obtain ⟨_, k2, k3, _⟩ := ay j _ hfl
        rw [Addr.add_lit, k2]
        have : cv j = .int .u8 (bs[j].toNat : Int) := by
          exact rep_int (.data k3 : Rep w h.φ h.β h.y.l _ _)
        rw [this])
      rw [List.length_map]
      exact hb
  simp only [execOp, ho, hz, Sem.run_bind, hrun]; rfl

theorem TraceK.toStr {s : St} {K : List (List Loc × List Loc) → St → List Ins → Prop} {d t u e r : Nat} {x : X} {bs : List UInt8} {rest : List Ins} (h1 : E.P.underlying t = some (.slice e)) (h2 : E.P.underlying e = some (.int .u8)) (h3 : E.P.underlying u = some .string) (hx : evXs s.env [x] = some [.slice r 1 (bs.map byteV)])
    (tr : TraceK E (s.put (some d) (.str ⟨bs.toArray⟩)) rest fun fp s' r' => K (([.slot d], xslots [x]) :: fp) s' r') : TraceK E s (⟨some d, .raw 5 t u, [x], none⟩ :: rest) K :=
  .step (ins := ⟨some d, .raw 5 t u, [x], none⟩) (eff := { v := .str ⟨bs.toArray⟩ }) (does_toStr h1 h2 h3 (evXs_ok hx)) tr

end
end Go.Am


/-! The tape: a frame is packed. -/
set_option linter.unusedVariables false
set_option linter.unusedSimpArgs false
set_option maxRecDepth 40000
set_option maxHeartbeats 4000000
namespace Go.Proofs.YtggifklgpdladaaGreat
open Go.Am
attribute [local simp] cells scalar mkv splice under2 under dem dem1
def codesN : Int → List Int → List Nat
  | _, [] => []
  | last, n :: l => codeN last n :: codesN n l

theorem codesN_at : ∀ (l : List Int) (last : Int) (k : Nat) (h : k < l.length), (codesN last l)[k]? = some (codeN (lastF last (l.take k)) l[k])
  | n :: l, last, 0, h => rfl
  | n :: l, last, k + 1, h => codesN_at l n k (by simpa using h)
theorem codesN_len : ∀ (l : List Int) (last : Int), (codesN last l).length = l.length
  | [], _ => rfl
  | n :: l, last => by simp [codesN, codesN_len l n]
theorem encF_codes : ∀ (l : List Int) (last : Int), encF last l = (codesN last l).flatMap varL
  | [], _ => rfl
  | n :: l, last => by simp [encF, codesN, encF_codes l n]
def logC (l : List Nat) : List (List V) := l.map fun c => [I (c : Nat)]

theorem i_codes {l : List Int} (hl : l.length ≤ 64) (hk : ∀ n ∈ l, knownB n = true) : Iter Tryz.prog F.tape_codes_1 [.vptr [intsT l] 0] (logC (codesN 0 l)) := by
  refine Iter_of mixed chk.tape_codes_1 (by simp) fun S ok => ?_
  refine Tr.seqR rfl (by simp) (Tr.seqR rfl (by simp [intsT]) (Tr.block ?_))
  refine Tr.loop (fun (k : Nat) st => k ≤ l.length ∧ st = { env := [(0, .yld), (3, I (lastF 0 (l.take k))), (8, intsT l), (9, I (l.length : Nat)), (10, I (k : Nat))], bx := [], rw := [], log := logC ((codesN 0 l).take k), stp := false }) (fun k => l.length - k) 0
    (Wk.le (.cons rfl (.refl _) (.cons rfl (.refl _) (.cons rfl (.refl _) (.cons rfl (VLe.i (by simp)) (.cons rfl (.refl _) .nil))))) .nil .nil rfl rfl) ⟨by omega, rfl⟩ ?_
  rintro k st ⟨hk1, rfl⟩
  refine Tr.seqR rfl (by simp) (Tr.seqI rfl (fun h1 => ?_) (fun h1 => ?_))
  rotate_left
  · have h1 : k = l.length := by simp at h1; omega
    subst h1
    refine Tr.exit ⟨.inr ?_, [], [], [], rfl, rfl, rfl⟩
    show logC ((codesN 0 l).take l.length) = _
    rw [List.take_of_length_le (by rw [codesN_len]; omega)]
  have h1 : k < l.length := by simpa using h1
  have hkn := hk _ (List.getElem_mem h1)
  have hla := lastF_known (l.take k) 0 (by decide) fun n hn => hk n (List.mem_of_mem_take hn)
  have htk : l.take (k + 1) = l.take k ++ [l[k]] := by rw [List.take_add_one, List.getElem?_eq_getElem h1]; rfl
  have hsnd : lastF 0 (l.take (k + 1)) = l[k] := by rw [htk]; exact lastF_snoc _ _ _
  have hck := codesN_at l 0 k h1
  obtain ⟨la, hla'⟩ : ∃ la, lastF 0 (l.take k) = la := ⟨_, rfl⟩
  obtain ⟨n, hn'⟩ : ∃ n, l[k] = n := ⟨_, rfl⟩
  rw [hla'] at hla ⊢
  rw [hla', hn'] at hck
  rw [hn'] at hkn
  have b1 := known_bd hla
  have b2 := known_bd hkn
  have kn : C Tryz.prog F.tape_known [I n] (.bool true) := hkn ▸ c_knownT n
  have hck1 : (codesN 0 l).take (k + 1) = (codesN 0 l).take k ++ [codeN la n] := by rw [List.take_add_one, hck]; rfl
  refine Tr.skipT (Tr.seq (Tr.block (Tr.seq (Tr.reg (Steps.runN 1 rfl (by simp; omega) ?_)))))
  rw [getD_map h1, hn']
  refine Steps.fin rfl (by simp [I]) (Tr.seqR rfl (by simp) ?_)
  refine Tr.meet { env := [(0, .yld), (3, I n), (6, I (codeN la n : Nat)), (8, intsT l), (9, I (l.length : Nat)), (10, I (k : Nat))], bx := [], rw := [], log := logC ((codesN 0 l).take k), stp := false } ?_ ?_
  · refine Tr.block (Tr.seqR rfl (by simp) (Tr.condF (congrArg (fun b => some (V.bool b)) (show (n == (40001 : Int)) = false by rw [beq_eq_false_iff_ne]; omega)) ?_))
    refine Tr.seqC rfl (by simp) (Steps.call rfl rfl kn (Steps.fin rfl (by simp) (Tr.condT rfl ?_)))
    refine Tr.seqR rfl (by simp) (Tr.seqR rfl (by simp) ?_)
    have ed : IntKind.wrap .i64 (n - la) = n - la := w64 (by omega) (by omega)
    by_cases hd : n - la < 0
    · refine Tr.seq (Tr.seqR rfl (by simp) (Tr.condT (congrArg (fun b => some (V.bool b)) (show decide (IntKind.wrap .i64 (n - la) < 0) = true by rw [ed]; exact decide_eq_true hd)) (Tr.regR rfl (by simp) (Tr.regR rfl (by simp) ?_))))
      refine Wk.le (.cons rfl (.refl _) (.cons rfl (.refl _) (.cons rfl (VLe.i ?_) (.cons rfl (.refl _) (.cons rfl (.refl _) (.cons rfl (.refl _) .nil)))))) .nil .nil rfl rfl
      show IntKind.wrap .i64 (1 - IntKind.wrap .i64 (2 * IntKind.wrap .i64 (n - la))) = (codeN la n : Nat)
      rw [ed, w64 (n := 2 * (n - la)) (by omega) (by omega), w64 (by omega) (by omega)]
      unfold codeN; rw [if_pos hd]; omega
    · refine Tr.seq (Tr.seqR rfl (by simp) (Tr.condF (congrArg (fun b => some (V.bool b)) (show decide (IntKind.wrap .i64 (n - la) < 0) = false by rw [ed]; exact decide_eq_false hd)) (Tr.skip (Tr.regR rfl (by simp) ?_))))
      refine Wk.le (.cons rfl (.refl _) (.cons rfl (.refl _) (.cons rfl (VLe.i ?_) (.cons rfl (.refl _) (.cons rfl (.refl _) (.cons rfl (.refl _) .nil)))))) .nil .nil rfl rfl
      show IntKind.wrap .i64 (IntKind.wrap .i64 (2 * IntKind.wrap .i64 (n - la)) + 2) = (codeN la n : Nat)
      rw [ed, w64 (n := 2 * (n - la)) (by omega) (by omega), w64 (by omega) (by omega)]
      unfold codeN; rw [if_neg hd]; omega
  · have hpre : List.IsPrefix (logC ((codesN 0 l).take k) ++ [[I (codeN la n : Nat)]]) (logC (codesN 0 l)) := by
      have e : logC ((codesN 0 l).take (k + 1)) = logC ((codesN 0 l).take k) ++ [[I (codeN la n : Nat)]] := by rw [hck1]; simp [logC]
      rw [← e]
      exact ⟨logC ((codesN 0 l).drop (k + 1)), by unfold logC; rw [← List.map_append, List.take_append_drop]⟩
    refine Tr.seqC rfl (by simp) (Steps.yield rfl (by simp) rfl hpre rfl (fun b => Steps.fin rfl (by simp) ?_))
    cases b with
    | false => exact Tr.condT rfl (Tr.ret ⟨.inl rfl, [], [], [], rfl, rfl, rfl⟩)
    | true =>
      refine Tr.condF rfl (Tr.skip (Tr.regR rfl (by simp) ?_))
      refine ⟨k + 1, _, Wk.leL (.cons rfl (.refl _) (.cons rfl (VLe.i ?_) (.cons rfl (.refl _) (.cons rfl (.refl _) (.cons rfl (VLe.i (w64 (by omega) (by omega))) .nil))))) .nil .nil rfl rfl ?_, ⟨h1, rfl⟩, by omega⟩
      · rw [hsnd, hn']
      · show logC ((codesN 0 l).take k) ++ [[I (codeN la n : Nat)]] = _
        rw [hck1]; simp [logC]

theorem c_codes (l : List Int) : C Tryz.prog F.tape_codes [intsT l] (.func (.func 82) [] [.vptr [intsT l] 0]) := by
  refine C_of mixed chk.tape_codes (by simp) fun S ok => ?_
  exact Tr.seqR rfl (by simp [intsT]) (Tr.seqR rfl (by simp) (Tr.retX rfl rfl rfl rfl trivial))

theorem varF_len : ∀ (f m : Nat), (varF f m).length ≤ f + 1
  | 0, _ => by simp [varF]
  | f + 1, m => by
    simp only [varF]
    split
    · simp
    · have := varF_len f (m / 128)
      simp; omega
theorem enc_len : ∀ (cs : List Nat), (cs.flatMap varL).length ≤ 3 * cs.length
  | [] => by simp
  | c :: cs => by
    have h1 := varF_len 2 c
    have h2 := enc_len cs
    rw [List.flatMap_cons, List.length_append]
    unfold varL at *
    simp only [List.length_cons]; omega

theorem wu8 {n : Nat} (h : n < 256) : IntKind.wrap .u8 (n : Int) = ((UInt8.ofNat n).toNat : Int) := by
  rw [u8_of h]
  exact IntWalk.u8_in _ ⟨by omega, by omega⟩

/-- Where the packing of a code stands. -/
structure PackSt where
  f : Nat
  m : Nat
  out : List UInt8

theorem c_packed {f : Fm} (hf : fmOk f) : C Tryz.prog F.tape_packed [.agg (fmC f)] (bysV (frameL f)) := by
  obtain ⟨h1, h2, ⟨h3, h4⟩, h5⟩ := hf
  refine C_of mixed chk.tape_packed (by simp) fun S ok => ?_
  refine Tr.seqR rfl (by simp [fmC, intsT, I]) ?_
  refine Tr.seq (Tr.reg (Steps.run rfl (by simp [fmC, intsT, I]) (Steps.call rfl rfl (c_two (n := f.shot) (by omega)) (Steps.fin rfl (by simp [bysV, twoL, byV]) ?_))))
  refine Tr.seqR rfl (by simp [fmC, intsT, I, twoL]) ?_
  refine Tr.seq (Tr.seq (Tr.reg (Steps.run rfl (by simp [fmC, intsT, I]) (Steps.call rfl rfl (c_codes f.s) (Steps.fin rfl (by simp) (Tr.block ?_))))))
  obtain ⟨hd, hhd⟩ : ∃ hd, [0xa5, 0x5a] ++ twoL f.shot ++ [UInt8.ofNat f.ch, UInt8.ofNat f.s.length] = hd := ⟨_, rfl⟩
  have hdl : hd.length = 6 := by rw [← hhd]; simp [twoL]
  refine Tr.weak (s' := { env := [(1, .ptr 1 0), (3, .ptr 3 0), (22, .func (.func 82) [] [.vptr [intsT f.s] 0])], bx := [(1, ⟨fmC f, false⟩), (3, ⟨[.slice 6 1 (hd.map byV)], false⟩)], rw := [(5, 6, 1, 5)], log := [], stp := false })
    (Wk.le (.cons rfl (.refl _) (.cons rfl (.refl _) (.cons rfl (.refl _) .nil))) (.cons rfl (LLe.refl _) (.cons rfl (.cons (.of_eq ?_) .nil) .nil)) (.cons rfl .nil) rfl rfl) ?_
  · rw [← hhd]
    show V.slice 6 1 (([V.int .u8 165, V.int .u8 90] ++ (twoL f.shot).map byV) ++ [V.int .u8 (IntKind.wrap .u8 ((f.ch : Nat) : Int)), V.int .u8 (IntKind.wrap .u8 (((f.s.map I).length : Nat) : Int))]) = _
    rw [List.length_map, wu8 (by omega), wu8 (by omega), List.map_append, List.map_append]
    rfl
  obtain ⟨cs, hcs⟩ : ∃ cs, codesN 0 f.s = cs := ⟨_, rfl⟩
  have hcl : cs.length ≤ 64 := by rw [← hcs, codesN_len]; exact h4
  have hcb : ∀ c ∈ cs, c < 2097152 := by
    rw [← hcs]
    intro c hc
    obtain ⟨k, hk, rfl⟩ := List.getElem_of_mem hc
    rw [codesN_len] at hk
    have e := codesN_at f.s 0 k hk
    rw [List.getElem?_eq_getElem (by rw [codesN_len]; exact hk)] at e
    have e := Option.some.inj e
    rw [e]
    have b1 := known_bd (lastF_known (f.s.take k) 0 (by decide) fun n hn => h5 n (List.mem_of_mem_take hn))
    have b2 := known_bd (h5 _ (List.getElem_mem hk))
    unfold codeN; split <;> omega
  have hi := i_codes h4 h5
  rw [hcs] at hi
  refine Tr.range rfl rfl hi rfl rfl rfl (by intro x hx; obtain ⟨b, _, rfl⟩ := List.mem_map.1 hx; rfl)
    (fun pre t => ∃ k, k ≤ cs.length ∧ pre = logC (cs.take k) ∧ t.bx = [(1, ⟨fmC f, false⟩), (3, ⟨[.slice 6 1 ((hd ++ (cs.take k).flatMap varL).map byV)], false⟩)] ∧ t.rw = [(5, (hd ++ (cs.take k).flatMap varL).length, 1, 5)] ∧ t.log = [])
    (fun _ _ => False) ⟨0, by omega, rfl, by simp, by simp [hdl], rfl⟩ ?_ ?_ ?_
  · rintro a0 L0 rc0 h0 S1 S2 ok1 ok2 pre q t lp hpre ⟨k, hk, rfl, hbx, hrw, hlog⟩ henv hstp
    obtain ⟨env, bx, rw, log, stp⟩ := t
    simp only at hbx hrw hlog henv hstp
    subst hbx hrw hlog henv hstp
    have hmx : ∃ hkl : k < cs.length, q = [I (cs[k] : Nat)] := by
      have h1 : (logC (cs.take k)).length = k := by simp [logC]; omega
      have h2 := hpre.length_le
      simp [logC] at h2
      have hml : k < cs.length := by omega
      refine ⟨hml, ?_⟩
      have h3 := List.IsPrefix.getElem hpre (i := k) (by simp [logC]; omega)
      rw [List.getElem_append_right (by omega)] at h3
      simp [logC] at h3
      rw [h3]
    obtain ⟨hkl, rfl⟩ := hmx
    have hck : cs.take (k + 1) = cs.take k ++ [cs[k]] := by rw [List.take_add_one, List.getElem?_eq_getElem hkl]; rfl
    obtain ⟨c, hc⟩ : ∃ c, cs[k] = c := ⟨_, rfl⟩
    have hcc : c < 2097152 := hc ▸ hcb _ (List.getElem_mem hkl)
    obtain ⟨acc, hacc⟩ : ∃ acc, hd ++ (cs.take k).flatMap varL = acc := ⟨_, rfl⟩
    have hal : acc.length ≤ 198 := by
      have := enc_len (cs.take k)
      rw [← hacc, List.length_append, hdl]
      simp at this ⊢; omega
    have hnx : hd ++ (cs.take (k + 1)).flatMap varL = acc ++ varL c := by
      rw [hck, hc, List.flatMap_append, ← List.append_assoc, hacc]; simp
    rw [hc, hacc]
    refine Tr.regR rfl (by simp) (Tr.block (Tr.seq (Tr.block ?_)))
    refine Tr.loop (α := PackSt) (fun p st => ((p.f ≤ 2 ∧ p.m < 128 ^ (p.f + 1)) ∧ p.out ++ varF p.f p.m = acc ++ varL c) ∧ st = { env := [(3, .ptr 3 0), (4, I (p.m : Nat))], bx := [(1, ⟨fmC f, false⟩), (3, ⟨[.slice 6 1 (p.out.map byV)], false⟩)], rw := [(5, p.out.length, 1, 5)], log := [], stp := false }) (fun p => p.f) ⟨2, c, acc⟩
      (Wk.le (.cons rfl (.refl _) (.cons rfl (.refl _) .nil)) (.cons rfl (LLe.refl _) (.cons rfl (LLe.refl _) .nil)) (.cons rfl .nil) rfl rfl) ⟨⟨⟨Nat.le_refl _, by simpa using hcc⟩, rfl⟩, rfl⟩ ?_
    rintro ⟨g, m, out⟩ st ⟨⟨⟨hg, hm⟩, hout⟩, rfl⟩
    simp only at hg hm hout
    have hol : out.length ≤ 201 := by
      have e := congrArg List.length hout
      have := varF_len 2 c
      unfold varL at e
      simp only [List.length_append] at e; omega
    have hm3 : m < 2097152 := Nat.lt_of_lt_of_le hm (Nat.le_trans (Nat.pow_le_pow_right (by omega) (show g + 1 ≤ 3 by omega)) (by decide))
    by_cases h0 : m < 128
    · rw [varF_small h0] at hout
      refine Tr.seq (Tr.seqR rfl (by simp) (Tr.condF (congrArg (fun b => some (V.bool b)) (show decide ((m : Int) ≥ 128) = false from decide_eq_false (by omega))) (Tr.exit ?_)))
      refine Tr.regR rfl (by simp; omega) ?_
      refine ⟨{ env := [], bx := [(1, ⟨fmC f, false⟩), (3, ⟨[.slice 6 1 ((hd ++ (cs.take (k + 1)).flatMap varL).map byV)], false⟩)], rw := [(5, (hd ++ (cs.take (k + 1)).flatMap varL).length, 1, 5)], log := [], stp := false }, Wk.le .nil (.cons rfl (LLe.refl _) (.cons rfl (.cons (.of_eq ?_) .nil) .nil)) (.cons ?_ .nil) rfl rfl, ⟨k + 1, hkl, ?_, rfl, rfl, rfl⟩, rfl⟩
      · rw [hnx, ← hout, List.map_append]
        show V.slice 6 1 (out.map byV ++ [V.int .u8 (IntKind.wrap .u8 (m : Int))]) = _
        rw [wu8 (by omega)]
        rfl
      · show some _ = some _
        rw [hnx, ← hout]
        simp
      · rw [hck, hc]; simp [logC]
    · cases g with
      | zero => exfalso; simp at hm; omega
      | succ g =>
        have hv : varF (g + 1) m = UInt8.ofNat (m % 128 + 128) :: varF g (m / 128) := by simp [varF, h0]
        rw [hv] at hout
        refine Tr.seq (Tr.seqR rfl (by simp) (Tr.condT (congrArg (fun b => some (V.bool b)) (show decide ((m : Int) ≥ 128) = true from decide_eq_true (by omega))) (Tr.skip ?_)))
        refine Tr.block (Tr.seqR rfl (by simp; omega) (Tr.regR rfl (by simp) ?_))
        refine ⟨⟨g, m / 128, out ++ [UInt8.ofNat (m % 128 + 128)]⟩, _, Wk.le (.cons rfl (.refl _) (.cons rfl (VLe.i ?_) .nil)) (.cons rfl (LLe.refl _) (.cons rfl (.cons (.of_eq ?_) .nil) .nil)) (.cons ?_ .nil) rfl rfl, ⟨⟨⟨by simp only; omega, ?_⟩, by simp only; rw [← hout]; simp⟩, rfl⟩, by simp only; omega⟩
        · show IntKind.wrap .i64 ((m : Int).tdiv 128) = ((m / 128 : Nat) : Int)
          rw [Int.tdiv_eq_ediv_of_nonneg (by omega), w64 (by omega) (by omega)]; omega
        · show V.slice 6 1 (out.map byV ++ [V.int .u8 (IntKind.wrap .u8 (IntKind.wrap .i64 ((m : Int).tmod 128 + 128)))]) = _
          rw [List.map_append, Int.tmod_eq_emod_of_nonneg (by omega), w64 (by omega) (by omega), show ((m : Int) % 128 + 128) = ((m % 128 + 128 : Nat) : Int) by omega, wu8 (by omega)]
          rfl
        · show some _ = some _
          simp
        · simp only
          rw [Nat.div_lt_iff_lt_mul (by omega)]
          rw [Nat.pow_succ] at hm; exact hm
  · rintro ⟨env, bx, rw, log, stp⟩ henv hstp ⟨k, hk, hpre, hbx, hrw, hlog⟩
    simp only at hbx hrw hlog henv hstp
    subst hbx hrw hlog henv hstp
    have hml : k = cs.length := by
      have := congrArg List.length hpre
      simp [logC] at this; omega
    subst hml
    rw [List.take_length]
    have hb : hd ++ cs.flatMap varL = bodyL f := by
      unfold bodyL
      rw [encF_codes, hcs, ← hhd]
    rw [hb]
    have hbl : (bodyL f).length ≤ 198 := by
      have := enc_len cs
      rw [← hb, List.length_append, hdl]; omega
    have hcr : crcN (bodyL f) < 65536 := crcN_lt _
    refine Tr.seq (Tr.drawK (TraceK.runN 2 rfl (by simp) ?_))
    refine TraceK.toStr (t := 63) (u := 9) (e := 5) (bs := bodyL f) Tryz.underlying63 Tryz.underlying5 Tryz.underlying9 rfl ?_
    refine TraceK.call rfl rfl (c_Crc (by omega)) (TraceK.call rfl rfl (c_two hcr) (.done ⟨by kernel_rfl, by kernel_rfl, ?_⟩))
    refine Steps.fin rfl (by simp [bysV, twoL]; omega) ?_
    refine Tr.weak (s' := { env := [(2, .slice 0 1 ((bodyL f).map byV ++ (twoL (crcN (bodyL f))).map byV))], bx := [], rw := [], log := [], stp := false }) (Wk.le (.cons rfl (.dem _ _ _) .nil) .nil .nil rfl rfl) ?_
    rw [← List.map_append]
    exact Tr.ret ⟨trivial, _, _, _, resVs_ok rfl, rfl, rfl⟩
  · intro e t _ h
    exact h.elim

theorem c_PackFrame {f : Fm} (hf : fmOk f) : C Tryz.prog F.tape_PackFrame [.agg (fmC f)] (.tuple [strV (frameL f), I 0]) := by
  have k1 := c_CheckFrameT hf
  have k2 := c_packed hf
  refine C_of mixed chk.tape_PackFrame (by simp) fun S ok => ?_
  refine Tr.seqR rfl (by simp [fmC, intsT, I]) ?_
  refine Tr.seq (Tr.seqC rfl (by simp [fmC, intsT, I]) (Steps.call rfl rfl k1 (Steps.fin rfl (by simp) ?_)))
  refine Tr.seqR rfl (by simp) (Tr.condF rfl (Tr.skip ?_))
  refine Tr.seq (Tr.reg (Steps.run rfl (by simp [fmC, intsT, I]) (Steps.call rfl rfl k2 ?_)))
  refine Steps.toStr (bs := frameL f) Tryz.underlying63 Tryz.underlying5 Tryz.underlying9 rfl (Steps.fin rfl (by simp) ?_)
  exact Tr.retX rfl rfl rfl rfl trivial

end Go.Proofs.YtggifklgpdladaaGreat


/-! Contracts: sections. -/
set_option linter.unusedVariables false
set_option linter.unusedSimpArgs false
set_option maxRecDepth 20000
namespace Go.Proofs.YtggifklgpdladaaGreat
open Go.Am
attribute [local simp] cells scalar mkv splice under2 under dem dem1
def secV (l : List (List Int)) : V := .slice 0 1 (l.map intsV)

/-- How many values each column has. -/
def deepOf (l : List (List Int)) : Nat := (l.headD []).length
def evenL (l : List (List Int)) : Bool := l.all fun c => c.length == deepOf l
def numsOk (most : Int) (l : List (List Int)) : Bool := l.all fun c => c.all fun n => btw n (-most) most

theorem any_not {α : Type} (p : α → Bool) (l : List α) : (l.any fun x => !p x) = !(l.all p) := by
  induction l with
  | nil => rfl
  | cons a r ih => simp only [List.any_cons, List.all_cons, ih, Bool.not_and]

/-- Lengths that columns may have. -/
def saneS (l : List (List Int)) : Prop := l.length ≤ 9223372036854775807 ∧ ∀ c ∈ l, c.length ≤ 9223372036854775807

theorem c_shapeOf1 (l : List (List Int)) (c : List Int) (h0 : 0 < l.length) : C Tryz.prog F.volume_shapeOf_1 ([intsV c] ++ [.vptr [secV l] 0]) (.bool (!(c.length == deepOf l))) := by
  refine C_of mixed chk.volume_shapeOf_1 (by simp) fun S ok => ?_
  refine Tr.seqR rfl (by simp) ?_
  refine Tr.seqN 4 rfl (by simp [intsV, secV]; omega) ?_
  rw [show (0 : Int) = ((0 : Nat) : Int) from rfl, getD_map h0]
  refine Steps.fin rfl (by simp [intsV]) (Tr.retQ rfl rfl ?_ trivial)
  have e : deepOf l = l[0].length := by cases l with | nil => simp at h0 | cons a r => rfl
  show V.bool _ = V.bool (((c.map I).length : Int) != ((l[0].map I).length : Int))
  rw [e]
  simp only [List.length_map, V.bool.injEq]
  rw [Bool.eq_iff_iff]
  simp
  omega

def shapeR (l : List (List Int)) : V := .tuple [.agg [I l.length, I (deepOf l)], .bool (decide (0 < l.length) && evenL l)]

theorem c_shapeOf {l : List (List Int)} (hl : saneS l) : C Tryz.prog F.volume_shapeOf [secV l] (shapeR l) := by
  refine C_of mixed chk.volume_shapeOf (by simp) fun S ok => ?_
  refine Tr.seqR rfl (by simp [secV]) ?_
  refine Tr.seq (Tr.seqR rfl (by simp [secV]) (Tr.cond rfl rfl (fun h1 => Tr.seqR rfl (by simp) (Tr.retX rfl rfl rfl ?_ trivial)) (fun h1 => Tr.skip ?_)))
  · have h1 : l = [] := by simpa [secV] using h1
    subst h1; rfl
  · have h1 : l ≠ [] := by simpa [secV] using h1
    have h0 : 0 < l.length := List.length_pos_iff.2 h1
    refine Tr.seqC rfl (by simp [secV]) (Steps.call rfl rfl (c_containsL1 hl.1 fun c _ => c_shapeOf1 l c h0) (Steps.fin rfl (by simp [secV]) ?_))
    refine Tr.seq (Tr.drawK (TraceK.runN 4 rfl (by simp [secV]; omega) ?_))
    rw [show (0 : Int) = ((0 : Nat) : Int) from rfl, getD_map h0]
    refine TraceK.run rfl (by simp [intsV]) (.done ⟨by kernel_rfl, by kernel_rfl, ?_⟩)
    refine Tr.retX rfl rfl rfl ?_ trivial
    have e : deepOf l = l[0].length := by cases l with | nil => simp at h0 | cons a r => rfl
    have e2 : (l.any fun c => !(c.length == deepOf l)) = !evenL l := any_not _ l
    simp [packR, shapeR, secV, intsV, e2, ← e, h0]

theorem c_numbers11 (n most : Int) (hm : 0 ≤ most ∧ most ≤ 100000000000000) : C Tryz.prog F.volume_numbers_1_1 ([I n] ++ [.vptr [I most] 0]) (.bool (!btw n (-most) most)) := by
  refine C_of mixed chk.volume_numbers_1_1 (by simp) fun S ok => ?_
  refine Tr.seqR rfl (by simp) (Tr.seqC rfl (by simp) (Steps.call rfl rfl (c_within _ _ _) (Steps.fin rfl (by simp) (Tr.retQ rfl rfl ?_ trivial))))
  rw [w64 (n := 0 - most) (by omega) (by omega), Int.zero_sub]; rfl

theorem c_numbers1 (c : List Int) (most : Int) (hm : 0 ≤ most ∧ most ≤ 100000000000000) (hc : c.length ≤ 9223372036854775807) : C Tryz.prog F.volume_numbers_1 ([intsV c] ++ [.vptr [I most] 0]) (.bool (!(c.all fun n => btw n (-most) most))) := by
  refine C_of mixed chk.volume_numbers_1 (by simp) fun S ok => ?_
  refine Tr.seqR rfl (by simp) (Tr.seqC rfl (by simp) (Steps.call rfl rfl (c_containsI1 hc fun b _ => c_numbers11 b most hm) (Steps.fin rfl (by simp) (Tr.retQ rfl rfl ?_ trivial))))
  rw [← any_not]; rfl

theorem c_numbers {l : List (List Int)} (hl : saneS l) (most : Int) (hm : 0 ≤ most ∧ most ≤ 100000000000000) : C Tryz.prog F.volume_numbers [secV l, I most] (.bool (numsOk most l)) := by
  refine C_of mixed chk.volume_numbers (by simp) fun S ok => ?_
  refine Tr.seqR rfl (by simp) (Tr.seqC rfl (by simp [secV]) (Steps.call rfl rfl (c_containsL1 hl.1 fun c hc => c_numbers1 c most hm (hl.2 c hc)) (Steps.fin rfl (by simp) (Tr.retQ rfl rfl ?_ trivial))))
  have e : (l.any fun c => !(c.all fun n => btw n (-most) most)) = !numsOk most l := any_not _ l
  simp [packR, e]

def secOk (l : List (List Int)) : Bool := evenL l && btw l.length 1 16 && btw (deepOf l) 1 32 && numsOk 1099511627776 l

def secC (l : List (List Int)) (slope : Int) : List V := [I l.length, I (deepOf l), secV l, I slope]

def secErr (e : Int) : V := .tuple [.agg [I 0, I 0, .nils, I 0], I e]
def secR (l : List (List Int)) (slope : Int) : V :=
  if secOk l then (if btw slope 0 32 then .tuple [.agg (secC l slope), I 0] else secErr 7) else secErr 105

theorem c_sectionOf {l : List (List Int)} (hl : saneS l) (slope : Int) : C Tryz.prog F.volume_sectionOf [secV l, I slope] (secR l slope) := by
  refine C_of mixed chk.volume_sectionOf (by simp) fun S ok => ?_
  refine Tr.seqR rfl (by simp) (Tr.seqC rfl (by simp) (Steps.call rfl rfl (c_shapeOf hl) (Steps.fin rfl (by simp [shapeR]) ?_)))
  refine Tr.seq (Tr.seqC rfl (by simp [shapeR]) (Steps.gcall rfl rfl rfl rfl (by simp) (fun _ => c_within _ _ _) (Steps.run rfl (by simp) ?_)))
  refine Steps.gcall rfl rfl rfl rfl (by simp) (fun _ => c_within _ _ _) (Steps.run rfl (by simp [secV]) ?_)
  refine Steps.gcall rfl rfl rfl rfl (by simp [secV]) (fun _ => c_numbers hl 1099511627776 (by omega)) (Steps.fin rfl (by simp) ?_)
  have hc : ∀ c : Bool, (bif (bif (bif (!(decide (0 < l.length) && evenL l)) then true else !btw l.length 1 16) then true else !btw (deepOf l) 1 32) then true else !numsOk 1099511627776 l) = c → c = !secOk l := by
    rintro c rfl
    unfold secOk
    by_cases h : 0 < l.length
    · cases evenL l <;> cases btw l.length 1 16 <;> cases btw (deepOf l) 1 32 <;> cases numsOk 1099511627776 l <;> simp [h]
    · have : btw l.length 1 16 = false := by simp [btw]; omega
      simp [this, h]
  refine Tr.cond rfl rfl (fun h1 => Tr.seqR rfl (by simp) (Tr.retX rfl rfl rfl ?_ trivial)) (fun h1 => Tr.skip ?_)
  · have h2 := not_of (hc true h1)
    simp at h2
    simp [packR, secR, h2, secErr]
  · have h2 := not_of (hc false h1)
    simp at h2
    refine Tr.seq (Tr.seqC rfl (by simp) (Steps.call rfl rfl (c_within _ _ _) (Steps.fin rfl (by simp) (Tr.cond rfl rfl (fun h3 => Tr.seqR rfl (by simp) (Tr.retX rfl rfl rfl ?_ trivial)) (fun h3 => Tr.skip ?_)))))
    · have h3 : btw slope 0 32 = false := by simpa using h3
      simp [packR, secR, h2, h3, secErr]
    · have h3 : btw slope 0 32 = true := by simpa using h3
      refine Tr.seqR rfl (by simp [secV]) (Tr.retX rfl rfl rfl ?_ trivial)
      simp [packR, secR, h2, h3, secC, secV]

/-- The places of the next column, by their indices. -/
def nextN (n deep sl c i : Nat) : List Nat := if c + 1 = n then [] else List.range' (i - sl) (min (deep - 1) (i + sl) + 1 - (i - sl))

def spotV (c : Nat) (q : Nat) : List V := [.agg [I ((c + 1 : Nat) : Int), I q]]

theorem c_next (l : List (List Int)) (slope c i : Int) : C Tryz.prog F.volume_section_next [.agg (secC l slope), .agg [I c, I i]] (.func (.func F.volume_section_next_1) [] [.vptr [I c, I i] 0, .vptr (secC l slope) 0]) := by
  refine C_of mixed chk.volume_section_next (by simp) fun S ok => ?_
  exact Tr.seqR rfl (by simp [secC, secV]) (Tr.seqR rfl (by simp) (Tr.retQ rfl rfl rfl trivial))

theorem i_next (l : List (List Int)) (sl c i : Nat) (h1 : l.length ≤ 16) (h2 : 1 ≤ deepOf l ∧ deepOf l ≤ 32) (h3 : sl ≤ 32) (h4 : c < l.length) (h5 : i < deepOf l) :
    Iter Tryz.prog F.volume_section_next_1 [.vptr [I c, I i] 0, .vptr (secC l sl) 0] ((nextN l.length (deepOf l) sl c i).map (spotV c)) := by
  refine Iter_of mixed chk.volume_section_next_1 (by simp) fun S ok => ?_
  have w1 : IntKind.i64.wrap ((c : Int) + 1) = ((c + 1 : Nat) : Int) := by rw [w64 (by omega) (by omega)]; omega
  refine Tr.seq (Tr.seqR rfl (by simp [secC]) (Tr.cond rfl rfl (fun e1 => ?_) (fun e1 => Tr.skip ?_)))
  · have e1 : (IntKind.i64.wrap ((c : Int) + 1) == (l.length : Int)) = true := e1
    rw [w1] at e1
    have e1 : c + 1 = l.length := by simp at e1; omega
    exact Tr.ret ⟨.inr (show ([] : List (List V)) = _ by simp [nextN, e1]), [], [], [], rfl, rfl, rfl⟩
  have e1 : (IntKind.i64.wrap ((c : Int) + 1) == (l.length : Int)) = false := e1
  rw [w1] at e1
  have e1 : c + 1 ≠ l.length := by simp at e1; omega
  have hL : nextN l.length (deepOf l) sl c i = List.range' (i - sl) (min (deepOf l - 1) (i + sl) + 1 - (i - sl)) := if_neg e1
  refine Tr.seqR rfl (by simp [secC]) (Tr.block ?_)
  refine Tr.loop (fun k s => (k ≤ min (deepOf l - 1) (i + sl) + 1 - (i - sl)) ∧ s = { env := [(0, .yld), (1, .vptr [I c, I i] 0), (2, .vptr (secC l sl) 0), (4, I ((i - sl + k : Nat) : Int))], bx := [], rw := [], log := ((List.range' (i - sl) k).map (spotV c)), stp := false }) (fun k => min (deepOf l - 1) (i + sl) + 1 - (i - sl) - k) 0
    (Wk.le (.cons rfl (.refl _) (.cons rfl (.refl _) (.cons rfl (.refl _) (.cons rfl (VLe.i ?_) .nil)))) .nil .nil rfl rfl) ⟨by omega, rfl⟩ ?_
  · simp only [cond_true]
    rw [w64 (by omega) (by omega), ite_max]; omega
  rintro k s ⟨hk, rfl⟩
  have hcnd : ∀ b : Bool, decide (((i - sl + k : Nat) : Int) ≤ bif false then (if IntKind.i64.wrap ((i : Int) + sl) > IntKind.i64.wrap ((deepOf l : Int) - 1) then IntKind.i64.wrap ((i : Int) + sl) else IntKind.i64.wrap ((deepOf l : Int) - 1)) else (if IntKind.i64.wrap ((i : Int) + sl) < IntKind.i64.wrap ((deepOf l : Int) - 1) then IntKind.i64.wrap ((i : Int) + sl) else IntKind.i64.wrap ((deepOf l : Int) - 1))) = b → (b = true ↔ k < min (deepOf l - 1) (i + sl) + 1 - (i - sl)) := by
    rintro b rfl
    rw [decide_eq_true_iff, cond_false, w64 (n := (i : Int) + sl) (by omega) (by omega), w64 (n := (deepOf l : Int) - 1) (by omega) (by omega), ite_min]
    omega
  refine Tr.seq (Tr.seqR rfl (by simp [secC]) (Tr.cond rfl rfl (fun e2 => ?_) (fun e2 => ?_)))
  · have e2 := (hcnd true e2).1 rfl
    have hlog : (List.range' (i - sl) (k + 1)).map (spotV c) = (List.range' (i - sl) k).map (spotV c) ++ [spotV c (i - sl + k)] := by
      rw [List.range'_1_concat, List.map_append]; rfl
    have hp : List.IsPrefix ((List.range' (i - sl) k).map (spotV c) ++ [[.agg [I (IntKind.i64.wrap ((c : Int) + 1)), I ((i - sl + k : Nat) : Int)]]]) ((nextN l.length (deepOf l) sl c i).map (spotV c)) := by
      rw [w1, hL]
      have : List.map (spotV c) (List.range' (i - sl) k) ++ [[V.agg [I ((c + 1 : Nat) : Int), I ((i - sl + k : Nat) : Int)]]] = (List.range' (i - sl) (k + 1)).map (spotV c) := hlog.symm
      rw [this]
      refine List.IsPrefix.map _ ?_
      obtain ⟨d, hd⟩ : ∃ d, min (deepOf l - 1) (i + sl) + 1 - (i - sl) = (k + 1) + d := ⟨min (deepOf l - 1) (i + sl) + 1 - (i - sl) - (k + 1), by omega⟩
      rw [hd]
      exact ⟨List.range' (i - sl + (k + 1)) d, by rw [List.range'_append_1]⟩
    refine Tr.skip (Tr.seq (Tr.block (Tr.seqC rfl (by simp) ?_)))
    refine Steps.yield rfl (by simp) rfl hp rfl (fun b => Steps.fin rfl (by simp) ?_)
    refine Tr.cond rfl rfl (fun e4 => ?_) (fun e4 => ?_)
    · exact Tr.ret ⟨.inl e4, [], [], [], rfl, rfl, rfl⟩
    · have hc : b = true := by simpa using e4
      subst hc
      refine Tr.skip (Tr.regR rfl (by simp) ?_)
      refine ⟨k + 1, _, Wk.leL (.cons rfl (.refl _) (.cons rfl (.refl _) (.cons rfl (.refl _) (.cons rfl (VLe.i ?_) .nil)))) .nil .nil rfl rfl ?_, ⟨by omega, rfl⟩, by omega⟩
      · rw [w64 (by omega) (by omega)]; omega
      · show (List.range' (i - sl) k).map (spotV c) ++ [[V.agg [I (IntKind.i64.wrap ((c : Int) + 1)), I ((i - sl + k : Nat) : Int)]]] = _
        rw [w1, hlog]; rfl
  · have e2 := hcnd false e2
    have e3 : k = min (deepOf l - 1) (i + sl) + 1 - (i - sl) := by
      by_cases h : k < min (deepOf l - 1) (i + sl) + 1 - (i - sl)
      · have := e2.2 h; cases this
      · omega
    subst e3
    refine Tr.exit ⟨.inr ?_, [], [], [], rfl, rfl, rfl⟩
    show (List.range' (i - sl) (min (deepOf l - 1) (i + sl) + 1 - (i - sl))).map (spotV c) = _
    rw [hL]

theorem c_Max (l : List Int) (h0 : 0 < l.length) (hl : l.length ≤ 9223372036854775807) : C Tryz.prog F.slices_Max_int_int [intsV l] (I (l.tail.foldl max (l.headD 0))) := by
  refine C_of mixed chk.slices_Max_int_int (by simp) fun S ok => ?_
  refine Tr.seqR rfl (by simp) (Tr.seq (Tr.seqR rfl (by simp [intsV]) (Tr.cond rfl rfl (fun h1 => ?_) (fun h1 => Tr.skip ?_))))
  · simp [intsV] at h1; omega
  refine Tr.seqN 2 rfl (by simp [intsV]; omega) ?_
  rw [show (0 : Int) = ((0 : Nat) : Int) from rfl, getD_map h0]
  refine Steps.fin rfl (by simp) (Tr.seq (Tr.seqR rfl (by simp) (Tr.block ?_)))
  refine Tr.loop (fun k s => (1 ≤ k ∧ k ≤ l.length) ∧ s = { env := [(0, intsV l), (3, I ((l.take k).tail.foldl max (l.headD 0))), (4, I k)], bx := [], rw := [], log := [], stp := false }) (fun k => l.length - k) 1
    (Wk.le (.cons rfl (.refl _) (.cons rfl (VLe.i ?_) (.cons rfl (.refl _) .nil))) .nil .nil rfl rfl) ⟨by omega, rfl⟩ ?_
  · cases l with
    | nil => simp at h0
    | cons a r => rfl
  rintro k s ⟨⟨hk1, hk⟩, rfl⟩
  refine Tr.seq (Tr.seqR rfl (by simp [intsV]) (Tr.cond rfl rfl (fun h2 => ?_) (fun h2 => ?_)))
  · have h2 : k < l.length := by simpa using h2
    refine Tr.skip (Tr.seq (Tr.block (Tr.reg (Steps.runN 4 rfl (by simp [intsV]; omega) ?_))))
    rw [getD_map h2]
    refine Steps.fin rfl (by simp) (Tr.regR rfl (by simp) ?_)
    refine ⟨k + 1, _, Wk.le (.cons rfl (.refl _) (.cons rfl (VLe.i ?_) (.cons rfl (VLe.i (w64 (by omega) (by omega))) .nil))) .nil .nil rfl rfl, ⟨by omega, rfl⟩, by omega⟩
    simp only [cond_true]
    rw [ite_max, List.take_add_one, List.getElem?_eq_getElem h2]
    obtain ⟨a, r, hr⟩ : ∃ a r, l.take k = a :: r := by
      cases hlt : l.take k with
      | nil =>
        have h9 : (l.take k).length = 0 := by rw [hlt]; rfl
        rw [List.length_take] at h9
        omega
      | cons a r => exact ⟨a, r, rfl⟩
    rw [hr]
    simp
  · have h2 : k = l.length := by simp at h2; omega
    subst h2
    refine Tr.exit (Tr.seqR rfl (by simp) (Tr.retX rfl rfl rfl ?_ trivial))
    rw [List.take_length]; rfl

end Go.Proofs.YtggifklgpdladaaGreat


/-! Contracts: what no horizon is worth more than, by potentials. -/
set_option linter.unusedVariables false
set_option linter.unusedSimpArgs false
set_option maxRecDepth 20000
namespace Go.Proofs.YtggifklgpdladaaGreat
open Go.Am
attribute [local simp] cells scalar mkv splice under2 under dem dem1
def at2 (l : List (List Int)) (c i : Nat) : Int := (l.getD c []).getD i 0

theorem at2_eq {l : List (List Int)} {c i : Nat} (hc : c < l.length) (hi : i < l[c].length) : at2 l c i = l[c][i] := by
  simp [at2, List.getElem?_eq_getElem hc, List.getElem?_eq_getElem hi]

def okNext (v b : List (List Int)) (c i q : Nat) : Bool := decide (at2 b c i ≥ at2 v c i + at2 b (c + 1) q)
def okAt (v b : List (List Int)) (sl c i : Nat) : Bool := (decide (c + 1 < v.length) || decide (at2 b c i ≥ at2 v c i)) && (nextN v.length (deepOf v) sl c i).all (okNext v b c i)

def backsOk (v b : List (List Int)) : Bool := decide (0 < b.length) && evenL b && decide (b.length = v.length ∧ deepOf b = deepOf v) && numsOk 70368744177664 b

/-- Up to a column, and within one up to a value. -/
def okCol (v b : List (List Int)) (sl c k : Nat) : Bool := (List.range k).all (okAt v b sl c)
def okTo (v b : List (List Int)) (sl k : Nat) : Bool := (List.range k).all fun c => okCol v b sl c (deepOf v)

def backR (v : List (List Int)) (slope : Int) (b : List (List Int)) : Int × Int :=
  if secOk v then (if btw slope 0 32 then (if backsOk v b && okTo v b slope.toNat v.length then ((b.headD []).tail.foldl max ((b.headD []).headD 0), 0) else (0, 106)) else (0, 7)) else (0, 105)

theorem evenL_spec {l : List (List Int)} (h : evenL l = true) {c : Nat} (hc : c < l.length) : l[c].length = deepOf l := by
  unfold evenL at h
  rw [List.all_eq_true] at h
  simpa using h _ (List.getElem_mem hc)

theorem numsOk_spec {most : Int} {l : List (List Int)} (h : numsOk most l = true) {c i : Nat} (hc : c < l.length) (hi : i < l[c].length) : -most ≤ l[c][i] ∧ l[c][i] ≤ most := by
  unfold numsOk at h
  rw [List.all_eq_true] at h
  have h1 := h _ (List.getElem_mem hc)
  rw [List.all_eq_true] at h1
  have h2 := h1 _ (List.getElem_mem hi)
  simp only [btw, Bool.and_eq_true, decide_eq_true_eq] at h2
  omega

theorem secOk_spec {l : List (List Int)} (h : secOk l = true) : evenL l = true ∧ (1 ≤ l.length ∧ l.length ≤ 16) ∧ (1 ≤ deepOf l ∧ deepOf l ≤ 32) ∧ numsOk 1099511627776 l = true := by
  simp only [secOk, Bool.and_eq_true, btw, decide_eq_true_eq] at h
  obtain ⟨⟨⟨h1, h2⟩, h3⟩, h4⟩ := h
  exact ⟨h1, by omega, by omega, h4⟩

theorem nextN_lt {n d sl c i q : Nat} (hd : 1 ≤ d) (hq : q ∈ nextN n d sl c i) : c + 1 ≠ n ∧ q < d := by
  unfold nextN at hq
  split at hq
  · simp at hq
  · rename_i h
    rw [List.mem_range'_1] at hq
    exact ⟨h, by omega⟩

theorem c_Backed {v b : List (List Int)} (hv : saneS v) (hb : saneS b) (slope : Int) : C Tryz.prog F.volume_Backed [secV v, I slope, secV b] (.tuple [I (backR v slope b).1, I (backR v slope b).2]) := by
  refine C_of mixed chk.volume_Backed (by simp) fun S ok => ?_
  refine Tr.seqR rfl (by simp [secV]) ?_
  by_cases hE : secOk v = true
  rotate_left
  · have hE : secOk v = false := by simpa using hE
    have hr : secR v slope = .tuple [.agg [I 0, I 0, .nils, I 0], I 105] := by simp [secR, hE, secErr]
    refine Tr.seqC rfl (by simp) (Steps.call rfl rfl (hr ▸ c_sectionOf hv slope) (Steps.fin rfl (by simp) ?_))
    refine Tr.seq (Tr.seqR rfl (by simp) (Tr.condT rfl (Tr.seqR rfl (by simp) (Tr.retX rfl rfl rfl ?_ trivial))))
    simp [packR, backR, hE]
  by_cases hS : btw slope 0 32 = true
  rotate_left
  · have hS : btw slope 0 32 = false := by simpa using hS
    have hr : secR v slope = .tuple [.agg [I 0, I 0, .nils, I 0], I 7] := by simp [secR, hE, hS, secErr]
    refine Tr.seqC rfl (by simp) (Steps.call rfl rfl (hr ▸ c_sectionOf hv slope) (Steps.fin rfl (by simp) ?_))
    refine Tr.seq (Tr.seqR rfl (by simp) (Tr.condT rfl (Tr.seqR rfl (by simp) (Tr.retX rfl rfl rfl ?_ trivial))))
    simp [packR, backR, hE, hS]
  obtain ⟨sl, rfl⟩ : ∃ sl : Nat, slope = (sl : Int) := ⟨slope.toNat, by simp [btw] at hS; omega⟩
  have hsl : sl ≤ 32 := by simp [btw] at hS; omega
  obtain ⟨hev, hn, hd, hnum⟩ := secOk_spec hE
  have hr : secR v sl = .tuple [.agg (secC v sl), I 0] := by simp [secR, hE, hS]
  refine Tr.seqC rfl (by simp) (Steps.call rfl rfl (hr ▸ c_sectionOf hv sl) (Steps.fin rfl (by simp [secC, secV]) ?_))
  refine Tr.seq (Tr.seqR rfl (by simp) (Tr.condF rfl (Tr.skip ?_)))
  refine Tr.seqC rfl (by simp [secV]) (Steps.call rfl rfl (c_shapeOf hb) (Steps.fin rfl (by simp [shapeR]) ?_))
  refine Tr.seq (Tr.seqC rfl (by simp [shapeR, secC, secV]) (Steps.gcall rfl rfl rfl rfl (by simp [secV]) (fun _ => c_numbers hb 70368744177664 (by omega)) (Steps.fin rfl (by simp) ?_)))
  have hc : ∀ c : Bool, (bif (bif (!(decide (0 < b.length) && evenL b)) then true else !((b.length : Int) == (v.length : Int) && ((deepOf b : Int) == (deepOf v : Int) && true))) then true else !numsOk 70368744177664 b) = c → c = !backsOk v b := by
    rintro c rfl
    unfold backsOk
    by_cases h1 : b.length = v.length <;> by_cases h2 : deepOf b = deepOf v <;> cases (decide (0 < b.length) && evenL b) <;> cases numsOk 70368744177664 b <;> simp [h1, h2] <;> omega
  refine Tr.cond rfl rfl (fun h1 => Tr.seqR rfl (by simp) (Tr.retX rfl rfl rfl ?_ trivial)) (fun h1 => Tr.skip ?_)
  · have h2 := not_of (hc true h1)
    simp at h2
    simp [packR, backR, hE, hS, h2]
  have h2 := not_of (hc false h1)
  have h2 : backsOk v b = true := by simpa using h2
  have h2' := h2
  simp only [backsOk, Bool.and_eq_true, decide_eq_true_eq] at h2'
  obtain ⟨⟨⟨hb0, hbev⟩, hbn, hbd⟩, hbnum⟩ := h2'
  refine Tr.seq (Tr.seqR rfl (by simp [secC]) (Tr.block ?_))
  refine Tr.loop (fun c s => (c ≤ v.length ∧ okTo v b sl c = true) ∧ s = { env := [(5, .ptr 5 0), (8, .ptr 8 0), (47, I v.length), (48, I c)], bx := [(5, ⟨[secV b], false⟩), (8, ⟨secC v sl, false⟩)], rw := [], log := [], stp := false }) (fun c => v.length - c) 0
    (Wk.le (.cons rfl (.refl _) (.cons rfl (.refl _) (.cons rfl (.refl _) (.cons rfl (.refl _) .nil)))) (.cons rfl (LLe.refl _) (.cons rfl (LLe.refl _) .nil)) .nil rfl rfl) ⟨⟨by omega, rfl⟩, rfl⟩ ?_
  rintro c s ⟨⟨hcl, hok⟩, rfl⟩
  refine Tr.seqR rfl (by simp) (Tr.seqI rfl (fun h3 => ?_) (fun h3 => ?_))
  rotate_left
  · have h3 : c = v.length := by simp at h3; omega
    subst h3
    refine Tr.exit (Tr.seqN 2 rfl (by simp [secV]; omega) ?_)
    rw [show (0 : Int) = ((0 : Nat) : Int) from rfl, getD_map hb0]
    have hl0 : 0 < b[0].length := by rw [evenL_spec hbev hb0]; omega
    refine Steps.run rfl (by simp [intsV]) (Steps.call rfl rfl (c_Max b[0] hl0 (hb.2 _ (List.getElem_mem hb0))) (Steps.fin rfl (by simp) (Tr.retX rfl rfl rfl ?_ trivial)))
    cases b with
    | nil => simp at hb0
    | cons a r => simp [packR, backR, hE, hS, h2, hok]
  have h3 : c < v.length := by simpa using h3
  have hcb : c < b.length := by omega
  have hbc : b[c].length = deepOf v := by rw [evenL_spec hbev hcb, hbd]
  have hvc : v[c].length = deepOf v := evenL_spec hev h3
  refine Tr.skipT (Tr.seq (Tr.block (Tr.seqR rfl (by simp) (Tr.seqN 3 rfl (by simp [secV]; omega) ?_))))
  rw [getD_map hcb]
  refine Steps.fin rfl (by simp [intsV]) (Tr.block ?_)
  refine Tr.loop (fun i s => (i ≤ deepOf v ∧ okCol v b sl c i = true) ∧ s = { env := [(5, .ptr 5 0), (8, .ptr 8 0), (12, I c), (47, I v.length), (48, I c), (54, intsV b[c]), (55, I (deepOf v)), (56, I i)], bx := [(5, ⟨[secV b], false⟩), (8, ⟨secC v sl, false⟩)], rw := [], log := [], stp := false }) (fun i => deepOf v - i) 0
    (Wk.le (.cons rfl (.refl _) (.cons rfl (.refl _) (.cons rfl (.refl _) (.cons rfl (.refl _) (.cons rfl (.refl _) (.cons rfl (.refl _) (.cons rfl (VLe.i ?_) (.cons rfl (.refl _) .nil)))))))) (.cons rfl (LLe.refl _) (.cons rfl (LLe.refl _) .nil)) .nil rfl rfl) ⟨⟨by omega, rfl⟩, rfl⟩ ?_
  · rw [List.length_map, hbc]
  rintro i s ⟨⟨hil, hoki⟩, rfl⟩
  refine Tr.seqR rfl (by simp) (Tr.seqI rfl (fun h4 => ?_) (fun h4 => ?_))
  rotate_left
  · have h4 : i = deepOf v := by simp at h4; omega
    subst h4
    refine Tr.exit (Tr.regR rfl (by simp) ?_)
    refine ⟨c + 1, _, Wk.le (.cons rfl (.refl _) (.cons rfl (.refl _) (.cons rfl (.refl _) (.cons rfl (VLe.i (w64 (by omega) (by omega))) .nil)))) (.cons rfl (LLe.refl _) (.cons rfl (LLe.refl _) .nil)) .nil rfl rfl, ⟨⟨h3, ?_⟩, rfl⟩, by omega⟩
    unfold okTo at hok ⊢
    rw [List.range_succ, List.all_append, hok]
    simp [hoki]
  have h4 : i < deepOf v := by simpa using h4
  have hib : i < b[c].length := by omega
  have hiv : i < v[c].length := by omega
  have bv := numsOk_spec hnum h3 hiv
  have bb := numsOk_spec hbnum hcb hib
  refine Tr.skipT (Tr.seq (Tr.block (Tr.seqN 2 rfl (by simp [intsV]; omega) ?_)))
  rw [getD_map hib]
  refine Steps.fin rfl (by simp) (Tr.seqN 4 rfl (by simp [secC, secV]; omega) ?_)
  rw [getD_map h3]
  refine Steps.runN 3 rfl (by simp [intsV]; omega) ?_
  rw [getD_map hiv]
  refine Steps.fin rfl (by simp) (Tr.seqR rfl (by simp [secC]) ?_)
  refine Tr.seq (Tr.seqC rfl (by simp [secC]) (Steps.call rfl rfl (c_next v sl c i) (Steps.fin rfl (by simp) (Tr.block ?_))))
  have w1 : IntKind.i64.wrap ((c : Int) + 1) = ((c + 1 : Nat) : Int) := by rw [w64 (by omega) (by omega)]; omega
  refine Tr.weak (s' := { env := [(84, .func (.func F.volume_section_next_1) [] [.vptr [I c, I i] 0, .vptr (secC v sl) 0]), (5, .ptr 5 0), (8, .ptr 8 0), (12, I c), (14, .ptr 14 0), (15, .ptr 15 0), (16, .ptr 16 0), (47, I v.length), (48, I c), (54, intsV b[c]), (55, I (deepOf v)), (56, I i)], bx := [(5, ⟨[secV b], false⟩), (8, ⟨secC v sl, false⟩), (14, ⟨[I b[c][i]], false⟩), (15, ⟨[I v[c][i]], false⟩), (16, ⟨[.bool (decide (c + 1 < v.length) || decide (b[c][i] ≥ v[c][i]))], false⟩)], rw := [], log := [], stp := false })
    (Wk.le (.cons rfl (.refl _) (.cons rfl (.refl _) (.cons rfl (.refl _) (.cons rfl (.refl _) (.cons rfl (.refl _) (.cons rfl (.refl _) (.cons rfl (.refl _) (.cons rfl (.refl _) (.cons rfl (.refl _) (.cons rfl (.refl _) (.cons rfl (.refl _) (.cons rfl (.refl _) .nil))))))))))))
      (.cons rfl (LLe.refl _) (.cons rfl (LLe.refl _) (.cons rfl (LLe.refl _) (.cons rfl (LLe.refl _) (.cons rfl (.cons (.of_eq ?_) .nil) .nil))))) .nil rfl rfl) ?_
  · show V.bool (bif decide (IntKind.i64.wrap ((c : Int) + 1) < (v.length : Int)) then true else decide (b[c][i] ≥ v[c][i])) = _
    rw [w1]
    by_cases h : c + 1 < v.length
    · have h' : (((c + 1 : Nat) : Int) < (v.length : Int)) := by omega
      simp [h]; omega
    · have h' : ¬ (((c + 1 : Nat) : Int) < (v.length : Int)) := by omega
      simp only [decide_eq_false h', cond_false, decide_eq_false h, Bool.false_or]
  refine Tr.range rfl rfl (i_next v sl c i hn.2 hd hsl h3 h4) rfl rfl rfl (by intro x hx; obtain ⟨q, _, rfl⟩ := List.mem_map.1 hx; rfl)
    (fun pre t => ∃ m, m ≤ (nextN v.length (deepOf v) sl c i).length ∧ pre = ((nextN v.length (deepOf v) sl c i).take m).map (spotV c) ∧ t.bx = [(5, ⟨[secV b], false⟩), (8, ⟨secC v sl, false⟩), (14, ⟨[I b[c][i]], false⟩), (15, ⟨[I v[c][i]], false⟩), (16, ⟨[.bool ((decide (c + 1 < v.length) || decide (b[c][i] ≥ v[c][i])) && ((nextN v.length (deepOf v) sl c i).take m).all (okNext v b c i))], false⟩)] ∧ t.rw = [] ∧ t.log = [])
    (fun _ _ => False) ⟨0, by omega, rfl, by simp, rfl, rfl⟩ ?_ ?_ ?_
  · rintro a0 L0 rc0 h0 S1 S2 ok1 ok2 pre x t lp hpre ⟨m, hm, rfl, hbx, hrw, hlog⟩ henv hstp
    obtain ⟨env, bx, rw, log, stp⟩ := t
    simp only at hbx hrw hlog henv hstp
    subst hbx hrw hlog henv hstp
    have hmx : m < (nextN v.length (deepOf v) sl c i).length ∧ ∃ q, (nextN v.length (deepOf v) sl c i)[m]? = some q ∧ x = spotV c q := by
      have h1 : (((nextN v.length (deepOf v) sl c i).take m).map (spotV c)).length = m := by simp; omega
      have h2 := hpre.length_le
      simp at h2
      have hml : m < (nextN v.length (deepOf v) sl c i).length := by omega
      refine ⟨hml, _, List.getElem?_eq_getElem hml, ?_⟩
      have h3 := List.IsPrefix.getElem hpre (i := m) (by simp; omega)
      simp only [List.getElem_map] at h3
      rw [List.getElem_append_right (by omega)] at h3
      simpa using h3
    obtain ⟨hml, q, hq, rfl⟩ := hmx
    obtain ⟨hcn, hqd⟩ := nextN_lt hd.1 (List.mem_of_getElem? hq)
    have hcb1 : c + 1 < b.length := by omega
    have hbc1 : b[c + 1].length = deepOf v := by rw [evenL_spec hbev hcb1, hbd]
    have hqb : q < b[c + 1].length := by omega
    have bq := numsOk_spec hbnum hcb1 hqb
    refine Tr.regR rfl (by simp) ?_
    refine Tr.block (Tr.drawK (TraceK.runN 8 rfl (by simp [secV]; exact fun x y => ⟨by omega, x, y⟩) ?_))
    rw [getD_map hcb1]
    refine TraceK.runN 4 rfl (by simp [intsV]; exact fun x y => ⟨by omega, x, y⟩) ?_
    rw [getD_map hqb]
    refine TraceK.run rfl (by simp) (.done ⟨by kernel_rfl, by kernel_rfl, ?_⟩)
    refine ⟨{ env := [], bx := [(5, ⟨[secV b], false⟩), (8, ⟨secC v sl, false⟩), (14, ⟨[I b[c][i]], false⟩), (15, ⟨[I v[c][i]], false⟩), (16, ⟨[.bool ((decide (c + 1 < v.length) || decide (b[c][i] ≥ v[c][i])) && ((nextN v.length (deepOf v) sl c i).take (m + 1)).all (okNext v b c i))], false⟩)], rw := [], log := [], stp := false }, ?_, ⟨m + 1, by omega, ?_, rfl, rfl, rfl⟩, rfl⟩
    · refine Wk.le .nil (.cons rfl (LLe.refl _) (.cons rfl (LLe.refl _) (.cons rfl (LLe.refl _) (.cons rfl (LLe.refl _) (.cons rfl (.cons (.of_eq ?_) .nil) .nil))))) .nil rfl rfl
      rw [List.take_add_one, hq, List.all_append]
      have e : okNext v b c i q = decide (b[c][i] ≥ IntKind.i64.wrap (v[c][i] + b[c + 1][q])) := by
        unfold okNext
        rw [w64 (by omega) (by omega), at2_eq hcb hib, at2_eq h3 hiv, at2_eq hcb1 hqb]
      simp only [Option.toList, List.all_cons, List.all_nil, Bool.and_true, e]
      generalize (decide (c + 1 < v.length) || decide (b[c][i] ≥ v[c][i])) = X
      generalize ((nextN v.length (deepOf v) sl c i).take m).all (okNext v b c i) = Y
      cases X <;> cases Y <;> rfl
    · rw [List.take_add_one, hq]; simp
  · rintro ⟨env, bx, rw, log, stp⟩ henv hstp ⟨m, hm, hpre, hbx, hrw, hlog⟩
    simp only at hbx hrw hlog henv hstp
    subst hbx hrw hlog henv hstp
    have hml : m = (nextN v.length (deepOf v) sl c i).length := by
      have := congrArg List.length hpre
      simp at this; omega
    subst hml
    have e : ((decide (c + 1 < v.length) || decide (b[c][i] ≥ v[c][i])) && ((nextN v.length (deepOf v) sl c i).take (nextN v.length (deepOf v) sl c i).length).all (okNext v b c i)) = okAt v b sl c i := by
      rw [List.take_length]; unfold okAt; rw [at2_eq hcb hib, at2_eq h3 hiv]
    rw [e]
    refine Tr.seqR rfl (by simp) (Tr.cond rfl rfl (fun h5 => Tr.seqR rfl (by simp) (Tr.retX rfl rfl rfl ?_ trivial)) (fun h5 => Tr.skip (Tr.regR rfl (by simp) ?_)))
    · have h5 : okAt v b sl c i = false := by simpa using h5
      have : okTo v b sl v.length = false := by
        unfold okTo okCol
        rw [List.all_eq_false]
        refine ⟨c, by simpa using h3, ?_⟩
        intro hall
        have := List.all_eq_true.1 hall i (by simpa using h4)
        rw [h5] at this; cases this
      simp [packR, backR, hE, hS, h2, this]
    · have h5 : okAt v b sl c i = true := by simpa using h5
      refine ⟨i + 1, _, Wk.le (.cons rfl (.refl _) (.cons rfl (.refl _) (.cons rfl (.refl _) (.cons rfl (.refl _) (.cons rfl (.refl _) (.cons rfl (.refl _) (.cons rfl (.refl _) (.cons rfl (VLe.i (w64 (by omega) (by omega))) .nil)))))))) (.cons rfl (LLe.refl _) (.cons rfl (LLe.refl _) .nil)) .nil rfl rfl, ⟨⟨h4, ?_⟩, rfl⟩, by omega⟩
      unfold okCol at hoki ⊢
      rw [List.range_succ, List.all_append, hoki]
      simp [h5]
  · intro e t _ h; exact h.elim

end Go.Proofs.YtggifklgpdladaaGreat


/-! What a horizon is worth: the recursion that fills a map. -/
set_option linter.unusedVariables false
set_option linter.unusedSimpArgs false
set_option maxRecDepth 20000
namespace Go.Proofs.YtggifklgpdladaaGreat
open Go.Am Go.RowKit

attribute [local simp] cells scalar mkv splice under2 under dem dem1 secC secV intsV
/-! ### Inversions -/
section
variable {P : Program} {o : Oper} {os : List Operand}

theorem opK_load (hk : opK P o.op = some (.load 1 false, os)) : ∃ t p d, o.op = .load t p ∧ szOf P t = some 1 ∧ P.underlying t = some d ∧ aggB P t = false ∧ os = [p] := by
  replace hk := opK0_of hk (by simp [tagOf])
  cases ho : o.op <;> rw [ho] at hk <;> simp only [opK0] at hk <;> (try (cases hk; done)) <;> (try (repeat' (split at hk <;> (try (cases hk; done)))))
  all_goals first
    | (simp only [Option.map_eq_some_iff, Prod.mk.injEq] at hk; obtain ⟨_, _, h1, _⟩ := hk; cases h1; done)
    | (simp only [eqKind] at hk; repeat' (split at hk <;> (try (cases hk; done))))
    | (rename_i h1 h2 h3 h4; subst h4; cases hk; exact ⟨_, _, _, rfl, by assumption, by assumption, Bool.eq_false_iff.2 h3, rfl⟩)

theorem opK_lookup {c : Bool} (hk : opK P o.op = some (.lookup c, os)) : ∃ t p q kt e, o.op = .lookup t p q c ∧ P.underlying t = some (.map kt e) ∧ mapOk P kt e = true ∧ os = [p, q] := by
  replace hk := opK0_of hk (by simp [tagOf])
  cases ho : o.op <;> rw [ho] at hk <;> simp only [opK0] at hk <;> (try (cases hk; done)) <;> (try (repeat' (split at hk <;> (try (cases hk; done)))))
  all_goals first
    | (simp only [Option.map_eq_some_iff, Prod.mk.injEq] at hk; obtain ⟨_, _, h1, _⟩ := hk; cases h1; done)
    | (simp only [eqKind] at hk; repeat' (split at hk <;> (try (cases hk; done))))
    | (cases hk; exact ⟨_, _, _, _, _, rfl, by assumption, by assumption, rfl⟩)

theorem opK_mapup (hk : opK P o.op = some (.mapup, os)) : ∃ t p q r kt e, o.op = .mapUpdate t p q r ∧ P.underlying t = some (.map kt e) ∧ mapOk P kt e = true ∧ os = [p, q, r] := by
  replace hk := opK0_of hk (by simp [tagOf])
  cases ho : o.op <;> rw [ho] at hk <;> simp only [opK0] at hk <;> (try (cases hk; done)) <;> (try (repeat' (split at hk <;> (try (cases hk; done)))))
  all_goals first
    | (simp only [Option.map_eq_some_iff, Prod.mk.injEq] at hk; obtain ⟨_, _, h1, _⟩ := hk; cases h1; done)
    | (simp only [eqKind] at hk; repeat' (split at hk <;> (try (cases hk; done))))
    | (cases hk; exact ⟨_, _, _, _, _, _, rfl, by assumption, by assumption, rfl⟩)
end

/-! ### What a value is worth -/
def stepW (s : Bool × Int) (x : Int) : Bool × Int := if (!s.1 || decide (x > s.2)) = true then (true, x) else s
def bestG (l : List Int) : Bool × Int := l.foldl stepW (false, 0)

def worthN (l : List (List Int)) (sl : Nat) : Nat → Nat → Nat → Int
  | 0, c, i => at2 l c i
  | k + 1, c, i => at2 l c i + (bestG ((nextN l.length (deepOf l) sl c i).map (worthN l sl k (c + 1)))).2

def worthV (l : List (List Int)) (sl c i : Nat) : Int := worthN l sl (l.length - 1 - c) c i

theorem worthV_eq {l : List (List Int)} {sl c i : Nat} (hc : c < l.length) : worthV l sl c i = at2 l c i + (bestG ((nextN l.length (deepOf l) sl c i).map (worthV l sl (c + 1)))).2 := by
  unfold worthV
  by_cases h : c + 1 = l.length
  · have e : l.length - 1 - c = 0 := by omega
    rw [e]
    simp [worthN, nextN, h, bestG]
  · obtain ⟨k, hk⟩ : ∃ k, l.length - 1 - c = k + 1 := ⟨l.length - 1 - c - 1, by omega⟩
    have e : l.length - 1 - (c + 1) = k := by omega
    rw [hk]
    simp only [worthN]
    congr 4
    funext q
    rw [e]

theorem foldW_mem : ∀ (l : List Int) (s : Bool × Int), (l.foldl stepW s).2 = s.2 ∨ (l.foldl stepW s).2 ∈ l
  | [], s => .inl rfl
  | x :: r, s => by
    simp only [List.foldl_cons]
    rcases foldW_mem r (stepW s x) with h | h
    · rw [h]
      unfold stepW
      split
      · exact .inr (by simp)
      · exact .inl rfl
    · exact .inr (List.mem_cons_of_mem _ h)

theorem at2_bd {l : List (List Int)} (h : numsOk 1099511627776 l = true) (c i : Nat) : -1099511627776 ≤ at2 l c i ∧ at2 l c i ≤ 1099511627776 := by
  by_cases hc : c < l.length
  · by_cases hi : i < l[c].length
    · rw [at2_eq hc hi]; exact numsOk_spec h hc hi
    · simp [at2, List.getElem?_eq_getElem hc, List.getElem?_eq_none (Nat.le_of_not_lt hi)]
  · simp [at2, List.getElem?_eq_none (Nat.le_of_not_lt hc)]

theorem worthN_bd {l : List (List Int)} {sl : Nat} (h : numsOk 1099511627776 l = true) : ∀ (k c i : Nat), -(((k : Int) + 1) * 1099511627776) ≤ worthN l sl k c i ∧ worthN l sl k c i ≤ ((k : Int) + 1) * 1099511627776
  | 0, c, i => by have := at2_bd h c i; simp only [worthN]; omega
  | k + 1, c, i => by
    have h1 := at2_bd h c i
    have h2 : -(((k : Int) + 1) * 1099511627776) ≤ (bestG ((nextN l.length (deepOf l) sl c i).map (worthN l sl k (c + 1)))).2 ∧ (bestG ((nextN l.length (deepOf l) sl c i).map (worthN l sl k (c + 1)))).2 ≤ ((k : Int) + 1) * 1099511627776 := by
      rcases foldW_mem ((nextN l.length (deepOf l) sl c i).map (worthN l sl k (c + 1))) (false, 0) with h3 | h3
      · unfold bestG; rw [h3]; simp only; omega
      · obtain ⟨q, _, hq⟩ := List.mem_map.1 h3
        unfold bestG
        rw [← hq]
        exact worthN_bd h k (c + 1) q
    simp only [worthN]
    push_cast
    omega

theorem worthV_bd {l : List (List Int)} {sl : Nat} (h : numsOk 1099511627776 l = true) (hn : 1 ≤ l.length ∧ l.length ≤ 16) (c i : Nat) : -17592186044416 ≤ worthV l sl c i ∧ worthV l sl c i ≤ 17592186044416 := by
  have := worthN_bd (sl := sl) h (l.length - 1 - c) c i
  unfold worthV
  omega

/-! ### The map while it is filled -/
def GoodF (l : List (List Int)) (sl : Nat) (f : Int → Int → Option Int) : Prop :=
  (∀ a b v, f a b = some v → ∃ c i : Nat, a = (c : Int) ∧ b = (i : Int) ∧ c < l.length ∧ i < deepOf l ∧ v = worthV l sl c i) ∧
    ∀ c i : Nat, (f c i).isSome = true → ∀ q ∈ nextN l.length (deepOf l) sl c i, (f ((c + 1 : Nat) : Int) q).isSome = true

def gridL (l : List (List Int)) : List (Int × Int) := (List.range l.length).flatMap fun (c : Nat) => (List.range (deepOf l)).map fun (i : Nat) => ((c : Int), (i : Int))

theorem mem_grid {l : List (List Int)} {c i : Nat} (hc : c < l.length) (hi : i < deepOf l) : ((c : Int), (i : Int)) ∈ gridL l := by
  unfold gridL
  exact List.mem_flatMap.2 ⟨c, by simpa using hc, List.mem_map.2 ⟨i, by simpa using hi, rfl⟩⟩

theorem len_grid {l : List (List Int)} (hn : l.length ≤ 16) (hd : deepOf l ≤ 32) : (gridL l).length ≤ 100000 := by
  have key : ∀ n : Nat, ((List.range n).flatMap fun c : Nat => (List.range (deepOf l)).map fun i : Nat => ((c : Int), (i : Int))).length = n * deepOf l := by
    intro n
    induction n with
    | zero => simp
    | succ n ih => rw [List.range_succ, List.flatMap_append, List.length_append, ih]; simp [Nat.add_mul]
  unfold gridL
  rw [key]
  calc l.length * deepOf l ≤ 16 * 32 := Nat.mul_le_mul hn hd
    _ ≤ 100000 := by decide

/-- What a call does that fills the map: the map's block turns, and nothing else that was there. -/
structure RestX (mb : Nat) (w : World) (φ : Nat → Nat) (w' : World) (φ' : Nat → Nat) : Prop where
  blk : ∀ b, b < w.heap.size → b ≠ mb → w'.heap[b]? = w.heap[b]? ∧ φ' b = φ b
  z : φ' mb = 0
  size : w.heap.size ≤ w'.heap.size
  os : w'.os = w.os
  tape : w'.tape = w.tape
  output : w'.output = w.output
  top : ∀ b, w'.heap.size ≤ b → φ' b = 0

theorem RestX.ext {mb : Nat} {w : World} {φ : Nat → Nat} {w' : World} {φ' : Nat → Nat} (h : RestX mb w φ w' φ') (hz : φ mb = 0) (htop : ∀ b, w.heap.size ≤ b → φ b = 0) : Ext w φ w' φ' := fun b o ho => by
  have hb : b < w.heap.size := by
    rcases Nat.lt_or_ge b w.heap.size with h1 | h1
    · exact h1
    · rw [htop b h1] at ho; omega
  have hne : b ≠ mb := fun e => by rw [e, hz] at ho; omega
  obtain ⟨h1, h2⟩ := h.blk b hb hne
  exact ⟨by rw [h2]; exact ho, World.cell?_of_block h1, mapAt_of_block h1⟩

theorem RestX.trans {mb : Nat} {w w1 w2 : World} {φ φ1 φ2 : Nat → Nat} (h : RestX mb w φ w1 φ1) (k : RestX mb w1 φ1 w2 φ2) : RestX mb w φ w2 φ2 where
  blk b hb hne := by
    obtain ⟨h1, h2⟩ := h.blk b hb hne
    obtain ⟨k1, k2⟩ := k.blk b (Nat.lt_of_lt_of_le hb h.size) hne
    exact ⟨k1.trans h1, k2.trans h2⟩
  z := k.z
  size := Nat.le_trans h.size k.size
  os := k.os.trans h.os
  tape := k.tape.trans h.tape
  output := k.output.trans h.output
  top := k.top

def ptrV (b : Nat) : Value := .pointer (some ⟨b, 0, none⟩)

/-- The two variables that the recursion goes through: the map's, and its own. -/
def Cyc (mb kb wb : Nat) (sx : Value) (w : World) : Prop :=
  w.cell? ⟨kb, 0, none⟩ = some (.map (some mb)) ∧ w.cell? ⟨wb, 0, none⟩ = some (.func (.func F.volume_section_worths_1) #[] #[ptrV kb, sx, ptrV wb])

theorem cell_block {w : World} {b : Nat} {x : Value} (h : w.cell? ⟨b, 0, none⟩ = some x) : ∃ cs e m, w.heap[b]? = some (.cells cs e m) := by
  unfold World.cell? at h
  split at h
  · rename_i c e m hh; exact ⟨_, _, _, hh⟩
  · cases h

theorem Cyc.ne {l : List (Int × Int)} {f : Int → Int → Option Int} {mb kb wb : Nat} {sx : Value} {w : World} (h : Cyc mb kb wb sx w) (hm : MapW w mb l f) : kb ≠ mb ∧ wb ≠ mb := by
  obtain ⟨es, c, h1, _⟩ := hm
  constructor
  · rintro rfl
    obtain ⟨cs, e, m, h2⟩ := cell_block h.1
    rw [h1] at h2; cases h2
  · rintro rfl
    obtain ⟨cs, e, m, h2⟩ := cell_block h.2
    rw [h1] at h2; cases h2

theorem Cyc.keep {mb kb wb : Nat} {sx : Value} {w w' : World} (h : Cyc mb kb wb sx w) (hk : w'.heap[kb]? = w.heap[kb]?) (hw : w'.heap[wb]? = w.heap[wb]?) : Cyc mb kb wb sx w' :=
  ⟨(World.cell?_of_block hk).trans h.1, (World.cell?_of_block hw).trans h.2⟩

/-- What is known while the recursion runs, in the frame of one of its calls. -/
structure Base (l : List (List Int)) (sl : Nat) where
  w : World
  φ : Nat → Nat
  f : Int → Int → Option Int
  mb : Nat
  kb : Nat
  wb : Nat
  sx : Value
  sy : Value

structure Base.Ok {l : List (List Int)} {sl : Nat} (B : Base l sl) : Prop where
  top : ∀ b, B.w.heap.size ≤ b → B.φ b = 0
  z : B.φ B.mb = 0
  m : B.mb < B.w.heap.size
  k : B.kb < B.w.heap.size
  wl : B.wb < B.w.heap.size
  rep : RepD B.w B.φ (.vptr (secC l sl) 0) B.sx
  rep' : RepD B.w B.φ (.vptr (secC l sl) 0) B.sy

/-- The map as it is now, by the log. -/
def cur {l : List (List Int)} {sl : Nat} (B : Base l sl) (log : List (List V)) (f : Int → Int → Option Int) : Prop := (log = [] ∧ f = B.f) ∨ log = [[.mp f]]

theorem cur_inj {l : List (List Int)} {sl : Nat} {B : Base l sl} {log : List (List V)} {f g : Int → Int → Option Int} (h : cur B log f) (k : cur B log g) : f = g := by
  rcases h with ⟨h1, h2⟩ | h1 <;> rcases k with ⟨k1, k2⟩ | k1
  · rw [h2, k2]
  · rw [h1] at k1; cases k1
  · rw [h1] at k1; cases k1
  · rw [h1] at k1; simpa using k1

def SW {l : List (List Int)} {sl : Nat} (B : Base l sl) : Sur := fun log _ M w φ =>
  ∃ f, cur B log f ∧ MapW w B.mb (gridL l) f ∧ Cyc B.mb B.kb B.wb B.sy w ∧ (¬ M B.mb ∧ ¬ M B.kb ∧ ¬ M B.wb) ∧ RestX B.mb B.w B.φ w φ ∧ ∀ b, M b → B.w.heap.size ≤ b

theorem SW_ok {l : List (List Int)} {sl : Nat} {B : Base l sl} (hB : B.Ok) : (SW B).ok := by
  refine ⟨?_, fun _ _ _ _ _ _ p hp => by simp [globalsV] at hp⟩
  intro log s M w φ M' w' φ' ⟨f, h1, h2, h3, ⟨n1, n2, n3⟩, hR, hm⟩ mv
  have old : ∀ b, b < B.w.heap.size → w'.heap[b]? = w.heap[b]? ∧ φ' b = φ b := fun b hb => mv.old b (Nat.lt_of_lt_of_le hb hR.size) (fun hM => by have := hm b hM; omega)
  have new : ∀ b, b < B.w.heap.size → ¬ M' b := fun b hb hM' => by
    rcases mv.mine b hM' with h | h
    · have := hm b h; omega
    · have := hR.size; omega
  refine ⟨f, h1, h2.block (old _ hB.m).1, h3.keep (old _ hB.k).1 (old _ hB.wl).1, ⟨new _ hB.m, new _ hB.k, new _ hB.wl⟩, ?_, fun b hM' => ?_⟩
  · exact {
      blk := fun b hb hne => by
        obtain ⟨k1, k2⟩ := hR.blk b hb hne
        obtain ⟨k3, k4⟩ := old b hb
        exact ⟨k3.trans k1, k4.trans k2⟩
      z := (old _ hB.m).2.trans hR.z
      size := Nat.le_trans hR.size mv.size
      os := mv.os.trans hR.os
      tape := mv.tape.trans hR.tape
      output := mv.output.trans hR.output
      top := mv.top }
  · rcases Nat.lt_or_ge b B.w.heap.size with h | h
    · exact absurd hM' (new b h)
    · exact h

/-- The frames in which the recursion's steps may be taken. -/
structure In {l : List (List Int)} {sl : Nat} (B : Base l sl) (E : Env) : Prop where
  P : E.P = Tryz.prog
  sub : Sub E.S (SW B)
  lk : ∀ k, E.lk k → k = enc3 B.mb B.kb B.wb

section
variable {l : List (List Int)} {sl : Nat} {B : Base l sl} {E : Env} {log : List (List V)} {stp : Bool} {σ : FSt} {a : Act} {w : World} {h : Gh}

theorem tok_of (hE : In B E) (R : E.relF log stp σ a w h) {k : Nat} {x : Value} {σ' : FSt} (o : Ok σ' h w (.tok k) x) : (k = 0 → x = .map (some B.mb)) ∧ (k = 1 → x = ptrV B.kb) ∧ (k = 2 → x = ptrV B.wb) := by
  obtain ⟨r, _⟩ := o
  cases r with
  | data r => cases r
  | tok _ l' _ hy hx =>
    obtain ⟨a', b', c', h1, h2⟩ := hx
    have h3 := hE.lk l' (R.2.1 l' hy).2
    rw [h1] at h3
    obtain ⟨rfl, rfl, rfl⟩ := enc3_inj h3
    rcases h2 with ⟨e, rfl⟩ | ⟨e, rfl⟩ | ⟨e, rfl⟩
    · exact ⟨fun _ => rfl, fun e' => by omega, fun e' => by omega⟩
    · exact ⟨fun e' => by omega, fun _ => rfl, fun e' => by omega⟩
    · exact ⟨fun e' => by omega, fun e' => by omega, fun _ => rfl⟩

/-- A token at hand: what the frame holds on to. -/
theorem tok_rep {φ : Nat → Nat} {β : Nat → Option Nat} {y : Option Nat} {l' : Nat} (hy : y = some l') (hl : l' = enc3 B.mb B.kb B.wb) : Rep w φ β y (.tok 0) (.map (some B.mb)) ∧ Rep w φ β y (.tok 1) (ptrV B.kb) ∧ Rep w φ β y (.tok 2) (ptrV B.wb) :=
  ⟨.tok 0 l' _ hy ⟨_, _, _, hl, .inl ⟨rfl, rfl⟩⟩, .tok 1 l' _ hy ⟨_, _, _, hl, .inr (.inl ⟨rfl, rfl⟩)⟩, .tok 2 l' _ hy ⟨_, _, _, hl, .inr (.inr ⟨rfl, rfl⟩)⟩⟩

theorem grow_plain {σ : FSt} {h : Gh} {v : V} {x : Value} (hc : cells v = [v]) (hv : ∀ r sz xs, v ≠ .slice r sz xs) : GrowV σ h w v x := fun j u z hu hz => by
  rw [hc] at hu
  cases j with
  | zero => simp at hu; subst hu; intro r sz xs e; exact absurd e (hv _ _ _)
  | succ j => simp at hu

def recV (l : List (List Int)) (sl : Nat) : V := .func (.func F.volume_section_worths_1) [] [.tok 1, .vptr (secC l sl) 0, .tok 2]

/-- The frame's own surroundings, with the rest of it laid in. -/
theorem sur_of (hE : In B E) (R : E.relF log stp σ a w h) : ∃ M1 : Nat → Prop, (∀ b, h.M b → M1 b) ∧ (∀ b, M1 b → b < w.heap.size) ∧ SW B log stp M1 w h.φ ∧
    ∀ log' stp' w' φ', SW B log' stp' M1 w' φ' → Ext w h.φ w' φ' → (∀ b, M1 b → w'.heap[b]? = w.heap[b]? ∧ φ' b = h.φ b) → w.heap.size ≤ w'.heap.size → (∀ b, w'.heap.size ≤ b → φ' b = 0) → w'.os = w.os → w'.tape = w.tape → w'.output = w.output → E.S log' stp' h.M w' φ' :=
  hE.sub log stp h.M w h.φ R.1.sur R.1.mine

/-- A load through a token. -/
theorem does_tok (hB : B.Ok) (hE : In B E) {ins : Ins} {k : Nat} {v : V} (hk : ins.k = .load 1 false) (hg : ins.g = none) (hx : ins.xs.mapM (evX σ) = some [.tok k]) (hkv : (k = 1 ∧ v = .tok 0) ∨ (k = 2 ∧ v = recV l sl)) : Does E σ ins { v := v } (xslots ins.xs) := by
  refine .ext hg hx fun o os log stp σ' a w h ho R hO => ?_
  rw [hk] at ho
  obtain ⟨t, p, d, e1, e2, e3, e4, rfl⟩ := opK_load ho
  obtain ⟨u, hu, o1⟩ := hO.one
  simp only [List.cons.injEq, and_true] at hu
  subst hu
  obtain ⟨_, t1, t2⟩ := tok_of hE R o1
  obtain ⟨M1, _, _, ⟨f, _, _, hC, _, hR, _⟩, _⟩ := sur_of hE R
  -- what the frame holds on to
  obtain ⟨l', hy, hl'⟩ : ∃ l', h.y.l = some l' ∧ l' = enc3 B.mb B.kb B.wb := by
    obtain ⟨r, _⟩ := o1
    generalize a.eval p = x at r
    cases r with
    | data r => cases r
    | tok _ l' _ hy hx => exact ⟨l', hy, hE.lk l' (R.2.1 l' hy).2⟩
  obtain ⟨r0, r1, r2⟩ := tok_rep (B := B) (w := w) (φ := h.φ) (β := h.β) hy hl'
  have run : ∀ (b : Nat) (x : Value), a.eval p = ptrV b → w.cell? ⟨b, 0, none⟩ = some x → (execOp a.eval o).run E.P w = .ok (.value x) w := fun b x hb hc => by
    simp only [execOp, e1, hb, Sem.run_bind, ptrV]
    rw [run_loadAt (cs := [x]) e2 e3 rfl (fun j v hv => by
      cases j with
      | zero => cases hv; exact hc
      | succ j => cases hv) (by rw [e4]; rfl)]
    rfl
  rcases hkv with ⟨rfl, rfl⟩ | ⟨rfl, rfl⟩
  · exact ⟨_, run _ _ (t1 rfl) hC.1, r0, grow_plain rfl (fun _ _ _ e => (by cases e))⟩
  · refine ⟨_, run _ _ (t2 rfl) hC.2, ?_, grow_plain rfl (fun _ _ _ e => (by cases e))⟩
    refine .func _ [] _ #[] _ rfl rfl (fun i v x h => by simp at h) fun i v x h1 h2 => ?_
    match i with
    | 0 => cases h1; cases h2; exact r1
    | 1 => cases h1; cases h2; exact .data (hB.rep'.mono (hR.ext hB.z hB.top))
    | 2 => cases h1; cases h2; exact r2
    | i + 3 => simp at h1

theorem Steps.ldtok (hB : B.Ok) (hE : In B E) {K : St → Prop} {s : St} {d : Option Nat} {x : X} {rest : List Ins} (k : Nat) (v : V) (hx : evXs s.env [x] = some [.tok k]) (hkv : (k = 1 ∧ v = .tok 0) ∨ (k = 2 ∧ v = recV l sl)) (hk : Go.Am.Steps E rest K (s.put d v)) : Go.Am.Steps E (⟨d, .load 1 false, [x], none⟩ :: rest) K s :=
  Step1.does (ins := ⟨d, .load 1 false, [x], none⟩) (does_tok hB hE rfl rfl (evXs_ok hx) hkv) hk

theorem TraceK.ldtok (hB : B.Ok) (hE : In B E) {s : St} {d : Option Nat} {x : X} {rest : List Ins} {K : List (List Go.Am.Loc × List Go.Am.Loc) → St → List Ins → Prop} (k : Nat) (v : V) (hx : evXs s.env [x] = some [.tok k]) (hkv : (k = 1 ∧ v = .tok 0) ∨ (k = 2 ∧ v = recV l sl))
    (t : TraceK E (s.put d v) rest fun fp s' r => K ((wrOf ⟨d, .load 1 false, [x], none⟩ { v := v }, xslots [x]) :: fp) s' r) : TraceK E s (⟨d, .load 1 false, [x], none⟩ :: rest) K :=
  .step (ins := ⟨d, .load 1 false, [x], none⟩) (does_tok hB hE rfl rfl (evXs_ok hx) hkv) t

theorem pair_of {σ' : FSt} {a' b' : Int} {x : Value} (o : Ok σ' h w (.agg [I a', I b']) x) : x = .agg #[.int .i64 a', .int .i64 b'] := by
  obtain ⟨ws, hw, hlen, hh⟩ := ok_agg o
  rw [hw]
  obtain ⟨ws⟩ := ws
  match ws, hlen with
  | [y, z], _ => rw [rep_int (hh 0 _ y rfl rfl).1, rep_int (hh 1 _ z rfl rfl).1]

/-- A look-up in the map that is being filled. -/
theorem Steps.look (hE : In B E) {K : St → Prop} {s : St} {d : Nat} {x y : X} {rest : List Ins} {c : Bool} {f : Int → Int → Option Int} {a' b' : Int} (hx : evXs s.env [x, y] = some [.tok 0, .agg [I a', I b']]) (hf : cur B s.log f) (ha : inI a') (hb : inI b')
    (hk : Go.Am.Steps E rest K (s.put (some d) (bif c then .tuple [I ((f a' b').getD 0), .bool (f a' b').isSome] else I ((f a' b').getD 0)))) : Go.Am.Steps E (⟨some d, .lookup c, [x, y], none⟩ :: rest) K s := by
  refine Step1.raw fun slots ops o i ro n a w h hc hs hi R Q next hn => ?_
  obtain ⟨os, cc⟩ := comp_of hc
  have hgo : o.guard = none := by
    rcases cc.guard with ⟨_, e⟩ | ⟨j, want, t, _, _, e⟩
    · exact e
    · cases e
  have hdf := opK_defer cc.op
  obtain ⟨t, p, q, kt, e, e1, e2, e3, rfl⟩ := opK_lookup cc.op
  obtain ⟨u, u', hu, o1, o2⟩ := (opds_of R.1 cc.xs (evXs_ok hx)).two
  simp only [List.cons.injEq, and_true] at hu
  obtain ⟨rfl, rfl⟩ := hu
  obtain ⟨t0, _, _⟩ := tok_of hE R o1
  obtain ⟨M1, _, _, ⟨g, hg, hM, _, _, _, _⟩, _⟩ := sur_of hE R
  have := cur_inj hg hf
  subst this
  have hrun := mapW_lookup e3 e2 hM ha hb c
  have hex : (execOp a.eval o).run E.P w = .ok (.value (if c then .tuple #[.int .i64 ((g a' b').getD 0), .bool (g a' b').isSome] else .int .i64 ((g a' b').getD 0))) w := by
    simp only [execOp, e1, t0 rfl, pair_of o2, Sem.run_bind]
    rw [hrun]; rfl
  refine wpOp_done hi (wanted_none hgo) hdf (.inl hex) (hn _ _ _ h hk ?_ rfl)
  have ok : Ok s.fs h w (bif c then .tuple [I ((g a' b').getD 0), .bool (g a' b').isSome] else I ((g a' b').getD 0)) (if c = true then .tuple #[.int .i64 ((g a' b').getD 0), .bool (g a' b').isSome] else .int .i64 ((g a' b').getD 0)) := by
    cases c with
    | false => exact .data (.int _ _)
    | true =>
      refine ⟨.tuple _ _ rfl fun i v x h1 h2 => ?_, grow_plain rfl (fun _ _ _ e => (by cases e))⟩
      match i with
      | 0 => cases h1; cases h2; exact .int _ _
      | 1 => cases h1; cases h2; exact .bool _
  show E.relF _ _ _ _ _ _
  rw [(put_log _ _ _).1, (put_log _ _ _).2, fs_put]
  exact rel_after (eff := { v := _ }) cc R R.1 ok rfl

/-- A value is put. -/
theorem Steps.put (hE : In B E) {K : St → Prop} {s : St} {x y z : X} {rest : List Ins} {f : Int → Int → Option Int} {a' b' v : Int} (hx : evXs s.env [x, y, z] = some [.tok 0, .agg [I a', I b'], I v]) (hf : cur B s.log f) (ha : inI a') (hb : inI b') (hv : inI v) (hg : (a', b') ∈ gridL l) (hn : f a' b' = none)
    (hk : Go.Am.Steps E rest K { s with log := [[.mp (putF f a' b' v)]] }) : Go.Am.Steps E (⟨none, .mapup, [x, y, z], none⟩ :: rest) K s := by
  refine Step1.raw fun slots ops o i ro n a w h hc hs hi R Q next hnx => ?_
  obtain ⟨os, cc⟩ := comp_of hc
  have hgo : o.guard = none := by
    rcases cc.guard with ⟨_, e⟩ | ⟨j, want, t, _, _, e⟩
    · exact e
    · cases e
  have hdf := opK_defer cc.op
  obtain ⟨t, p, q, r, kt, e, e1, e2, e3, rfl⟩ := opK_mapup cc.op
  obtain ⟨u, u', u'', hu, o1, o2, o3⟩ := (opds_of R.1 cc.xs (evXs_ok hx)).three
  simp only [List.cons.injEq, and_true] at hu
  obtain ⟨rfl, rfl, rfl⟩ := hu
  obtain ⟨t0, _, _⟩ := tok_of hE R o1
  obtain ⟨M1, hM1, hlt1, ⟨g, hg', hM, hC, ⟨n1, n2, n3⟩, hR, hmine⟩, back⟩ := sur_of hE R
  have := cur_inj hg' hf
  subst this
  obtain ⟨w', hrun, hM', hoth, hsz, hos, htp, hou⟩ := mapW_put e3 e2 hM ha hb hv hg hn
  obtain ⟨ne1, ne2⟩ := hC.ne hM
  have hX : RestX B.mb w h.φ w' h.φ := ⟨fun b _ hne => ⟨hoth b hne, rfl⟩, hR.z, by omega, hos, htp, hou, fun b hb => R.1.top b (by omega)⟩
  have ext := hX.ext hR.z R.1.top
  have sur' := back [[.mp (putF g a' b' v)]] s.stp w' h.φ ⟨_, .inr rfl, hM', hC.keep (hoth _ ne1) (hoth _ ne2), ⟨n1, n2, n3⟩, hR.trans hX, hmine⟩ ext (fun b hb => ⟨hoth b (fun e => n1 (e ▸ hb)), rfl⟩) (by omega) (fun b hb => R.1.top b (by omega)) hos htp hou
  have R' := rel_round R.1 ext (fun b hb => ⟨hoth b (fun e => n1 (e ▸ hM1 b hb)), rfl⟩) (by omega) (fun b hb => R.1.top b (by omega)) sur'
  have hd : o.dst = none := cc.d.symm
  have hex : (execOp a.eval o).run E.P w = .ok .skip w' := by
    simp only [execOp, e1, t0 rfl, pair_of o2, ok_int o3, Sem.run_bind]
    rw [hrun]; rfl
  refine wpOp_done (x := undef) hi (wanted_none hgo) hdf (.inr ⟨hex, rfl⟩) (hnx _ _ _ { h with φ := h.φ } hk ?_ rfl)
  rw [hd]
  exact ⟨R', R.2⟩

end

/-- **ONE CALL OF THE RECURSION.** -/
def CW (l : List (List Int)) (sl k : Nat) : Prop := ∀ (c i : Nat), c + k + 1 = l.length → i < deepOf l → ∀ (B : Base l sl), B.Ok → MapW B.w B.mb (gridL l) B.f → Cyc B.mb B.kb B.wb B.sy B.w → GoodF l sl B.f →
  Calls Tryz.prog F.volume_section_worths_1 #[.agg #[.int .i64 c, .int .i64 i], ptrV B.kb, B.sx, ptrV B.wb] B.w fun e w' => ∃ φ' f', e = .returned (.int .i64 (worthV l sl c i)) ∧ MapW w' B.mb (gridL l) f' ∧ RestX B.mb B.w B.φ w' φ' ∧ GoodF l sl f' ∧
    (∀ a b v, B.f a b = some v → f' a b = some v) ∧ f' c i = some (worthV l sl c i) ∧ ∀ a b, a < (c : Int) → f' a b = B.f a b

section
variable {l : List (List Int)} {sl : Nat} {B : Base l sl} {E : Env}

theorem callable_worths : callable Tryz.prog F.volume_section_worths_1 = true := by
  obtain ⟨_, _, _, _, _, _, _, h⟩ := chkF_ok chk.volume_section_worths_1
  exact h

theorem Steps.worth (hB : B.Ok) (hE : In B E) {k c i : Nat} (hCW : CW l sl k) (hck : c + k + 1 = l.length) (hil : i < deepOf l) {K : St → Prop} {s : St} {d : Nat} {x y : X} {rest : List Ins} {f : Int → Int → Option Int} (hx : evXs s.env [x, y] = some [recV l sl, .agg [I c, I i]]) (hf : cur B s.log f) (hgood : GoodF l sl f)
    (hk : ∀ f', GoodF l sl f' → (∀ a b v, f a b = some v → f' a b = some v) → f' c i = some (worthV l sl c i) → (∀ a b, a < (c : Int) → f' a b = f a b) → Go.Am.Steps E rest K { s.put (some d) (I (worthV l sl c i)) with log := [[.mp f']] }) : Go.Am.Steps E (⟨some d, .callv, [x, y], none⟩ :: rest) K s := by
  refine Step1.raw fun slots ops o i' ro n a w h hcc hs hi' R Q next hn => ?_
  obtain ⟨os, cc⟩ := comp_of hcc
  have hgo : o.guard = none := by
    rcases cc.guard with ⟨_, e⟩ | ⟨j, want, t, _, _, e⟩
    · exact e
    · cases e
  obtain ⟨cl, t, e1, e2, rfl⟩ := opK_callv cc.op
  have hO := opds_of R.1 cc.xs (evXs_ok hx)
  obtain ⟨M1, hM1, hlt1, ⟨g, hg', hM, hC, ⟨n1, n2, n3⟩, hR, hmine⟩, back⟩ := sur_of hE R
  have := cur_inj hg' hf
  subst this
  cases hO with
  | cons o1 o2 =>
    obtain ⟨f', c', ef, hf', hc', _, h2⟩ := ok_func o1
    have hf0 : f' = #[] := Array.eq_empty_of_size_eq_zero (by simpa using hf'.symm)
    subst hf0
    obtain ⟨x0, x1, x2, rfl⟩ : ∃ x0 x1 x2, c' = #[x0, x1, x2] := by
      obtain ⟨c'⟩ := c'
      match c', hc' with
      | [x0, x1, x2], _ => exact ⟨x0, x1, x2, rfl⟩
    have r0 := h2 0 _ x0 rfl rfl
    have r1 := h2 1 _ x1 rfl rfl
    have r2 := h2 2 _ x2 rfl rfl
    have q0 : x0 = ptrV B.kb := (tok_of (k := 1) hE R ⟨r0, grow_plain (σ := s.fs) rfl (fun _ _ _ e => (by cases e))⟩).2.1 rfl
    have q2 : x2 = ptrV B.wb := (tok_of (k := 2) hE R ⟨r2, grow_plain (σ := s.fs) rfl (fun _ _ _ e => (by cases e))⟩).2.2 rfl
    subst q0 q2
    have q1 : RepD w h.φ (.vptr (secC l sl) 0) x1 := by
      cases r1 with
      | data r => exact r
    obtain ⟨u, hu, o3⟩ : ∃ u, cl.args.toList = [u] ∧ Ok s.fs h w (.agg [I c, I i]) (a.eval u) := by
      cases hl : cl.args.toList with
      | nil => rw [hl] at o2; cases o2
      | cons u r =>
        rw [hl] at o2
        cases o2 with
        | cons o3 o4 => cases o4; exact ⟨u, rfl, o3⟩
    have hargs : cl.args.map a.eval = #[.agg #[.int .i64 c, .int .i64 i]] := by
      rw [← Array.toList_inj, Array.toList_map, hu]
      simp only [List.map_cons, List.map_nil, pair_of o3]
    have hrun := run_callv (E := E) (o := o) (a := a) (w := w) (by rw [hE.P]; exact callable_worths) e2 e1 ef
    rw [hargs] at hrun
    unfold wpOpIn
    simp only [hi', wanted_none hgo, if_true, Oper.wpIn]
    refine ⟨fun _ _ => trivial, ?_⟩
    rw [Oper.semAt_eq _ _ _ (opK_defer cc.op), hrun]
    simp only [Oper.uponIn]
    refine ⟨fun e => by simp [wideR, Fence.wide] at e, ?_⟩
    have ext0 := hR.ext hB.z hB.top
    have hcall := hCW c i hck hil { w := w, φ := h.φ, f := g, mb := B.mb, kb := B.kb, wb := B.wb, sx := x1, sy := B.sy } ⟨R.1.top, hR.z, Nat.lt_of_lt_of_le hB.m hR.size, Nat.lt_of_lt_of_le hB.k hR.size, Nat.lt_of_lt_of_le hB.wl hR.size, q1, hB.rep'.mono ext0⟩ hM hC hgood
    rw [← hE.P] at hcall
    refine (callsIn_wideR hcall).mono ?_
    rintro e w' ⟨φ', f', rfl, hM', hX, hG', hext, hci, hcols⟩
    obtain ⟨ne1, ne2⟩ := hC.ne hM
    have ext := hX.ext hR.z R.1.top
    have own : ∀ b, M1 b → w'.heap[b]? = w.heap[b]? ∧ φ' b = h.φ b := fun b hb => hX.blk b (hlt1 b hb) (fun e => n1 (e ▸ hb))
    have sur' := back [[.mp f']] s.stp w' φ' ⟨_, .inr rfl, hM', hC.keep (hX.blk _ (Nat.lt_of_lt_of_le hB.k hR.size) ne1).1 (hX.blk _ (Nat.lt_of_lt_of_le hB.wl hR.size) ne2).1, ⟨n1, n2, n3⟩, hR.trans hX, hmine⟩ ext own hX.size hX.top hX.os hX.tape hX.output
    have R' := rel_round R.1 ext (fun b hb => own b (hM1 b hb)) hX.size hX.top sur'
    refine hn _ _ _ { h with φ := φ' } (hk f' hG' hext hci hcols) ⟨?_, R.2⟩ rfl
    have hd : o.dst = some d := cc.d.symm
    rw [hd]
    have := R'.put (d := d) (v := I (worthV l sl c i)) (x := .int .i64 (worthV l sl c i)) (cc.dst d hd) (.data (.int _ _)) (grow_plain rfl (fun _ _ _ e => (by cases e)))
    rw [← fs_put] at this
    exact this

end

/-! ### The recursion -/
theorem RestX.refl {mb : Nat} {w : World} {φ : Nat → Nat} (hz : φ mb = 0) (htop : ∀ b, w.heap.size ≤ b → φ b = 0) : RestX mb w φ w φ :=
  ⟨fun _ _ _ => ⟨rfl, rfl⟩, hz, Nat.le_refl _, rfl, rfl, rfl, htop⟩

theorem putF_same (f : Int → Int → Option Int) (a b v : Int) : putF f a b v a b = some v := by simp [putF]
theorem putF_other {f : Int → Int → Option Int} {a b v x y : Int} (h : ¬ (x = a ∧ y = b)) : putF f a b v x y = f x y := by
  unfold putF
  rw [if_neg]
  simpa using h

theorem GoodF.put {l : List (List Int)} {sl c i : Nat} {f : Int → Int → Option Int} (h : GoodF l sl f) (hc : c < l.length) (hi : i < deepOf l) (hq : ∀ q ∈ nextN l.length (deepOf l) sl c i, (f ((c + 1 : Nat) : Int) q).isSome = true) : GoodF l sl (putF f c i (worthV l sl c i)) := by
  have some_put : ∀ x y : Int, (f x y).isSome = true → (putF f c i (worthV l sl c i) x y).isSome = true := fun x y hx => by
    by_cases h1 : x = (c : Int) ∧ y = (i : Int)
    · obtain ⟨rfl, rfl⟩ := h1; rw [putF_same]; rfl
    · rw [putF_other h1]; exact hx
  refine ⟨fun a b v hv => ?_, fun c' i' hs q hq' => ?_⟩
  · by_cases h1 : a = (c : Int) ∧ b = (i : Int)
    · obtain ⟨rfl, rfl⟩ := h1
      rw [putF_same] at hv
      cases hv
      exact ⟨c, i, rfl, rfl, hc, hi, rfl⟩
    · rw [putF_other h1] at hv
      exact h.1 a b v hv
  · by_cases h1 : (c' : Int) = (c : Int) ∧ (i' : Int) = (i : Int)
    · have e1 : c' = c := by omega
      have e2 : i' = i := by omega
      subst e1 e2
      exact some_put _ _ (hq q hq')
    · rw [putF_other h1] at hs
      exact some_put _ _ (h.2 c' i' hs q hq')

/-- What the frame of one call comes to. -/
def KW (l : List (List Int)) (sl c i : Nat) (B : Base l sl) (s : St) : Prop := ∃ f', cur B s.log f' ∧ GoodF l sl f' ∧ (∀ a b v, B.f a b = some v → f' a b = some v) ∧ f' c i = some (worthV l sl c i) ∧ ∀ a b, a < (c : Int) → f' a b = B.f a b

theorem In.inner {l : List (List Int)} {sl : Nat} {B : Base l sl} {E : Env} (hE : In B E) {cc : LC} {S2 : Sur} (h : SurIn E.S S2) : In B (E.inner cc S2 h.ok) := ⟨hE.P, h.sub.trans hE.sub, hE.lk⟩

set_option maxHeartbeats 2000000 in
theorem cw_step {l : List (List Int)} {sl k : Nat} (hl : secOk l = true) (hsl : sl ≤ 32) (ih : ∀ k', k' + 1 = k → CW l sl k') : CW l sl k := by
  intro c i hck hil B hB hM hC hG
  obtain ⟨hev, hn, hd, hnum⟩ := secOk_spec hl
  obtain ⟨fn, code, h1, h2, h3, h4, h5, _⟩ := chkF_ok chk.volume_section_worths_1
  have hcl : c < l.length := by omega
  have hlc : l[c].length = deepOf l := evenL_spec hev hcl
  have hilc : i < l[c].length := by omega
  have bl := numsOk_spec hnum hcl hilc
  have hyl : ∀ l', some (enc3 B.mb B.kb B.wb) = some l' → Go.Am.Yields Tryz.prog (SW B) noYs l' ∧ l' = enc3 B.mb B.kb B.wb := fun l' e => by
    cases e
    refine ⟨fun log x M w φ xs hp => ?_, rfl⟩
    exact False.elim hp
  obtain ⟨r0, r1, r2⟩ := tok_rep (B := B) (w := B.w) (φ := B.φ) (β := fun _ => none) (y := some (enc3 B.mb B.kb B.wb)) rfl rfl
  refine (calls_body (E := { P := Tryz.prog, nt := 52, S := SW B, ys := noYs, pin := [], ok := SW_ok hB, mixed := mixed, lk := fun k => k = enc3 B.mb B.kb B.wb }) (φ := B.φ) (y := some (enc3 B.mb B.kb B.wb)) (args := [.agg [I c, I i], .tok 1, .vptr (secC l sl) 0, .tok 2]) h1 h2 h4 h3 (by simp) rfl ?_ ?_ hB.top hyl (r := I (worthV l sl c i)) (K := KW l sl c i B) ?_).mono ?_
  · intro j v x hv hx
    match j with
    | 0 =>
      cases hv; cases hx
      have rd : RepD B.w B.φ (.agg [I c, I i]) (.agg #[.int .i64 c, .int .i64 i]) := .agg _ _ rfl fun j v x h1 h2 => by
        match j with
        | 0 => cases h1; cases h2; exact .int _ _
        | 1 => cases h1; cases h2; exact .int _ _
        | j + 2 => simp at h1
      exact ⟨.data rd, fun σ h => GrowV.of_data rd⟩
    | 1 => cases hv; cases hx; exact ⟨r1, fun σ h => grow_plain rfl (fun _ _ _ e => (by cases e))⟩
    | 2 => cases hv; cases hx; exact ⟨.data hB.rep, fun σ h => GrowV.of_data hB.rep⟩
    | 3 => cases hv; cases hx; exact ⟨r2, fun σ h => grow_plain rfl (fun _ _ _ e => (by cases e))⟩
    | j + 4 => simp at hv
  · exact ⟨B.f, .inl ⟨rfl, rfl⟩, hM, hC, ⟨fun h => h, fun h => h, fun h => h⟩, RestX.refl hB.z hB.top, fun b hb => hb.elim⟩
  rotate_left
  · rintro e w' ⟨s', h', x, rfl, hr, ⟨f, hf, hM', hC', _, hR, _⟩, ht, ⟨f', hf', hG', hx1, hx2, hx3⟩⟩
    have := cur_inj hf hf'
    subst this
    have hx : x = .int .i64 (worthV l sl c i) := by cases hr with | data r => cases r; rfl
    exact ⟨h'.φ, f, by rw [hx], hM', hR, hG', hx1, hx2, hx3⟩
  rw [h5]
  obtain ⟨E, hEq⟩ : ∃ E : Env, E = { P := Tryz.prog, nt := 52, S := SW B, ys := noYs, pin := [], ok := SW_ok hB, mixed := mixed, lk := fun k => k = enc3 B.mb B.kb B.wb } := ⟨_, rfl⟩
  have hE : In B { P := Tryz.prog, nt := 52, S := SW B, ys := noYs, pin := [], ok := SW_ok hB, mixed := mixed, lk := fun k => k = enc3 B.mb B.kb B.wb } := ⟨rfl, Sub.refl _, fun k hk => hk⟩
  refine Tr.seqR rfl (by simp) ?_
  refine Tr.seq (Tr.seq (Tr.reg (Steps.ldtok hB hE 1 (.tok 0) rfl (.inl ⟨rfl, rfl⟩) (Steps.run rfl (by simp) ?_))))
  refine Steps.look (f := B.f) (a' := c) (b' := i) hE rfl (.inl ⟨rfl, rfl⟩) (by unfold inI; omega) (by unfold inI; omega) ?_
  refine Steps.fin rfl (by simp) (Tr.seqR rfl (by simp) (Tr.cond rfl rfl (fun e1 => Tr.seqR rfl (by simp) (Tr.retX rfl rfl rfl ?_ ?_)) (fun e1 => Tr.skip ?_)))
  · have e1 : (B.f c i).isSome = true := e1
    obtain ⟨v, hv⟩ := Option.isSome_iff_exists.1 e1
    obtain ⟨c', i', e2, e3, _, _, rfl⟩ := hG.1 _ _ _ hv
    have e2 : c = c' := by omega
    have e3 : i = i' := by omega
    subst e2 e3
    simp [packR, hv]
  · have e1 : (B.f c i).isSome = true := e1
    obtain ⟨v, hv⟩ := Option.isSome_iff_exists.1 e1
    obtain ⟨c', i', e2, e3, _, _, rfl⟩ := hG.1 _ _ _ hv
    have e2 : c = c' := by omega
    have e3 : i = i' := by omega
    subst e2 e3
    exact ⟨B.f, .inl ⟨rfl, rfl⟩, hG, fun _ _ _ h => h, hv, fun _ _ _ => rfl⟩
  have hnone : B.f c i = none := by
    have e1 : (B.f c i).isSome = false := e1
    simpa using e1
  refine Tr.seqR rfl (by simp) ?_
  refine Tr.seq (Tr.seqC rfl (by simp) (Steps.call rfl rfl (c_next l sl c i) (Steps.fin rfl (by simp) (Tr.block ?_))))
  refine Tr.weak (s' := { env := [(22, .func (.func F.volume_section_next_1) [] [.vptr [I c, I i] 0, .vptr (secC l sl) 0]), (1, .tok 1), (2, .vptr (secC l sl) 0), (3, .tok 2), (4, .ptr 4 0), (8, .ptr 8 0), (9, .ptr 9 0)], bx := [(4, ⟨[I c, I i], false⟩), (8, ⟨[I 0], false⟩), (9, ⟨[.bool false], false⟩)], rw := [], log := [], stp := false })
    (Wk.le (.cons rfl (.refl _) (.cons rfl (.refl _) (.cons rfl (.refl _) (.cons rfl (.refl _) (.cons rfl (.refl _) (.cons rfl (.refl _) (.cons rfl (.refl _) .nil))))))) (.cons rfl (LLe.refl _) (.cons rfl (LLe.refl _) (.cons rfl (LLe.refl _) .nil))) .nil rfl rfl) ?_
  refine Tr.range rfl rfl (i_next l sl c i hn.2 hd hsl hcl hil) rfl rfl rfl (by intro x hx; obtain ⟨q, _, rfl⟩ := List.mem_map.1 hx; rfl)
    (fun pre t => ∃ m f, m ≤ (nextN l.length (deepOf l) sl c i).length ∧ pre = ((nextN l.length (deepOf l) sl c i).take m).map (spotV c) ∧ (cur B t.log f ∧ GoodF l sl f ∧ (∀ a b v, B.f a b = some v → f a b = some v) ∧ (∀ q ∈ (nextN l.length (deepOf l) sl c i).take m, (f ((c + 1 : Nat) : Int) q).isSome = true) ∧ ∀ a b, a < ((c + 1 : Nat) : Int) → f a b = B.f a b) ∧
      t.bx = [(4, ⟨[I c, I i], false⟩), (8, ⟨[I (bestG (((nextN l.length (deepOf l) sl c i).take m).map (worthV l sl (c + 1)))).2], false⟩), (9, ⟨[.bool (bestG (((nextN l.length (deepOf l) sl c i).take m).map (worthV l sl (c + 1)))).1], false⟩)] ∧ t.rw = [])
    (fun _ _ => False) ⟨0, B.f, by omega, rfl, ⟨.inl ⟨rfl, rfl⟩, hG, fun _ _ _ h => h, fun q hq => by simp at hq, fun _ _ _ => rfl⟩, by simp [bestG], rfl⟩ ?_ ?_ ?_
  · rintro a0 L0 rc0 h0 S1 S2 ok1 ok2 pre x t lp hpre ⟨m, f, hm, rfl, ⟨hf, hGf, hext, hhas, hcols⟩, hbx, hrw⟩ henv hstp
    obtain ⟨env, bx, rw, log, stp⟩ := t
    simp only at hbx hrw hf henv hstp
    subst hbx hrw henv hstp
    have hmx : m < (nextN l.length (deepOf l) sl c i).length ∧ ∃ q, (nextN l.length (deepOf l) sl c i)[m]? = some q ∧ x = spotV c q := by
      have h1 : (((nextN l.length (deepOf l) sl c i).take m).map (spotV c)).length = m := by simp; omega
      have h2 := hpre.length_le
      simp at h2
      have hml : m < (nextN l.length (deepOf l) sl c i).length := by omega
      refine ⟨hml, _, List.getElem?_eq_getElem hml, ?_⟩
      have h3 := List.IsPrefix.getElem hpre (i := m) (by simp; omega)
      simp only [List.getElem_map] at h3
      rw [List.getElem_append_right (by omega)] at h3
      simpa using h3
    obtain ⟨hml, q, hq, rfl⟩ := hmx
    obtain ⟨hcn, hqd⟩ := nextN_lt hd.1 (List.mem_of_getElem? hq)
    obtain ⟨k', rfl⟩ : ∃ k', k = k' + 1 := ⟨k - 1, by omega⟩
    have htk : (nextN l.length (deepOf l) sl c i).take (m + 1) = (nextN l.length (deepOf l) sl c i).take m ++ [q] := by rw [List.take_add_one, hq]; rfl
    refine Tr.regR rfl (by simp) (Tr.block ?_)
    refine Tr.seq (Tr.reg (Steps.ldtok hB (hE.inner ok2) 2 (recV l sl) rfl (.inr ⟨rfl, rfl⟩) (Steps.run rfl (by simp) ?_)))
    refine Steps.worth (k := k') (c := c + 1) (i := q) (f := f) hB (hE.inner ok2) (ih k' rfl) (by omega) hqd rfl hf hGf (fun f' hG' hx1 hx2 hx3 => ?_)
    have h1f : f' ((c + 1 : Nat) : Int) q = some (worthV l sl (c + 1) q) := hx2
    have hhas' : ∀ q' ∈ (nextN l.length (deepOf l) sl c i).take (m + 1), (f' ((c + 1 : Nat) : Int) q').isSome = true := fun q' hq' => by
      rw [htk] at hq'
      rcases List.mem_append.1 hq' with h | h
      · obtain ⟨v, hv⟩ := Option.isSome_iff_exists.1 (hhas q' h)
        rw [hx1 _ _ _ hv]; rfl
      · simp at h; subst h; rw [h1f]; rfl
    have hbest : bestG (((nextN l.length (deepOf l) sl c i).take (m + 1)).map (worthV l sl (c + 1))) = stepW (bestG (((nextN l.length (deepOf l) sl c i).take m).map (worthV l sl (c + 1)))) (worthV l sl (c + 1) q) := by
      rw [htk]; simp [bestG]
    generalize bestG (((nextN l.length (deepOf l) sl c i).take m).map (worthV l sl (c + 1))) = bs at hbest ⊢
    obtain ⟨is, best⟩ := bs
    refine Steps.fin rfl (by simp) (Tr.seqR rfl (by simp) (Tr.cond rfl rfl (fun e2 => ?_) (fun e2 => ?_)))
    · have e2 : (bif !is then true else decide (worthV l sl (c + 1) q > best)) = true := e2
      refine Tr.regR rfl (by simp) ?_
      refine ⟨{ env := [], bx := [(4, ⟨[I c, I i], false⟩), (8, ⟨[I (worthV l sl (c + 1) q)], false⟩), (9, ⟨[.bool true], false⟩)], rw := [], log := [[.mp f']], stp := false }, ?_, ⟨m + 1, f', by omega, ?_, ⟨.inr rfl, hG', fun a b v hv => hx1 _ _ _ (hext _ _ _ hv), hhas', fun a b hab => (hx3 a b hab).trans (hcols a b hab)⟩, ?_, rfl⟩, rfl⟩
      · exact Wk.leL .nil (.cons rfl (LLe.refl _) (.cons rfl (LLe.refl _) (.cons rfl (LLe.refl _) .nil))) .nil rfl rfl rfl
      · rw [htk]; simp
      · rw [hbest]
        have : stepW (is, best) (worthV l sl (c + 1) q) = (true, worthV l sl (c + 1) q) := by
          unfold stepW
          rw [if_pos]
          cases is <;> simp at e2 ⊢; exact e2
        rw [this]
    · have e2 : (bif !is then true else decide (worthV l sl (c + 1) q > best)) = false := e2
      refine Tr.skip ?_
      refine ⟨{ env := [], bx := [(4, ⟨[I c, I i], false⟩), (8, ⟨[I best], false⟩), (9, ⟨[.bool is], false⟩)], rw := [], log := [[.mp f']], stp := false }, ?_, ⟨m + 1, f', by omega, ?_, ⟨.inr rfl, hG', fun a b v hv => hx1 _ _ _ (hext _ _ _ hv), hhas', fun a b hab => (hx3 a b hab).trans (hcols a b hab)⟩, ?_, rfl⟩, rfl⟩
      · exact Wk.leL .nil (.cons rfl (LLe.refl _) (.cons rfl (LLe.refl _) (.cons rfl (LLe.refl _) .nil))) .nil rfl rfl rfl
      · rw [htk]; simp
      · rw [hbest]
        have : stepW (is, best) (worthV l sl (c + 1) q) = (is, best) := by
          unfold stepW
          rw [if_neg]
          cases is <;> simp at e2 ⊢; omega
        rw [this]
  · rintro ⟨env, bx, rw, log, stp⟩ henv hstp ⟨m, f, hm, hpre, ⟨hf, hGf, hext, hhas, hcols⟩, hbx, hrw⟩
    simp only at hbx hrw hf henv hstp
    subst hbx hrw henv hstp
    have hml : m = (nextN l.length (deepOf l) sl c i).length := by
      have := congrArg List.length hpre
      simp at this; omega
    subst hml
    rw [List.take_length] at hhas ⊢
    have hval := worthV_eq (sl := sl) (i := i) hcl
    rw [at2_eq hcl hilc] at hval
    generalize bestG ((nextN l.length (deepOf l) sl c i).map (worthV l sl (c + 1))) = bs at hval ⊢
    obtain ⟨is, best⟩ := bs
    have bw := worthV_bd (sl := sl) hnum hn c i
    have hfn : f c i = none := by rw [hcols _ _ (by omega)]; exact hnone
    refine Tr.seq (Tr.drawK (TraceK.ldtok hB hE 1 (.tok 0) rfl (.inl ⟨rfl, rfl⟩) (TraceK.runN 6 rfl (by simp; exact hcl) ?_)))
    rw [getD_map hcl]
    refine TraceK.runN 4 rfl (by simp; exact hilc) ?_
    rw [getD_map hilc]
    have hw : IntKind.i64.wrap (l[c][i] + best) = worthV l sl c i := by rw [w64 (by omega) (by omega), hval]
    refine TraceK.run rfl (by simp) (.done ⟨by kernel_rfl, by kernel_rfl, ?_⟩)
    refine Steps.put (f := f) (a' := c) (b' := i) (v := worthV l sl c i) hE (hw ▸ rfl) hf (by unfold inI; omega) (by unfold inI; omega) (by unfold inI; omega) (mem_grid hcl hil) hfn ?_
    have hG' := hGf.put (sl := sl) hcl hil hhas
    have hcur : cur B [[.mp (putF f c i (worthV l sl c i))]] (putF f c i (worthV l sl c i)) := .inr rfl
    refine Steps.fin rfl (by simp) (Tr.seq (Tr.reg (Steps.ldtok hB hE 1 (.tok 0) rfl (.inl ⟨rfl, rfl⟩) (Steps.run rfl (by simp) ?_))))
    refine Steps.look (f := putF f c i (worthV l sl c i)) (a' := c) (b' := i) hE rfl hcur (by unfold inI; omega) (by unfold inI; omega) ?_
    refine Steps.fin rfl (by simp) (Tr.retX rfl rfl rfl ?_ ?_)
    · simp [packR, putF_same]
    · refine ⟨_, hcur, hG', fun a b v hv => ?_, putF_same _ _ _ _, fun a b hab => ?_⟩
      · by_cases h1 : a = (c : Int) ∧ b = (i : Int)
        · obtain ⟨rfl, rfl⟩ := h1; rw [hnone] at hv; cases hv
        · rw [putF_other h1]; exact hext _ _ _ hv
      · rw [putF_other (by omega)]; exact hcols _ _ (by omega)
  · rintro _ _ _ h; exact h.elim

theorem cw_all {l : List (List Int)} {sl : Nat} (hl : secOk l = true) (hsl : sl ≤ 32) : ∀ k, CW l sl k
  | 0 => cw_step hl hsl fun k' h => by omega
  | k + 1 => cw_step hl hsl fun k' h => by
    have : k' = k := by omega
    subst this; exact cw_all hl hsl k'

end Go.Proofs.YtggifklgpdladaaGreat


/-! What a horizon is worth: the function that makes the map. -/
set_option linter.unusedVariables false
set_option linter.unusedSimpArgs false
set_option maxRecDepth 20000
namespace Go.Proofs.YtggifklgpdladaaGreat
open Go.Am Go.RowKit

attribute [local simp] cells scalar mkv splice under2 under dem dem1 secC secV intsV
/-! ### A frame that makes a map -/
def SM (E : Env) (mb : Nat) (g : List (Int × Int)) : Sur := fun log stp M w φ =>
  (∃ f, log = [[.mp f]] ∧ MapW w mb g f) ∧ ¬ M mb ∧ φ mb = 0 ∧ mb < w.heap.size ∧ E.S [] stp (fun b => M b ∨ b = mb) w φ

theorem SM_ok {E : Env} {mb : Nat} {g : List (Int × Int)} : (SM E mb g).ok := by
  refine ⟨?_, fun _ _ _ _ _ _ p hp => by simp [globalsV] at hp⟩
  intro log s M w φ M' w' φ' ⟨⟨f, h1, h2⟩, h3, h4, h5, h6⟩ mv
  obtain ⟨k1, k2⟩ := mv.old mb h5 h3
  refine ⟨⟨f, h1, h2.block k1⟩, fun h => ?_, k2.trans h4, Nat.lt_of_lt_of_le h5 mv.size, E.ok _ _ _ _ _ _ _ _ h6 ?_⟩
  · rcases mv.mine mb h with h | h
    · exact h3 h
    · omega
  · exact ⟨mv.ext, fun b hb hn => mv.old b hb fun h => hn (.inl h), mv.size, mv.os, mv.tape, mv.output, fun b hb => by
      rcases hb with hb | rfl
      · rcases mv.mine b hb with h | h
        · exact .inl (.inl h)
        · exact .inr h
      · exact .inl (.inr rfl), mv.top⟩

abbrev mapE (E : Env) (mb : Nat) (g : List (Int × Int)) : Env := { P := E.P, nt := E.nt, S := SM E mb g, ys := noYs, pin := [], ok := SM_ok, mixed := E.mixed, lk := fun k => k = enc3 mb 0 0 }

/-- At the end the map is data. -/
def QM (Q : Exit → St → Prop) : Exit → St → Prop := fun e s => ∃ f d, s.log = [[.mp f]] ∧ Go.Am.get s.env d = some (.tok 0) ∧ Q e { env := [(d, .mp f)], bx := [], rw := [], log := [], stp := s.stp }

section
variable {E : Env} {s : St} {a : Act} {w : World} {h : Gh} {mb : Nat} {g : List (Int × Int)}

theorem tokM {log : List (List V)} {stp : Bool} {σ σ' : FSt} {x : Value} (R : (mapE E mb g).relF log stp σ a w h) (o : Rep w h.φ h.β h.y.l (.tok 0) x) : x = .map (some mb) := by
  cases o with
  | data r => cases r
  | tok _ l' _ hy hx =>
    obtain ⟨a', b', c', h1, h2⟩ := hx
    have h3 : l' = enc3 mb 0 0 := (R.2.1 l' hy).2
    rw [h1] at h3
    obtain ⟨rfl, rfl, rfl⟩ := enc3_inj h3
    rcases h2 with ⟨_, rfl⟩ | ⟨e, _⟩ | ⟨e, _⟩
    · rfl
    · omega
    · omega

theorem rel_untok {f : Int → Int → Option Int} {d : Nat} (hpin : E.pin = []) (R : (mapE E mb g).rel s a w h) (hl : s.log = [[.mp f]]) (hd : Go.Am.get s.env d = some (.tok 0)) {y : Pin} (hy : E.yok y) :
    E.rel { env := [(d, .mp f)], bx := [], rw := [], log := [], stp := s.stp } a w { φ := fun b => if b = mb then 1 else h.φ b, β := fun _ => none, γ := fun _ => none, M := fun b => h.M b ∨ b = mb, y := y } := by
  obtain ⟨⟨f', h1, h2⟩, h3, h4, h5, h6⟩ := R.1.sur
  have hff : f' = f := by rw [hl] at h1; simpa using h1.symm
  subst hff
  obtain ⟨q1, q2, _⟩ := R.1.env d (.tok 0) (by rw [fs_g]; exact hd)
  have q3 := tokM (σ' := s.fs) R q2
  have rd : RepD w (fun b => if b = mb then 1 else h.φ b) (.mp f') (.map (some mb)) := by
    obtain ⟨es, c, m1, _, _, _, m2, _⟩ := h2
    refine .mp f' mb c es (by simp) ?_ m2
    unfold mapAt; rw [m1]
  have ext : Ext w h.φ w (fun b => if b = mb then 1 else h.φ b) := fun b o ho => by
    refine ⟨?_, rfl, rfl⟩
    by_cases e : b = mb
    · rw [e, h4] at ho; omega
    · simp [e, ho]
  refine ⟨?_, hy⟩
  exact {
    size := R.1.size
    env := fun t v hv => by
      rw [fs_g] at hv
      have hm := get_mem _ _ _ hv
      simp only [List.mem_singleton, Prod.mk.injEq] at hm
      obtain ⟨rfl, rfl⟩ := hm
      rw [q3]
      exact ⟨q1, .data rd, GrowV.of_data rd⟩
    bx := fun i bo hb => by rw [fs_b] at hb; cases hb
    dom := fun _ _ h => ((by cases h))
    inj := fun _ _ _ h => ((by cases h))
    rows := fun r n sz e hr => by rw [fs_r] at hr; cases hr
    rdom := fun _ _ h => ((by cases h))
    rinj := fun _ _ _ h => ((by cases h))
    apart := fun _ _ _ h => ((by cases h))
    pins := fun i blk hb => by
      have := hy.2 i (by rw [hb]; rfl)
      rw [hpin] at this; cases this
    mine := fun b hb => by
      rcases hb with hb | rfl
      · exact R.1.mine b hb
      · exact h5
    top := fun b hb => by
      have : b ≠ mb := by omega
      simp [this, R.1.top b hb]
    marks := R.1.marks.congr fun r hM hh => ⟨.inl hM, hh⟩
    sur := E.ok _ _ _ _ _ _ _ _ h6 ⟨ext, fun b hb hn => ⟨rfl, if_neg fun e => hn (.inr e)⟩, Nat.le_refl _, rfl, rfl, rfl, fun b hb => .inl hb, fun b hb => by
      have : b ≠ mb := by omega
      simp [this, R.1.top b hb]⟩ }

/-- Values that name nothing of the frame's but its boxes. -/
def plainV : V → Bool
  | .int _ _ => true
  | .bool _ => true
  | .nilm => true
  | .nilf => true
  | .nils => true
  | .ptr _ _ => true
  | .slice 0 _ _ => true
  | _ => false

theorem rep_plain {φ : Nat → Nat} {β : Nat → Option Nat} {y y' : Option Nat} {v : V} {x : Value} (hp : plainV v = true) (r : Rep w φ β y v x) : Rep w φ β y' v x := by
  cases r with
  | data r => exact .data r
  | ptr b off blk hb => exact .ptr b off blk hb
  | _ => cases hp

theorem rel_tok {s : St} (hpl : s.env.all (fun p => plainV p.2) = true) (hbl : s.bx.all (fun p => p.2.cs.all plainV) = true) (hrw : s.rw = []) (hlog : s.log = []) (hg : g.length ≤ 100000) (R : E.rel s a w h) (hpin : E.pin = []) :
    (mapE E w.heap.size g).rel { s with log := [[.mp fun _ _ => none]] } a (w.alloc (.map #[] 0)) { h with y := ⟨some (enc3 w.heap.size 0 0), h.y.p⟩ } := by
  have R1 := R.1.alloc E.ok (.map #[] 0)
  have hnew := World.alloc_heap_new w (.map #[] 0)
  have hne : ∀ b, b < w.heap.size → (w.alloc (.map #[] 0)).heap[b]? = w.heap[b]? := fun b hb => Below.heap_alloc w _ b hb
  have hM : ¬ h.M w.heap.size := fun hm => by have := R.1.mine _ hm; omega
  rw [List.all_eq_true] at hpl hbl
  refine ⟨?_, ⟨fun l hl => ?_, fun i hi => ?_⟩⟩
  · exact {
      size := R1.size
      env := fun t v hv => by
        obtain ⟨p1, p2, p3⟩ := R1.env t v hv
        rw [fs_g] at hv
        have hp := hpl _ (get_mem _ _ _ hv)
        exact ⟨p1, rep_plain hp p2, fun j u z hu hz r sz xs e => by
          subst e
          have : plainV v = true := hp
          cases v <;> simp [plainV] at this <;> simp [cells] at hu <;> (try (cases j <;> simp at hu))
          all_goals (try (obtain ⟨rfl, _⟩ := hu))
          all_goals (first | (subst hu; simp [plainV] at this) | (simp at this)) ⟩
      bx := fun i bo hb => by
        obtain ⟨blk, cs, e, b1, b2, b3, b4, b5, b6⟩ := R1.bx i bo hb
        rw [fs_b] at hb
        have hp := hbl _ (get_mem _ _ _ hb)
        rw [List.all_eq_true] at hp
        refine ⟨blk, cs, e, b1, ?_, b3, b4, fun j v x hv hx => ?_, b6⟩
        · rcases b2 with b2 | rfl
          · exact b2
          · rw [hnew] at b3; cases b3
        · obtain ⟨c1, c2, c3⟩ := b5 j v x hv hx
          exact ⟨rep_plain (hp v (List.mem_of_getElem? hv)) c1, fun r sz xs e => c2 r sz xs e, c3⟩
      dom := R1.dom
      inj := R1.inj
      rows := fun r n sz e hr => by rw [fs_r] at hr; simp only [hrw] at hr; cases hr
      rdom := fun r blk hb => R1.rdom r blk hb
      rinj := R1.rinj
      apart := R1.apart
      pins := R1.pins
      mine := fun b hb => by have := R.1.mine b hb; simp; omega
      top := R1.top
      marks := R.1.marks.congr fun r hMr hh => ⟨hMr, (hne r (R.1.mine r hMr)).trans hh⟩
      sur := by
        refine ⟨⟨_, rfl, MapW.made hg hnew⟩, hM, R.1.top _ (Nat.le_refl _), by simp, ?_⟩
        have := R1.sur
        rw [hlog] at this
        exact this }
  · cases hl
    refine ⟨fun log x M w φ xs hp => ?_, rfl⟩
    exact False.elim hp
  · have := R.2.2 i hi
    rw [hpin] at this; cases this

theorem opK_mkmap {P : Program} {o : Oper} {os : List Operand} (hk : opK P o.op = some (.mkmap, os)) : ∃ t, o.op = .makeMap t none := by
  replace hk := opK0_of hk (by simp [tagOf])
  cases ho : o.op <;> rw [ho] at hk <;> simp only [opK0] at hk <;> (try (cases hk; done)) <;> (try (repeat' (split at hk <;> (try (cases hk; done)))))
  all_goals first
    | (simp only [Option.map_eq_some_iff, Prod.mk.injEq] at hk; obtain ⟨_, _, h1, _⟩ := hk; cases h1; done)
    | (simp only [eqKind] at hk; repeat' (split at hk <;> (try (cases hk; done))))
    | (exact ⟨_, rfl⟩)

/-- **A MAP IS MADE**, and held on to till the end. -/
theorem Tr.mkmap {Q : Exit → St → Prop} {d : Nat} {rest : List Ins} {y : IC} (g : List (Int × Int)) (hg : g.length ≤ 100000) (hpl : s.env.all (fun p => plainV p.2) = true) (hbl : s.bx.all (fun p => p.2.cs.all plainV) = true) (hrw : s.rw = []) (hlog : s.log = []) (hpin : E.pin = [])
    (k : ∀ mb, Go.Am.Steps (mapE E mb g) rest (Tr (mapE E mb g) none y (QM Q)) { s.put (some d) (.tok 0) with log := [[.mp fun _ _ => none]] }) : Tr E none (.seq (.reg (⟨some d, .mkmap, [], none⟩ :: rest)) y) Q s := fun c hc n a w h R Q' hq => by
  obtain ⟨ca, cb, rfl, h1, h2⟩ := compC_inv hc
  obtain ⟨id, ops, rfl, h3⟩ := compC_inv h1
  obtain ⟨hl, hgt⟩ := compR_spec h3
  refine wpIn_seq (wpIn_region ?_)
  rw [List.range_eq_range']
  have hsz : ops.size = rest.length + 1 := by simpa using hl.symm
  rw [hsz, List.range'_succ, wpOpsIn_cons]
  obtain ⟨ins, e1, e2⟩ := hgt 0 ops[0] (Array.getElem?_eq_getElem (by omega))
  simp at e1
  subst e1
  obtain ⟨os, cc⟩ := comp_of e2
  have hgo : ops[0].guard = none := by
    rcases cc.guard with ⟨_, e⟩ | ⟨j, want, t, _, _, e⟩
    · exact e
    · cases e
  obtain ⟨t, e3⟩ := opK_mkmap cc.op
  have hex : (execOp a.eval ops[0]).run E.P w = .ok (.value (.map (some w.heap.size))) (w.alloc (.map #[] 0)) := by
    simp only [execOp, e3, Sem.run_bind]; rfl
  have R1 := rel_tok (g := g) hpl hbl hrw hlog hg R hpin
  have hd : ops[0].dst = some d := cc.d.symm
  have R2 : (mapE E w.heap.size g).rel { s.put (some d) (.tok 0) with log := [[.mp fun _ _ => none]] } (a.put (some d) (.map (some w.heap.size))) (w.alloc (.map #[] 0)) { h with y := ⟨some (enc3 w.heap.size 0 0), h.y.p⟩ } := by
    refine ⟨?_, R1.2⟩
    have := R1.1.put (d := d) (v := .tok 0) (x := .map (some w.heap.size)) (cc.dst d hd) (.tok 0 _ _ rfl ⟨_, _, _, rfl, .inl ⟨rfl, rfl⟩⟩) (grow_plain rfl (fun _ _ _ e => (by cases e)))
    rw [← fs_put] at this
    exact this
  refine wpOp_done (Array.getElem?_eq_getElem (by omega)) (wanted_none hgo) (opK_defer cc.op) (.inl hex) ?_
  rw [hd]
  refine steps_ok (E := mapE E w.heap.size g) (K := Tr (mapE E w.heap.size g) none y (QM Q)) h3 ⟨some (enc3 w.heap.size 0 0), h.y.p⟩ (fun s' a' w' h' k' R' ey => ?_) rest.length 1 _ _ _ _ (by omega) (by simpa using k w.heap.size) R2 rfl
  refine k' cb h2 n a' w' h' R' _ fun e s'' a'' w'' h'' hQ R'' ey' => ?_
  obtain ⟨f, d', q1, q2, q3⟩ := hQ
  exact hq e _ a'' w'' _ q3 (rel_untok hpin R'' q1 q2 R.2) rfl

end

/-! ### The calls from the function that makes it -/
def recP : V := .func (.func F.volume_section_worths_1) [] [.ptr 3 0, .ptr 1 0, .ptr 4 0]

section
variable {E : Env} {s : St} {l : List (List Int)} {sl : Nat} {mb : Nat}

theorem ptr_block {σ : FSt} {log : List (List V)} {stp : Bool} {a : Act} {w : World} {h : Gh} {E : Env} (R : E.relF log stp σ a w h) {i : Nat} {bo : Box} (hb : σ.b i = some bo) {x : Value} (r : Rep w h.φ h.β h.y.l (.ptr i 0) x) :
    ∃ blk cs e, x = ptrV blk ∧ h.M blk ∧ blk < w.heap.size ∧ w.heap[blk]? = some (.cells cs e (0, 0)) ∧ bo.cs.length ≤ cs.size ∧ (∀ (j : Nat) v x, bo.cs[j]? = some v → cs[j]? = some x → Rep w h.φ h.β h.y.l v x ∧ scalar v = true) ∧ h.φ blk = bif bo.fz then bo.cs.length else 0 := by
  obtain ⟨blk, cs, e, b1, b2, b3, b4, b5, b6⟩ := R.1.bx i bo hb
  refine ⟨blk, cs, e, ?_, b2, R.1.mine _ b2, b3, b4, fun j v x h1 h2 => ⟨(b5 j v x h1 h2).1, (b5 j v x h1 h2).2.2⟩, b6⟩
  cases r with
  | data r => cases r
  | ptr _ _ blk' hb' => rw [b1] at hb'; cases hb'; rfl

theorem Steps.worthTop {k c i : Nat} (hCW : CW l sl k) (hck : c + k + 1 = l.length) (hil : i < deepOf l) (hP : E.P = Tryz.prog) {K : St → Prop} {d : Nat} {x y : X} {rest : List Ins} {f : Int → Int → Option Int}
    (hx : evXs s.env [x, y] = some [recP, .agg [I c, I i]]) (hb1 : Go.Am.get s.bx 1 = some ⟨secC l sl, true⟩) (hb3 : Go.Am.get s.bx 3 = some ⟨[.tok 0], false⟩) (hb4 : Go.Am.get s.bx 4 = some ⟨[recP], false⟩) (hf : s.log = [[.mp f]]) (hgood : GoodF l sl f)
    (hk : ∀ f', GoodF l sl f' → (∀ a b v, f a b = some v → f' a b = some v) → f' c i = some (worthV l sl c i) → Go.Am.Steps (mapE E mb (gridL l)) rest K { s.put (some d) (I (worthV l sl c i)) with log := [[.mp f']] }) : Go.Am.Steps (mapE E mb (gridL l)) (⟨some d, .callv, [x, y], none⟩ :: rest) K s := by
  refine Step1.raw fun slots ops o i' ro n a w h hcc hs hi' R Q next hn => ?_
  obtain ⟨os, cc⟩ := comp_of hcc
  have hgo : o.guard = none := by
    rcases cc.guard with ⟨_, e⟩ | ⟨j, want, t, _, _, e⟩
    · exact e
    · cases e
  obtain ⟨cl, t, e1, e2, rfl⟩ := opK_callv cc.op
  have hO := opds_of R.1 cc.xs (evXs_ok hx)
  obtain ⟨⟨g, hg', hM⟩, nm, hz, hmb, hS⟩ := R.1.sur
  have : g = f := by rw [hf] at hg'; simpa using hg'.symm
  subst this
  have fb : ∀ {j : Nat} {bo : Box}, Go.Am.get s.bx j = some bo → s.fs.b j = some bo := fun h => by rw [fs_b]; exact h
  cases hO with
  | cons o1 o2 =>
    obtain ⟨f', c', ef, hf', hc', _, h2⟩ := ok_func o1
    have hf0 : f' = #[] := Array.eq_empty_of_size_eq_zero (by simpa using hf'.symm)
    subst hf0
    obtain ⟨x0, x1, x2, rfl⟩ : ∃ x0 x1 x2, c' = #[x0, x1, x2] := by
      obtain ⟨c'⟩ := c'
      match c', hc' with
      | [x0, x1, x2], _ => exact ⟨x0, x1, x2, rfl⟩
    obtain ⟨kb, ck, _, rfl, mk, lk, hk3, sk, rk, _⟩ := ptr_block R (fb hb3) (h2 0 _ x0 rfl rfl)
    obtain ⟨sb, cs, _, rfl, ms, ls, hs1, ss, rs, hφ⟩ := ptr_block R (fb hb1) (h2 1 _ x1 rfl rfl)
    obtain ⟨wb, cw, _, rfl, mw, lw, hw4, sw, rw4, _⟩ := ptr_block R (fb hb4) (h2 2 _ x2 rfl rfl)
    have cellOf : ∀ {b : Nat} {cs : Array Value} {e : TypeId} {z : Value}, w.heap[b]? = some (.cells cs e (0, 0)) → cs[0]? = some z → w.cell? ⟨b, 0, none⟩ = some z := fun h1 h2 => by
      have := cell_of_row w _ 0 _ _ (0, 0) h1
      rw [this]; exact h2
    -- the map's variable
    obtain ⟨z, hcz⟩ : ∃ z, ck[0]? = some z := ⟨_, Array.getElem?_eq_getElem (show 0 < ck.size from sk)⟩
    have hz3 : z = .map (some mb) := tokM (σ' := s.fs) R (rk 0 _ z rfl hcz).1
    subst hz3
    -- the recursion's own variable
    obtain ⟨z, hcw⟩ : ∃ z, cw[0]? = some z := ⟨_, Array.getElem?_eq_getElem (show 0 < cw.size from sw)⟩
    have hz4 : z = .func (.func F.volume_section_worths_1) #[] #[ptrV kb, ptrV sb, ptrV wb] := by
      obtain ⟨f1, c1, ef1, hf1, hc1, _, k2⟩ := ok_func (f := F.volume_section_worths_1) (first := []) (cap := [.ptr 3 0, .ptr 1 0, .ptr 4 0]) (σ := s.fs) (h := h) (w := w) ⟨(rw4 0 _ z rfl hcw).1, grow_plain rfl (fun _ _ _ e => (by cases e))⟩
      have hf0 : f1 = #[] := Array.eq_empty_of_size_eq_zero (by simpa using hf1.symm)
      subst hf0
      obtain ⟨y0, y1, y2, rfl⟩ : ∃ y0 y1 y2, c1 = #[y0, y1, y2] := by
        obtain ⟨c1⟩ := c1
        match c1, hc1 with
        | [y0, y1, y2], _ => exact ⟨y0, y1, y2, rfl⟩
      have same : ∀ {j : Nat} {bo : Box} {u v : Value}, s.fs.b j = some bo → Rep w h.φ h.β h.y.l (.ptr j 0) u → Rep w h.φ h.β h.y.l (.ptr j 0) v → u = v := fun hb r1 r2 => by
        cases r1 with
        | data r => cases r
        | ptr _ _ b1 q1 => cases r2 with
          | data r => cases r
          | ptr _ _ b2 q2 => rw [q1] at q2; cases q2; rfl
      rw [ef1, same (fb hb3) (k2 0 _ y0 rfl rfl) (h2 0 _ _ rfl rfl), same (fb hb1) (k2 1 _ y1 rfl rfl) (h2 1 _ _ rfl rfl), same (fb hb4) (k2 2 _ y2 rfl rfl) (h2 2 _ _ rfl rfl)]
      rfl
    subst hz4
    have rep1 : RepD w h.φ (.vptr (secC l sl) 0) (ptrV sb) := by
      refine .vptr _ 0 sb 0 (fun j => cs.getD j undef) (fun j v hv => ?_) (fun j v hv => ?_)
      · have hj0 := (List.getElem?_eq_some_iff.1 hv).1
        have hj : j < cs.size := by have h2 : (secC l sl).length ≤ cs.size := ss; omega
        refine ⟨by rw [hφ]; simpa using hj0, ?_, (rs j v cs[j] hv (by simp [hj])).2⟩
        rw [cell_of_row w sb (0 + j) cs _ (0, 0) hs1]
        simp [hj]
      · have hj : j < cs.size := by have h1 := (List.getElem?_eq_some_iff.1 hv).1; have h2 : (secC l sl).length ≤ cs.size := ss; omega
        have hr := (rs j v cs[j] hv (by simp [hj])).1
        have e : cs.getD j undef = cs[j] := by simp [hj]
        rw [e]
        have hd : ∃ u, v = I u ∨ v = secV l := by
          match j with
          | 0 => cases hv; exact ⟨_, .inl rfl⟩
          | 1 => cases hv; exact ⟨_, .inl rfl⟩
          | 2 => cases hv; exact ⟨0, .inr rfl⟩
          | 3 => cases hv; exact ⟨_, .inl rfl⟩
          | j + 4 => simp at hv
        obtain ⟨u, rfl | rfl⟩ := hd <;> (cases hr with | data r => exact r)
    obtain ⟨u, hu, o3⟩ : ∃ u, cl.args.toList = [u] ∧ Ok s.fs h w (.agg [I c, I i]) (a.eval u) := by
      cases hl : cl.args.toList with
      | nil => rw [hl] at o2; cases o2
      | cons u r =>
        rw [hl] at o2
        cases o2 with
        | cons o3 o4 => cases o4; exact ⟨u, rfl, o3⟩
    have hargs : cl.args.map a.eval = #[.agg #[.int .i64 c, .int .i64 i]] := by
      rw [← Array.toList_inj, Array.toList_map, hu]
      simp only [List.map_cons, List.map_nil, pair_of o3]
    have hrun := run_callv (E := mapE E mb (gridL l)) (o := o) (a := a) (w := w) (by show callable E.P _ = true; rw [hP]; exact callable_worths) e2 e1 ef
    rw [hargs] at hrun
    unfold wpOpIn
    simp only [hi', wanted_none hgo, if_true, Oper.wpIn]
    refine ⟨fun _ _ => trivial, ?_⟩
    rw [Oper.semAt_eq _ _ _ (opK_defer cc.op), hrun]
    simp only [Oper.uponIn]
    refine ⟨fun e => by simp [wideR, Fence.wide] at e, ?_⟩
    have hcall := hCW c i hck hil { w := w, φ := h.φ, f := g, mb := mb, kb := kb, wb := wb, sx := ptrV sb, sy := ptrV sb } ⟨R.1.top, hz, hmb, lk, lw, rep1, rep1⟩ hM ⟨cellOf hk3 hcz, cellOf hw4 hcw⟩ hgood
    rw [← hP] at hcall
    refine (callsIn_wideR hcall).mono ?_
    rintro e w' ⟨φ', f', rfl, hM', hX, hG', hext, hci, _⟩
    have ext := hX.ext hz R.1.top
    have own : ∀ b, h.M b → w'.heap[b]? = w.heap[b]? ∧ φ' b = h.φ b := fun b hb => hX.blk b (R.1.mine b hb) (fun (e : b = mb) => nm (by rw [← e]; exact hb))
    have sur' : SM E mb (gridL l) [[.mp f']] s.stp h.M w' φ' := by
      refine ⟨⟨f', rfl, hM'⟩, nm, hX.z, Nat.lt_of_lt_of_le hmb hX.size, E.ok _ _ _ _ _ _ _ _ hS ?_⟩
      exact ⟨ext, fun b hb hn => hX.blk b hb fun e => hn (.inr e), hX.size, hX.os, hX.tape, hX.output, fun b hb => .inl hb, hX.top⟩
    have R' := rel_round R.1 ext own hX.size hX.top sur'
    refine hn _ _ _ { h with φ := φ' } (hk f' hG' hext hci) ⟨?_, R.2⟩ rfl
    have hd : o.dst = some d := cc.d.symm
    rw [hd]
    have := R'.put (d := d) (v := I (worthV l sl c i)) (x := .int .i64 (worthV l sl c i)) (cc.dst d hd) (.data (.int _ _)) (grow_plain rfl (fun _ _ _ e => (by cases e)))
    rw [← fs_put] at this
    exact this

end

/-- The map, full. -/
def fW (l : List (List Int)) (sl : Nat) : Int → Int → Option Int := fun a b => if 0 ≤ a ∧ a < l.length ∧ 0 ≤ b ∧ b < deepOf l then some (worthV l sl a.toNat b.toNat) else none

theorem full_of {l : List (List Int)} {sl : Nat} {f : Int → Int → Option Int} (hG : GoodF l sl f) (h0 : ∀ i : Nat, i < deepOf l → (f ((0 : Nat) : Int) i).isSome = true) : f = fW l sl := by
  have all : ∀ c : Nat, c < l.length → ∀ i : Nat, i < deepOf l → (f c i).isSome = true := by
    intro c
    induction c with
    | zero => exact fun _ i hi => h0 i hi
    | succ c ih =>
      intro hc i hi
      refine hG.2 c i (ih (by omega) i hi) i ?_
      unfold nextN
      rw [if_neg (by omega), List.mem_range']
      refine ⟨i - (i - sl), by omega, by omega⟩
  funext a b
  unfold fW
  split
  · rename_i h
    obtain ⟨c, rfl⟩ : ∃ c : Nat, a = c := ⟨a.toNat, by omega⟩
    obtain ⟨i, rfl⟩ : ∃ i : Nat, b = i := ⟨b.toNat, by omega⟩
    obtain ⟨v, hv⟩ := Option.isSome_iff_exists.1 (all c (by omega) i (by omega))
    obtain ⟨c', i', e1, e2, _, _, rfl⟩ := hG.1 _ _ _ hv
    have e1 : c = c' := by omega
    have e2 : i = i' := by omega
    subst e1 e2
    rw [hv]; simp
  · rename_i h
    cases hv : f a b with
    | none => rfl
    | some v =>
      obtain ⟨c, i, rfl, rfl, h1, h2, _⟩ := hG.1 _ _ _ hv
      exact absurd ⟨by omega, by omega, by omega, by omega⟩ h

set_option maxHeartbeats 1000000 in
theorem c_worths {l : List (List Int)} {sl : Nat} (hl : secOk l = true) (hsl : sl ≤ 32) : C Tryz.prog F.volume_section_worths [.agg (secC l sl)] (.mp (fW l sl)) := by
  obtain ⟨hev, hn, hd, hnum⟩ := secOk_spec hl
  refine C_of mixed chk.volume_section_worths (by simp) fun S ok => ?_
  refine Tr.seqR rfl (by simp) ?_
  refine Tr.weak (s' := { env := [(1, .ptr 1 0)], bx := [(1, ⟨secC l sl, false⟩)], rw := [], log := [], stp := false }) (Wk.le (.cons rfl (.refl _) .nil) (.cons rfl (LLe.refl _) .nil) .nil rfl rfl) ?_
  refine Tr.weak (Wk.shut (i := 1) (cs := secC l sl) (fz := false) rfl) ?_
  refine Tr.mkmap (gridL l) (len_grid hn.2 hd.2) rfl rfl rfl rfl rfl fun mb => ?_
  refine Steps.fin rfl (by simp) ?_
  refine Tr.seqR rfl (by simp) (Tr.seqR rfl (by simp) ?_)
  refine Tr.seq (Tr.seqR rfl (by simp) (Tr.block ?_))
  have hG0 : GoodF l sl (fun _ _ => none) := ⟨fun _ _ _ h => ((by cases h)), fun _ _ h => by cases h⟩
  refine Tr.loop (fun (p : Nat × (Int → Int → Option Int)) s => (p.1 ≤ deepOf l ∧ GoodF l sl p.2 ∧ ∀ i : Nat, i < p.1 → (p.2 ((0 : Nat) : Int) i).isSome = true) ∧ s = { env := [(3, .ptr 3 0), (4, .ptr 4 0), (10, I (deepOf l)), (11, I p.1)], bx := [(1, ⟨secC l sl, true⟩), (3, ⟨[.tok 0], false⟩), (4, ⟨[recP], false⟩)], rw := [], log := [[.mp p.2]], stp := false }) (fun p => deepOf l - p.1) (0, fun _ _ => none)
    (Wk.leL (.cons rfl (.refl _) (.cons rfl (.refl _) (.cons rfl (.refl _) (.cons rfl (.refl _) .nil)))) (.cons rfl (LLe.refl _) (.cons rfl (LLe.refl _) (.cons rfl (LLe.refl _) .nil))) .nil rfl rfl rfl) ⟨⟨by omega, hG0, fun i hi => by omega⟩, rfl⟩ ?_
  rintro ⟨i, f⟩ s ⟨⟨hil, hG, hsome⟩, rfl⟩
  simp only at hil hG hsome
  refine Tr.seqR rfl (by simp) (Tr.seqI rfl (fun h3 => ?_) (fun h3 => ?_))
  rotate_left
  · have h3 : i = deepOf l := by simp at h3; omega
    subst h3
    refine Tr.exit (Tr.seqR rfl (by simp) (Tr.ret ?_))
    have e := full_of hG hsome
    exact ⟨f, 2, rfl, rfl, trivial, _, _, _, resVs_ok rfl, rfl, by rw [e]; rfl⟩
  have h3 : i < deepOf l := by simpa using h3
  refine Tr.skipT (Tr.seq (Tr.block (Tr.seqR rfl (by simp) (Tr.reg (Steps.run rfl (by simp) ?_)))))
  refine Steps.worthTop (k := l.length - 1) (c := 0) (i := i) (f := f) (cw_all hl hsl _) (by omega) h3 rfl rfl rfl rfl rfl rfl hG fun f' hG' hx1 hx2 => ?_
  refine Steps.fin rfl (by simp) (Tr.regR rfl (by simp) ?_)
  refine ⟨(i + 1, f'), _, Wk.leL (.cons rfl (.refl _) (.cons rfl (.refl _) (.cons rfl (.refl _) (.cons rfl (VLe.i (w64 (by omega) (by omega))) .nil)))) (.cons rfl (LLe.refl _) (.cons rfl (LLe.refl _) (.cons rfl (LLe.refl _) .nil))) .nil rfl rfl rfl, ⟨⟨h3, hG', fun j hj => ?_⟩, rfl⟩, by simp only; omega⟩
  simp only at hj ⊢
  by_cases e : j = i
  · subst e; rw [hx2]; rfl
  · obtain ⟨v, hv⟩ := Option.isSome_iff_exists.1 (hsome j (by omega))
    rw [hx1 _ _ _ hv]; rfl

end Go.Proofs.YtggifklgpdladaaGreat


/-! The best horizon. -/
set_option linter.unusedVariables false
set_option linter.unusedSimpArgs false
set_option maxRecDepth 20000

namespace Go.Proofs.YtggifklgpdladaaGreat
open Go.Am Go.RowKit

attribute [local simp] cells scalar mkv splice under2 under dem dem1 secC secV intsV
/-! ### The best way -/
def argBest (l : List (List Int)) (sl : Nat) (k : Nat) : Nat := (List.range k).foldl (fun a i => if worthV l sl 0 i > worthV l sl 0 a then i else a) 0
def firstQ (l : List (List Int)) (sl c i : Nat) : Option Nat := (nextN l.length (deepOf l) sl c i).find? fun q => worthV l sl (c + 1) q == worthV l sl c i - at2 l c i
def walkN (l : List (List Int)) (sl : Nat) : Nat → Nat → Nat → List Nat
  | 0, _, _ => []
  | k + 1, c, i => match firstQ l sl c i with
    | some q => q :: walkN l sl k (c + 1) q
    | none => []

def natsV (l : List Nat) : List V := l.map fun (q : Nat) => I q

/-- What Horizon returns. -/
def horR (l : List (List Int)) (slope : Int) : V :=
  if secOk l then (if btw slope 0 32 then .tuple [.slice 0 1 (natsV (argBest l slope.toNat (deepOf l) :: walkN l slope.toNat (l.length - 1) 0 (argBest l slope.toNat (deepOf l)))), I (worthV l slope.toNat 0 (argBest l slope.toNat (deepOf l))), I 0] else .tuple [.slice 0 1 [], I 0, I 7]) else .tuple [.slice 0 1 [], I 0, I 105]

theorem argBest_lt {l : List (List Int)} {sl k : Nat} (h0 : 0 < k) : argBest l sl k < k := by
  unfold argBest
  have : ∀ (m : List Nat) (a : Nat), a < k → (∀ x ∈ m, x < k) → m.foldl (fun a i => if worthV l sl 0 i > worthV l sl 0 a then i else a) a < k := by
    intro m
    induction m with
    | nil => intro a ha _; exact ha
    | cons x m ih =>
      intro a ha hm
      simp only [List.foldl_cons]
      refine ih _ ?_ (fun y hy => hm y (List.mem_cons_of_mem _ hy))
      split
      · exact hm x (by simp)
      · exact ha
  exact this _ 0 h0 (fun x hx => by simpa using hx)

theorem argBest_succ {l : List (List Int)} {sl k : Nat} : argBest l sl (k + 1) = if worthV l sl 0 k > worthV l sl 0 (argBest l sl k) then k else argBest l sl k := by
  unfold argBest
  rw [List.range_succ, List.foldl_append]
  rfl

theorem best_mem {L : List Int} (h : L ≠ []) : (bestG L).2 ∈ L := by
  cases L with
  | nil => exact absurd rfl h
  | cons x r =>
    unfold bestG
    simp only [List.foldl_cons]
    have e : stepW (false, 0) x = (true, x) := by simp [stepW]
    rw [e]
    rcases foldW_mem r (true, x) with h | h
    · rw [h]; simp
    · exact List.mem_cons_of_mem _ h

theorem mem_next_self {n d sl c i : Nat} (hc : c + 1 ≠ n) (hi : i < d) : i ∈ nextN n d sl c i := by
  unfold nextN
  rw [if_neg hc, List.mem_range']
  exact ⟨i - (i - sl), by omega, by omega⟩

theorem firstQ_some {l : List (List Int)} {sl c i : Nat} (hc : c + 1 < l.length) (hi : i < deepOf l) : (firstQ l sl c i).isSome = true := by
  unfold firstQ
  rw [List.find?_isSome]
  have hne : (nextN l.length (deepOf l) sl c i).map (worthV l sl (c + 1)) ≠ [] := by
    intro e
    have := mem_next_self (n := l.length) (d := deepOf l) (sl := sl) (c := c) (i := i) (by omega) hi
    rw [List.map_eq_nil_iff] at e
    rw [e] at this; cases this
  obtain ⟨q, h1, h2⟩ := List.mem_map.1 (best_mem hne)
  refine ⟨q, h1, ?_⟩
  rw [worthV_eq (c := c) (by omega), h2]
  simp; omega

theorem fW_get {l : List (List Int)} {sl c i : Nat} (hc : c < l.length) (hi : i < deepOf l) : (fW l sl c i).getD 0 = worthV l sl c i := by
  unfold fW
  rw [if_pos (by omega)]
  simp

set_option maxHeartbeats 2000000 in
theorem c_Horizon {l : List (List Int)} (hl : saneS l) (slope : Int) : C Tryz.prog F.volume_Horizon [secV l, I slope] (horR l slope) := by
  by_cases hE : secOk l = true
  rotate_left
  · have hE : secOk l = false := by simpa using hE
    refine C.le (r := .tuple [.nils, I 0, I 105]) (C_of mixed chk.volume_Horizon (by simp) fun S ok => ?_) (fun w φ x h => by simp only [horR, hE, if_true, if_false, Bool.false_eq_true]; exact repR_nil0 h)
    refine Tr.seqR rfl (by simp) (Tr.scope ?_)
    have hr : secR l slope = .tuple [.agg [I 0, I 0, .nils, I 0], I 105] := by simp [secR, hE, secErr]
    refine Tr.seqC rfl (by simp) (Steps.call rfl rfl (hr ▸ c_sectionOf hl slope) (Steps.fin rfl (by simp) ?_))
    refine Tr.seq (Tr.seqR rfl (by simp) (Tr.condT rfl (Tr.seqR rfl (by simp) (Tr.retX rfl rfl rfl ?_ trivial))))
    simp [packR]
  by_cases hS : btw slope 0 32 = true
  rotate_left
  · have hS : btw slope 0 32 = false := by simpa using hS
    refine C.le (r := .tuple [.nils, I 0, I 7]) (C_of mixed chk.volume_Horizon (by simp) fun S ok => ?_) (fun w φ x h => by simp only [horR, hE, hS, if_true, if_false, Bool.false_eq_true]; exact repR_nil0 h)
    refine Tr.seqR rfl (by simp) (Tr.scope ?_)
    have hr : secR l slope = .tuple [.agg [I 0, I 0, .nils, I 0], I 7] := by simp [secR, hE, hS, secErr]
    refine Tr.seqC rfl (by simp) (Steps.call rfl rfl (hr ▸ c_sectionOf hl slope) (Steps.fin rfl (by simp) ?_))
    refine Tr.seq (Tr.seqR rfl (by simp) (Tr.condT rfl (Tr.seqR rfl (by simp) (Tr.retX rfl rfl rfl ?_ trivial))))
    simp [packR]
  obtain ⟨sl, rfl⟩ : ∃ sl : Nat, slope = (sl : Int) := ⟨slope.toNat, by simp [btw] at hS; omega⟩
  have hsl : sl ≤ 32 := by simp [btw] at hS; omega
  obtain ⟨hev, hn, hd, hnum⟩ := secOk_spec hE
  refine C_of mixed chk.volume_Horizon (by simp) fun S ok => ?_
  refine Tr.seqR rfl (by simp) (Tr.scope ?_)
  have hr : secR l sl = .tuple [.agg (secC l sl), I 0] := by simp [secR, hE, hS]
  refine Tr.seqC rfl (by simp) (Steps.call rfl rfl (hr ▸ c_sectionOf hl sl) (Steps.fin rfl (by simp) ?_))
  refine Tr.seq (Tr.seqR rfl (by simp) (Tr.condF rfl (Tr.skip ?_)))
  refine Tr.seqC rfl (by simp) (Steps.call rfl rfl (c_worths hE hsl) (Steps.fin rfl (by simp) ?_))
  refine Tr.seqR rfl (by simp) (Tr.seq (Tr.seqR rfl (by simp) (Tr.block ?_)))
  refine Tr.loop (fun (i : Nat) s => i ≤ deepOf l ∧ s = { env := [(4, .ptr 4 0), (7, .ptr 7 0), (8, .ptr 8 0), (9, .ptr 9 0), (27, I (deepOf l)), (28, I i)], bx := [(4, ⟨[.nils], false⟩), (7, ⟨secC l sl, false⟩), (8, ⟨[.mp (fW l sl)], false⟩), (9, ⟨[I 0, I (argBest l sl i : Nat)], false⟩)], rw := [], log := [], stp := false }) (fun i => deepOf l - i) 0
    (Wk.le (.cons rfl (.refl _) (.cons rfl (.refl _) (.cons rfl (.refl _) (.cons rfl (.refl _) (.cons rfl (.refl _) (.cons rfl (.refl _) .nil)))))) (.cons rfl (LLe.refl _) (.cons rfl (LLe.refl _) (.cons rfl (LLe.refl _) (.cons rfl (LLe.refl _) .nil)))) .nil rfl rfl) ⟨by omega, rfl⟩ ?_
  rintro i s ⟨hil, rfl⟩
  refine Tr.seqR rfl (by simp) (Tr.seqI rfl (fun h3 => ?_) (fun h3 => ?_))
  · have h3 : i < deepOf l := by simpa using h3
    have hb0 : argBest l sl i < deepOf l := by
      by_cases h0 : i = 0
      · subst h0; simp [argBest]; omega
      · have := argBest_lt (l := l) (sl := sl) (k := i) (by omega); omega
    have f1 : (fW l sl 0 (i : Int)).getD 0 = worthV l sl 0 i := fW_get (c := 0) (by omega) h3
    have f2 : (fW l sl 0 (argBest l sl i : Nat)).getD 0 = worthV l sl 0 (argBest l sl i) := fW_get (c := 0) (by omega) hb0
    refine Tr.skipT (Tr.seq (Tr.block (Tr.seqR rfl (by simp) (Tr.seqD rfl (by simp; omega) (by kernel_rfl) ?_))))
    refine Tr.cond rfl rfl (fun h4 => ?_) (fun h4 => ?_)
    · have h4 : decide ((fW l sl 0 (i : Int)).getD 0 > (fW l sl 0 (argBest l sl i : Nat)).getD 0) = true := h4
      rw [f1, f2] at h4
      have h4 : worthV l sl 0 i > worthV l sl 0 (argBest l sl i) := by simpa using h4
      refine Tr.regR rfl (by simp) (Tr.regR rfl (by simp) ?_)
      refine ⟨i + 1, _, Wk.le (.cons rfl (.refl _) (.cons rfl (.refl _) (.cons rfl (.refl _) (.cons rfl (.refl _) (.cons rfl (.refl _) (.cons rfl (VLe.i (w64 (by omega) (by omega))) .nil)))))) (.cons rfl (LLe.refl _) (.cons rfl (LLe.refl _) (.cons rfl (LLe.refl _) (.cons rfl (.cons (.refl _) (.cons (.of_eq ?_) .nil)) .nil)))) .nil rfl rfl, ⟨h3, rfl⟩, by omega⟩
      rw [argBest_succ, if_pos h4]
    · have h4 : decide ((fW l sl 0 (i : Int)).getD 0 > (fW l sl 0 (argBest l sl i : Nat)).getD 0) = false := h4
      rw [f1, f2] at h4
      have h4 : ¬ worthV l sl 0 i > worthV l sl 0 (argBest l sl i) := by simpa using h4
      refine Tr.skip (Tr.regR rfl (by simp) ?_)
      refine ⟨i + 1, _, Wk.le (.cons rfl (.refl _) (.cons rfl (.refl _) (.cons rfl (.refl _) (.cons rfl (.refl _) (.cons rfl (.refl _) (.cons rfl (VLe.i (w64 (by omega) (by omega))) .nil)))))) (.cons rfl (LLe.refl _) (.cons rfl (LLe.refl _) (.cons rfl (LLe.refl _) (.cons rfl (.cons (.refl _) (.cons (.of_eq ?_) .nil)) .nil)))) .nil rfl rfl, ⟨h3, rfl⟩, by omega⟩
      rw [argBest_succ, if_neg h4]
  have h3 : i = deepOf l := by simp at h3; omega
  subst h3
  have hb0 : argBest l sl (deepOf l) < deepOf l := argBest_lt (by omega)
  have f0 : (fW l sl 0 (argBest l sl (deepOf l) : Nat)).getD 0 = worthV l sl 0 (argBest l sl (deepOf l)) := fW_get (c := 0) (by omega) hb0
  refine Tr.exit (Tr.seqR rfl (by simp; omega) (Tr.seqR rfl (by simp) (Tr.seq (Tr.label (Tr.seq (Tr.block ?_))))))
  refine Tr.loop (fun (p : (Nat × Nat) × List Nat) s => (p.1.1 < l.length ∧ p.1.2 < deepOf l ∧ p.2.length = p.1.1 + 1 ∧ p.2 ++ walkN l sl (l.length - 1 - p.1.1) p.1.1 p.1.2 = argBest l sl (deepOf l) :: walkN l sl (l.length - 1) 0 (argBest l sl (deepOf l))) ∧
      s = { env := [(4, .ptr 4 0), (5, I (worthV l sl 0 (argBest l sl (deepOf l)))), (7, .ptr 7 0), (8, .ptr 8 0), (9, .ptr 9 0)], bx := [(4, ⟨[.slice 48 1 (natsV p.2)], false⟩), (7, ⟨secC l sl, false⟩), (8, ⟨[.mp (fW l sl)], false⟩), (9, ⟨[I p.1.1, I p.1.2], false⟩)], rw := [(47, p.2.length, 1, 3)], log := [], stp := false }) (fun p => l.length - p.1.1) ((0, argBest l sl (deepOf l)), [argBest l sl (deepOf l)])
    (Wk.le (.cons rfl (.refl _) (.cons rfl (VLe.i f0) (.cons rfl (.refl _) (.cons rfl (.refl _) (.cons rfl (.refl _) .nil))))) (.cons rfl (LLe.refl _) (.cons rfl (LLe.refl _) (.cons rfl (LLe.refl _) (.cons rfl (LLe.refl _) .nil)))) (.cons rfl .nil) rfl rfl) ⟨⟨by simp only; omega, hb0, rfl, rfl⟩, rfl⟩ ?_
  rintro ⟨⟨c, i⟩, path⟩ s ⟨⟨hcl, hil, hpl, hpath⟩, rfl⟩
  simp only at hcl hil hpl hpath
  refine Tr.seq (Tr.seqR rfl (by simp) (Tr.cond rfl rfl (fun h3 => Tr.skip (Tr.block ?_)) (fun h3 => Tr.exit ?_)))
  rotate_left
  · have h3 : decide (((natsV path).length : Int) < l.length) = false := h3
    have h3 : c + 1 = l.length := by simp [natsV, hpl] at h3; omega
    have e0 : l.length - 1 - c = 0 := by omega
    rw [e0] at hpath
    have e1 : path = argBest l sl (deepOf l) :: walkN l sl (l.length - 1) 0 (argBest l sl (deepOf l)) := by simpa [walkN] using hpath
    refine Tr.seqR rfl (by simp) (Tr.retX rfl rfl rfl ?_ trivial)
    rw [e1]
    simp [packR, horR, hE, hS]
  have h3 : decide (((natsV path).length : Int) < l.length) = true := h3
  have h3 : c + 1 < l.length := by simp [natsV, hpl] at h3; omega
  have hlc : l[c].length = deepOf l := evenL_spec hev hcl
  have hilc : i < l[c].length := by omega
  have bl := numsOk_spec hnum hcl hilc
  have bw := worthV_bd (sl := sl) hnum hn c i
  have f1 : (fW l sl c i).getD 0 = worthV l sl c i := fW_get hcl hil
  have ha2 : at2 l c i = l[c][i] := at2_eq hcl hilc
  refine Tr.seq (Tr.drawK (TraceK.runN 8 rfl (by simp; omega) ?_))
  rw [getD_map hcl]
  refine TraceK.runN 4 rfl (by simp; omega) ?_
  rw [getD_map hilc]
  refine TraceK.run rfl (by simp) (.done ⟨by kernel_rfl, by kernel_rfl, ?_⟩)
  refine Tr.seqC rfl (by simp) (Steps.call rfl rfl (c_next l sl c i) (Steps.fin rfl (by simp) (Tr.block ?_)))
  have hneed : IntKind.i64.wrap ((fW l sl c i).getD 0 - l[c][i]) = worthV l sl c i - at2 l c i := by rw [f1, ha2, w64 (by omega) (by omega)]
  refine Tr.weak (s' := { env := [(70, .func (.func F.volume_section_next_1) [] [.vptr [I c, I i] 0, .vptr (secC l sl) 0]), (4, .ptr 4 0), (5, I (worthV l sl 0 (argBest l sl (deepOf l)))), (7, .ptr 7 0), (8, .ptr 8 0), (9, .ptr 9 0), (11, .ptr 11 0)], bx := [(4, ⟨[.slice 48 1 (natsV path)], false⟩), (7, ⟨secC l sl, false⟩), (8, ⟨[.mp (fW l sl)], false⟩), (9, ⟨[I c, I i], false⟩), (11, ⟨[I (worthV l sl c i - at2 l c i)], false⟩)], rw := [(47, path.length, 1, 3)], log := [], stp := false })
    (Wk.le (.cons rfl (.refl _) (.cons rfl (.refl _) (.cons rfl (.refl _) (.cons rfl (.refl _) (.cons rfl (.refl _) (.cons rfl (.refl _) (.cons rfl (.refl _) .nil))))))) (.cons rfl (LLe.refl _) (.cons rfl (LLe.refl _) (.cons rfl (LLe.refl _) (.cons rfl (LLe.refl _) (.cons rfl (.cons (VLe.i hneed) .nil) .nil))))) (.cons rfl .nil) rfl rfl) ?_
  obtain ⟨q0, hq0⟩ := Option.isSome_iff_exists.1 (firstQ_some (sl := sl) h3 hil)
  have hq0n : q0 ∈ nextN l.length (deepOf l) sl c i := List.mem_of_find?_eq_some hq0
  refine Tr.range rfl rfl (i_next l sl c i hn.2 hd hsl hcl hil) rfl rfl rfl (by intro x hx; obtain ⟨q, _, rfl⟩ := List.mem_map.1 hx; rfl)
    (fun pre t => ∃ m, m ≤ (nextN l.length (deepOf l) sl c i).length ∧ pre = ((nextN l.length (deepOf l) sl c i).take m).map (spotV c) ∧ ((nextN l.length (deepOf l) sl c i).take m).find? (fun q => worthV l sl (c + 1) q == worthV l sl c i - at2 l c i) = none ∧ t.bx = [(4, ⟨[.slice 48 1 (natsV path)], false⟩), (7, ⟨secC l sl, false⟩), (8, ⟨[.mp (fW l sl)], false⟩), (9, ⟨[I c, I i], false⟩), (11, ⟨[I (worthV l sl c i - at2 l c i)], false⟩)] ∧ t.rw = [(47, path.length, 1, 3)] ∧ t.log = [])
    (fun e t => e = .exit 3 ∧ t.bx = [(4, ⟨[.slice 48 1 (natsV (path ++ [q0]))], false⟩), (7, ⟨secC l sl, false⟩), (8, ⟨[.mp (fW l sl)], false⟩), (9, ⟨[I ((c + 1 : Nat) : Int), I q0], false⟩), (11, ⟨[I (worthV l sl c i - at2 l c i)], false⟩)] ∧ t.rw = [(47, path.length + 1, 1, 3)] ∧ t.log = [] ∧ t.stp = false) ⟨0, by omega, rfl, rfl, rfl, rfl, rfl⟩ ?_ ?_ ?_
  · rintro a0 L0 rc0 h0 S1 S2 ok1 ok2 pre x t lp hpre ⟨m, hm, rfl, hnf, hbx, hrw, hlog⟩ henv hstp
    obtain ⟨env, bx, rw, log, stp⟩ := t
    simp only at hbx hrw hlog henv hstp
    subst hbx hrw hlog henv hstp
    have hmx : m < (nextN l.length (deepOf l) sl c i).length ∧ ∃ q, (nextN l.length (deepOf l) sl c i)[m]? = some q ∧ x = spotV c q := by
      have h1 : (((nextN l.length (deepOf l) sl c i).take m).map (spotV c)).length = m := by simp; omega
      have h2 := hpre.length_le
      simp at h2
      have hml : m < (nextN l.length (deepOf l) sl c i).length := by omega
      refine ⟨hml, _, List.getElem?_eq_getElem hml, ?_⟩
      have h3 := List.IsPrefix.getElem hpre (i := m) (by simp; omega)
      simp only [List.getElem_map] at h3
      rw [List.getElem_append_right (by omega)] at h3
      simpa using h3
    obtain ⟨hml, q, hq, rfl⟩ := hmx
    obtain ⟨hcn, hqd⟩ := nextN_lt hd.1 (List.mem_of_getElem? hq)
    have htk : (nextN l.length (deepOf l) sl c i).take (m + 1) = (nextN l.length (deepOf l) sl c i).take m ++ [q] := by rw [List.take_add_one, hq]; rfl
    have fq : (fW l sl ((c + 1 : Nat) : Int) q).getD 0 = worthV l sl (c + 1) q := fW_get h3 hqd
    refine Tr.regR rfl (by simp) (Tr.block (Tr.seqD rfl (by simp; omega) (by kernel_rfl) ?_))
    refine Tr.cond rfl rfl (fun h4 => ?_) (fun h4 => ?_)
    · have h4 : ((fW l sl ((c + 1 : Nat) : Int) q).getD 0 == worthV l sl c i - at2 l c i) = true := h4
      rw [fq] at h4
      have hqq : q0 = q := by
        have e1 : ((nextN l.length (deepOf l) sl c i).take (m + 1) ++ (nextN l.length (deepOf l) sl c i).drop (m + 1)).find? (fun q => worthV l sl (c + 1) q == worthV l sl c i - at2 l c i) = some q0 := by
          rw [List.take_append_drop]; exact hq0
        rw [htk, List.append_assoc, List.find?_append, hnf] at e1
        simp [h4] at e1
        exact e1.symm
      subst hqq
      refine Tr.seqD rfl (by simp [natsV]; omega) (by kernel_rfl) (Tr.exit ?_)
      refine ⟨{ env := [], bx := [(4, ⟨[.slice 48 1 (natsV (path ++ [q0]))], false⟩), (7, ⟨secC l sl, false⟩), (8, ⟨[.mp (fW l sl)], false⟩), (9, ⟨[I ((c + 1 : Nat) : Int), I q0], false⟩), (11, ⟨[I (worthV l sl c i - at2 l c i)], false⟩)], rw := [(47, path.length + 1, 1, 3)], log := [], stp := false }, Wk.le .nil (.cons rfl (.cons (.of_eq ?_) .nil) (.cons rfl (LLe.refl _) (.cons rfl (LLe.refl _) (.cons rfl (LLe.refl _) (.cons rfl (LLe.refl _) .nil))))) (.cons ?_ .nil) rfl rfl, rfl, rfl, rfl, rfl, rfl⟩
      · simp [natsV]
      · show some _ = some _
        simp [natsV]
    · have h4 : ((fW l sl ((c + 1 : Nat) : Int) q).getD 0 == worthV l sl c i - at2 l c i) = false := h4
      rw [fq] at h4
      refine Tr.skip ?_
      refine ⟨{ env := [], bx := [(4, ⟨[.slice 48 1 (natsV path)], false⟩), (7, ⟨secC l sl, false⟩), (8, ⟨[.mp (fW l sl)], false⟩), (9, ⟨[I c, I i], false⟩), (11, ⟨[I (worthV l sl c i - at2 l c i)], false⟩)], rw := [(47, path.length, 1, 3)], log := [], stp := false }, ?_, ⟨m + 1, by omega, ?_, ?_, rfl, rfl, rfl⟩, rfl⟩
      · exact Wk.le .nil (.cons rfl (LLe.refl _) (.cons rfl (LLe.refl _) (.cons rfl (LLe.refl _) (.cons rfl (LLe.refl _) (.cons rfl (LLe.refl _) .nil))))) (.cons rfl .nil) rfl rfl
      · rw [htk]; simp
      · rw [htk, List.find?_append, hnf]; simp [h4]
  · rintro ⟨env, bx, rw, log, stp⟩ henv hstp ⟨m, hm, hpre, hnf, hbx, hrw, hlog⟩
    have hml : m = (nextN l.length (deepOf l) sl c i).length := by
      have := congrArg List.length hpre
      simp at this; omega
    subst hml
    rw [List.take_length] at hnf
    unfold firstQ at hq0
    rw [hnf] at hq0; cases hq0
  · rintro e ⟨env, bx, rw, log, stp⟩ henv ⟨rfl, hbx, hrw, hlog, hstp⟩
    simp only at henv hbx hrw hlog hstp
    subst henv hbx hrw hlog hstp
    refine ⟨((c + 1, q0), path ++ [q0]), _, Wk.le (.cons rfl (.refl _) (.cons rfl (.refl _) (.cons rfl (.refl _) (.cons rfl (.refl _) (.cons rfl (.refl _) .nil))))) (.cons rfl (LLe.refl _) (.cons rfl (LLe.refl _) (.cons rfl (LLe.refl _) (.cons rfl (LLe.refl _) .nil)))) (.cons ?_ .nil) rfl rfl, ⟨⟨h3, (nextN_lt hd.1 hq0n).2, ?_, ?_⟩, rfl⟩, ?_⟩
    · show some _ = some _
      simp
    · simp [hpl]
    · have e0 : l.length - 1 - c = (l.length - 1 - (c + 1)) + 1 := by omega
      rw [e0] at hpath
      simp only [walkN, hq0] at hpath
      simpa using hpath
    · simp only; omega

end Go.Proofs.YtggifklgpdladaaGreat


/-! Plain facts: how many places of a box lie in others; contracts: valid volumes. -/
set_option linter.unusedVariables false
set_option linter.unusedSimpArgs false
set_option maxRecDepth 20000
namespace Go.Proofs.YtggifklgpdladaaGreat
open Go.Am
attribute [local simp] cells scalar mkv splice under2 under dem dem1 boxC cellC
def cntI (x : Int) (n : Nat) (P : Int → Bool) : Nat := (List.range n).countP fun (i : Nat) => P (x + (i : Int))

theorem cntI_succ (x : Int) (n : Nat) (P : Int → Bool) : cntI x (n + 1) P = cntI x n P + if P (x + (n : Int)) then 1 else 0 := by
  unfold cntI; rw [List.range_succ, List.countP_append]; simp [List.countP_cons]

section
variable (b : Bx) (P Q R : Int → Bool)

theorem cnt_z (x y n : Nat) : (zsC b x y n).countP (fun p => P p.1 && Q p.2.1 && R p.2.2) = if P (b.x + (x : Int)) && Q (b.y + (y : Int)) then cntI b.z n R else 0 := by
  induction n with
  | zero => simp [zsC, cntI]
  | succ n ih =>
    rw [zsC_succ, List.countP_append, ih, cntI_succ]
    simp only [List.countP_cons, List.countP_nil, Nat.zero_add]
    cases P (b.x + (x : Int)) <;> cases Q (b.y + (y : Int)) <;> cases R (b.z + (n : Int)) <;> simp

theorem cnt_y (x n : Nat) : (ysC b x n).countP (fun p => P p.1 && Q p.2.1 && R p.2.2) = if P (b.x + (x : Int)) then cntI b.y n Q * cntI b.z b.c.toNat R else 0 := by
  induction n with
  | zero => simp [ysC, cntI]
  | succ n ih =>
    rw [ysC_succ, List.countP_append, ih, cntI_succ, cnt_z]
    cases P (b.x + (x : Int)) <;> cases Q (b.y + (n : Int)) <;> simp [Nat.add_mul]

theorem cnt_x (n : Nat) : (xsC b n).countP (fun p => P p.1 && Q p.2.1 && R p.2.2) = cntI b.x n P * (cntI b.y b.b.toNat Q * cntI b.z b.c.toNat R) := by
  induction n with
  | zero => simp [xsC, cntI]
  | succ n ih =>
    rw [xsC_succ, List.countP_append, ih, cntI_succ, cnt_y]
    cases P (b.x + (n : Int)) <;> simp [Nat.add_mul]

theorem cnt_box : (boxCells b).countP (fun p => P p.1 && Q p.2.1 && R p.2.2) = cntI b.x b.a.toNat P * (cntI b.y b.b.toNat Q * cntI b.z b.c.toNat R) := cnt_x b P Q R _
end

theorem cntI_btw (x : Int) (n : Nat) (lo hi : Int) : ((cntI x n fun i => btw i lo hi : Nat) : Int) = max 0 (min hi (x + n - 1) - max lo x + 1) := by
  induction n with
  | zero => simp [cntI]; omega
  | succ n ih =>
    rw [cntI_succ]
    by_cases h : btw (x + (n : Int)) lo hi = true
    · have h' : lo ≤ x + n ∧ x + n ≤ hi := by simpa [btw] using h
      rw [if_pos h]; push_cast; rw [ih]; omega
    · have h' : ¬ (lo ≤ x + n ∧ x + n ≤ hi) := by simpa [btw] using h
      rw [if_neg h]; push_cast; rw [ih]; omega

theorem countP_or {α : Type} (A B : α → Bool) (l : List α) : l.countP (fun x => A x || B x) + l.countP (fun x => A x && B x) = l.countP A + l.countP B := by
  induction l with
  | nil => rfl
  | cons a r ih =>
    simp only [List.countP_cons]
    cases A a <;> cases B a <;> simp <;> omega

theorem boxCells_len' (b : Bx) (h : 0 ≤ b.a ∧ 0 ≤ b.b ∧ 0 ≤ b.c) : ((boxCells b).length : Int) = b.a * b.b * b.c := by
  unfold boxCells
  rw [xsC_len]
  push_cast
  rw [Int.toNat_of_nonneg h.1, Int.toNat_of_nonneg h.2.1, Int.toNat_of_nonneg h.2.2, Int.mul_assoc]

abbrev hasP (b : Bx) (p : Int × Int × Int) : Bool := hasB b p.1 p.2.1 p.2.2

def manyI (b : Bx) : Int := b.a * b.b * b.c
def commonI (b o : Bx) : Int := cut1 (b.x + b.a - 1) (o.x + o.a - 1) b.x o.x * cut1 (b.y + b.b - 1) (o.y + o.b - 1) b.y o.y * cut1 (b.z + b.c - 1) (o.z + o.c - 1) b.z o.z

theorem btw_and (i p q r s : Int) : (btw i p q && btw i r s) = btw i (max p r) (min q s) := by
  unfold btw
  rw [Bool.eq_iff_iff]
  simp only [Bool.and_eq_true, decide_eq_true_eq]
  omega

/-- The places of a box that lie in another. -/
theorem cnt_has (u a : Bx) (hu : 0 ≤ u.a ∧ 0 ≤ u.b ∧ 0 ≤ u.c) : (((boxCells u).countP (hasP a) : Nat) : Int) = commonI u a := by
  have h := cnt_box u (fun i => btw i a.x (a.x + a.a - 1)) (fun i => btw i a.y (a.y + a.b - 1)) (fun i => btw i a.z (a.z + a.c - 1))
  have e : (fun p : Int × Int × Int => hasP a p) = fun p => btw p.1 a.x (a.x + a.a - 1) && btw p.2.1 a.y (a.y + a.b - 1) && btw p.2.2 a.z (a.z + a.c - 1) := rfl
  rw [show (hasP a) = fun p : Int × Int × Int => hasP a p from rfl, e, h]
  push_cast
  rw [cntI_btw, cntI_btw, cntI_btw]
  unfold commonI cut1
  rw [Int.toNat_of_nonneg hu.1, Int.toNat_of_nonneg hu.2.1, Int.toNat_of_nonneg hu.2.2]
  rw [Int.min_comm (u.x + u.a - 1), Int.min_comm (u.y + u.b - 1), Int.min_comm (u.z + u.c - 1), Int.max_comm u.x, Int.max_comm u.y, Int.max_comm u.z, Int.mul_assoc]

theorem cnt_both (u a b : Bx) (hu : 0 ≤ u.a ∧ 0 ≤ u.b ∧ 0 ≤ u.c) (h : ∀ i, (btw i a.x (a.x + a.a - 1) = true → u.x ≤ i ∧ i ≤ u.x + u.a - 1) ∧ (btw i a.y (a.y + a.b - 1) = true → u.y ≤ i ∧ i ≤ u.y + u.b - 1) ∧ (btw i a.z (a.z + a.c - 1) = true → u.z ≤ i ∧ i ≤ u.z + u.c - 1)) (ha : 1 ≤ a.a ∧ 1 ≤ a.b ∧ 1 ≤ a.c) :
    (((boxCells u).countP (fun p => hasP a p && hasP b p) : Nat) : Int) = commonI a b := by
  have hh := cnt_box u (fun i => btw i (max a.x b.x) (min (a.x + a.a - 1) (b.x + b.a - 1))) (fun i => btw i (max a.y b.y) (min (a.y + a.b - 1) (b.y + b.b - 1))) (fun i => btw i (max a.z b.z) (min (a.z + a.c - 1) (b.z + b.c - 1)))
  have e : (fun p : Int × Int × Int => hasP a p && hasP b p) = fun p => btw p.1 (max a.x b.x) (min (a.x + a.a - 1) (b.x + b.a - 1)) && btw p.2.1 (max a.y b.y) (min (a.y + a.b - 1) (b.y + b.b - 1)) && btw p.2.2 (max a.z b.z) (min (a.z + a.c - 1) (b.z + b.c - 1)) := by
    funext p
    simp only [hasP, hasB, ← btw_and]
    generalize btw p.1 a.x (a.x + a.a - 1) = x1
    generalize btw p.1 b.x (b.x + b.a - 1) = x2
    generalize btw p.2.1 a.y (a.y + a.b - 1) = x3
    generalize btw p.2.1 b.y (b.y + b.b - 1) = x4
    generalize btw p.2.2 a.z (a.z + a.c - 1) = x5
    generalize btw p.2.2 b.z (b.z + b.c - 1) = x6
    cases x1 <;> cases x2 <;> cases x3 <;> cases x4 <;> cases x5 <;> cases x6 <;> rfl
  rw [e, hh]
  push_cast
  rw [cntI_btw, cntI_btw, cntI_btw]
  unfold commonI cut1
  rw [Int.toNat_of_nonneg hu.1, Int.toNat_of_nonneg hu.2.1, Int.toNat_of_nonneg hu.2.2]
  have k1 := (h a.x).1 (by simp [btw]; omega)
  have k2 := (h (a.x + a.a - 1)).1 (by simp [btw]; omega)
  have k3 := (h a.y).2.1 (by simp [btw]; omega)
  have k4 := (h (a.y + a.b - 1)).2.1 (by simp [btw]; omega)
  have k5 := (h a.z).2.2 (by simp [btw]; omega)
  have k6 := (h (a.z + a.c - 1)).2.2 (by simp [btw]; omega)
  rw [Int.mul_assoc]
  congr 1
  · omega
  · congr 1 <;> omega

theorem common_in (u a : Bx) (h1 : u.x ≤ a.x ∧ a.x + a.a - 1 ≤ u.x + u.a - 1) (h2 : u.y ≤ a.y ∧ a.y + a.b - 1 ≤ u.y + u.b - 1) (h3 : u.z ≤ a.z ∧ a.z + a.c - 1 ≤ u.z + u.c - 1) (ha : 1 ≤ a.a ∧ 1 ≤ a.b ∧ 1 ≤ a.c) : commonI u a = manyI a := by
  unfold commonI manyI cut1
  congr 1
  · congr 1 <;> omega
  · omega

theorem cover {a b : Bx} (ha : 1 ≤ a.a ∧ 1 ≤ a.b ∧ 1 ≤ a.c) (hb : 1 ≤ b.a ∧ 1 ≤ b.b ∧ 1 ≤ b.c) (h : manyI (aroundB a b) = manyI a + manyI b - commonI a b) : ∀ p ∈ boxCells (aroundB a b), hasP a p = true ∨ hasP b p = true := by
  have hu : 0 ≤ (aroundB a b).a ∧ 0 ≤ (aroundB a b).b ∧ 0 ≤ (aroundB a b).c := by simp only [aroundB]; omega
  have c1 := cnt_has (aroundB a b) a hu
  have c2 := cnt_has (aroundB a b) b hu
  rw [common_in _ _ (by simp only [aroundB]; omega) (by simp only [aroundB]; omega) (by simp only [aroundB]; omega) ha] at c1
  rw [common_in _ _ (by simp only [aroundB]; omega) (by simp only [aroundB]; omega) (by simp only [aroundB]; omega) hb] at c2
  have c3 := cnt_both (aroundB a b) a b hu (fun i => by simp only [btw, Bool.and_eq_true, decide_eq_true_eq, aroundB]; omega) ha
  have c4 := countP_or (hasP a) (hasP b) (boxCells (aroundB a b))
  have c5 := boxCells_len' (aroundB a b) hu
  have c6 : (boxCells (aroundB a b)).countP (fun p => hasP a p || hasP b p) = (boxCells (aroundB a b)).length := by
    unfold manyI at h c1 c2
    omega
  intro p hp
  have := (List.countP_eq_length.1 c6) p hp
  simpa using this

theorem idx_range {b : Bx} {x y z : Int} (h : hasB b x y z = true) : 0 ≤ idxOf b x y z ∧ idxOf b x y z < b.a * b.b * b.c := by
  simp only [hasB, btw, Bool.and_eq_true, decide_eq_true_eq] at h
  obtain ⟨⟨h1, h2⟩, h3⟩ := h
  unfold idxOf
  obtain ⟨i, hi⟩ : ∃ i, x - b.x = i := ⟨_, rfl⟩
  obtain ⟨j, hj⟩ : ∃ j, y - b.y = j := ⟨_, rfl⟩
  obtain ⟨k, hk⟩ : ∃ k, z - b.z = k := ⟨_, rfl⟩
  rw [hi, show i * b.b + y - b.y = i * b.b + j by omega, show (i * b.b + j) * b.c + z - b.z = (i * b.b + j) * b.c + k by omega]
  have e1 : 0 ≤ i * b.b := Int.mul_nonneg (by omega) (by omega)
  have e2 : i * b.b + j ≤ b.a * b.b - 1 := by
    have : i * b.b ≤ (b.a - 1) * b.b := Int.mul_le_mul_of_nonneg_right (by omega) (by omega)
    rw [Int.sub_mul] at this; omega
  have e3 : 0 ≤ (i * b.b + j) * b.c := Int.mul_nonneg (by omega) (by omega)
  have e4 : (i * b.b + j) * b.c ≤ (b.a * b.b - 1) * b.c := Int.mul_le_mul_of_nonneg_right e2 (by omega)
  rw [Int.sub_mul] at e4
  omega

structure Vol where
  b : Bx
  v : List Int

def volC (v : Vol) : List V := [I v.b.x, I v.b.y, I v.b.z, I v.b.a, I v.b.b, I v.b.c, intsV v.v]
def volOk (v : Vol) : Bool := boxOk v.b && decide ((v.v.length : Int) = v.b.a * v.b.b * v.b.c) && v.v.all fun n => btw n (-1099511627776) 1099511627776

def blockR (v : Vol) : V := if volOk v then .tuple [.agg (volC v), I 0] else .tuple [.agg [I 0, I 0, I 0, I 0, I 0, I 0, .nils], I 101]

theorem c_blockOf1 (n : Int) : C Tryz.prog F.volume_blockOf_1 ([I n] ++ []) (.bool (!btw n (-1099511627776) 1099511627776)) := by
  refine C_of mixed chk.volume_blockOf_1 (by simp) fun S ok => ?_
  exact Tr.seqR rfl (by simp) (Tr.seqC rfl (by simp) (Steps.call rfl rfl (c_within _ _ _) (Steps.fin rfl (by simp) (Tr.retQ rfl rfl rfl trivial))))

theorem c_blockOf (v : Vol) (hl : v.v.length ≤ 9223372036854775807) : C Tryz.prog F.volume_blockOf [.agg (volC v)] (blockR v) := by
  refine C_of mixed chk.volume_blockOf (by simp) fun S ok => ?_
  refine Tr.seqR rfl (by simp [volC, intsV]) (Tr.seqR rfl (by simp [volC]) ?_)
  by_cases hB : boxOk v.b = true
  rotate_left
  · have hB : boxOk v.b = false := by simpa using hB
    have hcv : C Tryz.prog F.volume_box_valid [.agg (boxC v.b)] (.bool false) := hB ▸ c_boxValid v.b
    refine Tr.seq (Tr.seq (Tr.drawK (TraceK.run rfl (by simp [volC]) (TraceK.call rfl rfl hcv (TraceK.run rfl (by simp [volC, intsV]) ?_)))))
    refine TraceK.gcall (gb := false) (r := I 0) rfl rfl rfl rfl (fun e => (by cases e)) (fun e => (by cases e)) (TraceK.run rfl (by simp [volC, intsV]) ?_)
    refine TraceK.gcall (gb := false) (r := .bool false) rfl rfl rfl rfl (fun e => (by cases e)) (fun e => (by cases e)) (TraceK.run rfl (by simp) (.done ⟨by kernel_rfl, by kernel_rfl, ?_⟩))
    refine Tr.condT rfl (Tr.seqR rfl (by simp) (Tr.retX rfl rfl rfl ?_ trivial))
    simp [packR, blockR, volOk, hB]
  obtain ⟨hsm, hmid⟩ := boxOk_spec hB
  have hs := small_spec hsm
  have hcv : C Tryz.prog F.volume_box_valid [.agg (boxC v.b)] (.bool true) := hB ▸ c_boxValid v.b
  refine Tr.seq (Tr.seq (Tr.drawK (TraceK.run rfl (by simp [volC]) (TraceK.call rfl rfl hcv (TraceK.run rfl (by simp [volC, intsV]) ?_)))))
  refine TraceK.gcall (gb := true) rfl rfl rfl rfl (by simp) (fun _ => c_many v.b (by omega)) (TraceK.run rfl (by simp [volC, intsV]) ?_)
  have hany : (v.v.any fun n => !btw n (-1099511627776) 1099511627776) = !(v.v.all fun n => btw n (-1099511627776) 1099511627776) := any_not _ _
  refine TraceK.gcall rfl rfl rfl rfl (by simp [volC, intsV]) (fun _ => c_containsI0 hl fun b _ => c_blockOf1 b) (TraceK.run rfl (by simp) (.done ⟨by kernel_rfl, by kernel_rfl, ?_⟩))
  have hc : ∀ c : Bool, (bif (((v.v.map I).length : Int) != v.b.a * v.b.b * v.b.c) then true else (v.v.any fun n => !btw n (-1099511627776) 1099511627776)) = c → c = !volOk v := by
    rintro c rfl
    rw [hany]
    unfold volOk
    rw [hB]
    by_cases h1 : (v.v.length : Int) = v.b.a * v.b.b * v.b.c <;> cases (v.v.all fun n => btw n (-1099511627776) 1099511627776) <;> simp [h1]
  refine Tr.cond rfl rfl (fun h1 => Tr.seqR rfl (by simp) (Tr.retX rfl rfl rfl ?_ trivial)) (fun h1 => Tr.skip (Tr.seqR rfl (by simp [volC, intsV]) (Tr.retX rfl rfl rfl ?_ trivial)))
  · have h2 := not_of (hc true h1)
    simp at h2
    simp [packR, blockR, h2]
  · have h2 := not_of (hc false h1)
    simp at h2
    simp [packR, blockR, h2, volC, intsV]

end Go.Proofs.YtggifklgpdladaaGreat

