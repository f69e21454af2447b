/-
  Parts of the proof: the abstract machine, the compiled code, contracts of the functions, S6 laws (spelled short by a program).
-/
import Derived.Test.YtabedohjkillfaaGreatX6
import Derived.RecoverIn
set_option maxRecDepth 100000
set_option maxHeartbeats 4000000
set_option linter.unusedVariables false
set_option linter.unusedSimpArgs false
namespace Go.Proofs.YtabedohjkillfaaGreat
section
open Go.Am Go.RowKit
attribute [local simp] cells Aa mkv Ag Ap under dem dem1
theorem A75 {w w' : World} {φ φ' : Nat → Nat} {A : Arena} (h : Ar w φ (fun _ => False) A) (hold : ∀ p ∈ A, w'.heap[p.1]? = w.heap[p.1]?) (ext : Ext w φ w' φ') (hsz : w.heap.size ≤ w'.heap.size) (hz : ∀ p ∈ A, φ' p.1 = φ p.1) : Ar w' φ' (fun _ => False) A :=
 ⟨h.nd, fun p hp => (h.ok p hp).mono (hold p hp) ext, fun _ _ h => h, fun p hp => Nat.lt_of_lt_of_le (h.lt p hp) hsz, fun p hp => (hz p hp).trans (h.z p hp)⟩
section
variable {F : Fence} {n : Nat} {P : Program} {ops : Array Oper} {Q : Exit → Act → List Frame → World → Prop} {i : Nat} {rest : List Nat} {a : Act} {cs : List Frame} {w w' : World} {o : Oper}
theorem opS_rec (ho : ops[i]? = some o) (hg : o.guard = none) (hr : (execOp a.eval o).run P w = .ok .recover w) (hrec : recoverD cs = none) (h : wpOpsSIn Fence.wide n P ops Q rest (a.put o.dst .nilIface) cs w) : wpOpsSIn Fence.wide n P ops Q (i :: rest) a cs w := by
 rw [wpOpsSIn]
 simp only [ho]
 refine ⟨fun _ _ => trivial, ?_⟩
 simp only [Region.wanted, hg, if_true, hr, hrec]
 exact h
theorem Qn {v : Value} (ho : ops[i]? = some o) (hg : o.guard = none) (hr : (execOp a.eval o).run P w = .ok (.value v) w') (h : wpOpsSIn Fence.wide n P ops Q rest (a.put o.dst v) cs w') : wpOpsSIn Fence.wide n P ops Q (i :: rest) a cs w := by
 rw [wpOpsSIn]
 simp only [ho]
 refine ⟨fun _ _ => trivial, ?_⟩
 simp only [Region.wanted, hg, if_true, hr]
 exact h
end
theorem A3p (d : Nat) (w : World) : (Op.equalIn (d + 1) 20 Value.nilIface Value.nilIface).run Tryz.prog w = .ok true w := by
 simp only [Op.equalIn, Sem.run_bind, run_underlying Tryz.underlying20, Result.andThen_ok, Sem.run_pure]
theorem A7e (w : World) : (Op.equalIn Op.maxDepth 20 Value.nilIface Value.nilIface).run Tryz.prog w = .ok true w := A3p 9999 w
theorem A3o (ρ : Operand → Value) (o : Oper) (p : Operand) (u : TypeId) (w : World) (ho : o.op = .binOp .neq 20 p (.const .nilIface) u) (hp : ρ p = .nilIface) (hc : ρ (.const .nilIface) = .nilIface) : (execOp ρ o).run Tryz.prog w = .ok (.value (.bool false)) w := by
 simp [execOp, ho, hp, hc, eqGuard, binOp, Op.equal, A7e]
theorem A08 (v : Value) (w : World) (R : Ending → FrameMode → World → Prop) (hR : R (.returned (.tuple #[])) .returning w) : CallsDIn Fence.wide 0 Tryz.prog 124 #[v] .returning w R := by
 refine callsDIn_of_wpSIn Tryz.func124 rfl trivial fun c0 cs hm => ?_
 have hrec : recoverD (c0 :: cs) = none := by simp [recoverD, hm]
 have e0 : (#[v] ++ Array.replicate (Tryz.f124.ntmps - #[v].size) undef) = #[v, undef, undef, undef, undef, undef, undef, undef, undef, undef, undef, undef, undef, undef, undef] := rfl
 rw [e0]
 refine wpSIn_seq (wpSIn_region ?_)
 refine opS_rec (i := 0) (rest := [1]) rfl rfl rfl hrec (Qn (i := 1) (rest := []) (v := .nilIface) rfl rfl rfl ?_)
 have e1 : (({ tmps := #[v, undef, undef, undef, undef, undef, undef, undef, undef, undef, undef, undef, undef, undef, undef], defers := [] } : Act).put (some 4) .nilIface).put (some 1) .nilIface = { tmps := #[v, .nilIface, undef, undef, .nilIface, undef, undef, undef, undef, undef, undef, undef, undef, undef, undef], defers := [] } := rfl
 show Exit.thenS _ _ .normal ((({ tmps := #[v, undef, undef, undef, undef, undef, undef, undef, undef, undef, undef, undef, undef, undef, undef], defers := [] } : Act).put (some 4) .nilIface).put (some 1) .nilIface) _ _
 rw [e1]
 refine wpSIn_seq (wpSIn_region ?_)
 refine Qn (i := 0) (rest := [1]) (v := .nilIface) rfl rfl rfl (Qn (i := 1) (rest := []) (v := .bool false) (w' := w) rfl rfl ?_ ?_)
 ·exact A3o _ _ (.tmp 5) 20 w rfl rfl rfl
 show Exit.thenS _ _ .normal _ _ _
 refine wpSIn_cond (t := false) rfl ?_
 refine wpSIn_of_wpIn rfl (wpIn_skip ?_)
 exact ⟨rfl, .returning, by rw [← hm], .tuple #[], by simp [results, show Tryz.f124.results = #[] from rfl], hR⟩
theorem Xb {P : Program} {n i : Nat} {ops : Array Oper} {o : Oper} {a : Act} {w w' : World} {x : Value} {Q : Exit → Act → World → Prop} {next : Act → World → Prop} (ho : ops[i]? = some o) (hg : o.guard = none) (hd : ∀ c, o.op ≠ .defer c)
  (hr : (execOp a.eval o).run P w = .ok (.value x) w' ∨ ((execOp a.eval o).run P w = .ok .skip w' ∧ x = undef)) (hn : next (a.put o.dst x) w') : wpOpIn Fence.wide n P ops Q i next a w := by
 unfold wpOpIn
 simp only [ho, Region.wanted, hg, if_true, Oper.wpIn]
 refine ⟨fun _ _ => trivial, ?_⟩
 rw [Oper.semAt_eq _ _ _ hd]
 rcases hr with hr | ⟨hr, rfl⟩ <;> rw [hr] <;> exact hn
section
variable {n : Nat} {P : Program} {ops : Array Oper} {Q : Exit → Act → World → Prop} {i : Nat} {rest : List Nat} {a : Act} {w w' : World} {o : Oper}
theorem Gc {v : Value} (ho : ops[i]? = some o) (hg : o.guard = none) (hd : ∀ c, o.op ≠ .defer c) (hr : (execOp a.eval o).run P w = .ok (.value v) w') (h : wpOpsIn Fence.wide n P ops Q rest (a.put o.dst v) w') : wpOpsIn Fence.wide n P ops Q (i :: rest) a w := by
 rw [wpOpsIn_cons]
 exact Xb ho hg hd (.inl hr) h
theorem Yz (ho : ops[i]? = some o) (hg : o.guard = none) (hd : ∀ c, o.op ≠ .defer c) (hr : (execOp a.eval o).run P w = .ok .skip w') (h : wpOpsIn Fence.wide n P ops Q rest (a.put o.dst undef) w') : wpOpsIn Fence.wide n P ops Q (i :: rest) a w := by
 rw [wpOpsIn_cons]
 exact Xb ho hg hd (.inr ⟨hr, rfl⟩) h
theorem Aau {d : Deferred} (ho : ops[i]? = some o) (hg : o.guard = none) (hr : (execOp a.eval o).run P w = .ok (.defer d) w') (h : wpOpsIn Fence.wide n P ops Q rest ({ a with defers := d :: a.defers }.put o.dst undef) w') : wpOpsIn Fence.wide n P ops Q (i :: rest) a w := by
 rw [wpOpsIn_cons]
 unfold wpOpIn
 simp only [ho, Region.wanted, hg, if_true, Oper.wpIn]
 refine ⟨fun _ _ => trivial, ?_⟩
 show Oper.uponIn _ _ _ _ _ _ _ ((execOp a.eval o).run P w)
 rw [hr]; exact h
end
theorem A7f {P : Program} {o : Oper} {a : Act} {w : World} {f : FuncId} {c : Call} {t : Nat} {f' c' : Array Value} (hcall : Bn P f = true) (hc : c.callee = .value (.tmp t)) (ho : o.op = .call c) (hv : a.eval (.tmp t) = .func (.func f) f' c') :
  (execOp a.eval o).run P w = .ok (.enter f (f' ++ c.args.map a.eval ++ c')) w := by
 unfold Bn at hcall
 cases hf : P.funcs[f]? with
 | none => simp [hf] at hcall
 | some fn =>
   simp only [hf, Bool.and_eq_true, bne_iff_ne, ne_eq] at hcall
   have hb : fn.body.isNone = false := by cases h : fn.body <;> simp [h] at hcall ⊢
   have hnm : (fn.name == "runtime.NumGoroutine") = false := by simpa using hcall.1
   simp only [execOp, ho, resolve, hc, Sem.run_bind, hv, Deferred.ofValue, Sem.run_pure, Result.andThen_ok, invoke, callFunc, run_program, hf, hnm, hb]
   simp
section
variable {n : Nat} {P : Program} {ops : Array Oper} {Q : Exit → Act → World → Prop} {i : Nat} {rest : List Nat} {a : Act} {w w' : World} {o : Oper}
theorem Aav {f : FuncId} {args : Array Value} (ho : ops[i]? = some o) (hg : o.guard = none) (hr : (execOp a.eval o).run P w = .ok (.enter f args) w') (h : Calls P f args w' fun e w2 => (∃ v, e = .returned v ∧ wpOpsIn Fence.wide n P ops Q rest (a.put o.dst v) w2) ∨ ∃ ch, e = .panicked ch ∧ Q (.panic ch) a w2) (hd : ∀ c, o.op ≠ .defer c) : wpOpsIn Fence.wide n P ops Q (i :: rest) a w := by
 rw [wpOpsIn_cons]
 unfold wpOpIn
 simp only [ho, Region.wanted, hg, if_true, Oper.wpIn]
 refine ⟨fun _ _ => trivial, ?_⟩
 show Oper.uponIn _ _ _ _ _ _ _ ((execOp a.eval o).run P w)
 rw [hr]
 refine ⟨fun h => (by cases h), ((callsIn_wide (n := n - 1)).2 h).mono ?_⟩
 rintro e w2 (⟨v, rfl, h⟩ | ⟨ch, rfl, h⟩)
 ·exact h
 ·exact h
end
section
variable {F : Fence} {n : Nat} {P : Program} {ops : Array Oper} {Q : Exit → Act → List Frame → World → Prop} {i : Nat} {rest : List Nat} {a : Act} {cs cs' : List Frame} {w w' : World} {o : Oper}
theorem opS_recV {v : Value} (ho : ops[i]? = some o) (hg : o.guard = none) (hr : (execOp a.eval o).run P w = .ok .recover w) (hrec : recoverD cs = some (v, cs')) (h : wpOpsSIn Fence.wide n P ops Q rest (a.put o.dst v) cs' w) : wpOpsSIn Fence.wide n P ops Q (i :: rest) a cs w := by
 rw [wpOpsSIn]
 simp only [ho]
 refine ⟨fun _ _ => trivial, ?_⟩
 simp only [Region.wanted, hg, if_true, hr, hrec]
 exact h
end
end
section
open Go.Am Go.RowKit
attribute [local simp] cells Aa mkv Ag Ap under dem dem1
theorem Yq (d : Nat) (w : World) : (Op.equalIn (d + 1) 20 clashV Value.nilIface).run Tryz.prog w = .ok false w := by
 simp only [Op.equalIn, Sem.run_bind, run_underlying Tryz.underlying20, Result.andThen_ok, Sem.run_pure, clashV]
theorem A10 (w : World) : (Op.equalIn Op.maxDepth 20 clashV Value.nilIface).run Tryz.prog w = .ok false w := Yq 9999 w
theorem Yp (ρ : Operand → Value) (o : Oper) (p : Operand) (u : TypeId) (w : World) (ho : o.op = .binOp .neq 20 p (.const .nilIface) u) (hp : ρ p = clashV) (hc : ρ (.const .nilIface) = .nilIface) : (execOp ρ o).run Tryz.prog w = .ok (.value (.bool true)) w := by
 have e := A10 w
 unfold clashV at hp e
 simp [execOp, ho, hp, hc, eqGuard, binOp, Op.equal, e]
theorem A8p : ∃ i, Tryz.prog.info? 237 = some i ∧ i.zero = some (.agg #[]) := by
 have h : (Tryz.prog.info? 237).bind (·.zero) = some (.agg #[]) := by kernel_rfl
 cases hi : Tryz.prog.info? 237 with
 | none => rw [hi] at h; cases h
 | some i => rw [hi] at h; exact ⟨i, rfl, h⟩
theorem A2c (ρ : Operand → Value) (o : Oper) (p : Operand) (w : World) (ho : o.op = .typeAssert p 20 237 true) (hp : ρ p = clashV := by rfl) : (execOp ρ o).run Tryz.prog w = .ok (.value (.tuple #[.agg #[], .bool true])) w := by
 obtain ⟨i, hi, hz⟩ := A8p
 have h := Xk (P := Tryz.prog) (w := w) (t := 20) (a := 237) (y := .agg #[]) M9 hi hz
 rw [if_pos rfl] at h
 unfold clashV at hp
 simp only [execOp, ho, hp, Sem.run_bind, h]
 rfl
theorem A7d (ρ : Operand → Value) (o : Oper) (p q : Operand) (w : World) (b : Addr) (ho : o.op = .store 237 p q) (hp : ρ p = .pointer (some b)) (hq : ρ q = .agg #[]) : (execOp ρ o).run Tryz.prog w = .ok .skip w := by
 simp [execOp, ho, hp, hq, Instr.storeAt, Instr.sureAddr, storeVar, Tryz.sizeOf237, Value.cells, storeCells]
theorem Xh (ρ : Operand → Value) (o : Oper) (p : Operand) (w : World) (nb : Nat) (x : Value) (v : Bool) (ho : o.op = .store 4 p (.const (.bool v))) (hp : ρ p = .pointer (some ⟨nb, 0, none⟩)) (hnb : w.heap[nb]? = some (.cells #[x] 4 (0, 0))) (hc : ρ (.const (.bool v)) = .bool v := by rfl) : (execOp ρ o).run Tryz.prog w = .ok .skip (w.setRow nb #[.bool v]) := by
 have hrun := run_storeCells_at (P := Tryz.prog) nb 0 4 [.bool v] 0 #[x] w hnb (by simp) (by simp [Value.oneCell'])
 have hrun' : (storeCells ⟨nb, 0, none⟩ [Value.bool v]).run Tryz.prog w = .ok () (w.setRow nb #[.bool v]) := by simpa using hrun
 simp only [execOp, ho, hp, hc, Instr.storeAt, Instr.sureAddr, Sem.run_bind, Sem.run_pure, Result.andThen_ok, storeVar, Tryz.sizeOf4]
 rw [if_neg (fun h => h rfl), show (Value.bool v).cells.toList = [Value.bool v] from rfl, hrun']
 rfl
theorem A07 {nb : Nat} {x : Value} {w : World} (hnb : w.heap[nb]? = some (.cells #[x] 4 (0, 0))) (R : Ending → FrameMode → World → Prop)
  (hR : ∀ w1 w2 : World, w.alloc (.cells #[] 237 (0, 0)) = w1 → w1.setRow nb #[.bool true] = w2 → R (.returned (.tuple #[])) (.panicking [{ v := clashV, recovered := true }]) w2) : CallsDIn Fence.wide 0 Tryz.prog 124 #[.pointer (some ⟨nb, 0, none⟩)] (.panicking [{ v := clashV, recovered := false }]) w R := by
 obtain ⟨p0, hp0⟩ : ∃ p0 : Value, .pointer (some ⟨nb, 0, none⟩) = p0 := ⟨_, rfl⟩
 rw [hp0]
 refine callsDIn_of_wpSIn Tryz.func124 rfl trivial fun c0 cs hm => ?_
 have hrec : recoverD (c0 :: cs) = some (clashV, { c0 with mode := .panicking [{ v := clashV, recovered := true }] } :: cs) := by simp [recoverD, hm]
 have e0 : (#[p0] ++ Array.replicate (Tryz.f124.ntmps - #[p0].size) undef) = #[p0, undef, undef, undef, undef, undef, undef, undef, undef, undef, undef, undef, undef, undef, undef] := rfl
 rw [e0]
 refine wpSIn_seq (wpSIn_region ?_)
 refine opS_recV (i := 0) (rest := [1]) rfl rfl rfl hrec (Qn (i := 1) (rest := []) (v := clashV) rfl rfl rfl ?_)
 have e1 : (({ tmps := #[p0, undef, undef, undef, undef, undef, undef, undef, undef, undef, undef, undef, undef, undef, undef], defers := [] } : Act).put (some 4) clashV).put (some 1) clashV = { tmps := #[p0, clashV, undef, undef, clashV, undef, undef, undef, undef, undef, undef, undef, undef, undef, undef], defers := [] } := rfl
 show Exit.thenS _ _ .normal ((({ tmps := #[p0, undef, undef, undef, undef, undef, undef, undef, undef, undef, undef, undef, undef, undef, undef], defers := [] } : Act).put (some 4) clashV).put (some 1) clashV) _ _
 rw [e1]
 refine wpSIn_seq (wpSIn_region ?_)
 refine Qn (i := 0) (rest := [1]) (v := clashV) rfl rfl rfl (Qn (i := 1) (rest := []) (v := .bool true) (w' := w) rfl rfl ?_ ?_)
 ·exact Yp _ _ (.tmp 5) 20 w rfl rfl rfl
 have e2 : (({ tmps := #[p0, clashV, undef, undef, clashV, undef, undef, undef, undef, undef, undef, undef, undef, undef, undef], defers := [] } : Act).put (some 5) clashV).put (some 6) (.bool true) = { tmps := #[p0, clashV, undef, undef, clashV, clashV, .bool true, undef, undef, undef, undef, undef, undef, undef, undef], defers := [] } := rfl
 show Exit.thenS _ _ .normal ((({ tmps := #[p0, clashV, undef, undef, clashV, undef, undef, undef, undef, undef, undef, undef, undef, undef, undef], defers := [] } : Act).put (some 5) clashV).put (some 6) (.bool true)) _ _
 rw [e2]
 refine wpSIn_cond (t := true) rfl ?_
 rw [if_pos rfl]
 refine wpSIn_of_wpIn rfl ?_
 refine wpIn_seq (wpIn_seq (wpIn_region ?_))
 refine Gc (i := 0) (rest := [1, 2, 3, 4, 5, 6, 7]) (v := clashV) rfl rfl (by simp) rfl ?_
 refine Gc (i := 1) (rest := [2, 3, 4, 5, 6, 7]) (v := .tuple #[.agg #[], .bool true]) (w' := w) rfl rfl (by simp) ?_ ?_
 ·exact A2c _ _ _ _ rfl
 refine Gc (i := 2) (rest := [3, 4, 5, 6, 7]) (v := .tuple #[.agg #[], .bool true]) rfl rfl (by simp) rfl ?_
 refine Gc (i := 3) (rest := [4, 5, 6, 7]) (v := .agg #[]) rfl rfl (by simp) rfl ?_
 refine Gc (i := 4) (rest := [5, 6, 7]) (v := .bool true) rfl rfl (by simp) rfl ?_
 obtain ⟨w1, hw1⟩ : ∃ w1, w.alloc (.cells #[] 237 (0, 0)) = w1 := ⟨_, rfl⟩
 obtain ⟨n1, hn1⟩ : ∃ n1, w.heap.size = n1 := ⟨_, rfl⟩
 refine Gc (i := 5) (rest := [6, 7]) (v := .pointer (some ⟨n1, 0, none⟩)) (w' := w1) rfl rfl (by simp) ?_ ?_
 ·simp [execOp, Instr.alloc, Tryz.zeroValue237, newVar, newRow, hn1]
  exact hw1
 refine Yz (i := 6) (rest := [7]) (w' := w1) rfl rfl (by simp) ?_ ?_
 ·exact A7d _ _ (.tmp 2) (.tmp 10) _ ⟨n1, 0, none⟩ rfl rfl rfl
 refine Gc (i := 7) (rest := []) (v := .bool true) (w' := w1) rfl rfl (by simp) rfl ?_
 have e3 : ((((((((({ tmps := #[p0, clashV, undef, undef, clashV, clashV, .bool true, undef, undef, undef, undef, undef, undef, undef, undef], defers := [] } : Act).put (some 8) clashV).put (some 9) (.tuple #[.agg #[], .bool true])).put (some 7) (.tuple #[.agg #[], .bool true])).put (some 10) (.agg #[])).put (some 11) (.bool true)).put (some 2) (.pointer (some ⟨n1, 0, none⟩))).put none undef).put (some 3) (.bool true)) = { tmps := #[p0, clashV, .pointer (some ⟨n1, 0, none⟩), .bool true, clashV, clashV, .bool true, .tuple #[.agg #[], .bool true], clashV, .tuple #[.agg #[], .bool true], .agg #[], .bool true, undef, undef, undef], defers := [] } := rfl
 show Exit.then _ _ .normal ((((((((({ tmps := #[p0, clashV, undef, undef, clashV, clashV, .bool true, undef, undef, undef, undef, undef, undef, undef, undef], defers := [] } : Act).put (some 8) clashV).put (some 9) (.tuple #[.agg #[], .bool true])).put (some 7) (.tuple #[.agg #[], .bool true])).put (some 10) (.agg #[])).put (some 11) (.bool true)).put (some 2) (.pointer (some ⟨n1, 0, none⟩))).put none undef).put (some 3) (.bool true)) _
 rw [e3]
 refine wpIn_seq (wpIn_region (Gc (i := 0) (rest := [1]) (v := .bool true) (w' := w1) rfl rfl (by simp) rfl (Gc (i := 1) (rest := []) (v := .bool false) (w' := w1) rfl rfl (by simp) rfl ?_)))
 obtain ⟨ac, hac⟩ : ∃ ac : Act, ({ tmps := #[p0, clashV, .pointer (some ⟨n1, 0, none⟩), .bool true, clashV, clashV, .bool true, .tuple #[.agg #[], .bool true], clashV, .tuple #[.agg #[], .bool true], .agg #[], .bool true, .bool true, .bool false, undef], defers := [] } : Act) = ac := ⟨_, rfl⟩
 have e4 : (({ tmps := #[p0, clashV, .pointer (some ⟨n1, 0, none⟩), .bool true, clashV, clashV, .bool true, .tuple #[.agg #[], .bool true], clashV, .tuple #[.agg #[], .bool true], .agg #[], .bool true, undef, undef, undef], defers := [] } : Act).put (some 12) (.bool true)).put (some 13) (.bool false) = ac := by rw [← hac]; rfl
 show Exit.then _ _ .normal ((({ tmps := #[p0, clashV, .pointer (some ⟨n1, 0, none⟩), .bool true, clashV, clashV, .bool true, .tuple #[.agg #[], .bool true], clashV, .tuple #[.agg #[], .bool true], .agg #[], .bool true, undef, undef, undef], defers := [] } : Act).put (some 12) (.bool true)).put (some 13) (.bool false)) _
 rw [e4]
 refine wpIn_cond (t := false) (by rw [← hac]; rfl) (wpIn_skip ?_)
 have hsz1 : n1 ≠ nb := fun e => by
  have := (Array.getElem?_eq_some_iff.1 hnb).1; omega
 have hnb1 : w1.heap[nb]? = some (.cells #[x] 4 (0, 0)) := by
  rw [← hw1, heap_alloc_old w _ (Array.getElem?_eq_some_iff.1 hnb).1]; exact hnb
 obtain ⟨w2, hw2⟩ : ∃ w2, w1.setRow nb #[.bool true] = w2 := ⟨_, rfl⟩
 refine wpIn_region (Yz (i := 0) (rest := []) (w' := w2) rfl rfl (by simp) ?_ ?_)
 ·rw [← hw2]
  exact Xh _ _ (.tmp 0) _ nb x true rfl (by rw [← hac, ← hp0]; rfl) hnb1
 subst hac
 exact ⟨rfl, _, rfl, .tuple #[], by simp [results, show Tryz.f124.results = #[] from rfl], hR w1 w2 hw1 hw2⟩
end
section
open Go.Am Go.RowKit
attribute [local simp] cells Aa mkv Ag Ap under dem dem1
theorem Y3 {A B : Arena} {w w1 w2 w3 : World} {φ φ2 : Nat → Nat} {nb : Nat} (hnb : w.heap.size = nb) (htop : ∀ b, w.heap.size ≤ b → φ b = 0) (old1 : ∀ b, b < nb → w1.heap[b]? = w.heap[b]?) (sz1 : w1.heap.size = nb + 1) (os1 : w1.os = w.os ∧ w1.tape = w.tape ∧ w1.output = w.output) (ext1 : Ext w φ w1 φ)
  (hB : Ar w2 φ2 (fun _ => False) B) (mv : Moved (fun b => b ∈ A.map (·.1)) w1 φ (fun b => b ∈ B.map (·.1)) w2 φ2) (hnA : nb ∉ A.map (·.1)) (old3 : ∀ b, b < w2.heap.size → b ≠ nb → w3.heap[b]? = w2.heap[b]?) (sz3 : w2.heap.size ≤ w3.heap.size) (os3 : w3.os = w2.os ∧ w3.tape = w2.tape ∧ w3.output = w2.output) :
  Ar w3 φ2 (fun _ => False) B ∧ Moved (fun b => b ∈ A.map (·.1)) w φ (fun b => b ∈ B.map (·.1)) w3 φ2 := by
 have hsz2 := mv.size
 have hnb2 := mv.old nb (by omega) hnA
 have hnb0 : φ2 nb = 0 := by rw [hnb2.2]; exact htop nb (by omega)
 have ext3 : Ext w2 φ2 w3 φ2 := fun b o ho => by
  have hb : b ≠ nb := fun e => by rw [e, hnb0] at ho; omega
  have hb2 : b < w2.heap.size := by
   rcases Nat.lt_or_ge b w2.heap.size with h | h
   ·exact h
   ·rw [mv.top b h] at ho; omega
  exact ⟨ho, World.cell?_of_block (old3 b hb2 hb), B5 (old3 b hb2 hb)⟩
 have hnB : nb ∉ B.map (·.1) := fun hm => by
  rcases mv.mine nb hm with h | h
  ·exact hnA h
  ·omega
 refine ⟨A75 hB (fun p hp => old3 _ (hB.lt p hp) fun e => hnB (e ▸ List.mem_map.2 ⟨p, hp, rfl⟩)) ext3 (by omega) (fun _ _ => rfl), ⟨(ext1.trans mv.ext).trans ext3, fun b hb hn => ?_, by omega, ?_, ?_, ?_, fun b hb => ?_, fun b hb => mv.top b (by omega)⟩⟩
 ·have := mv.old b (by omega) hn
  exact ⟨(old3 b (by omega) (by omega)).trans (this.1.trans (old1 b (by omega))), this.2⟩
 ·rw [os3.1, mv.os, os1.1]
 ·rw [os3.2.1, mv.tape, os1.2.1]
 ·rw [os3.2.2, mv.output, os1.2.2]
 ·rcases mv.mine b hb with h | h
  ·exact .inl h
  ·exact .inr (by omega)
theorem Ut {w : World} {nb : Nat} {v : Bool} {tm : Array Value} (ht : tm.getD 2 undef = .pointer (some ⟨nb, 0, none⟩)) (h3 : w.heap[nb]? = some (.cells #[.bool v] 4 (0, 0))) : (results Tryz.f99 tm).run Tryz.prog w = .ok (.bool v) w := by
 have t2' : tm[2]?.getD undef = .pointer (some ⟨nb, 0, none⟩) := by simpa using ht
 have hload := F1 (P := Tryz.prog) (w := w) (t := 4) (n := 1) (b := nb) (off := 0) (cs := [Value.bool v]) (x := .bool v) (by kernel_rfl) Tryz.underlying4 rfl (fun j u hv => by
  cases j with
  | zero => simp at hv; subst hv; rw [cell_of_row w nb _ _ 4 (0, 0) h3]; rfl
  | succ j => simp at hv) (by rw [show aggB Tryz.prog 4 = false from by kernel_rfl]; rfl)
 simp only [Instr.loadAt, Instr.sureAddr, Sem.run_bind, Sem.run_pure, Result.andThen_ok] at hload
 simp [results, show Tryz.f99.results = #[.cell 2 4] from rfl, t2', asAddr, hload]
theorem A27 {f : FuncId} {cap : List V} {A : Arena} {K : List (Nat × List V)} {Φ : V → Arena → Prop} {Ψ : Arena → Prop} (hc : CP Tryz.prog f A K cap Φ clashV Ψ) : CX Tryz.prog A3f A K [.func (.func f) [] cap] (fun r B => (r = .bool false ∧ ∃ r', Φ r' B) ∨ (r = .bool true ∧ Ψ B)) := by
 refine ⟨by kernel_rfl, fun w φ vals htop hgl hA hK hKA hrep => ?_⟩
 obtain ⟨hl, hr⟩ := hrep
 obtain ⟨vals⟩ := vals
 match vals, hl with
 | [v1], _ =>
 have h1 := hr 0 _ v1 rfl rfl
 cases h1 with
 | func fn first cap f' c' g1 g2 g3 g4 =>
 have e1 : f' = #[] := Array.eq_empty_of_size_eq_zero (by simpa using g1.symm)
 subst e1
 rw [← callsIn_wide (n := 0)]
 refine callsIn_of_wp_marks Tryz.func99 rfl trivial ?_
 have e0 : (#[Value.func (.func f) #[] c'] ++ Array.replicate (Tryz.f99.ntmps - #[Value.func (.func f) #[] c'].size) undef) = #[.func (.func f) #[] c', undef, undef, undef, undef, undef] := rfl
 show Code.wpIn _ _ _ _ _ { tmps := (#[Value.func (.func f) #[] c'] ++ Array.replicate (Tryz.f99.ntmps - #[Value.func (.func f) #[] c'].size) undef), defers := [] } _
 rw [e0]
 obtain ⟨nb, hnb⟩ : ∃ nb, w.heap.size = nb := ⟨_, rfl⟩
 obtain ⟨w1, hw1⟩ : ∃ w1, w.alloc (.cells #[.bool false] 4 (0, 0)) = w1 := ⟨_, rfl⟩
 refine wpIn_seq (wpIn_region (Gc (i := 0) (rest := []) (v := .pointer (some ⟨nb, 0, none⟩)) (w' := w1) rfl rfl (by simp) ?_ ?_))
 ·simp [execOp, Instr.alloc, Tryz.zeroValue4, newVar, newRow, hnb]
  exact hw1
 show Exit.then _ _ .normal _ _
 refine wpIn_seq (wpIn_region (Gc (i := 0) (rest := [1]) (v := .func (.func 124) #[] #[.pointer (some ⟨nb, 0, none⟩)]) (w' := w1) rfl rfl (by simp) ?_ (Aau (i := 1) (rest := []) (d := { target := .fn (.func 124) #[.pointer (some ⟨nb, 0, none⟩)], args := #[] }) (w' := w1) rfl rfl ?_ ?_)))
 ·show Sem.run Tryz.prog (execOp (({ tmps := #[Value.func (.func f) #[] c', undef, .pointer (some ⟨nb, 0, none⟩), undef, undef, undef], defers := [] } : Act).eval) _) w1 = _
  simp [execOp, Instr.makeFunc, Act.eval]
 ·show Sem.run Tryz.prog (execOp (({ tmps := #[Value.func (.func f) #[] c', undef, .pointer (some ⟨nb, 0, none⟩), .func (.func 124) #[] #[.pointer (some ⟨nb, 0, none⟩)], undef, undef], defers := [] } : Act).eval) _) w1 = _
  simp [execOp, resolve, Deferred.ofValue, Act.eval]
 have e1 : ((({ tmps := #[Value.func (.func f) #[] c', undef, .pointer (some ⟨nb, 0, none⟩), .func (.func 124) #[] #[.pointer (some ⟨nb, 0, none⟩)], undef, undef], defers := [{ target := .fn (.func 124) #[.pointer (some ⟨nb, 0, none⟩)], args := #[] }] } : Act)).put none undef) = { tmps := #[Value.func (.func f) #[] c', undef, .pointer (some ⟨nb, 0, none⟩), .func (.func 124) #[] #[.pointer (some ⟨nb, 0, none⟩)], undef, undef], defers := [{ target := .fn (.func 124) #[.pointer (some ⟨nb, 0, none⟩)], args := #[] }] } := rfl
 show Exit.then _ _ .normal ((({ tmps := #[Value.func (.func f) #[] c', undef, .pointer (some ⟨nb, 0, none⟩), .func (.func 124) #[] #[.pointer (some ⟨nb, 0, none⟩)], undef, undef], defers := [{ target := .fn (.func 124) #[.pointer (some ⟨nb, 0, none⟩)], args := #[] }] } : Act)).put none undef) _
 rw [e1]
 have hsz1 : w1.heap.size = nb + 1 := by
  rw [← hw1]
  show (w.heap.push _).size = _
  rw [Array.size_push, hnb]
 have old1 : ∀ b, b < nb → w1.heap[b]? = w.heap[b]? := fun b hb => by rw [← hw1]; exact heap_alloc_old w _ (by omega)
 have new1 : w1.heap[nb]? = some (.cells #[.bool false] 4 (0, 0)) := by rw [← hw1, ← hnb]; exact heap_alloc_new w _
 have os1 : w1.os = w.os ∧ w1.tape = w.tape ∧ w1.output = w.output := by rw [← hw1]; exact ⟨rfl, rfl, rfl⟩
 have ext1 : Ext w φ w1 φ := fun b o ho => by
  have hb : b < nb := by
   rcases Nat.lt_or_ge b nb with h1 | h1
   ·exact h1
   ·rw [htop b (by omega)] at ho; omega
  exact ⟨ho, World.cell?_of_block (old1 b hb), B5 (old1 b hb)⟩
 have hA1 : Ar w1 φ (fun _ => False) A := A75 hA (fun p hp => old1 _ (by have := hA.lt p hp; omega)) ext1 (by omega) fun _ _ => rfl
 have hnA : nb ∉ A.map (·.1) := fun hm => by
  obtain ⟨p, hp, e⟩ := List.mem_map.1 hm
  have := hA.lt p hp; omega
 have hcall := hc.2 w1 φ c' (fun b hb => htop b (by omega)) (hgl.mono ext1) hA1 (fun p hp => ⟨(hK p hp).1.mono (old1 _ (by have := (hK p hp).2; omega)) ext1, by have := (hK p hp).2; omega⟩) hKA ⟨by simpa using g2, fun i v x h1 h2 => (g4 i v x h1 h2).mono ext1⟩
 refine wpIn_seq (wpIn_region (Gc (i := 0) (rest := [1]) (v := .func (.func f) #[] c') (w' := w1) rfl rfl (by simp) rfl (Aav (i := 1) (rest := []) (f := f) (args := c') (w' := w1) rfl rfl ?_ (hcall.mono ?_) (by simp))))
 ·show Sem.run Tryz.prog (execOp (({ tmps := #[Value.func (.func f) #[] c', undef, .pointer (some ⟨nb, 0, none⟩), .func (.func 124) #[] #[.pointer (some ⟨nb, 0, none⟩)], .func (.func f) #[] c', undef], defers := [{ target := .fn (.func 124) #[.pointer (some ⟨nb, 0, none⟩)], args := #[] }] } : Act).eval) _) w1 = _
  refine (A7f (P := Tryz.prog) (w := w1) (t := 4) hc.1 rfl rfl (f' := #[]) (c' := c') rfl).trans ?_
  simp
 rintro e w2 ⟨φ2, B, hB, mv, ⟨r, x, rfl, hx, hΦ⟩ | ⟨rfl, hΨ⟩⟩
 ·
  refine .inl ⟨x, rfl, ?_⟩
  have hnb2 := mv.old nb (by omega) hnA
  obtain ⟨tm, htm⟩ : ∃ tm, #[Value.func (.func f) #[] c', undef, .pointer (some ⟨nb, 0, none⟩), .func (.func 124) #[] #[.pointer (some ⟨nb, 0, none⟩)], .func (.func f) #[] c', x] = tm := ⟨_, rfl⟩
  have e2 : (({ tmps := #[Value.func (.func f) #[] c', undef, .pointer (some ⟨nb, 0, none⟩), .func (.func 124) #[] #[.pointer (some ⟨nb, 0, none⟩)], .func (.func f) #[] c', undef], defers := [{ target := .fn (.func 124) #[.pointer (some ⟨nb, 0, none⟩)], args := #[] }] } : Act).put (some 5) x) = { tmps := tm, defers := [{ target := .fn (.func 124) #[.pointer (some ⟨nb, 0, none⟩)], args := #[] }] } := by rw [← htm]; rfl
  show Exit.then _ _ .normal (({ tmps := #[Value.func (.func f) #[] c', undef, .pointer (some ⟨nb, 0, none⟩), .func (.func 124) #[] #[.pointer (some ⟨nb, 0, none⟩)], .func (.func f) #[] c', undef], defers := [{ target := .fn (.func 124) #[.pointer (some ⟨nb, 0, none⟩)], args := #[] }] } : Act).put (some 5) x) w2
  rw [e2]
  have t2 : tm.getD 2 undef = .pointer (some ⟨nb, 0, none⟩) := by rw [← htm]; rfl
  have h2nb : w2.heap[nb]? = some (.cells #[.bool false] 4 (0, 0)) := hnb2.1.trans new1
  obtain ⟨w3, hw3⟩ : ∃ w3, w2.setRow nb #[.bool false] = w3 := ⟨_, rfl⟩
  refine wpIn_seq (wpIn_region (Yz (i := 0) (rest := []) (w' := w3) rfl rfl (by simp) ?_ ?_))
  ·rw [← hw3]
   exact Xh _ _ (.tmp 2) w2 nb (.bool false) false rfl t2 h2nb
  show Exit.then _ _ .normal { tmps := tm, defers := [{ target := .fn (.func 124) #[.pointer (some ⟨nb, 0, none⟩)], args := #[] }] } w3
  refine wpIn_ret ?_
  refine ⟨by simp, .inr ⟨fun h => (by cases h), .func 124, #[.pointer (some ⟨nb, 0, none⟩)], 124, #[.pointer (some ⟨nb, 0, none⟩)], rfl, ?_, fun _ _ => trivial, A08 _ w3 _ ?_⟩⟩
  ·have e83 : Tryz.prog.funcs[124]? = some Tryz.f124 := Tryz.func124
   have hb : Tryz.f124.body.isNone = false := rfl
   have hnm : (Tryz.f124.name == "runtime.NumGoroutine") = false := by decide
   simp only [invoke, callFunc, Sem.run_bind, run_program, Result.andThen_ok, e83, hnm, hb]
   simp
  have h3 : w3.heap[nb]? = some (.cells #[.bool false] 4 (0, 0)) := by rw [← hw3]; exact setRow_heap w2 nb _ _ 4 (0, 0) h2nb
  refine ⟨.bool false, Ut t2 h3, ?_⟩
  obtain ⟨q1, q2⟩ := Y3 (w3 := w3) hnb htop old1 hsz1 os1 ext1 hB mv hnA (fun b _ hb => by rw [← hw3]; exact setRow_other w2 nb b _ hb) (by rw [← hw3]; simp) (by rw [← hw3]; exact ⟨rfl, rfl, rfl⟩)
  exact ⟨φ2, .bool false, .bool false, B, .inl ⟨rfl, r, hΦ⟩, rfl, .data (.bool false), q1, q2⟩
 ·
  refine .inr ⟨_, rfl, ?_⟩
  have hnb2 := mv.old nb (by omega) hnA
  have h2nb : w2.heap[nb]? = some (.cells #[.bool false] 4 (0, 0)) := hnb2.1.trans new1
  obtain ⟨tm, htm⟩ : ∃ tm, #[Value.func (.func f) #[] c', undef, .pointer (some ⟨nb, 0, none⟩), .func (.func 124) #[] #[.pointer (some ⟨nb, 0, none⟩)], .func (.func f) #[] c', undef] = tm := ⟨_, rfl⟩
  have t2 : tm.getD 2 undef = .pointer (some ⟨nb, 0, none⟩) := by rw [← htm]; rfl
  show LeavesInM Fence.wide 0 Tryz.prog Tryz.f99 #[Value.func (.func f) #[] c', undef, .pointer (some ⟨nb, 0, none⟩), .func (.func 124) #[] #[.pointer (some ⟨nb, 0, none⟩)], .func (.func f) #[] c', undef] _ [{ target := .fn (.func 124) #[.pointer (some ⟨nb, 0, none⟩)], args := #[] }] (.panicking [{ v := clashV, recovered := false }]) w2
  rw [htm]
  refine ⟨by simp, .inr ⟨fun h => (by cases h), .func 124, #[.pointer (some ⟨nb, 0, none⟩)], 124, #[.pointer (some ⟨nb, 0, none⟩)], rfl, ?_, fun _ _ => trivial, A07 h2nb _ fun wa w3 ha h3 => ?_⟩⟩
  ·have e83 : Tryz.prog.funcs[124]? = some Tryz.f124 := Tryz.func124
   have hb : Tryz.f124.body.isNone = false := rfl
   have hnm : (Tryz.f124.name == "runtime.NumGoroutine") = false := by decide
   simp only [invoke, callFunc, Sem.run_bind, run_program, Result.andThen_ok, e83, hnm, hb]
   simp
  have sza : wa.heap.size = w2.heap.size + 1 := by rw [← ha]; show (w2.heap.push _).size = _; rw [Array.size_push]
  have olda : ∀ b, b < w2.heap.size → wa.heap[b]? = w2.heap[b]? := fun b hb => by rw [← ha]; exact heap_alloc_old w2 _ hb
  have hlt : nb < w2.heap.size := (Array.getElem?_eq_some_iff.1 h2nb).1
  have hna : wa.heap[nb]? = some (.cells #[.bool false] 4 (0, 0)) := (olda nb hlt).trans h2nb
  have h3nb : w3.heap[nb]? = some (.cells #[.bool true] 4 (0, 0)) := by rw [← h3]; exact setRow_heap wa nb _ _ 4 (0, 0) hna
  refine ⟨.bool true, Ut t2 h3nb, ?_⟩
  obtain ⟨q1, q2⟩ := Y3 (w3 := w3) hnb htop old1 hsz1 os1 ext1 hB mv hnA (fun b hb hn => by rw [← h3, setRow_other wa nb b _ hn]; exact olda b hb) (by rw [← h3]; simp; omega) (by rw [← h3, ← ha]; exact ⟨rfl, rfl, rfl⟩)
  exact ⟨φ2, .bool true, .bool true, B, .inr ⟨rfl, hΨ⟩, rfl, .data (.bool true), q1, q2⟩
end
section
open Go.Am Go.RowKit
attribute [local simp] cells Aa mkv Ag Ap under dem dem1 eB A7 B8
def nsC (ns : List Fr) : List V := (ns.map eF).flatMap cells
theorem Lz (f : Fr) (ns : List Fr) : nsC (f :: ns) = A7 f ++ nsC ns := rfl
theorem U3 : ∀ ns : List Fr, (nsC ns).length = ns.length * 8
 | [] => rfl
 | f :: ns => by rw [Lz, List.length_append, U3 ns]; simp; omega
theorem nsC_at : ∀ {ns : List Fr} {sp : List V} {i : Nat}, i < ns.length → ((nsC ns ++ sp).drop (i * 8)).take 8 = A7 (ns.getD i frZ)
 | [], _, i, h => by simp at h
 | f :: ns, sp, 0, _ => by rw [Lz]; rfl
 | f :: ns, sp, i + 1, h => by
   have ih := nsC_at (ns := ns) (sp := sp) (i := i) (by simpa using h)
   rw [Lz, List.append_assoc, show (i + 1) * 8 = 8 + i * 8 by omega, ← List.drop_drop]
   have e : (A7 f ++ (nsC ns ++ sp)).drop 8 = nsC ns ++ sp := rfl
   rw [e, ih]; rfl
theorem I7 {ns : List Fr} {sp : List V} {i : Nat} (h : i < ns.length) : mkv true 8 ((nsC ns ++ sp).drop (0 + i * 8)) = .agg (A7 (ns.getD i frZ)) := by
 rw [Nat.zero_add]
 show V.agg _ = _
 rw [nsC_at h]
theorem A3z : ∀ {ns : List Fr} {sp : List V} {i : Nat} (f : Fr), i < ns.length → Ag (nsC ns ++ sp) (0 + i * 8) (A7 f) = nsC (ns.set i f) ++ sp
 | [], _, i, f, h => by simp at h
 | g :: ns, sp, 0, f, _ => by rw [Lz]; rfl
 | g :: ns, sp, i + 1, f, h => by
   have ih := A3z (ns := ns) (sp := sp) (i := i) f (by simpa using h)
   rw [List.set_cons_succ, Lz, Lz, List.append_assoc, List.append_assoc, ← ih]
   rw [show 0 + (i + 1) * 8 = 8 + i * 8 by omega, Nat.zero_add]
   unfold Ag
   have e1 : (A7 g ++ (nsC ns ++ sp)).take (8 + i * 8) = A7 g ++ (nsC ns ++ sp).take (i * 8) := by
    rw [List.take_append, List.take_of_length_le (by simp)]
    simp
   have e2 : (A7 g ++ (nsC ns ++ sp)).drop (8 + i * 8 + (A7 f).length) = (nsC ns ++ sp).drop (i * 8 + (A7 f).length) := by
    rw [List.drop_append, List.drop_of_length_le (by simp)]
    simp [Nat.add_assoc]
   rw [e1, e2]
   simp
theorem Ou (b : Nat → Option Box) (l : List Int) : toDs b [.agg (l.map I)] = some ([.agg (l.map I)], []) := by
 have h : ∀ l : List Int, (l.map I).foldr (fun x acc => In (toD b 5 x) acc) (some ([], [])) = some (l.map I, []) := by
  intro l
  induction l with
  | nil => rfl
  | cons n l ih => rw [List.map_cons, List.foldr_cons, ih]; rfl
 show In (((l.map I).foldr (fun x acc => In (toD b 5 x) acc) (some ([], []))).map fun p => (V.agg p.1, p.2)) (some ([], [])) = _
 rw [h]; rfl
def Bo (bn : Nat) (ns : List Fr) (sp : List V) : Arena := [(bn, .cells (nsC ns ++ sp))]
def chgB (ns : List Fr) (o : Sd) (a b : Fr) : Bool := !eqFr a (ns.getD o.a frZ) || !eqFr b (ns.getD o.b frZ)
def netC (bn cap : Nat) (n : Nat) (os : List Sd) : List V := [.sref bn 0 n cap, .slice 0 1 (os.map sdV)]
theorem cp_step {bn cap : Nat} {ns : List Fr} {sp : List V} {os : List Sd} {o : Sd} (ho : o.ok ns.length) (hns : ∀ i < ns.length, Av (ns.getD i frZ) = true) :
  CP Tryz.prog Xa (Bo bn ns sp) [] [.agg (netC bn cap ns.length os), sdV o] (fun r B => ∃ a b, Gr ns o = some (a, b) ∧ r = .bool (chgB ns o a b) ∧ B = Bo bn (E6 ns o a b) sp) clashV (fun B => Gr ns o = none ∧ B = Bo bn ns sp) := by
 have hla := ho.1.1
 have hlb := ho.1.2.1
 have hnl := U3 ns
 have ka := c_spanO ho
 have smA := A5o (hns _ hla)
 have smB' := A5o (hns _ hlb)
 have kb := c_back (A3l ho)
 have kw := A6r smB' (sm_back (A3l ho))
 have hm : (bn, Ob.cells (nsC ns ++ sp)) ∈ Bo bn ns sp := List.mem_singleton.2 rfl
 refine Adi mixed Sv (by simp) fun S ok S1 hA hK hKD => ?_
 refine A2 rfl (by simp [netC]) ?_
 refine Tr.seq (Tr.reg (Steps.runN 1 rfl (by simp) (Steps.invoke (name := "paravane/fix.nodes") rfl (fun _ => rfl) (by kernel_rfl) (A88 o) (c_nodes _ _) (Steps.fin rfl (by simp) ?_))))
 refine Tr.weak (s' := ⟨[(1, sdV o), (2, .ptr 2 0), (5, I (o.a : Nat)), (6, I (o.b : Nat))], [(2, ⟨netC bn cap ns.length os, false⟩)], [], encA (Bo bn ns sp), false⟩)
  (Ab (.k rfl (.k rfl (.k rfl (.k rfl .nil)))) (.k rfl .nil) .nil rfl rfl) ?_
 refine Tr.seq ?_
 cases hc1 : cutO (ns.getD o.a frZ) (winF (ns.getD o.b frZ) (A52 o.span)) with
 | none =>
   have hst : Gr ns o = none := by unfold Gr; rw [hc1]
   refine A71 hA rfl rfl rfl (A := Bo bn ns sp) (cv := clashV) rfl ⟨rfl, _, rfl, hst, rfl⟩ ?_
   refine TraceK.runN 3 rfl (by simp [netC]) (Bw (j := o.a) rfl rfl hla (Ay hA rfl rfl rfl hm (by simp; omega) ?_))
   rw [I7 hla]
   refine TraceK.runN 3 rfl (by simp [netC]) (Bw (j := o.b) rfl rfl hlb (Ay hA rfl rfl rfl hm (by simp; omega) ?_))
   rw [I7 hlb]
   refine TraceK.runN 1 rfl (by simp) (TraceK.invoke (name := "paravane/fix.span") rfl (fun _ => Ou _ _) (by kernel_rfl) (Ph o) ka ?_)
   refine TraceK.call rfl rfl kb (TraceK.call rfl rfl kw ?_)
   refine .done ⟨_, _, _, _, _, _, .agg (A7 frZ), rfl, rfl, rfl, c_cutN hc1, TraceK.run rfl (by simp) (.done ⟨rfl, by kernel_rfl⟩)⟩
 | some a =>
   have hca := Hv hc1
   have smA2 := A5o hca.2.2.2.2
   have kw2 := A6r smA2 (A3l ho)
   refine Ct rfl rfl (A := Bo bn ns sp) rfl ?_
   refine TraceK.runN 3 rfl (by simp [netC]) (Bw (j := o.a) rfl rfl hla (Ay hA rfl rfl rfl hm (by simp; omega) ?_))
   rw [I7 hla]
   refine TraceK.runN 3 rfl (by simp [netC]) (Bw (j := o.b) rfl rfl hlb (Ay hA rfl rfl rfl hm (by simp; omega) ?_))
   rw [I7 hlb]
   refine TraceK.runN 1 rfl (by simp) (TraceK.invoke (name := "paravane/fix.span") rfl (fun _ => Ou _ _) (by kernel_rfl) (Ph o) ka ?_)
   refine TraceK.call rfl rfl kb (TraceK.call rfl rfl kw (TraceK.call rfl rfl (c_cutS hc1) (TraceK.run rfl (by simp) (.done ⟨by kernel_rfl, by kernel_rfl, ?_⟩))))
   refine Tr.weak (s' := ⟨[(1, sdV o), (2, .ptr 2 0), (5, I (o.a : Nat)), (6, I (o.b : Nat)), (7, .ptr 7 0)], [(2, ⟨netC bn cap ns.length os, false⟩), (7, ⟨A7 a, false⟩)], [], encA (Bo bn ns sp), false⟩)
    (Ab (.k rfl (.k rfl (.k rfl (.k rfl (.k rfl .nil))))) (.k rfl (.k rfl .nil)) .nil rfl rfl) ?_
   refine Tr.seq ?_
   cases hc2 : cutO (ns.getD o.b frZ) (winF a o.span) with
   | none =>
     have hst : Gr ns o = none := by unfold Gr; rw [hc1]; simp only; rw [hc2]
     refine A71 hA rfl rfl rfl (A := Bo bn ns sp) (cv := clashV) rfl ⟨rfl, _, rfl, hst, rfl⟩ ?_
     refine TraceK.runN 3 rfl (by simp [netC]) (Bw (j := o.b) rfl rfl hlb (Ay hA rfl rfl rfl hm (by simp; omega) ?_))
     rw [I7 hlb]
     refine TraceK.runN 2 rfl (by simp) (TraceK.invoke (name := "paravane/fix.span") rfl (fun _ => Ou _ _) (by kernel_rfl) (Ph o) ka ?_)
     refine TraceK.call rfl rfl kw2 ?_
     refine .done ⟨_, _, _, _, _, _, .agg (A7 frZ), rfl, rfl, rfl, c_cutN hc2, TraceK.run rfl (by simp) (.done ⟨rfl, by kernel_rfl⟩)⟩
   | some b =>
     have hcb := Hv hc2
     refine Ct rfl rfl (A := Bo bn ns sp) rfl ?_
     refine TraceK.runN 3 rfl (by simp [netC]) (Bw (j := o.b) rfl rfl hlb (Ay hA rfl rfl rfl hm (by simp; omega) ?_))
     rw [I7 hlb]
     refine TraceK.runN 2 rfl (by simp) (TraceK.invoke (name := "paravane/fix.span") rfl (fun _ => Ou _ _) (by kernel_rfl) (Ph o) ka ?_)
     refine TraceK.call rfl rfl kw2 (TraceK.call rfl rfl (c_cutS hc2) (TraceK.run rfl (by simp) (.done ⟨by kernel_rfl, by kernel_rfl, ?_⟩)))
     refine Tr.weak (s' := ⟨[(1, sdV o), (2, .ptr 2 0), (5, I (o.a : Nat)), (6, I (o.b : Nat)), (7, .ptr 7 0), (8, .ptr 8 0)], [(2, ⟨netC bn cap ns.length os, false⟩), (7, ⟨A7 a, false⟩), (8, ⟨A7 b, false⟩)], [], encA (Bo bn ns sp), false⟩)
      (Ab (.k rfl (.k rfl (.k rfl (.k rfl (.k rfl (.k rfl .nil)))))) (.k rfl (.k rfl (.k rfl .nil))) .nil rfl rfl) ?_
     have kp := A8v o hca.2.2.2.2 hcb.2.2.2.2
     refine Tr.seq (Tr.seq (Tr.reg (Steps.run rfl (by simp) (Steps.call rfl rfl kp (Steps.fin rfl (by simp) ?_)))))
     cases hp : posB o a b with
     | false =>
       have hst : Gr ns o = none := by unfold Gr; rw [hc1]; simp only; rw [hc2]; simp only; rw [hp]; rfl
       refine A6 rfl (Vj (Ft 2 (Steps.runN 1 rfl (by simp) (Vk (v' := .agg []) M9 rfl (fun _ => rfl) ?_))))
       exact PSteps.panic (y := .agg #[]) rfl Tq ⟨rfl, _, rfl, hst, rfl⟩
     | true =>
       have hst : Gr ns o = some (a, b) := by unfold Gr; rw [hc1]; simp only; rw [hc2]; simp only; rw [hp]; rfl
       refine A4 rfl (Tr.skip ?_)
       refine Tr.weak (s' := ⟨[(2, .ptr 2 0), (5, I (o.a : Nat)), (6, I (o.b : Nat)), (7, .ptr 7 0), (8, .ptr 8 0)], [(2, ⟨netC bn cap ns.length os, false⟩), (7, ⟨A7 a, false⟩), (8, ⟨A7 b, false⟩)], [], encA (Bo bn ns sp), false⟩)
        (Ab (.k rfl (.k rfl (.k rfl (.k rfl (.k rfl .nil))))) (.k rfl (.k rfl (.k rfl .nil))) .nil rfl rfl) ?_
       obtain ⟨FA, hFA⟩ : ∃ F, ns.getD o.a frZ = F := ⟨_, rfl⟩
       obtain ⟨FB, hFB⟩ : ∃ F, ns.getD o.b frZ = F := ⟨_, rfl⟩
       refine Of ⟨[(2, .ptr 2 0), (5, I (o.a : Nat)), (6, I (o.b : Nat)), (7, .ptr 7 0), (8, .ptr 8 0), (9, .bool (chgB ns o a b))], [(2, ⟨netC bn cap ns.length os, false⟩), (7, ⟨A7 a, false⟩), (8, ⟨A7 b, false⟩)], [], encA (Bo bn ns sp), false⟩ ?_ ?_
       ·refine Ct rfl rfl (A := Bo bn ns sp) rfl ?_
        refine TraceK.runN 4 rfl (by simp [netC]) (Bw (j := o.a) rfl rfl hla (Ay hA rfl rfl rfl hm (by simp; omega) ?_))
        rw [I7 hla, hFA]
        refine TraceK.runN 2 rfl (by simp) ?_
        show TraceK _ ⟨[(54, .bool (!eqFr a FA)), (53, .bool (!eqFr a FA)), (52, .agg (A7 FA)), (51, .rptr bn (0 + o.a * 8)), (50, I (o.a : Nat)), (49, .sref bn 0 ns.length cap), (48, .ptr 2 0), (47, .agg (A7 a)), (2, .ptr 2 0), (5, I (o.a : Nat)), (6, I (o.b : Nat)), (7, .ptr 7 0), (8, .ptr 8 0)], [(2, ⟨netC bn cap ns.length os, false⟩), (7, ⟨A7 a, false⟩), (8, ⟨A7 b, false⟩)], [], encA (Bo bn ns sp), false⟩ _ _
        cases h1 : eqFr a FA with
        | true =>
          refine TraceK.runN 4 rfl (by simp [netC]) (A2u (j := o.b) rfl rfl rfl rfl hlb (Wx hA rfl rfl rfl rfl rfl hm (by simp; omega) ?_))
          rw [I7 hlb, hFB]
          refine TraceK.run rfl (by simp) (.done ⟨by kernel_rfl, by kernel_rfl, ?_⟩)
          refine Ab (.k rfl (.k rfl (.k rfl (.k rfl (.k rfl (.cons rfl (VLe.of_eq (congrArg V.bool (show (bif (!true) then true else !eqFr b FB) = chgB ns o a b from ?_))) .nil)))))) (.k rfl (.k rfl (.k rfl .nil))) .nil rfl rfl
          unfold chgB; rw [hFA, hFB, h1]; rfl
        | false =>
          refine TraceK.runN 4 rfl (by simp [netC]) (TraceK.off (.rptr 0 0) rfl rfl (TraceK.off (.agg (A7 frZ)) rfl rfl ?_))
          refine TraceK.run rfl (by simp) (.done ⟨by kernel_rfl, by kernel_rfl, ?_⟩)
          refine Ab (.k rfl (.k rfl (.k rfl (.k rfl (.k rfl (.cons rfl (VLe.of_eq (congrArg V.bool (show (bif (!false) then true else !eqFr b frZ) = chgB ns o a b from ?_))) .nil)))))) (.k rfl (.k rfl (.k rfl .nil))) .nil rfl rfl
          unfold chgB; rw [hFA, h1]; rfl
       have hnl2 : (nsC (ns.set o.a a)).length = ns.length * 8 := by rw [U3, List.length_set]
       refine Tr.seq (Tr.drawS hA ?_)
       refine TraceK.runN 8 rfl (by simp [netC]) (Bw (j := o.a) rfl rfl hla ?_)
       refine .done ⟨_, _, _, _, _, bn, 0 + o.a * 8, nsC ns ++ sp, A7 a, rfl, rfl, rfl, hm, rfl, by simp; omega, rfl, rfl, .done ⟨by kernel_rfl, by kernel_rfl, ?_⟩⟩
       refine Iy (j := o.b) rfl rfl hlb ?_
       refine A0g hA (cs := nsC (ns.set o.a a) ++ sp) rfl rfl ?_ rfl (by simp; omega) rfl rfl (Steps.fin rfl (by simp) ?_)
       ·rw [A3z a hla]
        exact List.mem_map.2 ⟨(bn, Ob.cells (nsC ns ++ sp)), hm, by simp⟩
       refine A2 rfl (by simp) (Bg rfl rfl rfl ⟨_, ?_, a, b, hst, rfl, rfl⟩)
       show encA (setA (setA (Bo bn ns sp) bn (.cells (Ag (nsC ns ++ sp) (0 + o.a * 8) (A7 a)))) bn (.cells (Ag (nsC (ns.set o.a a) ++ sp) (0 + o.b * 8) (A7 b)))) = _
       rw [A3z b (by rw [List.length_set]; exact hlb)]
       simp [Bo, setA, E6]
end
section
open Go.Am Go.RowKit
attribute [local simp] cells Aa mkv Ag Ap under dem dem1 eB A7 B8
def cloneP (A : Arena) (ns : List Fr) (r : V) (B : Arena) : Prop := ∃ bk cap sp, r = .sref bk 0 ns.length cap ∧ ns.length ≤ cap ∧ bk ∉ A.map (·.1) ∧ B = (bk, .cells (nsC ns ++ sp)) :: A
theorem Ace {ns : List Fr} (hne : ns ≠ []) (hl : ns.length ≤ 1000000) : CX Tryz.prog Ch [] [] [.slice 0 8 (ns.map eF)] (cloneP [] ns) := by
 refine J0 mixed C6 (by simp) fun S ok S1 hA hK hKD => ?_
 refine A2 rfl (by simp) (Tr.seq (Tr.seq (Tr.reg (Steps.runN 1 rfl (by simp) ?_))))
 refine Mc rfl fun b hb => ?_
 obtain rfl := hb (by simpa using hne)
 refine Steps.fin rfl (by simp) (A4 rfl (Tr.skip (Tr.seq (Tr.reg ?_))))
 refine A2y rfl fun b0 => Steps.runN 1 rfl (by simp) ?_
 refine Py (zs := [I 0, I 0, I 0, I 0, I 0, I 0, I 0, I 0]) (ys := ns.map eF) hA rfl rfl (News.slice (by simpa using hne)) (by kernel_rfl) (by omega) (by rw [List.length_map]; omega) (by rw [List.length_map]; omega) (by simpa using hne) fun bk cap hcap hbk => ?_
 refine Steps.fin rfl (by simp) (Bg rfl rfl rfl ⟨_, rfl, bk, cap, _, ?_, by simpa using hcap, hbk, rfl⟩)
 rw [List.length_map]; rfl
theorem flat8 : ∀ ns : List Fr, ((ns.map eF).flatMap cells).length = (ns.map eF).length * 8
 | [] => rfl
 | f :: ns => by rw [List.map_cons, List.flatMap_cons, List.length_append, flat8 ns]; simp [eF]; omega
theorem Acf {bn cap0 : Nat} {ns : List Fr} {sp : List V} (hne : ns ≠ []) (hl : ns.length ≤ 1000000) : CX Tryz.prog Ch (Bo bn ns sp) [] [.sref bn 0 ns.length cap0] (cloneP (Bo bn ns sp) ns) := by
 refine J0 mixed C6 (by simp) fun S ok S1 hA hK hKD => ?_
 refine A2 rfl (by simp) (Tr.seq (Tr.seq (Tr.reg (Steps.runN 1 rfl (by simp) ?_))))
 refine A93 rfl ?_
 refine Steps.fin rfl (by simp) (A4 rfl (Tr.skip (Tr.seq (Tr.reg ?_))))
 refine A2y rfl fun b0 => Steps.runN 1 rfl (by simp) ?_
 have hN : News (env0 Tryz.prog mixed 8 S ok) (Bo bn ns sp) 8 (ns.map eF) (.sref bn 0 (ns.map eF).length cap0) := News.sref hA (List.mem_singleton.2 rfl) (flat8 ns) (by rw [← flat8 ns]; exact List.take_left)
 rw [List.length_map] at hN
 refine Py (zs := [I 0, I 0, I 0, I 0, I 0, I 0, I 0, I 0]) (ys := ns.map eF) hA rfl rfl hN (by kernel_rfl) (by omega) (by rw [List.length_map]; omega) (by rw [List.length_map]; omega) (by simpa using hne) fun bk cap hcap hbk => ?_
 refine Steps.fin rfl (by simp) (Bg rfl rfl rfl ⟨_, rfl, bk, cap, _, ?_, by simpa using hcap, hbk, rfl⟩)
 rw [List.length_map]; rfl
theorem cx_equal {b1 b2 c1 c2 : Nat} {ms ns : List Fr} {s1 s2 : List V} (hlen : ms.length = ns.length) (hl : ns.length ≤ 1000000) : CX Tryz.prog Cg [(b1, .cells (nsC ms ++ s1)), (b2, .cells (nsC ns ++ s2))] [] [.sref b1 0 ns.length c1, .sref b2 0 ns.length c2] (fun r B => (∃ b, r = .bool b) ∧ B = [(b1, .cells (nsC ms ++ s1)), (b2, .cells (nsC ns ++ s2))]) := by
 have hm1 : (b1, Ob.cells (nsC ms ++ s1)) ∈ ([(b1, .cells (nsC ms ++ s1)), (b2, .cells (nsC ns ++ s2))] : Arena) := by simp
 have hm2 : (b2, Ob.cells (nsC ns ++ s2)) ∈ ([(b1, .cells (nsC ms ++ s1)), (b2, .cells (nsC ns ++ s2))] : Arena) := by simp
 have l1 := U3 ms
 have l2 := U3 ns
 refine J0 mixed E9 (by simp) fun S ok S1 hA hK hKD => ?_
 refine A2 rfl (by simp) (Tr.seq (Tr.seq (Tr.reg (Steps.runN 1 rfl (by simp) (Mb rfl (Steps.runN 1 rfl (by simp) (Mb rfl (Steps.fin rfl (by simp) ?_))))))))
 refine A4 (congrArg (fun b => some (V.bool b)) (show ((ns.length : Int) != (ns.length : Int)) = false by simp)) (Tr.skip ?_)
 refine Tr.seq (Tr.seq (Tr.reg (Steps.runN 1 rfl (by simp) (Mb rfl (Steps.fin rfl (by simp) ?_)))))
 refine Tr.block ?_
 refine Tr.loop (fun (k : Nat) st => k ≤ ns.length ∧ st = ⟨[(0, .sref b1 0 ns.length c1), (1, .sref b2 0 ns.length c2), (12, I (ns.length : Nat)), (13, I (k : Nat))], [], [], encA [(b1, .cells (nsC ms ++ s1)), (b2, .cells (nsC ns ++ s2))], false⟩) (fun k => ns.length - k) 0
  (Ab (.k rfl (.k rfl (.k rfl (.k rfl .nil)))) .nil .nil rfl rfl) ⟨by omega, rfl⟩ ?_
 rintro k st ⟨hk, rfl⟩
 refine A2 rfl (by simp) (Ei rfl (fun h2 => ?_) (fun h2 => ?_))
 rotate_left
 ·refine Tr.exit (A2 rfl (by simp) (Bg rfl rfl rfl ⟨_, rfl, ⟨_, rfl⟩, rfl⟩))
 have h2 : k < ns.length := by
  have : decide ((k : Int) < (ns.length : Int)) = true := h2
  have := of_decide_eq_true this
  omega
 refine Cm (Tr.seq (Tr.block (A2 rfl (by simp) (Tr.seq ?_))))
 refine Ct rfl rfl (A := [(b1, .cells (nsC ms ++ s1)), (b2, .cells (nsC ns ++ s2))]) rfl ?_
 refine TraceK.runN 2 rfl (by simp) (Bw (j := k) rfl rfl h2 (Ay hA rfl rfl rfl hm1 (by simp; omega) ?_))
 rw [I7 (by omega)]
 refine TraceK.runN 2 rfl (by simp) (Bw (j := k) rfl rfl h2 (Ay hA rfl rfl rfl hm2 (by simp; omega) ?_))
 rw [I7 (by omega)]
 refine TraceK.run rfl (by simp) (.done ⟨by kernel_rfl, by kernel_rfl, ?_⟩)
 refine Tr.cond rfl rfl (fun h3 => ?_) (fun h3 => ?_)
 ·refine A2 rfl (by simp) (Bg rfl rfl rfl ⟨_, rfl, ⟨_, rfl⟩, rfl⟩)
 ·refine Tr.skip (A9 rfl (by simp) ?_)
  exact ⟨k + 1, _, Ab (.k rfl (.k rfl (.k rfl (.cons rfl (VLe.i (w64 (by omega) (by omega))) .nil)))) .nil .nil rfl rfl, ⟨by omega, rfl⟩, by omega⟩
end
section
open Go.Am Go.RowKit
attribute [local simp] cells Aa mkv Ag Ap under dem dem1 eB A7 B8
theorem c_index0 (i : Int) : C Tryz.prog Kb [.nils, I i] (I (-1)) := by
 refine C_of mixed Io (by simp) fun S ok => ?_
 refine A2 rfl (by simp) (Tr.seq (A2 rfl (by simp) (Tr.block ?_)))
 refine Az 1 (TrN.succ ?_)
 refine A2 rfl (by simp) (Tr.seq (A4 rfl (Tr.exit ?_)))
 exact A2 rfl (by simp) (A5 rfl rfl rfl rfl trivial)
theorem A4x (i : Int) : C Tryz.prog Ic [.nils, I i] (.bool false) := by
 refine C_of mixed Hd (by simp) fun S ok => ?_
 refine A2 rfl (by simp) (A3 rfl (by simp) (Steps.call rfl rfl (c_index0 i) (Steps.fin rfl (by simp) ?_)))
 exact A5 rfl rfl rfl rfl trivial
theorem ca_used {bo : Nat} (i : Int) : CA Tryz.prog Hi [(bo, .cells [.nils])] [] [I i, .rptr bo 0] (.bool true) [(bo, .cells [.nils])] := by
 refine CA_of mixed Ld (by simp) fun S ok S1 hA hK => ?_
 refine A2 rfl (by simp) (Tr.seq (Tr.reg (Bf hA rfl rfl (List.mem_singleton.2 rfl) rfl (Steps.runN 1 rfl (by simp) (Steps.call rfl rfl (A4x i) (Steps.fin rfl (by simp) ?_))))))
 exact A5 rfl rfl rfl rfl rfl
def Wz (bo : Nat) (m : Nat) (B : Arena) : Prop := ∃ (xs : List Int) (v : V), xs.length = m ∧ (bo, Ob.cells [v]) ∈ B ∧ OwnS B 1 (xs.map I) v ∧ offS v bo
theorem A7s {bo : Nat} {xs : List Int} {B : Arena} {v w : V} (h1 : (bo, Ob.cells [w]) ∈ B) (h2 : OwnS B 1 (xs.map I) v) (h3 : offS v bo) : Wz bo xs.length (setA B bo (.cells [v])) := by
 refine ⟨xs, v, rfl, Z5 h1, ?_, h3⟩
 rcases h2 with h2 | ⟨blk, cap, cs, rfl, a1, a2, a3, a4⟩
 ·exact .inl h2
 ·exact .inr ⟨blk, cap, cs, rfl, A40 a1 (fun e => h3 _ _ _ _ rfl e.symm), a2, a3, a4⟩
theorem A62 {B : Arena} {xs : List V} {v : V} (h : OwnS B 1 xs v) : isD v = true ∧ Aa v = true := by
 rcases h with ⟨_, rfl⟩ | ⟨_, _, _, rfl, _⟩ <;> exact ⟨rfl, rfl⟩
theorem Aca {bo m : Nat} {A : Arena} (i : Int) (hA0 : Wz bo m A) (hm : m ≤ 2 ^ 40) : CX Tryz.prog Hh A [] [I i, .rptr bo 0] (fun r B => r = .tuple [] ∧ Wz bo (m + 1) B) := by
 obtain ⟨xs, v, hxl, hmo, hO, hoff⟩ := hA0
 refine J0 mixed Lc (by simp) fun S ok S1 hA hK hKD => ?_
 refine Tr.reg (Bf hA rfl rfl hmo rfl ?_)
 refine Ov (s' := ⟨[(0, I i), (1, .rptr bo 0), (3, v)], [], [], encA A, false⟩)
  (Ab (.k rfl (.k rfl (.k rfl .nil))) .nil .nil (by simp only [Ec, List.all_cons, Aai hO]; rfl) rfl) ?_
 refine Steps.runN 2 rfl (by simp) ?_
 refine Vm (A := A) (v := v) (xs := xs.map I) (ys := [I i]) (zs := [I 0]) hA rfl rfl hO (by kernel_rfl) (by omega) (by simp only [List.length_cons, List.length_nil, List.length_map]; omega) (by simp only [List.length_cons, List.length_nil, List.length_map]; omega) (by simp) fun v' A' hO' hkeep => ?_
 obtain ⟨d1, d2⟩ := A62 hO'
 obtain ⟨k1, k2⟩ := hkeep _ hmo hoff
 have hO2 : OwnS A' 1 ((xs ++ [i]).map I) v' := by rw [List.map_append]; exact hO'
 have hq := A7s (v := v') k1 hO2 k2
 rw [List.length_append, hxl] at hq
 refine Be hA rfl rfl k1 (by simp) d1 d2 (Steps.fin rfl (by simp) ?_)
 exact ⟨_, ⟨_, rfl, rfl, hq⟩, _, _, _, C2 rfl, rfl, rfl⟩
end
section
open Go.Am Go.RowKit
attribute [local simp] cells Aa mkv Ag Ap under dem dem1 eB A7 B8
def Z3 (b3 b8 b6 bn cap n : Nat) (os : List Sd) (o : Sd) (c : Bool) (ns : List Fr) (sp : List V) : Arena := [(b3, .cells (netC bn cap n os)), (b8, .cells [sdV o]), (b6, .cells [.bool c])] ++ Bo bn ns sp
theorem A8o {b3 b8 b6 bn cap : Nat} {os : List Sd} {o : Sd} {c : Bool} {ns : List Fr} {sp : List V} (n1 : b3 ≠ b6) (n2 : b8 ≠ b6) (n3 : bn ≠ b6) (ho : o.ok ns.length) (hns : ∀ i < ns.length, Av (ns.getD i frZ) = true) :
  CP Tryz.prog I3 (Z3 b3 b8 b6 bn cap ns.length os o c ns sp) [] [.rptr b3 0, .rptr b8 0, .rptr b6 0] (fun _ B => ∃ a b, Gr ns o = some (a, b) ∧ B = Z3 b3 b8 b6 bn cap ns.length os o (c || chgB ns o a b) (E6 ns o a b) sp) clashV (fun B => Gr ns o = none ∧ B = Z3 b3 b8 b6 bn cap ns.length os o c ns sp) := by
 have ks := cp_step (bn := bn) (cap := cap) (sp := sp) (os := os) ho hns
 refine Adi mixed N3 (by simp) fun S ok S1 hA hK hKD => ?_
 refine Tr.seq (Vj (Ft 2 (Ry hA rfl rfl (show (b3, Ob.cells (netC bn cap ns.length os)) ∈ Z3 b3 b8 b6 bn cap ns.length os o c ns sp by simp [Z3]) (by simp [netC]) (Bf hA rfl rfl (show (b8, Ob.cells [sdV o]) ∈ Z3 b3 b8 b6 bn cap ns.length os o c ns sp by simp [Z3]) rfl ?_))))
 refine S4 hA (F := [(b3, .cells (netC bn cap ns.length os)), (b8, .cells [sdV o]), (b6, .cells [.bool c])]) rfl rfl rfl ks (.inl (by simp)) (fun r B hΦ => ?_) (fun B hΨ => ?_)
 ·obtain ⟨a, b, hst, rfl, rfl⟩ := hΦ
  show Tr _ _ _ _ _
  cases hch : chgB ns o a b with
  | true =>
    refine A6 rfl (Tr.reg ?_)
    refine Be hA rfl rfl (show (b6, Ob.cells [.bool c]) ∈ [(b3, Ob.cells (netC bn cap ns.length os)), (b8, .cells [sdV o]), (b6, .cells [.bool c])] ++ Bo bn (E6 ns o a b) sp by simp) (by simp) rfl rfl (Steps.fin rfl (by simp) ?_)
    refine ⟨_, ⟨_, rfl, a, b, hst, ?_⟩, _, _, _, C2 rfl, rfl, rfl⟩
    simp [Z3, setA, Bo, n1, n2, n3, hch]
  | false =>
    refine A4 rfl (Tr.skip ?_)
    refine ⟨_, ⟨_, rfl, a, b, hst, ?_⟩, _, _, _, C2 rfl, rfl, rfl⟩
    simp [Z3, hch]
 ·obtain ⟨hst, rfl⟩ := hΨ
  exact ⟨rfl, _, rfl, hst, rfl⟩
end
section
open Go.Am Go.RowKit
attribute [local simp] cells Aa mkv Ag Ap under dem dem1 eB A7 B8
def Ke (bo : Nat) : V := .func (.func Hi) [] [.rptr bo 0]
def Kj (bn : Nat) : V := .func (.func Hh) [] [.rptr bn 0]
def outG (bo : Nat) : Arena := [(bo, .cells [.nils])]
def netG (b3 bn cap n : Nat) (os : List Sd) : Arena := [(b3, .cells (netC bn cap n os))]
def chgG (b6 : Nat) (c : Bool) : Arena := [(b6, .cells [.bool c])]
theorem A9y {ns : List Fr} {o : Sd} {a b : Fr} : (E6 ns o a b).length = ns.length := by unfold E6; rw [List.length_set, List.length_set]
def narB (bn bo bt : Nat) (sp : List V) (P : List Fr → Prop) (B : Arena) : Prop := ∃ ns m NA, P ns ∧ Wz bt m NA ∧ B = Bo bn ns sp ++ (outG bo ++ NA)
theorem A9s : ∀ l : List Fr, (∀ f ∈ l, Av f = true) → sumW l ≤ l.length * 400000
 | [], _ => Int.le_refl _
 | f :: l, h => by
   have ih := A9s l fun g hg => h g (by simp [hg])
   have h1 := h f (by simp)
   rw [Cb] at h1
   unfold fitF fitB at h1
   simp only [sumW, wdF, List.length_cons]
   push_cast
   omega
theorem Zq {ns0 ns : List Fr} {os : List Sd} (h : InvN ns0 os ns) : ∀ f ∈ ns, Av f = true := fun f hf => by
 obtain ⟨i, hi, rfl⟩ := List.mem_iff_getElem.1 hf
 have := h.fit i (by rw [← h.len]; exact hi)
 rwa [List.getD_eq_getElem?_getD, List.getElem?_eq_getElem hi] at this
theorem Y4 {a b : Fr} (h : (!eqFr a b) = true) : a ≠ b := fun e => by
 rw [eqFr_iff.2 e] at h; cases h
theorem T7 {A : Arena} {b : Nat} {o o' : Ob} (h : b ∉ A.map (·.1)) : setA ((b, o) :: A) b o' = (b, o') :: A := by
 unfold setA
 rw [List.map_cons, if_pos rfl]
 congr 1
 have e : A.map (fun p => if p.1 = b then (b, o') else p) = A.map id := List.map_congr_left fun p hp => by
  rw [if_neg (fun e => h (List.mem_map.2 ⟨p, hp, e⟩))]; rfl
 rw [e, List.map_id]
def sdG (b8 : Nat) (o : Sd) : Arena := [(b8, .cells [sdV o])]
def Wh (bk : Nat) (ns : List Fr) (sp : List V) : Arena := [(bk, .cells (nsC ns ++ sp))]
theorem A4p {b3 b8 b6 bn cap : Nat} {os : List Sd} {o : Sd} {c : Bool} {ns : List Fr} {sp : List V} (n1 : b3 ≠ b6) (n2 : b8 ≠ b6) (n3 : bn ≠ b6) (ho : o.ok ns.length) (hns : ∀ i < ns.length, Av (ns.getD i frZ) = true) :
  CP Tryz.prog I3 (netG b3 bn cap ns.length os ++ (sdG b8 o ++ (chgG b6 c ++ Bo bn ns sp))) [] [.rptr b3 0, .rptr b8 0, .rptr b6 0] (fun _ B => ∃ a b, Gr ns o = some (a, b) ∧ B = netG b3 bn cap ns.length os ++ (sdG b8 o ++ (chgG b6 (c || chgB ns o a b) ++ Bo bn (E6 ns o a b) sp))) clashV (fun B => Gr ns o = none ∧ B = netG b3 bn cap ns.length os ++ (sdG b8 o ++ (chgG b6 c ++ Bo bn ns sp))) :=
 A8o n1 n2 n3 ho hns
theorem Ach {bn cap bo bt m0 : Nat} {os : List Sd} {ns0 : List Fr} {sp : List V} {NA0 : Arena} {J : List Fr → Prop} (hos0 : os ≠ []) (hJ : ∀ ns, InvN ns0 os ns → ∀ o ∈ os, ∀ a b, Gr ns o = some (a, b) → J (E6 ns o a b)) (hne : ns0 ≠ []) (hlen : ns0.length ≤ 8) (hol : os.length ≤ 12) (hos : ∀ o ∈ os, o.ok ns0.length) (hinv : InvN ns0 os ns0) (hN : Wz bt m0 NA0) (hm0 : m0 ≤ 1000) :
  CP Tryz.prog T0 (Bo bn ns0 sp ++ (outG bo ++ NA0)) [] [.agg (netC bn cap ns0.length os), Ke bo, Kj bt] (fun _ B => narB bn bo bt sp (fun ns => InvN ns0 os ns ∧ J ns) B) clashV (narB bn bo bt sp fun ns => ns.length = ns0.length ∧ ∀ l, ¬ FitL ns0 os l) := by
 have hsd : (os.map sdV).length = os.length := List.length_map _
 have hW1 := A9s ns0 (Zq hinv)
 have hW0 := Tp ns0 (Zq hinv)
 obtain ⟨W, hW⟩ : ∃ W, sumW ns0 = W := ⟨_, rfl⟩
 rw [hW] at hW1 hW0
 have hW2 : W ≤ 3200000 := by omega
 refine Adi mixed Po (by simp) fun S ok S1 hA hK hKD => ?_
 refine Tr.seq (Tr.reg (Rf hA (v := .agg (netC bn cap ns0.length os)) rfl rfl rfl rfl fun b3 hb3 => Steps.fin rfl (by simp) ?_))
 refine Tr.seq (Tr.reg (Cu hA rfl fun b6 hb6 => Be hA rfl rfl (List.mem_cons_self) (by simp) rfl rfl (Steps.fin rfl (by simp) ?_)))
 have e0 := T7 (o := .cells [.bool false]) (o' := .cells [.bool true]) hb6
 refine Tr.weak (s' := ⟨[(1, Ke bo), (2, Kj bt), (3, .rptr b3 0), (6, .rptr b6 0)], [], [], encA (chgG b6 true ++ (netG b3 bn cap ns0.length os ++ (Bo bn ns0 sp ++ (outG bo ++ NA0)))), false⟩)
  (Wk.trans (Ab (.k rfl (.k rfl (.k rfl (.k rfl .nil)))) .nil .nil rfl rfl) (Ib hA rfl (List.Perm.of_eq e0))) ?_
 clear e0 hb6 hb3
 refine Tr.block ?_
 refine Tr.loop (α := List Fr × Bool) (fun p st => (InvN ns0 os p.1 ∧ (p.2 = false → J p.1)) ∧ ∃ m NA b6, Wz bt m NA ∧ m + 12 * (sumW p.1).toNat ≤ 12 * W.toNat + m0 + 12 ∧ (p.2 = true → m + 12 * (sumW p.1).toNat ≤ 12 * W.toNat + m0) ∧
   st = ⟨[(1, Ke bo), (2, Kj bt), (3, .rptr b3 0), (6, .rptr b6 0)], [], [], encA (chgG b6 p.2 ++ (netG b3 bn cap ns0.length os ++ (Bo bn p.1 sp ++ (outG bo ++ NA)))), false⟩) (fun p => 2 * (sumW p.1).toNat + (if p.2 then 1 else 0)) (ns0, true) (Wk.refl _) ⟨⟨hinv, fun e => (by cases e)⟩, m0, NA0, b6, hN, by rw [hW]; omega, fun _ => by rw [hW]; omega, rfl⟩ ?_
 clear hN b6
 rintro ⟨ns, c⟩ st ⟨⟨hI, hJc⟩, m, NA, b6, hN, hmb, hmc, rfl⟩
 simp only at hI hJc hmb hmc
 have hnsl := hI.len
 have hnn := Tp ns (Zq hI)
 refine Tr.seq (Tr.seq (Tr.reg (Bf hA rfl rfl (show (b6, Ob.cells [.bool c]) ∈ _ by simp [chgG]) rfl (Steps.fin rfl (by simp) ?_))))
 cases c with
 | false =>
   refine Tr.weak (Wk.sub hA (B := Bo bn ns sp ++ (outG bo ++ NA)) (D := chgG b6 false ++ netG b3 bn cap ns0.length os) rfl (by classical exact List.perm_iff_count.2 fun x => by simp only [List.count_append]; omega)) (A4 rfl (Tr.exit ?_))
   exact ⟨_, ⟨_, rfl, ns, m, NA, ⟨hI, hJc rfl⟩, hN, rfl⟩, _, _, _, C2 rfl, rfl, rfl⟩
 | true =>
 have hmc := hmc rfl
 refine A6 rfl (Tr.skip (Tr.nd hA rfl fun hnd => ?_))
 have h6 : b6 ∉ (netG b3 bn cap ns0.length os ++ (Bo bn ns sp ++ (outG bo ++ NA))).map (·.1) := by
  simp only [chgG, List.cons_append, List.nil_append, List.map_cons, List.nodup_cons] at hnd
  exact hnd.1
 clear hnd
 refine Tr.seq (Tr.block (Tr.seq (Tr.reg (Be hA rfl rfl (show (b6, Ob.cells [.bool true]) ∈ _ by simp [chgG]) (by simp) rfl rfl (Steps.fin rfl (by simp) ?_)))))
 have e1 := T7 (o := .cells [.bool true]) (o' := .cells [.bool false]) h6
 refine Tr.weak (s' := ⟨[(1, Ke bo), (2, Kj bt), (3, .rptr b3 0), (6, .rptr b6 0)], [], [], encA (chgG b6 false ++ (netG b3 bn cap ns0.length os ++ (Bo bn ns sp ++ (outG bo ++ NA)))), false⟩)
  (Wk.trans (Ab (.k rfl (.k rfl (.k rfl (.k rfl .nil)))) .nil .nil rfl rfl) (Ib hA rfl (List.Perm.of_eq e1))) ?_
 clear e1 h6
 refine Tr.seq (Tr.reg (Ga rfl (Bf hA rfl rfl (show (b3, Ob.cells (netC bn cap ns0.length os)) ∈ _ by simp [netG]) rfl (Steps.fin rfl (by simp) ?_))))
 refine Tr.block ?_
 refine Tr.loop (fun (j : Nat) st => j ≤ os.length ∧ ∃ ns' c' m' NA', (InvN ns0 os ns' ∧ (0 < j → J ns')) ∧ Wz bt m' NA' ∧ m' ≤ m + j ∧ (c' = true → sumW ns' < sumW ns) ∧ sumW ns' ≤ sumW ns ∧
   st = ⟨[(1, Ke bo), (2, Kj bt), (3, .rptr b3 0), (6, .rptr b6 0), (12, .slice 0 1 (os.map sdV)), (13, I (os.length : Nat)), (14, I (j : Nat))], [], [], encA (chgG b6 c' ++ (netG b3 bn cap ns0.length os ++ (Bo bn ns' sp ++ (outG bo ++ NA')))), false⟩) (fun j => os.length - j) 0
  (Ab (.k rfl (.k rfl (.k rfl (.k rfl (.k rfl (.cons rfl (VLe.i (by rw [hsd])) (.k rfl .nil))))))) .nil .nil rfl rfl) ⟨by omega, ns, false, m, NA, ⟨hI, fun e => absurd e (by omega)⟩, hN, by omega, fun e => (by cases e), by omega, rfl⟩ ?_
 rintro j st ⟨hj, ns', c', m', NA', ⟨hI', hJ'⟩, hN', hm', hc', hle', rfl⟩
 have hnsl' := hI'.len
 have hnn' := Tp ns' (Zq hI')
 refine A2 rfl (by simp) (Ei rfl (fun h2 => ?_) (fun h2 => ?_))
 rotate_left
 ·
  have h2 : j = os.length := by
   have : decide ((j : Int) < (os.length : Int)) = false := h2
   have := of_decide_eq_false this
   omega
  subst h2
  refine Tr.exit ?_
  refine Tr.seq (Tr.reg (Bf hA rfl rfl (show (b6, Ob.cells [.bool c']) ∈ _ by simp [chgG]) rfl (Steps.fin rfl (by simp) ?_)))
  refine Tr.reg (Cu hA rfl fun b6' hb6' => Be hA rfl rfl (List.mem_cons_self) (by simp) rfl rfl (Steps.fin rfl (by simp) ?_))
  have e2 := T7 (o := .cells [.bool false]) (o' := .cells [.bool c']) hb6'
  refine ⟨(ns', c'), ⟨[(1, Ke bo), (2, Kj bt), (3, .rptr b3 0), (6, .rptr b6' 0)], [], [], encA (chgG b6' c' ++ (netG b3 bn cap ns0.length os ++ (Bo bn ns' sp ++ (outG bo ++ NA')))), false⟩, ?_, ⟨⟨hI', fun _ => hJ' (List.length_pos_iff.2 hos0)⟩, m', NA', b6', hN', by simp only; omega, fun e => ?_, rfl⟩, ?_⟩
  ·refine Wk.trans (t := ⟨[(1, Ke bo), (2, Kj bt), (3, .rptr b3 0), (6, .rptr b6' 0)], [], [], encA (setA ((b6', .cells [.bool false]) :: (chgG b6 c' ++ (netG b3 bn cap ns0.length os ++ (Bo bn ns' sp ++ (outG bo ++ NA'))))) b6' (.cells [.bool c'])), false⟩) (Ab (.k rfl (.k rfl (.k rfl (.k rfl .nil)))) .nil .nil rfl rfl) ?_
   refine Wk.trans (Ib hA rfl (List.Perm.of_eq e2)) (Wk.sub hA (D := chgG b6 c') rfl ?_)
   show (chgG b6' c' ++ (chgG b6 c' ++ (netG b3 bn cap ns0.length os ++ (Bo bn ns' sp ++ (outG bo ++ NA'))))).Perm _
   exact (by classical exact List.perm_iff_count.2 fun x => by simp only [List.count_append]; omega)
  ·have := hc' e
   simp only; omega
  ·simp only
   cases c' with
   | true => have := hc' rfl; simp; omega
   | false => simp; omega
 have h2 : j < os.length := by
  have : decide ((j : Int) < (os.length : Int)) = true := h2
  have := of_decide_eq_true this
  omega
 obtain ⟨o, hoj⟩ : ∃ o, os[j] = o := ⟨_, rfl⟩
 have hmo : o ∈ os := hoj ▸ List.getElem_mem h2
 have ho := hos o hmo
 have ho' : o.ok ns'.length := by rw [hnsl']; exact ho
 have hne' : ns' ≠ [] := fun e => by rw [e] at hnsl'; have := List.length_pos_iff.2 hne; simp at hnsl'; omega
 have hfit' : ∀ i < ns'.length, Av (ns'.getD i frZ) = true := fun i hi => hI'.fit i (by rw [← hnsl']; exact hi)
 refine Cm (Tr.seq (Tr.block (Tr.seq (Tr.reg (Steps.runN 2 rfl (by simp; omega) ?_)))))
 rw [Ao h2, hoj]
 refine Steps.runN 1 rfl (by simp [sdV]) ?_
 refine Cu hA rfl fun b8 hb8 => Steps.runN 1 rfl (by simp) (Gw hA rfl rfl (List.mem_cons_self) (by simp) rfl rfl (Steps.fin rfl (by simp) ?_))
 have e3 := T7 (o := .cells [.nili]) (o' := .cells [sdV o]) hb8
 refine Tr.weak (s' := ⟨[(1, Ke bo), (2, Kj bt), (3, .rptr b3 0), (6, .rptr b6 0), (7, I (j : Nat)), (8, .rptr b8 0), (12, .slice 0 1 (os.map sdV)), (13, I (os.length : Nat)), (14, I (j : Nat))], [], [], encA ((sdG b8 o ++ (chgG b6 c' ++ (netG b3 bn cap ns0.length os ++ (Bo bn ns' sp ++ NA')))) ++ outG bo), false⟩)
  (Wk.trans (Ab (.k rfl (.k rfl (.k rfl (.k rfl (.k rfl (.k rfl (.k rfl (.k rfl (.k rfl .nil))))))))) .nil .nil rfl rfl) (Wk.trans (Ib hA rfl (List.Perm.of_eq e3)) (Ib hA (A := sdG b8 o ++ (chgG b6 c' ++ (netG b3 bn cap ns0.length os ++ (Bo bn ns' sp ++ (outG bo ++ NA'))))) rfl (by classical exact List.perm_iff_count.2 fun x => by simp only [List.count_append]; omega)))) ?_
 clear e3 hb8
 refine Tr.seq (Tr.seq (Tr.reg (Steps.runN 2 rfl (by simp) (A30 hA rfl rfl rfl (ca_used (j : Nat)) (.inl (by simp)) (Steps.fin rfl (by simp) (A4 rfl (Tr.skip ?_)))))))
 refine Tr.weak (s' := ⟨[(1, Ke bo), (2, Kj bt), (3, .rptr b3 0), (6, .rptr b6 0), (7, I (j : Nat)), (8, .rptr b8 0), (12, .slice 0 1 (os.map sdV)), (13, I (os.length : Nat)), (14, I (j : Nat))], [], [], encA ((sdG b8 o ++ (chgG b6 c' ++ (netG b3 bn cap ns0.length os ++ (outG bo ++ NA')))) ++ Bo bn ns' sp), false⟩)
  (Wk.trans (Ab (.k rfl (.k rfl (.k rfl (.k rfl (.k rfl (.k rfl (.k rfl (.k rfl (.k rfl .nil))))))))) .nil .nil rfl rfl) (Ib hA (A := (sdG b8 o ++ (chgG b6 c' ++ (netG b3 bn cap ns0.length os ++ (Bo bn ns' sp ++ NA')))) ++ outG bo) rfl (by classical exact List.perm_iff_count.2 fun x => by simp only [List.count_append]; omega))) ?_
 have kcl := Acf (bn := bn) (cap0 := cap) (sp := sp) hne' (by omega)
 rw [hnsl'] at kcl
 refine Tr.seq (Tr.reg (Ga rfl (Bf hA rfl rfl (show (b3, Ob.cells (netC bn cap ns0.length os)) ∈ _ by simp [netG]) rfl (Ak hA rfl rfl rfl kcl (.inl (by simp)) fun r B hΦ => ?_))))
 obtain ⟨bk, capk, spk, rfl, _, hbk, rfl⟩ := hΦ
 refine Steps.fin rfl (by simp) ?_
 refine Tr.weak (s' := ⟨[(1, Ke bo), (2, Kj bt), (3, .rptr b3 0), (6, .rptr b6 0), (7, I (j : Nat)), (8, .rptr b8 0), (9, .sref bk 0 ns'.length capk), (12, .slice 0 1 (os.map sdV)), (13, I (os.length : Nat)), (14, I (j : Nat))], [], [], encA ((outG bo ++ (NA' ++ Wh bk ns' spk)) ++ (netG b3 bn cap ns0.length os ++ (sdG b8 o ++ (chgG b6 c' ++ Bo bn ns' sp)))), false⟩)
  (Wk.trans (Ab (.k rfl (.k rfl (.k rfl (.k rfl (.k rfl (.k rfl (.k rfl (.k rfl (.k rfl (.k rfl .nil)))))))))) .nil .nil rfl rfl) (Ib hA (A := (sdG b8 o ++ (chgG b6 c' ++ (netG b3 bn cap ns0.length os ++ (outG bo ++ NA')))) ++ (Wh bk ns' spk ++ Bo bn ns' sp)) rfl (by classical exact List.perm_iff_count.2 fun x => by simp only [List.count_append]; omega))) ?_
 refine Tr.nd hA rfl fun hnd => ?_
 have hd6 : b3 ≠ b6 ∧ b8 ≠ b6 ∧ bn ≠ b6 := by
  rw [List.map_append, List.nodup_append] at hnd
  have h := hnd.2.1
  simp only [netG, sdG, chgG, Bo, List.cons_append, List.nil_append, List.map_cons, List.map_nil, List.nodup_cons, List.mem_cons, List.not_mem_nil, or_false, not_or] at h
  exact ⟨h.1.2.1, h.2.1.1, fun e => h.2.2.1 e.symm⟩
 clear hnd
 have kst := A4p (b3 := b3) (b8 := b8) (b6 := b6) (bn := bn) (cap := cap) (os := os) (o := o) (c := c') (ns := ns') (sp := sp) hd6.1 hd6.2.1 hd6.2.2 ho' hfit'
 rw [hnsl'] at kst
 refine Tr.seq (Tr.seq (Tr.reg (Steps.runN 1 rfl (by simp) (Ak hA rfl rfl rfl (A27 kst) (.inl (by simp)) fun r B hΦ => ?_))))
 refine Steps.fin rfl (by simp) ?_
 rcases hΦ with ⟨rfl, _, a, b, hst, rfl⟩ | ⟨rfl, hst, rfl⟩
 rotate_left
 ·
  have hno := Ab6 hI' hmo ho hst
  refine A6 rfl ?_
  refine Tr.weak (s' := ⟨[(1, Ke bo), (2, Kj bt), (7, I (j : Nat))], [], [], encA ((Bo bn ns' sp ++ outG bo) ++ NA'), false⟩)
   (Wk.trans (Ab (.k rfl (.k rfl (.k rfl .nil))) .nil .nil rfl rfl) (Wk.sub hA (A := (outG bo ++ (NA' ++ Wh bk ns' spk)) ++ (netG b3 bn cap ns0.length os ++ (sdG b8 o ++ (chgG b6 c' ++ Bo bn ns' sp)))) (D := Wh bk ns' spk ++ (netG b3 bn cap ns0.length os ++ (sdG b8 o ++ chgG b6 c'))) rfl (by classical exact List.perm_iff_count.2 fun x => by simp only [List.count_append]; omega))) ?_
  refine Tr.seq (Tr.reg (Steps.runN 2 rfl (by simp) (Hz hA rfl rfl rfl (Th (Aca (j : Nat) hN' (by omega))) (.inl (by simp)) fun B hB => Steps.fin rfl (by simp) ?_)))
  refine Vj (Ft 2 (Steps.runN 1 rfl (by simp) (Vk (v' := .agg []) M9 rfl (fun _ => rfl) ?_)))
  refine PSteps.panic (y := .agg #[]) rfl Tq ⟨rfl, _, rfl, ns', m' + 1, B, ⟨hnsl', hno⟩, hB, ?_⟩
  rw [List.append_assoc]
 have hIs := inv_step hI' hmo ho hst
 have hsw := A9r hI' ho hst
 have hlen2 : (E6 ns' o a b).length = ns'.length := A9y
 have hchg : chgB ns' o a b = true → sumW (E6 ns' o a b) < sumW ns' := fun h => by
  refine hsw.2.1 ?_
  unfold chgB at h
  rw [Bool.or_eq_true] at h
  rcases h with h | h
  ·exact .inl (Y4 h)
  ·exact .inr (Y4 h)
 refine A4 rfl (Tr.skip ?_)
 refine Tr.weak (s' := ⟨[(1, Ke bo), (2, Kj bt), (3, .rptr b3 0), (6, .rptr b6 0), (7, I (j : Nat)), (9, .sref bk 0 ns'.length capk), (12, .slice 0 1 (os.map sdV)), (13, I (os.length : Nat)), (14, I (j : Nat))], [], [], encA ((chgG b6 (c' || chgB ns' o a b) ++ (netG b3 bn cap ns0.length os ++ (outG bo ++ NA'))) ++ (Wh bk ns' spk ++ Bo bn (E6 ns' o a b) sp)), false⟩)
  (Wk.trans (Ab (.k rfl (.k rfl (.k rfl (.k rfl (.k rfl (.k rfl (.k rfl (.k rfl (.k rfl .nil))))))))) .nil .nil rfl rfl) (Wk.sub hA (A := (outG bo ++ (NA' ++ Wh bk ns' spk)) ++ (netG b3 bn cap ns0.length os ++ (sdG b8 o ++ (chgG b6 (c' || chgB ns' o a b) ++ Bo bn (E6 ns' o a b) sp)))) (D := sdG b8 o) rfl (by classical exact List.perm_iff_count.2 fun x => by simp only [List.count_append]; omega))) ?_
 have keq := cx_equal (b1 := bk) (b2 := bn) (c1 := capk) (c2 := cap) (s1 := spk) (s2 := sp) (ms := ns') (ns := E6 ns' o a b) hlen2.symm (by omega)
 rw [hlen2] at keq
 have keq3 : CX Tryz.prog Cg [(bk, .cells (nsC ns' ++ spk)), (bn, .cells (nsC (E6 ns' o a b) ++ sp))] [] [.sref bk 0 ns'.length capk, .sref bn 0 ns0.length cap] (fun r B => (∃ b, r = .bool b) ∧ B = [(bk, .cells (nsC ns' ++ spk)), (bn, .cells (nsC (E6 ns' o a b) ++ sp))]) := by
  rw [hnsl'] at keq ⊢; exact keq
 refine Tr.seq (Tr.reg (Steps.runN 1 rfl (by simp) (Ga rfl (Bf hA rfl rfl (show (b3, Ob.cells (netC bn cap ns0.length os)) ∈ _ by simp [netG]) rfl (Ak hA rfl rfl rfl keq3 (.inl (by simp)) fun r B hΦ => ?_)))))
 obtain ⟨⟨eq, rfl⟩, rfl⟩ := hΦ
 refine Steps.fin rfl (by simp) ?_
 have hc2 : (c' || chgB ns' o a b) = true → sumW (E6 ns' o a b) < sumW ns := fun h => by
  rw [Bool.or_eq_true] at h
  rcases h with h | h
  ·have := hc' h; omega
  ·have := hchg h; omega
 have hw : VLe (I (IntKind.wrap .i64 ((j : Int) + 1))) (I ((j + 1 : Nat) : Int)) := VLe.i (w64 (by omega) (by omega))
 cases eq with
 | true =>
   refine A4 rfl (Tr.skip (A9 rfl (by simp) ?_))
   refine ⟨j + 1, ⟨[(1, Ke bo), (2, Kj bt), (3, .rptr b3 0), (6, .rptr b6 0), (12, .slice 0 1 (os.map sdV)), (13, I (os.length : Nat)), (14, I ((j + 1 : Nat) : Int))], [], [], encA (chgG b6 (c' || chgB ns' o a b) ++ (netG b3 bn cap ns0.length os ++ (Bo bn (E6 ns' o a b) sp ++ (outG bo ++ NA')))), false⟩, ?_, ⟨h2, E6 ns' o a b, _, m', NA', ⟨hIs, fun _ => hJ ns' hI' o hmo a b hst⟩, hN', by omega, hc2, by omega, rfl⟩, by omega⟩
   exact Wk.trans (t := ⟨[(1, Ke bo), (2, Kj bt), (3, .rptr b3 0), (6, .rptr b6 0), (12, .slice 0 1 (os.map sdV)), (13, I (os.length : Nat)), (14, I ((j + 1 : Nat) : Int))], [], [], encA ((chgG b6 (c' || chgB ns' o a b) ++ (netG b3 bn cap ns0.length os ++ (outG bo ++ NA'))) ++ (Wh bk ns' spk ++ Bo bn (E6 ns' o a b) sp)), false⟩)
    (Ab (.k rfl (.k rfl (.k rfl (.k rfl (.k rfl (.k rfl (.cons rfl hw .nil))))))) .nil .nil rfl rfl) (Wk.sub hA (D := Wh bk ns' spk) rfl (by classical exact List.perm_iff_count.2 fun x => by simp only [List.count_append]; omega))
 | false =>
   refine A6 rfl ?_
   refine Tr.weak (s' := ⟨[(1, Ke bo), (2, Kj bt), (3, .rptr b3 0), (6, .rptr b6 0), (7, I (j : Nat)), (12, .slice 0 1 (os.map sdV)), (13, I (os.length : Nat)), (14, I (j : Nat))], [], [], encA ((chgG b6 (c' || chgB ns' o a b) ++ (netG b3 bn cap ns0.length os ++ (Bo bn (E6 ns' o a b) sp ++ outG bo))) ++ NA'), false⟩)
    (Wk.trans (Ab (.k rfl (.k rfl (.k rfl (.k rfl (.k rfl (.k rfl (.k rfl (.k rfl .nil)))))))) .nil .nil rfl rfl) (Wk.sub hA (A := (chgG b6 (c' || chgB ns' o a b) ++ (netG b3 bn cap ns0.length os ++ (outG bo ++ NA'))) ++ (Wh bk ns' spk ++ Bo bn (E6 ns' o a b) sp)) (D := Wh bk ns' spk) rfl (by classical exact List.perm_iff_count.2 fun x => by simp only [List.count_append]; omega))) ?_
   refine Tr.reg (Steps.runN 2 rfl (by simp) (Hz hA rfl rfl rfl (Th (Aca (j : Nat) hN' (by omega))) (.inl (by simp)) fun B hB => Steps.fin rfl (by simp) ?_))
   refine A9 rfl (by simp) ?_
   refine ⟨j + 1, ⟨[(1, Ke bo), (2, Kj bt), (3, .rptr b3 0), (6, .rptr b6 0), (12, .slice 0 1 (os.map sdV)), (13, I (os.length : Nat)), (14, I ((j + 1 : Nat) : Int))], [], [], encA (chgG b6 (c' || chgB ns' o a b) ++ (netG b3 bn cap ns0.length os ++ (Bo bn (E6 ns' o a b) sp ++ (outG bo ++ B)))), false⟩, ?_, ⟨h2, E6 ns' o a b, _, m' + 1, B, ⟨hIs, fun _ => hJ ns' hI' o hmo a b hst⟩, hB, by omega, hc2, by omega, rfl⟩, by omega⟩
   exact Wk.trans (t := ⟨[(1, Ke bo), (2, Kj bt), (3, .rptr b3 0), (6, .rptr b6 0), (12, .slice 0 1 (os.map sdV)), (13, I (os.length : Nat)), (14, I ((j + 1 : Nat) : Int))], [], [], encA ((chgG b6 (c' || chgB ns' o a b) ++ (netG b3 bn cap ns0.length os ++ (Bo bn (E6 ns' o a b) sp ++ outG bo))) ++ B), false⟩)
    (Ab (.k rfl (.k rfl (.k rfl (.k rfl (.k rfl (.k rfl (.cons rfl hw .nil))))))) .nil .nil rfl rfl) (Ib hA rfl (by classical exact List.perm_iff_count.2 fun x => by simp only [List.count_append]; omega))
end
end Go.Proofs.YtabedohjkillfaaGreat
namespace Go.Am
section
variable {E : Env}
theorem A90 {s : St} {K : List (List Loc × List Loc) → St → List Ins → Prop} {d t u : Nat} {x : X} {v v' : V} {rest : List Ins} (hc : Wi E.P t = true) (hx : evXs s.env [x] = some [v]) (hd : ∀ b, toD b 6 v = some (v', []))
  (tr : TraceK E (s.put (some d) (.iface t v')) rest fun fp s' r' => K (([.slot d], B7 [x]) :: fp) s' r') : TraceK E s (⟨some d, .raw 20 t u, [x], none⟩ :: rest) K :=
 .step (ins := ⟨some d, .raw 20 t u, [x], none⟩) (eff := { v := .iface t v' }) (A6n hc (Ai hx) hd) tr
end
end Go.Am
namespace Go.Proofs.YtabedohjkillfaaGreat
section
open Go.Am
attribute [local simp] cells Aa mkv Ag Ap under dem dem1 eB A7 B8 sB eF
def obS : List V := [I 1, I 0, I 1, I 0, I 2, I 0, I 0, I 0, I 0, I 0, I 0, I 0, I 0, I 0]
def sdS : Sd := .rng 0 1 0 2
theorem c_readS : C Tryz.prog A9d [.agg obS, I 2] (.tuple [sdV sdS, .bool true]) := by
 have k1 : C Tryz.prog Gb [I 0, I 0, I 1] (.bool true) := Ps _ _ _
 have k2 : C Tryz.prog Gb [I 1, I 0, I 1] (.bool true) := Ps _ _ _
 have k3 : C Tryz.prog Gb [I 2, I 0, I 17179869184] (.bool true) := Ps _ _ _
 refine C_of mixed A2i (by simp) fun S ok => ?_
 refine A2 rfl (by simp [obS]) (A2 rfl (by simp [obS]) (A3 rfl (by simp [obS]) (Steps.call rfl rfl k1 (Steps.run rfl (by simp [obS]) ?_))))
 refine Steps.gcall (r := .bool true) rfl rfl rfl rfl (by simp) (fun _ => k2) (Steps.fin rfl (by simp [obS]) ?_)
 refine A2 rfl (by simp [obS]) (Tr.seq (A2 rfl (by simp [obS]) (Tr.block (A2 rfl (by simp) (A6 rfl ?_)))))
 refine Tr.seq (A8 (TraceK.run rfl (by simp [obS]) (.done ⟨by kernel_rfl, by kernel_rfl, ?_⟩)))
 refine Tr.seq (A8 (TraceK.runN 7 rfl (by simp [obS]) (A90 Tu rfl (fun _ => rfl) ?_)))
 refine TraceK.run rfl (by simp [obS]) (TraceK.gcall (r := .bool true) rfl rfl rfl rfl (by simp) (fun _ => k3) (TraceK.run rfl (by simp) (.done ⟨by kernel_rfl, by kernel_rfl, ?_⟩)))
 exact A5 rfl rfl rfl rfl trivial
def gS : Fr := ⟨(0, 9), (0, 9), (0, 18), (-9, 9)⟩
def nsS : List Fr := [frZ, gS]
theorem tight_z : Hr frZ = some frZ := by kernel_rfl
theorem tight_g : Hr gS = some gS := by kernel_rfl
theorem A09 (b : Int × Int) (h : -70000 ≤ b.1 ∧ b.1 ≤ 70000) (h2 : -70000 ≤ b.2 ∧ b.2 ≤ 70000) (h3 : b.2 - b.1 ≤ 256) : C Tryz.prog A9c [eB b] (.bool false) := by
 refine C_of mixed A2h (by simp) fun S ok => ?_
 refine A2 rfl (by simp) (A2 rfl (by simp) (A5 rfl rfl rfl ?_ trivial))
 show V.bool false = .bool (decide (IntKind.wrap .i64 (b.2 - b.1) > 256))
 rw [w64 (by omega) (by omega), decide_eq_false (by omega)]
theorem c_netOfS : C Tryz.prog A5f [.agg [.slice 0 8 [eF frZ, eF gS], .slice 0 14 [.agg obS]]] (.tuple [.agg [.slice 0 8 [eF frZ, eF gS], .slice 0 1 [sdV sdS]], I 0]) := by
 have k1 : C Tryz.prog Gb [I 2, I 1, I 8] (.bool true) := Ps _ _ _
 have kz := Tg tight_z
 have kg := Tg tight_g
 have w1 := A09 frZ.x (by decide) (by decide) (by decide)
 have w2 := A09 frZ.y (by decide) (by decide) (by decide)
 have w3 := A09 gS.x (by decide) (by decide) (by decide)
 have w4 := A09 gS.y (by decide) (by decide) (by decide)
 refine C_of mixed A04 (by simp) fun S ok => ?_
 refine A2 rfl (by simp) (Tr.seq (A3 rfl (by simp) (Steps.call rfl rfl k1 (Steps.fin rfl (by simp) (A4 rfl (Tr.skip ?_))))))
 refine A2 rfl (by simp) (Tr.seq (A2 rfl (by simp) (Tr.block ?_)))
 refine Az 3 (TrN.succ ?_)
 refine A2 rfl (by simp) (Tr.seq (A6 rfl (Tr.skip (Tr.seq (Tr.block (A2 rfl (by simp [nsS]) ?_))))))
 refine A3 rfl (by simp) (Steps.call rfl rfl kz (Steps.fin rfl (by simp) ?_))
 refine Tr.seq (A3 rfl (by simp) (Steps.gcall (r := .bool false) rfl rfl rfl rfl (by simp) (fun _ => w1) (Steps.run rfl (by simp) (Steps.gcall (r := .bool false) rfl rfl rfl rfl (by simp) (fun _ => w2) (Steps.fin rfl (by simp) (A4 rfl (Tr.skip ?_)))))))
 refine A9 rfl (by simp) (A9 rfl (by simp) (TrN.succ ?_))
 refine Tr.weak (s' := ⟨[(1, .ptr 1 0), (2, .ptr 2 0), (4, .ptr 4 0), (26, .slice 0 8 [eF frZ, eF gS]), (27, I 2), (28, I 1)], [(1, ⟨[.slice 0 8 [eF frZ, eF gS], .slice 0 14 [.agg obS]], false⟩), (2, ⟨[.nils, .nils], false⟩), (4, ⟨[.slice 55 8 [eF frZ], .nils], false⟩)], [(54, 1, 8, 28)], [], false⟩)
  (Ab (.k rfl (.k rfl (.k rfl (.k rfl (.k rfl (.cons rfl (VLe.i rfl) .nil)))))) (.k rfl (.k rfl (.k rfl .nil))) (.cons rfl .nil) rfl rfl) ?_
 refine A2 rfl (by simp) (Tr.seq (A6 rfl (Tr.skip (Tr.seq (Tr.block (A2 rfl (by simp [nsS]) ?_))))))
 refine A3 rfl (by simp) (Steps.call rfl rfl kg (Steps.fin rfl (by simp) ?_))
 refine Tr.seq (A3 rfl (by simp) (Steps.gcall (r := .bool false) rfl rfl rfl rfl (by simp) (fun _ => w3) (Steps.run rfl (by simp) (Steps.gcall (r := .bool false) rfl rfl rfl rfl (by simp) (fun _ => w4) (Steps.fin rfl (by simp) (A4 rfl (Tr.skip ?_)))))))
 refine A9 rfl (by simp) (A9 rfl (by simp) (TrN.succ ?_))
 refine Tr.weak (s' := ⟨[(1, .ptr 1 0), (2, .ptr 2 0), (4, .ptr 4 0), (26, .slice 0 8 [eF frZ, eF gS]), (27, I 2), (28, I 2)], [(1, ⟨[.slice 0 8 [eF frZ, eF gS], .slice 0 14 [.agg obS]], false⟩), (2, ⟨[.nils, .nils], false⟩), (4, ⟨[.slice 55 8 [eF frZ, eF gS], .nils], false⟩)], [(54, 2, 8, 28)], [], false⟩)
  (Ab (.k rfl (.k rfl (.k rfl (.k rfl (.k rfl (.cons rfl (VLe.i rfl) .nil)))))) (.k rfl (.k rfl (.k rfl .nil))) (.cons rfl .nil) rfl rfl) ?_
 refine A2 rfl (by simp) (Tr.seq (A4 rfl (Tr.exit ?_)))
 refine Tr.seq (A2 rfl (by simp) (Tr.block ?_))
 refine Az 2 (TrN.succ ?_)
 refine A2 rfl (by simp) (Tr.seq (A6 rfl (Tr.skip (Tr.seq (Tr.block (A2 rfl (by simp [obS]) ?_))))))
 refine A3 rfl (by simp [obS]) (Steps.call rfl rfl c_readS (Steps.fin rfl (by simp) ?_))
 refine Tr.seq (A2 rfl (by simp) (A4 rfl (Tr.skip ?_)))
 refine A9 rfl (by simp) (A9 rfl (by simp) (TrN.succ ?_))
 refine A2 rfl (by simp) (Tr.seq (A4 rfl (Tr.exit ?_)))
 exact A2 rfl (by simp) (A5 rfl rfl rfl rfl trivial)
end
section
open Go.Am Go.RowKit
attribute [local simp] cells Aa mkv Ag Ap under dem dem1 eB A7 B8 eF
def A8c (ns : List Fr) : Prop := (ns.getD 1 frZ).x.2 ≤ 1
theorem cutO_x {r b a : Fr} (h : cutO r b = some a) : a.x.2 ≤ b.x.2 := (Hv h).2.2.2.1.1.2
theorem Aby {ns : List Fr} (hI : InvN nsS [sdS] ns) {a b : Fr} (h : Gr ns sdS = some (a, b)) : A8c (E6 ns sdS a b) := by
 unfold Gr at h
 split at h
 ·cases h
 rename_i a' ha
 split at h
 ·cases h
 rename_i b' hb
 split at h
 rotate_left
 ·cases h
 obtain ⟨rfl, rfl⟩ := Prod.mk.inj (Option.some.inj h)
 have s0 := hI.sub 0 (by decide)
 have hx : (ns.getD 0 frZ).x.2 ≤ 0 := by unfold subR at s0; exact s0.1.2
 have h1 : a'.x.2 ≤ 0 := by
  have := (Hv ha).2.2.1
  unfold subR at this
  have e : sdS.a = 0 := rfl
  rw [e] at this
  omega
 have h2 := cutO_x hb
 have e2 : (winF a' sdS.span).x.2 = min (a'.x.2 + sdS.span.x.2) 32768 := rfl
 have e3 : sdS.span.x.2 = 1 := by kernel_rfl
 rw [e2, e3] at h2
 unfold A8c E6
 have hlen := hI.len
 rw [Pg (by rw [List.length_set, hlen]; decide), if_pos (show 1 = sdS.b from rfl)]
 omega
theorem inv0 : InvN nsS [sdS] nsS := ⟨rfl, fun i hi => by
  have : i = 0 ∨ i = 1 := by have : i < 2 := hi; omega
  rcases this with rfl | rfl <;> decide, fun i hi => subR.refl _, fun l hl => hl.2.1⟩
theorem Abo {x y : Int} (hx : 0 ≤ x ∧ x ≤ 1) (hy : 0 ≤ y ∧ y ≤ 1) : FitL nsS [sdS] [(0, 0), (x, y)] := by
 refine ⟨rfl, fun i hi => ?_, fun o ho => ?_⟩
 ·have : i = 0 ∨ i = 1 := by have : i < 2 := hi; omega
  rcases this with rfl | rfl
  ·show inR frZ (0, 0); unfold inR frZ; simp
  ·show inR gS (x, y); unfold inR gS; simp only; omega
 ·rw [List.mem_singleton.1 ho]
  have h1 : x = 0 ∨ x = 1 := by omega
  have h2 : y = 0 ∨ y = 1 := by omega
  rcases h1 with rfl | rfl <;> rcases h2 with rfl | rfl <;> decide
def FixS (ns : List Fr) : Prop := ns.length = 2 ∧ (ns.getD 1 frZ).x = (0, 1)
theorem fixS_of {ns : List Fr} (hI : InvN nsS [sdS] ns) (hE : A8c ns) : FixS ns := by
 refine ⟨hI.len, ?_⟩
 have h0 := hI.has _ (Abo (x := 0) (y := 0) (by omega) (by omega)) 1 (by decide)
 have h1 := hI.has _ (Abo (x := 1) (y := 1) (by omega) (by omega)) 1 (by decide)
 have hs := hI.sub 1 (by decide)
 have e : (nsS.getD 1 frZ).x = (0, 9) := rfl
 unfold inR at h0 h1
 unfold subR at hs
 unfold A8c at hE
 rw [e] at hs
 have h0 := h0.1
 have h1 := h1.1
 simp only [List.getD_cons_succ, List.getD_cons_zero] at h0 h1 hs
 have a1 : (ns.getD 1 frZ).x.1 = 0 := by omega
 have a2 : (ns.getD 1 frZ).x.2 = 1 := by omega
 exact Prod.ext a1 a2
theorem Aci {b2 bn cap bo bt : Nat} {sp : List V} {NA0 : Arena} (hN : Wz bt 0 NA0) :
  CP Tryz.prog Rj (netG b2 bn cap 2 [sdS] ++ (Bo bn nsS sp ++ (outG bo ++ NA0))) [] [.rptr b2 0, .rptr bo 0, .rptr bt 0]
   (fun _ B => ∃ ns m NA, (InvN nsS [sdS] ns ∧ A8c ns) ∧ Wz bt m NA ∧ B = netG b2 bn cap 2 [sdS] ++ (Bo bn ns sp ++ (outG bo ++ NA))) clashV (fun _ => False) := by
 have kn := Ach (bn := bn) (cap := cap) (bo := bo) (bt := bt) (m0 := 0) (os := [sdS]) (ns0 := nsS) (sp := sp) (NA0 := NA0) (J := A8c) (by simp) (fun ns hI o ho a b h => by rw [List.mem_singleton.1 ho] at h ⊢; exact Aby hI h) (by simp [nsS]) (by decide) (by decide) (fun o ho => by rw [List.mem_singleton.1 ho]; unfold Sd.ok sdS; decide) inv0 hN (by omega)
 refine Adi mixed Oa (by simp) fun S ok S1 hA hK hKD => ?_
 refine Vj (Ft 3 (Ry hA rfl rfl (show (b2, Ob.cells (netC bn cap 2 [sdS])) ∈ _ by simp [netG]) (by simp [netC]) (Steps.fin rfl (by simp) ?_)))
 refine S4 hA (F := netG b2 bn cap 2 [sdS]) rfl rfl rfl kn (.inl (by simp)) (fun r B hΦ => ?_) (fun B hΨ => ?_)
 ·obtain ⟨ns, m, NA, hP, hN', rfl⟩ := hΦ
  exact ⟨_, ⟨_, rfl, ns, m, NA, hP, hN', rfl⟩, _, _, _, C2 rfl, rfl, rfl⟩
 ·obtain ⟨ns, m, NA, ⟨_, hno⟩, _⟩ := hΨ
  exact absurd (Abo (x := 0) (y := 0) (by omega) (by omega)) (hno _)
theorem Acc : CX Tryz.prog Vt [] [] [.agg [.slice 0 8 [eF frZ, eF gS], .slice 0 1 [sdV sdS]], .nils]
  (fun r B => ∃ ns bn cap sp v, FixS ns ∧ 2 ≤ cap ∧ (bn, Ob.cells (nsC ns ++ sp)) ∈ B ∧ r = .tuple [.sref bn 0 2 cap, v, .bool true]) := by
 have kcl := Ace (ns := nsS) (by simp [nsS]) (by decide)
 refine A74 mixed R8 (by simp) fun S1 ok1 => ?_
 have hA : InA (env0 Tryz.prog mixed 19 (SA S1 [] false) (Jo ok1 [] false)) S1 [] false := ⟨Sub.refl _, ok1⟩
 refine Tr.seq (Tr.reg (Rf hA (v := .agg [.slice 0 8 [eF frZ, eF gS], .slice 0 1 [sdV sdS]]) rfl rfl rfl rfl fun b2 hb2 => Rf hA (v := .nils) rfl rfl rfl rfl fun b3 hb3 => Steps.runN 1 rfl (by simp) (Cu hA rfl fun b5 hb5 => Steps.fin rfl (by simp) ?_)))
 refine Tr.weak (s' := ⟨[(2, .rptr b2 0), (3, .rptr b3 0), (5, .rptr b5 0)], [], [], encA [(b5, .cells [.nils]), (b3, .cells [.nils]), (b2, .cells [.slice 0 8 [eF frZ, eF gS], .slice 0 1 [sdV sdS]])], false⟩) (Ab (.k rfl (.k rfl (.k rfl .nil))) .nil .nil rfl rfl) ?_
 refine Tr.seq (Tr.reg (Ga rfl (Bf hA rfl rfl (show (b2, Ob.cells [.slice 0 8 [eF frZ, eF gS], .slice 0 1 [sdV sdS]]) ∈ _ by simp) rfl (Ak (F := [(b5, .cells [.nils]), (b3, .cells [.nils]), (b2, .cells [.slice 0 8 [eF frZ, eF gS], .slice 0 1 [sdV sdS]])]) hA rfl rfl rfl kcl (.inl (by simp)) fun r B hB => ?_))))
 obtain ⟨bn, cap, sp, rfl, hcap, hbn, rfl⟩ := hB
 refine Ga rfl (Be hA rfl rfl (show (b2, Ob.cells [.slice 0 8 [eF frZ, eF gS], .slice 0 1 [sdV sdS]]) ∈ _ by simp) (by simp) rfl rfl (Steps.fin rfl (by simp) ?_))
 refine Tr.nd hA rfl fun hnd => ?_
 have hset : setA ([(b5, .cells [.nils]), (b3, .cells [.nils]), (b2, .cells [.slice 0 8 [eF frZ, eF gS], .slice 0 1 [sdV sdS]])] ++ ((bn, Ob.cells (nsC nsS ++ sp)) :: [])) b2 (.cells ([.slice 0 8 [eF frZ, eF gS], .slice 0 1 [sdV sdS]].set (0 + 0) (.sref bn 0 nsS.length cap))) = [(b5, .cells [.nils]), (b3, .cells [.nils]), (b2, .cells (netC bn cap 2 [sdS])), (bn, .cells (nsC nsS ++ sp))] := by
  rw [Ba] at hnd
  simp only [List.cons_append, List.nil_append, List.map_cons, List.map_nil, List.nodup_cons, List.mem_cons, List.not_mem_nil, or_false, not_or] at hnd
  have n1 : b5 ≠ b2 := hnd.1.2.1
  have n2 : b3 ≠ b2 := hnd.2.1.1
  have n3 : bn ≠ b2 := fun e => hnd.2.2.1 e.symm
  simp [setA, n1, n2, n3, netC, nsS]
 have hN : Wz b5 0 [(b5, .cells [.nils])] := ⟨[], .nils, rfl, List.mem_singleton.2 rfl, .inl ⟨rfl, rfl⟩, fun _ _ _ _ e => (by cases e)⟩
 have kf := A27 (Aci (b2 := b2) (bn := bn) (cap := cap) (bo := b3) (bt := b5) (sp := sp) hN)
 refine Tr.weak (s' := ⟨[(2, .rptr b2 0), (3, .rptr b3 0), (5, .rptr b5 0)], [], [], encA (netG b2 bn cap 2 [sdS] ++ (Bo bn nsS sp ++ (outG b3 ++ [(b5, .cells [.nils])]))), false⟩)
  (Wk.trans (Ab (.k rfl (.k rfl (.k rfl .nil))) .nil .nil rfl rfl) (Ib hA (A := [(b5, .cells [.nils]), (b3, .cells [.nils]), (b2, .cells (netC bn cap 2 [sdS])), (bn, .cells (nsC nsS ++ sp))]) (congrArg encA hset) (by
    show List.Perm [(b5, Ob.cells [.nils]), (b3, .cells [.nils]), (b2, .cells (netC bn cap 2 [sdS])), (bn, .cells (nsC nsS ++ sp))] [(b2, .cells (netC bn cap 2 [sdS])), (bn, .cells (nsC nsS ++ sp)), (b3, .cells [.nils]), (b5, .cells [.nils])]
    classical exact List.perm_iff_count.2 fun x => by simp only [List.count_cons, List.count_nil]; omega))) ?_
 refine Tr.seq (Tr.reg (Steps.runN 1 rfl (by simp) (Ak (F := []) hA rfl rfl rfl kf (.inl (by simp)) fun r B hB => Steps.fin rfl (by simp) ?_)))
 rcases hB with ⟨rfl, _, ns, m, NA, ⟨hI, hE⟩, hN', rfl⟩ | ⟨_, hF⟩
 rotate_left
 ·exact hF.elim
 have hfx := fixS_of hI hE
 obtain ⟨xs, v, hxl, hmo, hO, hoff⟩ := hN'
 obtain ⟨hv1, hv2⟩ := A62 hO
 refine Tr.nd hA rfl fun hnd2 => ?_
 have hne : bn ≠ b5 := by
  simp only [netG, Bo, outG, List.cons_append, List.nil_append, List.map_cons, List.nodup_cons, List.mem_cons, not_or] at hnd2
  intro e
  exact hnd2.2.1.2 (e ▸ List.mem_map.2 ⟨_, hmo, rfl⟩)
 clear hnd2
 have m2 : (b2, Ob.cells (netC bn cap 2 [sdS])) ∈ ([] : Arena) ++ (netG b2 bn cap 2 [sdS] ++ (Bo bn ns sp ++ (outG b3 ++ NA))) := by simp [netG]
 have m5 : (b5, Ob.cells [v]) ∈ ([] : Arena) ++ (netG b2 bn cap 2 [sdS] ++ (Bo bn ns sp ++ (outG b3 ++ NA))) := by simp [hmo]
 have mn : (bn, Ob.cells (nsC ns ++ sp)) ∈ Ux (([] : Arena) ++ (netG b2 bn cap 2 [sdS] ++ (Bo bn ns sp ++ (outG b3 ++ NA)))) b5 := dropA_mem.2 ⟨by simp [Bo], hne⟩
 have hcap2 : 2 ≤ cap := hcap
 have hvv : v = .nils ∨ ∃ b n c, v = .sref b 0 n c := by
  rcases hO with ⟨_, rfl⟩ | ⟨_, _, _, rfl, _⟩
  ·exact .inl rfl
  ·exact .inr ⟨_, _, _, rfl⟩
 clear hO hoff hmo hxl
 generalize ([] : Arena) ++ (netG b2 bn cap 2 [sdS] ++ (Bo bn ns sp ++ (outG b3 ++ NA))) = AA at m2 m5 mn ⊢
 rcases hvv with rfl | ⟨_, _, _, rfl⟩
 ·refine Tr.seq (Ct rfl rfl rfl (Pw rfl (Ay hA rfl rfl rfl m2 (by simp [netC]) (Ay hA rfl rfl rfl m5 (by simp) (TraceK.runN 3 rfl (by simp) (Lk hA rfl rfl rfl m5 (by simp) rfl rfl rfl (TraceK.run rfl (by simp) (.done ⟨by kernel_rfl, by kernel_rfl, ?_⟩))))))))
  refine Tr.weak (Wk.take (A := AA) (t := 5) (blk := b5) rfl rfl rfl m5 rfl) ?_
  exact Bg rfl rfl rfl ⟨_, rfl, ns, bn, cap, sp, _, hfx, hcap2, mn, rfl⟩
 ·refine Tr.seq (Ct rfl rfl rfl (Pw rfl (Ay hA rfl rfl rfl m2 (by simp [netC]) (Ay hA rfl rfl rfl m5 (by simp) (TraceK.runN 3 rfl (by simp) (Lk hA rfl rfl rfl m5 (by simp) rfl rfl rfl (TraceK.run rfl (by simp) (.done ⟨by kernel_rfl, by kernel_rfl, ?_⟩))))))))
  refine Tr.weak (Wk.take (A := AA) (t := 5) (blk := b5) rfl rfl rfl m5 rfl) ?_
  exact Bg rfl rfl rfl ⟨_, rfl, ns, bn, cap, sp, _, hfx, hcap2, mn, rfl⟩
def netSV : V := .agg [.slice 0 8 [eF frZ, eF gS], .slice 0 14 [.agg obS]]
theorem cx_FixS : CX Tryz.prog Adh [] [] [netSV] (fun r _ => ∃ a b : Fr, b.x = (0, 1) ∧ r = .tuple [.slice 0 8 [eF a, eF b], I 0]) := by
 refine J0 mixed A4r (by simp) fun S ok S1 hA hK hKD => ?_
 refine A2 rfl (by simp [netSV, obS]) (A3 rfl (by simp [netSV, obS]) (Steps.call rfl rfl c_netOfS (Steps.fin rfl (by simp) ?_)))
 refine Tr.seq (A2 rfl (by simp) (A4 rfl (Tr.skip ?_)))
 refine Tr.seq (Tr.reg (Steps.runN 1 rfl (by simp) (Ak (F := []) hA rfl rfl rfl Acc (.inl (by simp)) fun r B hB => ?_)))
 obtain ⟨ns, bn, cap, sp, v, ⟨hlen, hx⟩, hcap, hmem, rfl⟩ := hB
 obtain ⟨a, b, rfl⟩ : ∃ a b, ns = [a, b] := by
  match ns, hlen with
  | [a, b], _ => exact ⟨a, b, rfl⟩
 refine Steps.fin rfl (by simp) ?_
 refine Tr.seq (A2 rfl (by simp) (A4 rfl (Tr.skip ?_)))
 refine A2 rfl (by simp) ?_
 refine Tr.weak (Wk.close hA (t := 2) (xs := [eF a, eF b]) (sz := 8) (cs := nsC [a, b] ++ sp) rfl rfl (show (bn, Ob.cells (nsC [a, b] ++ sp)) ∈ ([] : Arena) ++ B from hmem) (by omega) hcap (fun x hx => ?_) ?_) ?_
 ·simp only [List.mem_cons, List.not_mem_nil, or_false] at hx
  rcases hx with rfl | rfl <;> rfl
 ·rfl
 ·exact Bg rfl rfl rfl ⟨_, rfl, a, b, hx, rfl⟩
end
section
open Go.Am
theorem Ad3 {l : List Int} {p : Int → Bool} {f : FuncId} {us : List V} (hpl : Plain us) (hl : l.length ≤ 9223372036854775807) (hp : ∀ b ∈ l, C Tryz.prog f (I b :: us) (.bool (p b))) :
  C Tryz.prog Hq [B8 l, .func (.func f) [] us] (I (Fg p l 0)) := by
 refine C_of mixed Gv (by simp) fun S ok => ?_
 refine A2 rfl (by simp) ?_
 refine Tr.seq (A2 rfl (by simp) (Tr.block ?_))
 refine Tr.loop (fun k s => (k ≤ l.length ∧ Fg p l 0 = Fg p (l.drop k) k) ∧ s = ⟨[(0, B8 l), (1, .func (.func f) [] us), (7, I l.length), (8, I k)], [], [], [], false⟩) (fun k => l.length - k) 0
  (Ab (.k rfl (.k rfl (.cons rfl (VLe.i (by simp)) (.k rfl .nil)))) .nil .nil (by simp only [Ec, List.all_cons, Bq hpl]; rfl) rfl) ⟨⟨by omega, by simp⟩, rfl⟩ ?_
 rintro k s ⟨⟨hk, hf⟩, rfl⟩
 refine A2 rfl (by simp) (Ei rfl (fun h1 => ?_) (fun h1 => ?_))
 ·have h1 : k < l.length := by simpa using h1
  refine Cm (Tr.seq (Tr.block (A2 rfl (by simp) (A3 rfl ?_ ?_))))
  ·rw [Ao h1]; simp [cells]; omega
  ·rw [Ao h1]
   refine Steps.callv (us := I l[k] :: us) (ids := []) rfl (by show In _ (toDs _ us) = _; rw [hpl.d]; rfl) (hp l[k] (List.getElem_mem h1)) (Steps.fin rfl (by simp) ?_)
   refine Tr.cond rfl rfl (fun h2 => ?_) (fun h2 => ?_)
   ·refine A2 rfl (by simp) (Tr.ret ?_)
    refine ⟨trivial, _, _, _, C2 rfl, rfl, ?_⟩
    rw [hf, Dz p l h1, if_pos h2]; rfl
   ·refine Tr.skip (A9 rfl (by simp) ?_)
    refine ⟨k + 1, _, ?_, ⟨⟨by omega, ?_⟩, rfl⟩, by omega⟩
    ·exact Ab (.k rfl (.k rfl (.k rfl (.cons rfl (VLe.i (w64 (by omega) (by omega))) .nil)))) .nil .nil (by simp only [Ec, List.all_cons, Bq hpl]; rfl) rfl
    ·rw [hf, Dz p l h1, if_neg (by simp [h2])]
 ·have h1 : k = l.length := by simp at h1; omega
  subst h1
  refine Tr.exit (A2 rfl (by simp) (Bb rfl rfl ?_ trivial))
  rw [hf, List.drop_length]; rfl
theorem A2n {l : List Int} {p : Int → Bool} {f : FuncId} {us : List V} (hpl : Plain us) (hd2 : ∀ b, toDs b [V.func (.func f) [] us] = some ([V.func (.func f) [] us], [])) (hl : l.length ≤ 9223372036854775807) (hp : ∀ b ∈ l, C Tryz.prog f (I b :: us) (.bool (p b))) :
  C Tryz.prog Gi [B8 l, .func (.func f) [] us] (.bool (l.any p)) := by
 refine C_of mixed Fp (by simp) fun S ok => ?_
 refine A2 rfl (by simp) ?_
 refine A3 rfl (by simp) (Steps.call (us := [B8 l, .func (.func f) [] us]) (ids := []) rfl (by show In _ (toDs _ [V.func (.func f) [] us]) = _; rw [hd2]; rfl) (Ad3 hpl hl hp) (Steps.fin rfl (by simp) (Bb rfl rfl ?_ trivial)))
 rw [← Ky p l 0]; rfl
attribute [local simp] cells Aa mkv Ag Ap under dem dem1 eB A7 B8 sB
theorem A8x (n m : Int) (hm : 0 ≤ m ∧ m ≤ 65536) : C Tryz.prog Gn [I n, .vptr [I m] 0] (.bool (!btw n (-m) m)) := by
 refine C_of mixed K3 (by simp) fun S ok => ?_
 have e : IntKind.wrap .i64 (0 - m) = -m := by rw [w64 (by omega) (by omega)]; omega
 refine A2 rfl (by simp) (A3 rfl (by simp) ?_)
 rw [e]
 exact Steps.call rfl rfl (D2 _ _ _) (Steps.fin rfl (by simp) (A5 rfl rfl rfl rfl trivial))
def stS : Strm := ⟨3, [⟨9, 64, 0, 0, 0⟩], (-9, 9), 0⟩
theorem Aaf (m : Int) : Plain [.vptr [I m] 0] := ⟨fun b => rfl, fun B R => rfl⟩
theorem Yb (n m : Int) (hm : 0 ≤ m ∧ m ≤ 65536) (h : btw n (-m) m = true) : C Tryz.prog Pz [eStr stS, B8 [n], I m] (.bool true) := by
 have kc := A2n (l := [n]) (p := fun n => !btw n (-m) m) (f := Gn) (us := [.vptr [I m] 0]) (Aaf m) (fun _ => rfl) (by simp) (fun b _ => A8x b m hm)
 have e : [n].any (fun n => !btw n (-m) m) = false := by simp [h]
 rw [e] at kc
 refine C_of mixed Mv (by simp) fun S ok => ?_
 refine A2 rfl (by simp [eStr, strC, Bp, stS]) (A3 rfl (by simp [eStr, strC, Bp, stS]) ?_)
 exact Steps.gcall (r := .bool false) rfl rfl rfl rfl (by simp) (fun _ => kc) (Steps.fin rfl (by simp) (A5 rfl rfl rfl rfl trivial))
theorem Ad5 : C Tryz.prog A98 [I 192] (I 3) := by
 refine C_of mixed A2d (by simp) fun S ok => ?_
 exact A2 rfl (by simp) (A2 rfl (by simp) (Tr.seq (A2 rfl (by simp) (A4 rfl (Tr.skip (A2 rfl (by simp) (A5 rfl rfl rfl rfl trivial)))))))
theorem c_easedS : C Tryz.prog Sx [eStr stS, I 0, I 0, I 3, I 2] (I 5) := by
 refine C_of mixed Pk (by simp) fun S ok => ?_
 refine A2 rfl (by simp [eStr, strC, Bp, stS]) (A2 rfl (by simp [eStr, strC, Bp, stS, eSec, secC]) (A3 rfl (by simp [eStr, strC, Bp, stS, eSec, secC]) ?_))
 refine Steps.call rfl rfl Ad5 (Steps.fin rfl (by simp) ?_)
 refine Tr.seq (A2 rfl (by simp [eStr, strC, Bp, stS]) (A4 rfl (A2 rfl (by simp [eStr, strC, Bp, stS]) (A4 rfl (Tr.skip ?_)))))
 exact A2 rfl (by simp) (A5 rfl rfl rfl rfl trivial)
theorem c_stepS1 : C Tryz.prog S5 [I 0, I 0, I 3, .vptr (strC stS) 0, .vptr [B8 [2]] 0] (I 5) := by
 refine C_of mixed Wn (by simp) fun S ok => ?_
 refine A2 rfl (by simp) (Tr.seq (A8 (TraceK.run rfl (by simp [strC, Bp, stS]) ?_)))
 exact TraceK.call rfl rfl c_easedS (TraceK.run rfl (by simp) (.done ⟨by kernel_rfl, by kernel_rfl, A5 rfl rfl rfl rfl trivial⟩))
theorem c_eachS : C Tryz.prog X5 [B8 [0], I 3, .func (.func S5) [] [.vptr (strC stS) 0, .vptr [B8 [2]] 0]] (B8 [5]) := by
 refine C_of mixed Sn (by simp) fun S ok => ?_
 refine A2 rfl (by simp) (A2 rfl (by simp) (A2 rfl (by simp) (Tr.seq (A2 rfl (by simp) (Tr.block ?_)))))
 refine Az 2 (TrN.succ ?_)
 refine A2 rfl (by simp) (Tr.seq (A6 rfl (Tr.skip (Tr.seq (Tr.block (A2 rfl (by simp) (A3 rfl (by simp) (Steps.callv rfl rfl c_stepS1 (Steps.fin rfl (by simp) (A9 rfl (by simp) (A9 rfl (by simp) (TrN.succ ?_))))))))))))
 refine A2 rfl (by simp) (Tr.seq (A4 rfl (Tr.exit ?_)))
 refine Tr.weak (Wk.bsl (t := 7) (i := 13) (off := 0) (sz := 1) (n := 1) (cs := [I 5]) (xs := [I 5]) rfl rfl (A7z [5])) ?_
 exact A2 rfl (by simp) (A5 rfl rfl rfl rfl trivial)
theorem c_StepS : C Tryz.prog A9a [eStr stS, B8 [0], B8 [2]] (.tuple [B8 [5], I 0]) := by
 have kc : C Tryz.prog Vp [eStr stS] (I 0) := A6x (s := stS) (by simp [stS])
 have n1 := Yb 0 16384 (by omega) (by decide)
 have n2 := Yb 2 100 (by omega) (by decide)
 refine C_of mixed A2f (by simp) fun S ok => ?_
 refine A2 rfl (by simp [eStr, strC, Bp, stS]) (Tr.seq (A3 rfl (by simp [eStr, strC, Bp, stS]) (Steps.call rfl rfl kc (Steps.fin rfl (by simp) (A2 rfl (by simp) (A4 rfl (Tr.skip ?_)))))))
 refine A2 rfl (by simp [eStr, strC, Bp, stS]) (Tr.seq (Tr.block ?_))
 refine A3 rfl (by simp [eStr, strC, Bp, stS]) (Steps.call rfl rfl n1 (Steps.fin rfl (by simp) (A4 rfl ?_)))
 refine A3 rfl (by simp [eStr, strC, Bp, stS]) (Steps.call rfl rfl n2 (Steps.fin rfl (by simp) (A4 rfl (Tr.skip ?_))))
 refine A3 rfl (by simp [eStr, strC, Bp, stS]) (Steps.call rfl rfl c_eachS (Steps.fin rfl (by simp) (A5 rfl rfl rfl rfl trivial)))
end
section
open Go.Am Go
attribute [local simp] cells Aa mkv Ag Ap under dem dem1 eB A7 B8 sB eF chV chC cruC D4 As eLeg legC eCru cS
theorem Acu : C Tryz.prog Q3 [] (.bool true) := by
 refine C_of mixed V5 (by simp) fun S ok => ?_
 refine A0f rfl rfl ?_
 have hA := A0j (E := env0 Tryz.prog mixed 78 S ok) [] false
 refine A2 rfl (by simp) (A2 rfl (by simp) ?_)
 refine Tr.weak (s' := ⟨[(1, .ptr 1 0)], [(1, ⟨cruC cS, false⟩)], [], encA [], false⟩)
  (Bz (.k rfl .nil) (.cons rfl ?_ .nil) .nil rfl rfl rfl) ?_
 ·exact .cons (VLe.dem _ _ _) (.cons (VLe.nil 0 1) (.cons (VLe.nil 0 2) (.cons (.refl _) (.cons (.refl _) (.cons (.refl _) (.cons (.refl _) (.cons (.refl _) (.cons (.refl _) (.cons (.refl _) (.cons (.refl _) (.cons (.refl _) (.cons (.refl _) (.cons (.refl _) (.cons (.refl _) (.cons (.refl _) (.cons (VLe.dem _ _ _) .nil))))))))))))))))
 refine Tr.seq (Tr.reg (Steps.runN 1 rfl (by simp) (Ak (F := []) (A1 := []) hA rfl rfl rfl cx_BestS (.inl (by simp)) fun r B hB => ?_)))
 obtain rfl := hB
 refine Steps.fin rfl (by simp) ?_
 refine Tr.seq (Tr.reg (Steps.runN 10 rfl (by simp) (Ak (F := B) (A1 := []) hA rfl rfl (congrArg encA (List.append_nil B).symm) cx_FixS (.inl (by simp)) fun r B2 hB => ?_)))
 obtain ⟨a, b, hb, rfl⟩ := hB
 obtain ⟨bx, by', bs, bd⟩ := b
 obtain rfl : bx = (0, 1) := hb
 refine Steps.fin rfl (by simp) ?_
 refine Tr.weak (s' := ⟨[(3, I 12), (4, I 0), (5, .slice 0 8 [eF a, eF ⟨(0, 1), by', bs, bd⟩]), (6, I 0)], [], [], encA (B ++ B2), false⟩)
  (Bz (.k rfl (.k rfl (.k rfl (.k rfl .nil)))) .nil .nil rfl rfl rfl) ?_
 refine A3 rfl (by simp) (Steps.call rfl rfl c_StepS (Steps.fin rfl (by simp) ?_))
 refine Tr.weak (s' := ⟨[(3, I 12), (4, I 0), (5, .slice 0 8 [eF a, eF ⟨(0, 1), by', bs, bd⟩]), (6, I 0), (7, B8 [5]), (8, I 0)], [], [], encA (B ++ B2), false⟩)
  (Bz (.k rfl (.k rfl (.k rfl (.k rfl (.k rfl (.k rfl .nil)))))) .nil .nil rfl rfl rfl) ?_
 refine Tr.seq (Tr.reg (Steps.runN 3 rfl (by simp) (Steps.on rfl rfl (Steps.runN 1 rfl (by simp) (Steps.on rfl rfl (Steps.runN 1 rfl (by simp) (Steps.runN 2 rfl (by simp) (Steps.on rfl rfl (Steps.runN 1 rfl (by simp) (Steps.on rfl rfl (Steps.runN 1 rfl (by simp) (Steps.runN 2 rfl (by simp) (Steps.on rfl rfl (Steps.runN 1 rfl (by simp) (Steps.on rfl rfl (Steps.runN 1 rfl (by simp) (Steps.runN 2 rfl (by simp) (Steps.on rfl rfl (Steps.runN 1 rfl (by simp) (Steps.on rfl rfl (Steps.runN 1 rfl (by simp) (Steps.on rfl rfl (Steps.runN 1 rfl (by simp) (Steps.runN 2 rfl (by simp) (Steps.on rfl rfl (Steps.runN 1 rfl (by simp) (Steps.on rfl rfl (Steps.runN 1 rfl (by simp) (Steps.on rfl rfl (Steps.runN 1 rfl (by simp) (Steps.on rfl rfl (Steps.runN 1 rfl (by simp) (Steps.on rfl rfl (Steps.runN 1 rfl (by simp) (Steps.on rfl rfl (Steps.runN 1 rfl (by simp) (Steps.runN 2 rfl (by simp) (Steps.on rfl rfl (Steps.runN 1 rfl (by simp) (Steps.on rfl rfl (Steps.runN 1 rfl (by simp) (Steps.on rfl rfl (Steps.call rfl rfl (c_Alike [5] [5] (by simp)) (Steps.fin rfl (by simp) ?_))))))))))))))))))))))))))))))))))))))))))))
 exact A5 rfl rfl rfl rfl trivial
end
end Go.Proofs.YtabedohjkillfaaGreat
