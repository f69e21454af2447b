/-
  Parts of the proof, 3: the abstract machine, the compiled code, contracts of the functions, plain laws.
-/
import Derived.Test.YtffoiccokigjcaaDoorZ2
import Derived.WalkSpells
import Derived.Laws.IdiomStrings
import Derived.Lib.BufferRead
import Derived.Laws.Concat
import Derived.Test.YtffoiccokigjcaaDoorProg


/-! AM, part Zi: copies: a test for nil, an empty slice that is made, what is appended to it. -/
set_option linter.unusedVariables false
set_option linter.unusedSimpArgs false
namespace Go.Am
open Go.RowKit

theorem opK_nilS {P : Program} {o : Oper} {os : List Operand} {t : Nat} (hk : opK P o.op = some (.raw 8 0 t, os)) : ∃ p q u e, o.op = .binOp .eql t p q u ∧ P.underlying t = some (.slice e) ∧ os = [p, q] := by
  cases ho : o.op <;> rw [ho] at hk <;> simp only [opK] at hk <;> (try (cases hk; done)) <;> (try (repeat' (split at hk <;> (try (cases hk; done)))))
  all_goals first
    | (simp only [Option.map_eq_some_iff, Prod.mk.injEq] at hk; obtain ⟨_, _, h1, _⟩ := hk; cases h1; done)
    | (simp only [eqKind] at hk
       split at hk <;> (try (cases hk; done)) <;> (try (split at hk <;> (try (cases hk; done)))) <;> (try (cases hk; done))
       all_goals first
         | (simp at hk; done)
         | (simp at hk
            obtain ⟨rfl, rfl⟩ := hk
            exact ⟨_, _, _, _, rfl, by assumption, rfl⟩))

section
variable {E : Env}

/-- Is a slice nil? -/
theorem Steps.nilS {s : St} {K : St → Prop} {d t r sz : Nat} {x y : X} {xs : List V} {rest : List Ins} (hx : evXs s.env [x, y] = some [.slice r sz xs, .nils]) (hk : ∀ b, (xs ≠ [] → b = false) → Steps E rest K (s.put (some d) (.bool b))) : Steps E (⟨some d, .raw 8 0 t, [x, y], none⟩ :: rest) K s := by
  refine Step1.raw fun slots ops o i ro n a w h hc hs hi R Q next hn => ?_
  obtain ⟨os, cc⟩ := comp_of hc
  have hgo : o.guard = none := by
    rcases cc.guard with ⟨_, e⟩ | ⟨j, want, t, _, _, e⟩
    · exact e
    · cases e
  obtain ⟨p, q, u, e, e1, e2, rfl⟩ := opK_nilS cc.op
  obtain ⟨v1, v2, hu, o1, o2⟩ := (opds_of R.1 cc.xs (evXs_ok hx)).two
  simp only [List.cons.injEq, and_true] at hu
  obtain ⟨hu1, hu2⟩ := hu
  subst hu1 hu2
  have hq := ok_nils o2
  have key : ∃ (ad : Option Addr) (m c : Nat), a.eval p = .slice ad m c ∧ (xs ≠ [] → ad.isSome = true) := by
    have r := ok_slice o1
    generalize a.eval p = z at r
    rcases slice_at r with ⟨⟨ad, cap, rfl⟩, e0⟩ | ⟨blk, off, cap, cv, rfl, _⟩
    · exact ⟨ad, 0, cap, rfl, fun h => absurd e0 h⟩
    · exact ⟨_, _, _, rfl, fun _ => rfl⟩
  obtain ⟨ad, m, c, ep, had⟩ := key
  have hex : (execOp a.eval o).run E.P w = .ok (.value (.bool ad.isNone)) w := by
    have g1 : (eqGuard .eql t p q (.slice ad m c) (.slice none 0 0)).run E.P w = .ok () w := by
      cases ad <;> rfl
    have g2 : (binOp .eql t (.slice ad m c) (.slice none 0 0)).run E.P w = .ok (.bool ad.isNone) w := Lib.run_eql_slice_nil w t e ad m c 0 0 e2
    simp only [execOp, e1, ep, hq, Sem.run_bind, g1, g2, Result.andThen_ok, Sem.run_pure]
  refine wpOp_done (x := .bool ad.isNone) (w' := w) hi (wanted_none hgo) (opK_defer cc.op) (.inl hex) (hn _ _ w h (hk ad.isNone fun hne => by have := had hne; cases ad <;> simp_all) ?_ rfl)
  show E.relF _ _ _ _ _ _
  rw [(put_log _ _ _).1, (put_log _ _ _).2, fs_put]
  exact rel_after (eff := { v := .bool ad.isNone }) cc R R.1 (.data (.bool _)) rfl

end

section
variable {P : Program} {nt : Nat} {S : Sur} {log : List (List V)} {stp : Bool} {σ : FSt} {a : Act} {w : World} {h : Gh} {o : Oper}

theorem opK_mksliceE {os : List Operand} {sz e : Nat} (hk : opK P o.op = some (.mkslice sz e, os)) : ∃ t len parts ie z, o.op = .buildSlice t len parts ∧ P.underlying t = some (.slice e) ∧ P.info? e = some ie ∧ ie.zero = some z ∧ z.cells.size = ie.size ∧ ie.size = sz ∧ parts.toList.map (·.1) = List.range len ∧ os = parts.toList.map (·.2) := by
  cases ho : o.op <;> rw [ho] at hk <;> simp only [opK] at hk <;> (try (cases hk; done)) <;> (try (repeat' (split at hk <;> (try (cases hk; done)))))
  all_goals first
    | (simp only [Option.map_eq_some_iff, Prod.mk.injEq] at hk; obtain ⟨_, _, h1, _⟩ := hk; cases h1; done)
    | (rename_i hz hc; rw [hz] at hc; simp at hc; done)
    | (rename_i t len parts x5 e' ht x4 ie hi x3 z hz hc
       cases hk
       simp only [hz, Option.isSome_some, Bool.true_and, Bool.and_eq_true, beq_iff_eq] at hc
       exact ⟨t, len, parts, ie, z, rfl, ht, hi, hz, hc.1, rfl, hc.2, rfl⟩)
    | (exfalso; simp only [eqKind] at hk; repeat' (split at hk <;> (try (cases hk; done))))

theorem opK_appendE {os : List Operand} {sz bytes e : Nat} (hk : opK P o.op = some (.append sz bytes e, os)) : ∃ c p q t ie z, o.op = .call c ∧ c.callee = .builtin .append ∧ c.args.toList = [p, q] ∧ c.argTypes.toList = [t, t] ∧ P.underlying t = some (.slice e) ∧ P.info? e = some ie ∧ ie.zero = some z ∧ z.cells.size = ie.size ∧ ie.size = sz ∧ ie.bytes = bytes ∧ os = [p, q] := opK_append hk

end

section
variable {E : Env}

/-- An empty slice that is made. -/
theorem Steps.mkE {s : St} {K : St → Prop} {d sz e : Nat} {rest : List Ins} (hd : get s.bx d = none)
    (hk : ∀ blk, Steps E rest K ((s.setB d ⟨[], false⟩).put (some d) (.sref blk 0 0 0))) : Steps E (⟨some d, .mkslice sz e, [], none⟩ :: rest) K s := by
  refine Step1.raw fun slots ops o i ro n a w h hc hs hi R Q next hn => ?_
  obtain ⟨os, cc⟩ := comp_of hc
  have hgo := guard_none cc rfl
  obtain ⟨t, len, parts, ie, z, ho, ht, hie, hz, hzs, hsz, hidx, rfl⟩ := opK_mksliceE cc.op
  have hO := opds_of R.1 cc.xs (vs := []) rfl
  have hlen : len = 0 := by
    have h1 := hO.get.1
    have h2 := congrArg List.length hidx
    simp at h1 h2
    omega
  subst hlen
  have hp : parts = #[] := by
    have h1 := hO.get.1
    simp at h1
    exact Array.size_eq_zero_iff.1 h1.symm
  have hrun : (Instr.buildSlice t 0 (parts.map fun (i, x) => (i, a.eval x))).run E.P w = .ok (.slice (some ⟨w.heap.size, 0, none⟩) 0 0) (w.alloc (.cells #[] e)) := by
    subst hp
    have hr0 : Array.range 0 = #[] := rfl
    simp [Instr.buildSlice, run_underlying ht, sizeOf, typeInfo, zeroValue, hie, hz, newRow, Instr.fill, hr0]
  have R1 := R.1.newBox (e := e) (cs := #[]) (zs := []) (d := d) E.ok (by rw [fs_b]; exact hd) (by simp) (fun j v x hv hx => by simp at hv)
  have hex : (execOp a.eval o).run E.P w = .ok (.value (.slice (some ⟨w.heap.size, 0, none⟩) 0 0)) (w.alloc (.cells #[] e)) := by
    simp only [execOp, ho, Sem.run_bind, hrun]; rfl
  have key := rel_after (eff := { v := .sref w.heap.size 0 0 0, wb := [(d, ⟨[], false⟩)] }) cc R R1 ⟨.data (.sref _ _ _ _), GrowV.of_data (w0 := w) (φ0 := h.φ) (.sref _ _ _ _)⟩ rfl
  refine wpOp_done hi (wanted_none hgo) (opK_defer cc.op) (.inl hex) (hn _ _ _ { h with M := fun b => h.M b ∨ b = w.heap.size, β := fun i => if i = d then some w.heap.size else h.β i } (hk w.heap.size) ?_ rfl)
  show E.relF _ _ _ _ _ _
  rw [(put_log _ _ _).1, (put_log _ _ _).2, fs_put, fs_setB]
  exact key

theorem done_appendE {P : Program} {nt : Nat} {S : Sur} {log : List (List V)} {stp : Bool} {σ : FSt} {a : Act} {w : World} {h : Gh} {o : Oper} {t e sz bytes d blk : Nat} {p q : Operand} {c : Call} {ie : TypeInfo} {z : Value} {ys : List V} {y : Value} (R : Rel nt S log stp σ a w h) (hS : S.ok) (ho : o.op = .call c) (hc : c.callee = .builtin .append) (hca : c.args.toList = [p, q]) (hct : c.argTypes.toList = [t, t])
    (ht : P.underlying t = some (.slice e)) (hi : P.info? e = some ie) (hz : ie.zero = some z) (hzs : z.cells.size = ie.size) (hsz : ie.size = sz) (hby : ie.bytes = bytes) (hx : a.eval p = .slice (some ⟨blk, 0, none⟩) 0 0) (hy : a.eval q = y)
    (ry : RepD w h.φ (.slice 0 sz ys) y) (hd : σ.b d = none) (h0 : 0 < sz) (hb : ys.length * bytes ≤ 2 ^ 47) (hm : ys.length ≤ 2 ^ 47) (hne : ys ≠ []) {pre : Prop} {rb : List Nat} :
    Done P nt S log stp σ a w h o { pre := pre, v := .bsl d 0 sz ys.length, wb := [(d, ⟨ys.flatMap cells, false⟩)], rb := rb } := by
  subst hsz hby
  have ea : c.args = #[p, q] := by rw [← Array.toList_inj]; simpa using hca
  have et : c.argTypes = #[t, t] := by rw [← Array.toList_inj]; simpa using hct
  have hexec : ∀ v w', (Builtin.append_ #[t, t] o.type #[.slice (some ⟨blk, 0, none⟩) 0 0, y]).run P w = .ok v w' → (execOp a.eval o).run P w = .ok (.value v) w' := fun v w' hr => by
    simp only [execOp, ho, resolve, hc, ea, et, Sem.run_bind, Sem.run_pure, Result.andThen_ok, invoke, builtin]
    simp [hx, hy, hr]
  have hml : ys.length ≤ maxLen := by unfold maxLen; omega
  have hpos : 0 < ys.length := List.length_pos_iff.2 hne
  rcases slice_at ry with ⟨_, e0⟩ | ⟨yb, yo, ycap, cvy, rfl, _, _, hys, ay⟩
  · exact absurd e0 hne
  have ylen := flat_len hys
  obtain ⟨news, hnews⟩ : ∃ news, news = (List.range (ys.length * ie.size)).map cvy := ⟨_, rfl⟩
  have nl : news.length = ys.length * ie.size := by rw [hnews]; simp
  have nget : ∀ j, j < ys.length * ie.size → news[j]? = some (cvy j) := fun j hj => by rw [hnews]; simp [hj]
  have ncell : ∀ j u, news[j]? = some u → w.cell? ((⟨yb, yo, none⟩ : Addr).add j) = some u := fun j u hu => by
    have hj : j < ys.length * ie.size := by have := (List.getElem?_eq_some_iff.1 hu).1; omega
    rw [nget j hj] at hu
    cases hu
    rw [Addr.add_lit]
    exact (ay j _ (List.getElem?_eq_getElem (by omega))).2.1
  have hrun := run_append_grow (P := P) w t o.type e ie z ht hi hz ⟨blk, 0, none⟩ 0 0 [] (by simp) (fun j v hv => by simp at hv) ⟨yb, yo, none⟩ ys.length ycap news nl ncell (by omega) (by omega) (by rw [Nat.zero_add, nextslicecap_zero hpos]; omega)
  have hge := grownCap_ge w (0 + ys.length) 0 e
  have R1 := (R.drew hS).newBox (e := e) (cs := [].toArray ++ news.toArray ++ Builtin.zeroCells z.cells (grownCap w (0 + ys.length) 0 e - (0 + ys.length))) (zs := ys.flatMap cells) hS hd
    (by rw [Array.size_append, Array.size_append]; simp only [List.size_toArray, nl, List.length_nil]; omega) (fun j v x hv hx => by
      have hlt := (List.getElem?_eq_some_iff.1 hv).1
      rw [Array.getElem?_append_left (by simp [nl]; omega)] at hx
      simp only [Array.empty_append, List.getElem?_toArray] at hx
      rw [nget j (by omega)] at hx
      cases hx
      obtain ⟨_, _, k3, k4⟩ := ay j v hv
      have r1 : RepD w.drew h.φ v (cvy j) := k3.mono (fun _ _ ho => ⟨ho, rfl, rfl⟩)
      exact ⟨.data r1, Grow.of_data r1, k4⟩)
  refine ⟨_, _, _, .inl (hexec _ _ hrun), R1, ⟨?_, fun j u zz hu hzz => ?_⟩, rfl⟩
  · rw [Nat.zero_add]
    exact .bsl d 0 _ ys.length _ w.heap.size (by simp) (by simpa using hge)
  cases j with
  | zero => simp [cells] at hu; subst hu; intro r sz xs e; cases e
  | succ j => simp [cells] at hu

/-- An append to an empty slice makes a box. -/
theorem Steps.appendE {s : St} {K : St → Prop} {d : Nat} {x y : X} {sz bytes e r blk : Nat} {ys : List V} {rest : List Ins} (hx : evXs s.env [x, y] = some [.sref blk 0 0 0, .slice r sz ys]) (hd : get s.bx d = none) (h0 : 0 < sz) (hb : ys.length * bytes ≤ 2 ^ 47) (hm : ys.length ≤ 2 ^ 47) (hne : ys ≠ [])
    (hk : Steps E rest K ((s.setB d ⟨ys.flatMap cells, false⟩).put (some d) (.bsl d 0 sz ys.length))) : Steps E (⟨some d, .append sz bytes e, [x, y], none⟩ :: rest) K s := by
  refine Step1.raw fun slots ops o i ro n a w h hc hs hi R Q next hn => ?_
  obtain ⟨os, cc⟩ := comp_of hc
  have hgo := guard_none cc rfl
  obtain ⟨c, p, q, t, ie, z, ho, hcal, hca, hct, ht, hie, hz, hzs, hsz, hby, rfl⟩ := opK_append cc.op
  obtain ⟨u, v, huv, hu, hv'⟩ := (opds_of R.1 cc.xs (evXs_ok hx)).two
  cases huv
  obtain ⟨x1, w', h', hr', R', ok, hy⟩ := done_appendE (d := d) (pre := True) (rb := [d]) R.1 E.ok ho hcal hca hct ht hie hz hzs hsz hby (ok_sref hu) rfl (ok_slice hv') (by rw [fs_b]; exact hd) h0 hb hm hne
  have key := rel_after cc R R' ok hy
  refine wpOp_done hi (wanted_none hgo) (opK_defer cc.op) hr' (hn _ _ _ h' hk ?_ hy)
  show E.relF _ _ _ _ _ _
  rw [(put_log _ _ _).1, (put_log _ _ _).2, fs_put, fs_setB]
  exact key

/-- Nothing is appended to an empty slice. -/
theorem Steps.appendE0 {s : St} {K : St → Prop} {d : Nat} {x y : X} {sz bytes e r blk : Nat} {rest : List Ins} (hx : evXs s.env [x, y] = some [.sref blk 0 0 0, .slice r sz []])
    (hk : Steps E rest K (s.put (some d) (.slice 0 sz []))) : Steps E (⟨some d, .append sz bytes e, [x, y], none⟩ :: rest) K s := by
  refine Step1.raw fun slots ops o i ro n a w h hc hs hi R Q next hn => ?_
  obtain ⟨os, cc⟩ := comp_of hc
  have hgo := guard_none cc rfl
  obtain ⟨c, p, q, t, ie, z, ho, hcal, hca, hct, ht, hie, hz, hzs, hsz, hby, rfl⟩ := opK_append cc.op
  obtain ⟨u, v, huv, hu, hv'⟩ := (opds_of R.1 cc.xs (evXs_ok hx)).two
  cases huv
  have hp := ok_sref hu
  have key : ∃ (ad : Option Addr) (cp : Nat), a.eval q = .slice ad 0 cp := by
    have r := ok_slice hv'
    generalize a.eval q = z at r
    rcases slice_at r with ⟨⟨ad, cap, rfl⟩, e0⟩ | ⟨blk, off, cap, cv, rfl, _⟩
    · exact ⟨ad, cap, rfl⟩
    · exact ⟨_, _, rfl⟩
  obtain ⟨ad, cp, eq⟩ := key
  have ea : c.args = #[p, q] := by rw [← Array.toList_inj]; simpa using hca
  have et : c.argTypes = #[t, t] := by rw [← Array.toList_inj]; simpa using hct
  have hex : (execOp a.eval o).run E.P w = .ok (.value (.slice (some ⟨blk, 0, none⟩) 0 0)) w := by
    simp only [execOp, ho, resolve, hcal, ea, et, Sem.run_bind, Sem.run_pure, Result.andThen_ok, invoke, builtin]
    cases ad with
    | none => simp [hp, eq, Builtin.append_, run_underlying ht, sizeOf, typeInfo, hie, Builtin.lenOf, run_firstCells_none, storeCells]
    | some ad =>
      have hf := run_firstCells_some (P := E.P) w ie.size 0 ad 0 cp [] (by simp) (fun j v hv => by simp at hv)
      simp [hp, eq, Builtin.append_, run_underlying ht, sizeOf, typeInfo, hie, Builtin.lenOf, hf, storeCells]
  have key := rel_after (eff := { v := .slice 0 sz [] }) cc R R.1 (x := .slice (some ⟨blk, 0, none⟩) 0 0) ⟨.data (.slice0 _ _ _), GrowV.of_data (w0 := w) (φ0 := h.φ) (.slice0 _ _ _)⟩ rfl
  refine wpOp_done hi (wanted_none hgo) (opK_defer cc.op) (.inl hex) (hn _ _ _ h hk ?_ rfl)
  show E.relF _ _ _ _ _ _
  rw [(put_log _ _ _).1, (put_log _ _ _).2, fs_put]
  exact key

end
end Go.Am

/-! AM, part Zj: calls that read and write an arena; constants beside it. -/
set_option linter.unusedVariables false
set_option linter.unusedSimpArgs false
namespace Go.Am
open Go.RowKit

/-- Blocks that keep what they hold. -/
def Kons (w : World) (φ : Nat → Nat) (K : List (Nat × List V)) : Prop := ∀ p ∈ K, ObOk w φ p.1 (.cells p.2) ∧ p.1 < w.heap.size

/-- **A CONTRACT OVER AN ARENA**: called with these data while the arena is A, it returns r and leaves B. -/
def CA (P : Program) (f : FuncId) (A : Arena) (K : List (Nat × List V)) (args : List V) (r : V) (B : Arena) : Prop :=
  callable P f = true ∧ ∀ (w : World) (φ : Nat → Nat) (xs : Array Value), (∀ b, w.heap.size ≤ b → φ b = 0) → Gl w φ → Ar w φ (fun _ => False) A → Kons w φ K → (∀ p ∈ K, p.1 ∉ A.map (·.1)) → RepL w φ args xs →
    Calls P f xs w fun e w' => ∃ φ' x, e = .returned x ∧ RepR w' φ' r x ∧ Ar w' φ' (fun _ => False) B ∧ Moved (fun b => b ∈ A.map (·.1)) w φ (fun b => b ∈ B.map (·.1)) w' φ'

/-- The surroundings of a call over an arena. -/
def SQ (w0 : World) (φ0 : Nat → Nat) (A : Arena) : Sur := fun _ _ M w φ => Moved (fun b => b ∈ A.map (·.1)) w0 φ0 M w φ

theorem SQ_ok (w0 : World) (φ0 : Nat → Nat) (A : Arena) (hg : Gl w0 φ0) : (SQ w0 φ0 A).ok := ⟨fun _ _ _ _ _ _ _ _ h k => Moved.trans h k, fun _ _ _ _ _ h => hg.mono h.ext⟩

/-- The same, with the arena that was there at the start. -/
def SQ1 (w0 : World) (φ0 : Nat → Nat) (A : Arena) : Sur := fun log stp M w φ =>
  ∃ B, (log = [] ∧ B = A ∨ log = encA B) ∧ stp = false ∧ Ar w φ M B ∧ SQ w0 φ0 A [] false (fun b => M b ∨ b ∈ B.map (·.1)) w φ

theorem SQ1_ok (w0 : World) (φ0 : Nat → Nat) (A : Arena) (hg : Gl w0 φ0) : (SQ1 w0 φ0 A).ok := by
  refine ⟨?_, fun _ _ _ _ _ ⟨_, _, _, _, h4⟩ => (SQ_ok w0 φ0 A hg).gl _ _ _ _ _ h4⟩
  intro log s M w φ M' w' φ' ⟨B, h1, h2, h3, h4⟩ mv
  have := (SA_ok (SQ_ok w0 φ0 A hg) [] false).move (encA B) s M w φ M' w' φ' ⟨B, rfl, h2, h3, h4⟩ mv
  obtain ⟨B', e1, e2, e3, e4⟩ := this
  obtain rfl := encA_inj e1
  exact ⟨B, h1, e2, e3, e4⟩

/-- Constants are at hand. -/
def InK (E : Env) (K : List (Nat × List V)) : Prop := ∀ log stp M w φ, E.S log stp M w φ → Kons w φ K

theorem encA_ne (A : Arena) : encA A ≠ [] := by simp [encA]

theorem CA_of {P : Program} {f nt : Nat} {ic : IC} {rs : List ResultVar} (hmix : P.follows .mixedOrders = true) (hch : chkF P f = some (nt, ic, rs)) {A B : Arena} {K : List (Nat × List V)} {args : List V} {r : V} (hlen : args.length ≤ nt)
    (hT : ∀ (S : Sur) (ok : S.ok) (S1 : Sur), InA (env0 P hmix nt S ok) S1 [] false → InK (env0 P hmix nt S ok) K → Tr (env0 P hmix nt S ok) none ic (qRet P rs r fun s => s.log = encA B) { entry args with log := encA A }) : CA P f A K args r B := by
  obtain ⟨fn, c, hf, hb, hnt, hc, rfl, hcall⟩ := chkF_ok hch
  refine ⟨hcall, fun w φ xs htop hgl hA hK hKA hrep => ?_⟩
  have okI := SQ_ok w φ A hgl
  have hInK : InK (env0 P hmix nt (SA (SQ w φ A) [] false) (SA_ok okI [] false)) K := by
    rintro log stp M w' φ' ⟨B', _, _, _, hm⟩ p hp
    obtain ⟨h1, h2⟩ := hK p hp
    have := hm.old p.1 h2 (hKA p hp)
    exact ⟨h1.mono this.1 hm.ext, Nat.lt_of_lt_of_le h2 hm.size⟩
  have hT1 := hT (SA (SQ w φ A) [] false) (SA_ok okI [] false) (SQ w φ A) (⟨Sub.refl _, okI⟩) hInK
  have e0 : (fun b => False ∨ b ∈ A.map (·.1)) = fun b => b ∈ A.map (·.1) := by funext b; simp
  have hT2 : Tr (env0 P hmix nt (SQ1 w φ A) (SQ1_ok w φ A hgl)) none ic (qRet P fn.results.toList r fun s => s.log = encA B) (entry args) := by
    intro c hc n a w1 g R Q' hq
    obtain ⟨B0, h1, h2, h3, h4⟩ := R.1.sur
    have hB0 : B0 = A := by
      rcases h1 with ⟨_, h⟩ | h
      · exact h
      · exact absurd h.symm (encA_ne _)
    subst hB0
    have R1 : (env0 P hmix nt (SA (SQ w φ B0) [] false) (SA_ok okI [] false)).rel { entry args with log := encA B0 } a w1 g := by
      refine ⟨{ R.1 with sur := ⟨B0, rfl, rfl, h3, h4⟩ }, fun l hl => ⟨?_, trivial⟩, R.2.2⟩
      intro log x M w φ xs hp
      exact absurd hp.length_le (by simp)
    refine hT1 c hc n a w1 g R1 Q' fun e t a' w' h' hQ R' hy => ?_
    refine hq e t a' w' h' hQ ?_ hy
    obtain ⟨B', k1, k2, k3, k4⟩ := R'.1.sur
    refine ⟨{ R'.1 with sur := ⟨B', .inr k1, k2, k3, k4⟩ }, fun l hl => ⟨?_, trivial⟩, R'.2.2⟩
    intro log x M w φ xs hp
    exact absurd hp.length_le (by simp)
  refine (calls_body (E := env0 P hmix nt (SQ1 w φ A) (SQ1_ok w φ A hgl)) (φ := φ) (y := none) hf hb hc hnt hlen hrep.1 (fun i v x h1 h2 => ⟨.data (hrep.2 i v x h1 h2), fun σ h => GrowV.of_data (hrep.2 i v x h1 h2)⟩)
    ⟨A, .inl ⟨rfl, rfl⟩, rfl, hA, by rw [e0]; exact Moved.refl _ htop⟩ htop (fun _ h => ((by cases h))) hT2).mono ?_
  rintro e w' ⟨s', h', x, rfl, hr, ⟨B', k1, k2, k3, k4⟩, ht, hk⟩
  have hB : B' = B := by
    rw [hk] at k1
    rcases k1 with ⟨h, _⟩ | h
    · exact absurd h (encA_ne _)
    · exact (encA_inj h).symm
  subst hB
  exact ⟨h'.φ, x, rfl, hr, ⟨k3.nd, k3.ok, fun _ _ h => h, k3.lt, k3.z⟩, ⟨k4.ext, k4.old, k4.size, k4.os, k4.tape, k4.output, fun b hb => k4.mine b (.inr hb), k4.top⟩⟩

section
variable {E : Env} {S0 : Sur} {l0 : List (List V)} {s0 : Bool} {A : Arena} {stp : Bool} {σ : FSt} {a : Act} {w : World} {h : Gh}

/-- A part of the arena is turned by a call. -/
theorem InA.moved {F A1 B : Arena} (hE : InA E S0 l0 s0) (R : E.relF (encA (F ++ A1)) stp σ a w h) {w' : World} {φ' : Nat → Nat} (m : Moved (fun b => b ∈ A1.map (·.1)) w h.φ (fun b => b ∈ B.map (·.1)) w' φ') (hB : Ar w' φ' (fun _ => False) B) : E.relF (encA (F ++ B)) stp σ a w' { h with φ := φ' } := by
  obtain ⟨M1, hM1, hlt1, ⟨A0, e, hs, hA, hS⟩, back⟩ := hE.sub _ _ _ _ _ R.1.sur R.1.mine
  obtain rfl := encA_inj e
  have hnd := hA.nd
  rw [List.map_append, List.nodup_append] at hnd
  have inA1 : ∀ b, b ∈ A1.map (·.1) → b ∈ (F ++ A1).map (·.1) := fun b hb => by rw [List.map_append]; exact List.mem_append.2 (.inr hb)
  have own : ∀ b, M1 b → w'.heap[b]? = w.heap[b]? ∧ φ' b = h.φ b := fun b hb => m.old b (hlt1 b hb) fun hm => by
    obtain ⟨p, hp, rfl⟩ := List.mem_map.1 (inA1 _ hm)
    exact hA.fr p hp hb
  have oldF : ∀ p ∈ F, p.1 < w.heap.size ∧ p.1 ∉ A1.map (·.1) ∧ (w'.heap[p.1]? = w.heap[p.1]? ∧ φ' p.1 = h.φ p.1) := fun p hp => by
    have h1 := hA.lt p (List.mem_append.2 (.inl hp))
    have h2 : p.1 ∉ A1.map (·.1) := fun h => hnd.2.2 _ (List.mem_map.2 ⟨p, hp, rfl⟩) _ h rfl
    exact ⟨h1, h2, m.old _ h1 h2⟩
  have ar : Ar w' φ' M1 (F ++ B) := by
    refine ⟨?_, fun p hp => ?_, fun p hp hM => ?_, fun p hp => ?_, fun p hp => ?_⟩
    · rw [List.map_append, List.nodup_append]
      refine ⟨hnd.1, hB.nd, fun x hx y hy e => ?_⟩
      subst e
      obtain ⟨p, hp, rfl⟩ := List.mem_map.1 hx
      obtain ⟨h1, h2, _⟩ := oldF p hp
      rcases m.mine _ hy with h3 | h3
      · exact h2 h3
      · omega
    · rcases List.mem_append.1 hp with hp | hp
      · exact (hA.ok p (List.mem_append.2 (.inl hp))).mono (oldF p hp).2.2.1 m.ext
      · exact hB.ok p hp
    · rcases List.mem_append.1 hp with hp | hp
      · exact hA.fr p (List.mem_append.2 (.inl hp)) hM
      · rcases m.mine p.1 (List.mem_map.2 ⟨p, hp, rfl⟩) with h3 | h3
        · obtain ⟨q, hq, e⟩ := List.mem_map.1 (inA1 _ h3)
          exact hA.fr q hq (e ▸ hM)
        · have := hlt1 _ hM; omega
    · rcases List.mem_append.1 hp with hp | hp
      · exact Nat.lt_of_lt_of_le (oldF p hp).1 m.size
      · exact hB.lt p hp
    · rcases List.mem_append.1 hp with hp | hp
      · exact (oldF p hp).2.2.2.trans (hA.z p (List.mem_append.2 (.inl hp)))
      · exact hB.z p hp
  have sa : SA S0 l0 s0 (encA (F ++ B)) stp M1 w' φ' := by
    refine ⟨F ++ B, rfl, hs, ar, hE.ok _ _ _ _ _ _ _ _ hS ⟨m.ext, fun b hb hn => m.old b hb fun hm => hn (.inr (inA1 b hm)), m.size, m.os, m.tape, m.output, fun b hb => ?_, m.top⟩⟩
    rcases hb with hb | hb
    · exact .inl (.inl hb)
    · rw [List.map_append] at hb
      rcases List.mem_append.1 hb with hb | hb
      · exact .inl (.inr (by rw [List.map_append]; exact List.mem_append.2 (.inl hb)))
      · rcases m.mine b hb with h3 | h3
        · exact .inl (.inr (inA1 b h3))
        · exact .inr h3
  have sur' := back (encA (F ++ B)) stp w' φ' sa m.ext own m.size m.top m.os m.tape m.output
  exact ⟨rel_round R.1 m.ext (fun b hb => own b (hM1 b hb)) m.size m.top sur', R.2⟩

/-- A call over an arena. -/
theorem wp_callA (hE : InA E S0 l0 s0) {F A1 B : Arena} {K : List (Nat × List V)} {ro : Option Nat} {n i : Nat} {ops : Array Oper} {slots : List (Option Nat)} {o : Oper} {ins : Ins} (R : E.relF (encA (F ++ A1)) stp σ a w h) {f : FuncId} {vs us : List V} {ids : List Nat} {r : V} {os : List Operand} (cc : Comp E.P E.nt slots o ins os) (hd : toDs σ.b vs = some (us, ids)) (hC : CA E.P f A1 K us r B)
    (hK : ∀ h', E.relF (encA (F ++ A1)) stp ((freeze σ.b ids).foldl (fun τ p => τ.set (.bx p.1) (.b p.2)) σ) a w h' → Kons w h'.φ K) (hKA : ∀ p ∈ K, p.1 ∉ A1.map (·.1)) (xs : Array Value) (hl : vs.length = xs.size)
    (hr : ∀ (i : Nat) v x, vs[i]? = some v → xs[i]? = some x → Rep w h.φ h.β h.y.l v x) (hi : ops[i]? = some o) (hw : Region.wanted o (yielded ops a.tmps) = true) (hrun : (execOp a.eval o).run E.P w = .ok (.enter f xs) w)
    {Q : Exit → Act → World → Prop} {next : Act → World → Prop} (hn : ∀ a' w' h', E.relF (encA (F ++ B)) stp ((σ.eff { v := r, wb := freeze σ.b ids }).put ins.d r) a' w' h' → h'.y = h.y → next a' w') : wpOpIn (wideR ro) n E.P ops Q i next a w := by
  unfold wpOpIn
  simp only [hi, hw, if_true, Oper.wpIn]
  refine ⟨fun _ _ => trivial, ?_⟩
  rw [Oper.semAt_eq _ _ _ (opK_defer cc.op), hrun]
  simp only [Oper.uponIn]
  refine ⟨fun e => by simp [wideR, Fence.wide] at e, ?_⟩
  obtain ⟨h1, R1, ext1, q1, q2, q3, hrep⟩ := args_data R.1 hd
  have R1' : E.relF (encA (F ++ A1)) stp ((freeze σ.b ids).foldl (fun τ p => τ.set (.bx p.1) (.b p.2)) σ) a w h1 := ⟨R1, by rw [q3]; exact R.2⟩
  have hAr := hE.ar R1'
  have hnd := hAr.nd
  rw [List.map_append, List.nodup_append] at hnd
  have arA : Ar w h1.φ (fun _ => False) A1 := ⟨hnd.2.1, fun p hp => hAr.ok p (List.mem_append.2 (.inr hp)), fun _ _ h => h, fun p hp => hAr.lt p (List.mem_append.2 (.inr hp)), fun p hp => hAr.z p (List.mem_append.2 (.inr hp))⟩
  refine (callsIn_wideR (hC.2 w h1.φ xs R1.top (E.ok.gl _ _ _ _ _ R1.sur) arA (hK h1 R1') hKA (hrep xs hl hr))).mono ?_
  rintro e w' ⟨φ', x, rfl, hres, hB, hm⟩
  have R2 := hE.moved R1' hm hB
  have hx : Rep w' φ' h1.β h1.y.l r x ∧ ∀ σ h w0, GrowV σ h w0 r x := by
    cases hres with
    | data hh => exact ⟨.data hh, fun σ h w0 => GrowV.of_data hh⟩
    | tuple vs xs hl hh =>
      refine ⟨.tuple vs xs hl hh, fun σ h w0 j u z hu hz => ?_⟩
      cases j with
      | zero => simp [cells] at hu; subst hu; intro r' sz xs' e; cases e
      | succ j => simp [cells] at hu
  have fin : Ok (σ.eff { v := r, wb := freeze σ.b ids }) { h1 with φ := φ' } w' r x := ⟨hx.1, hx.2 _ _ _⟩
  have R0 : E.relF (encA (F ++ B)) stp σ a w h → True := fun _ => trivial
  refine hn _ _ { h1 with φ := φ' } ⟨?_, ?_⟩ (by simpa using q3)
  · rw [cc.d]
    cases hd : o.dst with
    | none => exact R2.1
    | some d => exact R2.1.put (cc.dst d hd) fin.1 fin.2
  · exact R2.2

theorem Steps.callvA (hE : InA E S0 l0 s0) {K : St → Prop} {Ks : List (Nat × List V)} {s : St} {d : Option Nat} {f : FuncId} {xs : List X} {rest : List Ins} {vs first cap us : List V} {ids : List Nat} {r : V} {F A1 B : Arena} (hx : evXs s.env xs = some (.func (.func f) first cap :: vs)) (hd : toDs s.fs.b (first ++ vs ++ cap) = some (us, ids)) (hl : s.log = encA (F ++ A1))
    (hC : CA E.P f A1 Ks us r B) (hKs : (∀ p ∈ Ks, (p.1, Ob.cells p.2) ∈ F) ∨ InK E Ks ∧ ∀ p ∈ Ks, p.1 ∉ A1.map (·.1))
    (hk : Steps E rest K { (s.eff { v := r, wb := freeze s.fs.b ids }).put d r with log := encA (F ++ B) }) : Steps E (⟨d, .callv, xs, none⟩ :: rest) K s := by
  refine Step1.raw fun slots ops o i ro n a w h hc hs hi R Q next hn => ?_
  obtain ⟨os, cc⟩ := comp_of hc
  have hgo := guard_none cc rfl
  obtain ⟨c, t, e1, e2, rfl⟩ := opK_callv cc.op
  have hO := opds_of R.1 cc.xs (evXs_ok hx)
  have R' : E.relF (encA (F ++ A1)) s.stp s.fs a w h := by rw [← hl]; exact R
  have hAr := hE.ar R'
  have hnd := hAr.nd
  rw [List.map_append, List.nodup_append] at hnd
  cases hO with
  | cons o1 o2 =>
    obtain ⟨f', c', ef, hf, hc', h1, h2⟩ := ok_func o1
    obtain ⟨l1, l2⟩ := opds_args o2
    obtain ⟨m1, m2⟩ := arr3 hf hc' l1 h1 h2 l2
    refine wp_callA hE R' cc hd hC (fun h' R1 => ?_) (fun p hp => ?_) _ m1 m2 hi (wanted_none hgo) (run_callv hC.1 e2 e1 ef) fun a' w' h' R2 hy => hn _ a' w' h' hk ?_ hy
    · rcases hKs with hKs | hKs
      · intro p hp
        have := (hE.ar R1)
        exact ⟨this.ok _ (List.mem_append.2 (.inl (hKs p hp))), this.lt _ (List.mem_append.2 (.inl (hKs p hp)))⟩
      · exact hKs.1 _ _ _ _ _ R1.1.sur
    · rcases hKs with hKs | hKs
      · exact fun h => hnd.2.2 _ (List.mem_map.2 ⟨_, hKs p hp, rfl⟩) _ h rfl
      · exact hKs.2 p hp
    · show E.relF _ _ _ _ _ _
      have e : ({ (s.eff { v := r, wb := freeze s.fs.b ids }).put d r with log := encA (F ++ B) } : St).fs = ((s.fs.eff { v := r, wb := freeze s.fs.b ids }).put d r) := by
        cases d with
        | none => exact fs_eff s _
        | some d => show ((s.eff _).put (some d) r).fs = _; rw [fs_put, fs_eff]; rfl
      have e2 : ({ (s.eff { v := r, wb := freeze s.fs.b ids }).put d r with log := encA (F ++ B) } : St).stp = s.stp := by
        show ((s.eff _).put d r).stp = _
        rw [(put_log _ _ _).2, (eff_log _ _).2]
      rw [e, e2]
      exact R2

end
end Go.Am

/-! AM, part Zk: variables that lie in an arena; loads under guards, and of constants. -/
set_option linter.unusedVariables false
set_option linter.unusedSimpArgs false
namespace Go.Am
open Go.RowKit

theorem opK_alloc {P : Program} {o : Oper} {os : List Operand} {zs : List V} (hk : opK P o.op = some (.alloc zs, os)) : ∃ e i z, o.op = .alloc e ∧ P.info? e = some i ∧ i.zero = some z ∧ ofScs z.cells.toList = some zs ∧ os = [] := by
  cases ho : o.op <;> rw [ho] at hk <;> simp only [opK] at hk <;> (try (cases hk; done)) <;> (try (repeat' (split at hk <;> (try (cases hk; done)))))
  all_goals first
    | (simp only [Option.map_eq_some_iff, Prod.mk.injEq, K.alloc.injEq] at hk; obtain ⟨m, hm, rfl, rfl⟩ := hk; exact ⟨_, _, _, rfl, by assumption, by assumption, hm, rfl⟩)
    | (simp only [Option.map_eq_some_iff, Prod.mk.injEq] at hk; obtain ⟨_, _, h1, _⟩ := hk; cases h1; done)
    | (simp only [eqKind] at hk; repeat' (split at hk <;> (try (cases hk; done))))

section
variable {E : Env} {S0 : Sur} {l0 : List (List V)} {s0 : Bool} {A : Arena}

/-- A variable of an arena. -/
theorem Steps.aalloc (hE : InA E S0 l0 s0) {K : St → Prop} {s : St} {d : Nat} {zs : List V} {rest : List Ins} (hl : s.log = encA A)
    (hk : ∀ b, b ∉ A.map (·.1) → Steps E rest K { s.put (some d) (.rptr b 0) with log := encA ((b, .cells zs) :: A) }) : Steps E (⟨some d, .alloc zs, [], none⟩ :: rest) K s := by
  refine Step1.raw fun slots ops o i ro n a w h hc hs hi R Q next hn => ?_
  obtain ⟨os, cc⟩ := comp_of hc
  obtain ⟨e, ie, z, ho, hie, hz, hzs, rfl⟩ := opK_alloc cc.op
  have R' : E.relF (encA A) s.stp s.fs a w h := by rw [← hl]; exact R
  have hq : ∀ φ, zs.length = z.cells.toList.length ∧ ∀ (j : Nat) v x, zs[j]? = some v → z.cells.toList[j]? = some x → RepD (w.alloc (.cells z.cells e)) φ v x ∧ scalar v = true := fun φ => ofScs_rep hzs
  obtain ⟨R2, hnm⟩ := hE.fresh R' (.cells z.cells e) (.cells zs) (fun _ => ⟨z.cells, e, heap_alloc_new w _, by have := (hq h.φ).1; simp at this; omega, fun j v x hv hx => (hq h.φ).2 j v x hv (by simpa using hx)⟩)
  refine wpOp_done hi (wanted_none (guard_none cc rfl)) (opK_defer cc.op) (.inl ?_) (hn _ _ _ h (hk _ hnm) (rel_putA cc R2 (.data (.rptr _ _)) rfl) rfl)
  simp [execOp, ho, Instr.alloc, zeroValue, typeInfo, hie, hz, newVar, newRow]

/-- The same, with a closure. -/
theorem Steps.astoreD (hE : InA E S0 l0 s0) {K : St → Prop} {s : St} {x y : X} {rest : List Ins} {blk off : Nat} {cs : List V} {v : V} (hx : evXs s.env [x, y] = some [.rptr blk off, v]) (hl : s.log = encA A) (hA : (blk, .cells cs) ∈ A) (hoff : off < cs.length) (hv : toD s.fs.b 6 v = some (v, [])) (hsc : scalar v = true)
    (hk : Steps E rest K { s with log := encA (setA A blk (.cells (cs.set off v))) }) : Steps E (⟨none, .store 1, [x, y], none⟩ :: rest) K s := by
  refine Step1.raw fun slots ops o i ro n a w h hc hs hi R Q next hn => ?_
  obtain ⟨os, cc⟩ := comp_of hc
  have hgo := guard_none cc rfl
  have hdf := opK_defer cc.op
  obtain ⟨t, p, q, e1, e2, rfl⟩ := opK_store1 cc.op
  obtain ⟨u, u', hu, o1, o2⟩ := (opds_of R.1 cc.xs (evXs_ok hx)).two
  simp only [List.cons.injEq, and_true] at hu
  obtain ⟨hu1, rfl⟩ := hu
  subst hu1
  have ep := ok_rptr o1
  have R' : E.relF (encA A) s.stp s.fs a w h := by rw [← hl]; exact R
  have hAr := hE.ar R'
  obtain ⟨vs, et, h1, h2, h3⟩ := hAr.ok _ hA
  have rv : RepD w h.φ v (a.eval q) := (toD_rep R.1 6 _ v _ [] hv (fun i hi => by cases hi) o2.1).1
  have hc1 : (a.eval q).cells = #[a.eval q] := (scalar_value o2.1 hsc).2
  have hone : ∀ z ∈ [a.eval q], z.oneCell' = true := fun z hz => by
    obtain rfl : z = a.eval q := by simpa using hz
    exact (scalar_value o2.1 hsc).1
  have hrun := run_storeCells_at E.P blk off et [a.eval q] 0 vs w h1 (by simp; omega) hone
  simp only [Nat.add_zero] at hrun
  have R2 := hE.step R' (B := setA A blk (.cells (cs.set off v)))
    (fun b hb hn => setRow_other w blk b (vs.toList.take off ++ [a.eval q] ++ vs.toList.drop (off + [a.eval q].length)).toArray (fun e => hn (e ▸ List.mem_map.2 ⟨_, hA, rfl⟩))) (by simp) rfl rfl rfl
    (fun p hp => .inl (by rw [← setA_keys A blk (.cells (cs.set off v))]; exact List.mem_map.2 ⟨p, hp, rfl⟩)) (fun p hp => by rw [setA_keys]; exact List.mem_map.2 ⟨p, hp, rfl⟩) (by rw [setA_keys]; exact hAr.nd)
    (fun ext p hp => by
      rcases setA_mem hp with ⟨e, e'⟩ | ⟨hne, hp⟩
      · rw [e, e']
        refine ⟨_, et, setRow_heap w blk vs _ et (0, 0) h1, by simp; omega, fun j u z hu hz => ?_⟩
        rw [List.getElem?_toArray, splice_get (by simp; omega)] at hz
        by_cases ej : j = off
        · subst ej
          rw [List.getElem?_set_self hoff] at hu
          rw [if_neg (by omega), if_pos (by simp)] at hz
          cases hu
          simp at hz
          subst hz
          exact ⟨rv.mono ext, hsc⟩
        · rw [List.getElem?_set_ne (fun h => ej h.symm)] at hu
          have hz' : vs[j]? = some z := by
            by_cases h5 : j < off
            · rw [if_pos h5] at hz; simpa using hz
            · rw [if_neg h5, if_neg (by simp; omega)] at hz; simpa using hz
          exact ⟨(h3 j u z hu hz').1.mono ext, (h3 j u z hu hz').2⟩
      · exact (hAr.ok p hp).mono (setRow_other w blk p.1 _ hne) ext) (fun p hp => by
      have hk : p.1 ∈ A.map (·.1) := by rw [← setA_keys A blk (.cells (cs.set off v))]; exact List.mem_map.2 ⟨p, hp, rfl⟩
      obtain ⟨q', hq', e⟩ := List.mem_map.1 hk
      have := hAr.lt q' hq'
      rw [← e]; simpa using this)
  have hd : o.dst = none := cc.d.symm
  have R3 : E.rel { s with log := encA (setA A blk (.cells (cs.set off v))) } (a.put o.dst undef) (w.setRow blk (vs.toList.take off ++ [a.eval q] ++ vs.toList.drop (off + [a.eval q].length)).toArray) h := by rw [hd]; exact R2
  refine wpOp_done (x := undef) hi (wanted_none hgo) hdf (.inr ⟨?_, rfl⟩) (hn _ _ _ h hk R3 rfl)
  simp only [execOp, e1, ep, Instr.storeAt, Instr.sureAddr, Sem.run_bind, Sem.run_pure, Result.andThen_ok, storeVar, run_szOf e2]
  rw [if_neg (by rw [hc1]; simp), hc1]
  rw [hrun]
  rfl

theorem wanted_on {slots : List (Option Nat)} {ops : Array Oper} {log : List (List V)} {stp : Bool} {σ : FSt} {a : Act} {w : World} {h : Gh} {o : Oper} {ins : Ins} {os : List Operand} (cc : Comp E.P E.nt slots o ins os) (R : E.relF log stp σ a w h) (hs : slots = ops.toList.map (·.dst)) {t : Nat} {want gb : Bool} {gv : V} (hg : ins.g = some (t, want)) (hgv : σ.g t = some gv) (hgb : guardOf want gv = some gb) :
    (gb = true → Region.wanted o (yielded ops a.tmps) = true) ∧ (gb = false → Region.wanted o (yielded ops a.tmps) = false) := by
  rcases cc.guard with ⟨e, _⟩ | ⟨j, want1, t1, e1, e2, e3⟩
  · rw [hg] at e; cases e
  · rw [hg] at e3
    cases e3
    exact guard_wanted R hs e1 e2 hgv hgb

/-- A cell of an arena's block is read, under a guard that holds. -/
theorem Steps.gaload (hE : InA E S0 l0 s0) {K : St → Prop} {s : St} {d t : Nat} {want : Bool} {gv : V} {x : X} {rest : List Ins} {blk off : Nat} {cs : List V} {v : V} (hgv : get s.env t = some gv) (hgb : guardOf want gv = some true) (hx : evXs s.env [x] = some [.rptr blk off]) (hl : s.log = encA A) (hA : (blk, .cells cs) ∈ A) (hv : cs[off]? = some v)
    (hk : Steps E rest K (s.put (some d) (.cond true v))) : Steps E (⟨some d, .load 1 false, [x], some (t, want)⟩ :: rest) K s := by
  refine Step1.raw fun slots ops o i ro n a w h hc hs hi R Q next hn => ?_
  obtain ⟨os, cc⟩ := comp_of hc
  have hwt := (wanted_on cc R hs rfl (by rw [fs_g]; exact hgv) hgb).1 rfl
  have hdf := opK_defer cc.op
  obtain ⟨t, p, dd, e1, e2, e3, e4, rfl⟩ := opK_load1 cc.op
  obtain ⟨u, hu, o1⟩ := (opds_of R.1 cc.xs (evXs_ok hx)).one
  simp only [List.cons.injEq, and_true] at hu
  subst hu
  have ep := ok_rptr o1
  have R' : E.relF (encA A) s.stp s.fs a w h := by rw [← hl]; exact R
  obtain ⟨vs, et, h1, h2, h3⟩ := (hE.ar R').ok _ hA
  have hlt : off < vs.size := by have := (List.getElem?_eq_some_iff.1 hv).1; omega
  obtain ⟨r, sc⟩ := h3 off v _ hv (Array.getElem?_eq_getElem hlt)
  have hcell : w.cell? ⟨blk, off, none⟩ = some vs[off] := by rw [cell_of_row w blk off vs et (0, 0) h1]; simp [hlt]
  have hex : (execOp a.eval o).run E.P w = .ok (.value vs[off]) w := by
    simp only [execOp, e1, ep, Sem.run_bind]
    rw [run_loadAt (cs := [vs[off]]) e2 e3 rfl (fun j v hv => by
      cases j with
      | zero => cases hv; exact hcell
      | succ j => cases hv) (by rw [e4]; rfl)]
    rfl
  refine wpOp_done hi hwt hdf (.inl hex) (hn _ _ _ h hk ?_ rfl)
  have ok : Ok s.fs h w (.cond true v) vs[off] := ⟨.cond true v _ (fun _ => .data r) (fun e => (by cases e)), fun j u z hu hz => by
    cases j with
    | zero => simp [cells] at hu; subst hu; intro r' sz xs' e; cases e
    | succ j => simp [cells] at hu⟩
  show E.relF _ _ _ _ _ _
  rw [(put_log _ _ _).1, (put_log _ _ _).2, fs_put]
  exact rel_after (eff := { v := _ }) cc R R.1 ok rfl

end

section
variable {E : Env} {K : List (Nat × List V)}

/-- A constant is read. -/
theorem does_kload (hE : InK E K) {σ : FSt} {d blk off : Nat} {x : X} {cs : List V} {v : V} (hx : [x].mapM (evX σ) = some [.rptr blk off]) (hA : (blk, cs) ∈ K) (hv : cs[off]? = some v) : Does E σ ⟨some d, .load 1 false, [x], none⟩ { v := v } (xslots [x]) := by
  refine .ext rfl hx fun o os log stp σ' a w h ho R hO => ?_
  obtain ⟨t, p, dd, e1, e2, e3, e4, rfl⟩ := opK_load1 ho
  obtain ⟨u, hu, o1⟩ := hO.one
  simp only [List.cons.injEq, and_true] at hu
  subst hu
  have ep := ok_rptr o1
  obtain ⟨⟨vs, et, h1, h2, h3⟩, _⟩ := hE _ _ _ _ _ R.1.sur _ hA
  have hlt : off < vs.size := by have := (List.getElem?_eq_some_iff.1 hv).1; simp only at h2; omega
  obtain ⟨r, sc⟩ := h3 off v _ hv (Array.getElem?_eq_getElem hlt)
  have hcell : w.cell? ⟨blk, off, none⟩ = some vs[off] := by rw [cell_of_row w blk off vs et (0, 0) h1]; simp [hlt]
  refine ⟨vs[off], ?_, .data r, GrowV.of_data r⟩
  simp only [execOp, e1, ep, Sem.run_bind]
  rw [run_loadAt (cs := [vs[off]]) e2 e3 rfl (fun j v hv => by
    cases j with
    | zero => cases hv; exact hcell
    | succ j => cases hv) (by rw [e4]; rfl)]
  rfl

theorem Steps.kload (hE : InK E K) {s : St} {Kt : St → Prop} {d blk off : Nat} {x : X} {cs : List V} {v : V} {rest : List Ins} (hx : evXs s.env [x] = some [.rptr blk off]) (hA : (blk, cs) ∈ K) (hv : cs[off]? = some v) (hk : Steps E rest Kt (s.put (some d) v)) : Steps E (⟨some d, .load 1 false, [x], none⟩ :: rest) Kt s :=
  Step1.does (ins := ⟨some d, .load 1 false, [x], none⟩) (does_kload hE (evXs_ok hx) hA hv) hk

theorem TraceK.kload (hE : InK E K) {s : St} {Kt : List (List Loc × List Loc) → St → List Ins → Prop} {d blk off : Nat} {x : X} {cs : List V} {v : V} {rest : List Ins} (hx : evXs s.env [x] = some [.rptr blk off]) (hA : (blk, cs) ∈ K) (hv : cs[off]? = some v)
    (tr : TraceK E (s.put (some d) v) rest fun fp s' r' => Kt (([.slot d], xslots [x]) :: fp) s' r') : TraceK E s (⟨some d, .load 1 false, [x], none⟩ :: rest) Kt :=
  .step (ins := ⟨some d, .load 1 false, [x], none⟩) (eff := { v := v }) (does_kload hE (evXs_ok hx) hA hv) tr

end
end Go.Am

/-! AM, part Zl: a scope that no jump leaves. -/
set_option linter.unusedVariables false
set_option linter.unusedSimpArgs false
set_option maxRecDepth 20000
namespace Go

theorem stepR_scope' {P : Program} {b : Frame} {a : Act} {k : List Item} {cs : List Frame} {w : World} {c : Code} : step P (lone (b.atR a (.code (.scope c) :: k)) cs w) = .next (lone (b.atR a (.code c :: .inScope c :: k)) cs w) :=
  step_lone_go (by simp [stepG, stepG.exec, Frame.atR])
theorem stepR_inScope' {P : Program} {b : Frame} {a : Act} {k : List Item} {cs : List Frame} {w : World} {c : Code} : step P (lone (b.atR a (.inScope c :: k)) cs w) = .next (lone (b.atR a k) cs w) :=
  step_lone_go (by simp [stepG, stepG.exec, Frame.atR])

theorem wpIn_scope_straight {F : Fence} {n : Nat} {P : Program} {Q : Exit → Act → World → Prop} {a : Act} {w : World} {c : Code} (h : c.wpIn F n P (Exit.noGoto Q) a w) : (Code.scope c).wpIn F n P Q a w := by
  intro b k cs hro hb hr
  have h0 : (lone (b.atR a (.code (.scope c) :: k)) cs w).fenced P F := fenced_calm hb hr rfl
  obtain ⟨e, a₁, w₁, hq, harr⟩ := h b (.inScope c :: k) cs hro hb hr
  cases e with
  | normal => exact ⟨.normal, a₁, w₁, hq, .head h0 stepR_scope' (StepsIn.trans harr (.one (fenced_calm hb hr rfl) stepR_inScope'))⟩
  | exit id =>
    have hx : exitTo id (.inScope c :: k) = exitTo id k := by simp [exitTo]
    exact ⟨.exit id, a₁, w₁, hq, fun k' hk => .head h0 stepR_scope' (harr.1 k' (by rw [hx]; exact hk)),
      fun hr' hk => let ⟨k₁, h1, h2⟩ := harr.2 hr' (by rw [hx]; exact hk); ⟨k₁, h1, .head h0 stepR_scope' h2⟩⟩
  | goto l => exact hq.elim
  | ret => exact ⟨_, a₁, w₁, hq, .of_steps (.one h0 stepR_scope') harr⟩
  | panic ch => exact ⟨_, a₁, w₁, hq, .of_steps (.one h0 stepR_scope') harr⟩
  | outgrown => exact ⟨_, a₁, w₁, hq, .of_steps (.one h0 stepR_scope') harr⟩
end Go

namespace Go.Am
/-- What does not jump to a label. -/
def qScope (Q : Exit → St → Prop) : Exit → St → Prop
  | .goto _, _ => False
  | e, s => Q e s

theorem Tr.scope {E : Env} {ro : Option Nat} {Q : Exit → St → Prop} {s : St} {x : IC} (h : Tr E ro x (qScope Q) s) : Tr E ro (.scope x) Q s := fun c hc n a w g R Q' hq => by
  obtain ⟨ca, rfl, h1⟩ := compC_inv hc
  refine wpIn_scope_straight (h ca h1 n a w g R _ fun e s' a' w' h' k R' ey => ?_)
  cases e with
  | goto l => exact k.elim
  | _ => exact hq _ s' a' w' h' k R' ey
end Go.Am

/-! AM, part Zm: bytes as a string. -/
set_option linter.unusedVariables false
set_option linter.unusedSimpArgs false
namespace Go.Am
open Go.RowKit

theorem opK_raw5 {P : Program} {o : Oper} {os : List Operand} {t u : Nat} (hk : opK P o.op = some (.raw 5 t u, os)) : ∃ p, o.op = .convert t u p ∧ os = [p] := by
  cases ho : o.op <;> rw [ho] at hk <;> simp only [opK] at hk <;> (try (cases hk; done)) <;> (try (repeat' (split at hk <;> (try (cases hk; done)))))
  all_goals first
    | (simp only [Option.map_eq_some_iff, Prod.mk.injEq] at hk; obtain ⟨_, _, h1, _⟩ := hk; cases h1; done)
    | (simp only [eqKind] at hk; repeat' (split at hk <;> (try (cases hk; done))))
    | (cases hk; exact ⟨_, rfl, rfl⟩)

def byteV (b : UInt8) : V := .int .u8 (b.toNat : Int)

theorem flat_bytes (bs : List UInt8) : (bs.map byteV).flatMap cells = bs.map byteV := by
  induction bs with
  | nil => rfl
  | cons b bs ih => rw [List.map_cons, List.flatMap_cons, ih]; rfl

section
variable {E : Env}

/-- Bytes as a string. -/
theorem Steps.toStr {s : St} {K : St → Prop} {d t u e r : Nat} {x : X} {bs : List UInt8} {rest : List Ins} (h1 : E.P.underlying t = some (.slice e)) (h2 : E.P.underlying e = some (.int .u8)) (h3 : E.P.underlying u = some .string) (hx : evXs s.env [x] = some [.slice r 1 (bs.map byteV)])
    (hk : Steps E rest K (s.put (some d) (.str ⟨bs.toArray⟩))) : Steps E (⟨some d, .raw 5 t u, [x], none⟩ :: rest) K s := by
  refine Step1.raw fun slots ops o i ro n a w h hc hs hi R Q next hn => ?_
  obtain ⟨os, cc⟩ := comp_of hc
  obtain ⟨p, ho, rfl⟩ := opK_raw5 cc.op
  obtain ⟨v, hv, o1⟩ := (opds_of R.1 cc.xs (evXs_ok hx)).one
  simp only [List.cons.injEq, and_true] at hv
  subst hv
  have rr := ok_slice o1
  have key : (execOp a.eval o).run E.P w = .ok (.value (.string ⟨bs.toArray⟩)) w := by
    generalize hz : a.eval p = z at rr
    have hrun : (convert t u z).run E.P w = .ok (.string ⟨bs.toArray⟩) w := by
      rcases slice_at rr with ⟨⟨ad, cap, rfl⟩, e0⟩ | ⟨blk, off, cap, cv, rfl, hpos, _, hys, ay⟩
      · obtain rfl : bs = [] := by simpa using e0
        cases ad with
        | none => exact Go.Lib.run_convert_nil_bytes w t u e cap h1 h2 h3
        | some ad => exact run_convert_bytes_back (P := E.P) w t u e ad cap [] h1 h2 h3 (fun j hj => by simp at hj)
      · have hb := run_convert_bytes_back (P := E.P) w t u e ⟨blk, off, none⟩ cap bs h1 h2 h3 (fun j hj => by
          have hfl : ((bs.map byteV).flatMap cells)[j]? = some (byteV bs[j]) := by
            have e1 : (bs.map byteV).flatMap cells = bs.map byteV := by
              exact flat_bytes bs
            rw [e1]; simp [hj]
          obtain ⟨_, k2, k3, _⟩ := ay j _ hfl
          rw [Addr.add_lit, k2]
          have : cv j = .int .u8 (bs[j].toNat : Int) := by
            exact rep_int (.data k3 : Rep w h.φ h.β h.y.l _ _)
          rw [this])
        rw [List.length_map]
        exact hb
    simp only [execOp, ho, hz, Sem.run_bind, hrun]; rfl
  refine wpOp_done hi (wanted_none (guard_none cc rfl)) (opK_defer cc.op) (.inl key) (hn _ _ w h hk ?_ rfl)
  show E.relF _ _ _ _ _ _
  rw [(put_log _ _ _).1, (put_log _ _ _).2, fs_put]
  exact rel_after (eff := { v := _ }) cc R R.1 ⟨.data (.str _), GrowV.of_data (w0 := w) (φ0 := h.φ) (.str _)⟩ rfl

end
end Go.Am

/-! AM, part Zn: slices that grow in an arena. -/
set_option linter.unusedVariables false
set_option linter.unusedSimpArgs false
namespace Go.Am
open Go.RowKit

/-- A slice of an arena: it holds these, and there may be room behind them. -/
def OwnS (A : Arena) (sz : Nat) (xs : List V) (v : V) : Prop :=
  (xs = [] ∧ v = .nils) ∨ ∃ (blk cap : Nat) (cs : List V), v = .sref blk 0 xs.length cap ∧ (blk, Ob.cells cs) ∈ A ∧ cs.length = cap * sz ∧ xs.length ≤ cap ∧ cs.take (xs.length * sz) = xs.flatMap cells

/-- A block that is not this slice's. -/
def offS (v : V) (b : Nat) : Prop := ∀ blk off n cap, v = .sref blk off n cap → b ≠ blk

theorem ownS_refs {A : Arena} {sz : Nat} {xs : List V} {v : V} (h : OwnS A sz xs v) (B : Nat → Bool) (R : Nat → Option (Nat × Nat × Nat)) (n : Nat) : refsOk B R (n + 1) v = true := by
  rcases h with ⟨_, rfl⟩ | ⟨_, _, _, rfl, _⟩ <;> rfl

/-- A type's zero value, as data. -/
def zeroOf (P : Program) (e : Nat) : Option (List V) := match P.info? e with
  | some i => match i.zero with
    | some z => ofScs z.cells.toList
    | none => none
  | none => none

section
variable {E : Env} {S0 : Sur} {l0 : List (List V)} {s0 : Bool} {A : Arena}

theorem zero_rep {w : World} {φ : Nat → Nat} {z : Value} {zs : List V} (hz : ofScs z.cells.toList = some zs) (k : Nat) : (List.replicate k zs).flatten.length = (Builtin.zeroCells z.cells k).size ∧ ∀ (j : Nat) v x, (List.replicate k zs).flatten[j]? = some v → (Builtin.zeroCells z.cells k)[j]? = some x → RepD w φ v x ∧ scalar v = true := by
  obtain ⟨h1, h2⟩ := ofScs_rep (w := w) (φ := φ) hz
  have hl : zs.length = z.cells.size := by simpa using h1
  have hsz : (Builtin.zeroCells z.cells k).size = k * z.cells.size := by simp [Builtin.zeroCells]
  have hfl : ∀ k, (List.replicate k zs).flatten.length = k * zs.length := fun k => by simp
  refine ⟨by rw [hfl, hsz, hl], fun j v x hv hx => ?_⟩
  have hj : j < k * zs.length := by rw [← hfl]; exact (List.getElem?_eq_some_iff.1 hv).1
  have hpos : 0 < zs.length := by
    rcases Nat.eq_zero_or_pos zs.length with h | h
    · rw [h] at hj; simp at hj
    · exact h
  have key : ∀ (k j : Nat), j < k * zs.length → (List.replicate k zs).flatten[j]? = zs[j % zs.length]? := by
    intro k
    induction k with
    | zero => intro j hj; simp at hj
    | succ k ih =>
      intro j hj
      rw [List.replicate_succ, List.flatten_cons, List.getElem?_append]
      split
      · rename_i h; rw [Nat.mod_eq_of_lt h]
      · rename_i h
        rw [ih (j - zs.length) (by rw [Nat.add_mul] at hj; omega)]
        congr 1
        rw [← Nat.mod_eq_sub_mod (by omega)]
  rw [key k j hj] at hv
  have hx' : x = z.cells[j % z.cells.size]! := by
    unfold Builtin.zeroCells at hx
    rw [Array.getElem?_map] at hx
    rw [← hl] at hx ⊢
    simp [hj] at hx
    exact hx.symm
  have hm : j % zs.length < z.cells.size := by rw [← hl]; exact Nat.mod_lt _ hpos
  refine h2 (j % zs.length) v x hv ?_
  rw [hx', ← hl]
  simp [hm]

theorem opK_app {P : Program} {o : Oper} {os : List Operand} {sz bytes e : Nat} (hk : opK P o.op = some (.append sz bytes e, os)) : ∃ c p q t ie z, o.op = .call c ∧ c.callee = .builtin .append ∧ c.args.toList = [p, q] ∧ c.argTypes.toList = [t, t] ∧ P.underlying t = some (.slice e) ∧ P.info? e = some ie ∧ ie.zero = some z ∧ z.cells.size = ie.size ∧ ie.size = sz ∧ ie.bytes = bytes ∧ os = [p, q] := opK_append hk

/-- What is appended, as cells. -/
theorem app_news {σ : FSt} {h : Gh} {w : World} {sz : Nat} {ys : List V} {y : Value} {r : Nat} (hv : Ok σ h w (.slice r sz ys) y) (hne : ys ≠ []) :
    ∃ (a : Addr) (cap : Nat) (news : List Value), y = .slice (some a) ys.length cap ∧ news.length = ys.length * sz ∧ (ys.flatMap cells).length = ys.length * sz ∧ (∀ j u, news[j]? = some u → w.cell? (a.add j) = some u) ∧ (∀ u ∈ news, u.oneCell' = true) ∧ ∀ (j : Nat) v x, (ys.flatMap cells)[j]? = some v → news[j]? = some x → RepD w h.φ v x ∧ scalar v = true := by
  rcases slice_at (ok_slice hv) with ⟨_, e0⟩ | ⟨yb, yo, ycap, cvy, rfl, _, _, hys, ay⟩
  · exact absurd e0 hne
  have ylen := flat_len hys
  have nget : ∀ j, j < ys.length * sz → ((List.range (ys.length * sz)).map cvy)[j]? = some (cvy j) := fun j hj => by simp [hj]
  refine ⟨_, _, (List.range (ys.length * sz)).map cvy, rfl, by simp, ylen, fun j u hu => ?_, fun u hu => ?_, fun j v x hv hx => ?_⟩
  · have hj : j < ys.length * sz := by have := (List.getElem?_eq_some_iff.1 hu).1; simpa using this
    rw [nget j hj] at hu
    cases hu
    rw [Addr.add_lit]
    exact (ay j _ (List.getElem?_eq_getElem (by omega))).2.1
  · obtain ⟨j, hj⟩ := List.getElem?_of_mem hu
    have hlt : j < ys.length * sz := by have := (List.getElem?_eq_some_iff.1 hj).1; simpa using this
    rw [nget j hlt] at hj
    cases hj
    obtain ⟨_, _, k3, k4⟩ := ay j _ (List.getElem?_eq_getElem (by omega))
    exact (scalar_value (Rep.data (β := h.β) (y := h.y.l) k3) k4).1
  · have hlt : j < ys.length * sz := by have := (List.getElem?_eq_some_iff.1 hx).1; simpa using this
    rw [nget j hlt] at hx
    cases hx
    exact ⟨(ay j v hv).2.2.1, (ay j v hv).2.2.2⟩

/-- An append to nothing. -/
theorem Steps.appendA0 (hE : InA E S0 l0 s0) {K : St → Prop} {s : St} {d : Nat} {x y : X} {sz bytes e r : Nat} {ys zs : List V} {rest : List Ins} (hx : evXs s.env [x, y] = some [.nils, .slice r sz ys]) (hl : s.log = encA A) (hz0 : zeroOf E.P e = some zs) (h0 : 0 < sz) (hb : ys.length * bytes ≤ 2 ^ 47) (hm : ys.length ≤ 2 ^ 47) (hne : ys ≠ [])
    (hk : ∀ blk cap A', OwnS A' sz ys (.sref blk 0 ys.length cap) → (∀ p ∈ A, p ∈ A' ∧ p.1 ≠ blk) → Steps E rest K { s.put (some d) (.sref blk 0 ys.length cap) with log := encA A' }) : Steps E (⟨some d, .append sz bytes e, [x, y], none⟩ :: rest) K s := by
  refine Step1.raw fun slots ops o i ro n a w h hc hs hi R Q next hn => ?_
  obtain ⟨os, cc⟩ := comp_of hc
  obtain ⟨c, p, q, t, ie, z, ho, hcal, hca, hct, ht, hie, hz, hzs, rfl, rfl, rfl⟩ := opK_app cc.op
  obtain ⟨u, v, huv, hu, hv'⟩ := (opds_of R.1 cc.xs (evXs_ok hx)).two
  cases huv
  have hzs0 : ofScs z.cells.toList = some zs := by unfold zeroOf at hz0; rw [hie] at hz0; simp only [hz] at hz0; exact hz0
  obtain ⟨ad, cp, news, ey, nl, fl, ncell, none1, nrep⟩ := app_news hv' hne
  have hpos : 0 < ys.length := List.length_pos_iff.2 hne
  have ea : c.args = #[p, q] := by rw [← Array.toList_inj]; simpa using hca
  have et : c.argTypes = #[t, t] := by rw [← Array.toList_inj]; simpa using hct
  have hrun := run_append_nil (P := E.P) w t o.type e ie z ht hie hz ad ys.length cp news nl ncell hpos (by omega) (by omega)
  have hge := grownCap_ge w ys.length 0 e
  obtain ⟨g, hg⟩ : ∃ g, grownCap w ys.length 0 e = g := ⟨_, rfl⟩
  rw [hg] at hrun hge
  have hex : (execOp a.eval o).run E.P w = .ok (.value (.slice (some ⟨w.heap.size, 0, none⟩) ys.length g)) (w.drew.alloc (.cells (news.toArray ++ Builtin.zeroCells z.cells (g - ys.length)) e)) := by
    simp only [execOp, ho, resolve, hcal, ea, et, Sem.run_bind, Sem.run_pure, Result.andThen_ok, invoke, builtin]
    simp [ok_nils hu, ey, hrun]
  have R' : E.relF (encA A) s.stp s.fs a w h := by rw [← hl]; exact R
  have R1 := relF_drew R'
  have zr := zero_rep (w := w.drew.alloc (.cells (news.toArray ++ Builtin.zeroCells z.cells (g - ys.length)) e)) (φ := h.φ) hzs0 (g - ys.length)
  have hcl : (ys.flatMap cells ++ (List.replicate (g - ys.length) zs).flatten).length = g * ie.size := by
    have h1 : zs.length = ie.size := by have := (ofScs_rep (w := w) (φ := h.φ) hzs0).1; simp at this; omega
    rw [List.length_append, fl]
    simp only [List.length_flatten, List.map_replicate, List.sum_replicate_nat, h1]
    rw [← Nat.add_mul]; congr 1; omega
  obtain ⟨R2, hnm⟩ := hE.fresh R1 (.cells (news.toArray ++ Builtin.zeroCells z.cells (g - ys.length)) e) (.cells (ys.flatMap cells ++ (List.replicate (g - ys.length) zs).flatten)) (fun ext => ⟨_, e, heap_alloc_new w.drew _, by rw [Array.size_append, List.length_append, zr.1]; simp [nl, fl], fun j v x hv hx => by
    rw [List.getElem?_append] at hv
    rw [Array.getElem?_append] at hx
    simp only [List.size_toArray, nl] at hx
    rw [fl] at hv
    by_cases hj : j < ys.length * ie.size
    · rw [if_pos hj] at hv hx
      simp only [List.getElem?_toArray] at hx
      have := nrep j v x hv hx
      exact ⟨this.1.mono (Ext.trans (fun _ _ ho => ⟨ho, rfl, rfl⟩) ext), this.2⟩
    · rw [if_neg hj] at hv hx
      exact zr.2 _ v x hv hx⟩)
  refine wpOp_done hi (wanted_none (guard_none cc rfl)) (opK_defer cc.op) (.inl hex) (hn _ _ _ h (hk w.heap.size g _ (.inr ⟨w.heap.size, g, _, rfl, by simp, hcl, hge, ?_⟩) fun p hp => ⟨List.mem_cons_of_mem _ hp, fun e => hnm (List.mem_map.2 ⟨p, hp, e⟩)⟩) (rel_putA cc R2 (.data (.sref _ _ _ _)) rfl) rfl)
  rw [← fl, List.take_left]

/-- An append to a slice of the arena. -/
theorem Steps.appendA (hE : InA E S0 l0 s0) {K : St → Prop} {s : St} {d : Nat} {x y : X} {sz bytes e r blk cap : Nat} {xs ys zs : List V} {rest : List Ins} (hx : evXs s.env [x, y] = some [.sref blk 0 xs.length cap, .slice r sz ys]) (hl : s.log = encA A) (hO : OwnS A sz xs (.sref blk 0 xs.length cap)) (hz0 : zeroOf E.P e = some zs) (h0 : 0 < sz) (hb : (xs.length + ys.length) * bytes ≤ 2 ^ 47) (hm : xs.length + ys.length ≤ 2 ^ 47) (hne : ys ≠ [])
    (hk : ∀ blk' cap' A', OwnS A' sz (xs ++ ys) (.sref blk' 0 (xs ++ ys).length cap') → (∀ p ∈ A, p.1 ≠ blk → p ∈ A' ∧ p.1 ≠ blk') → Steps E rest K { s.put (some d) (.sref blk' 0 (xs ++ ys).length cap') with log := encA A' }) : Steps E (⟨some d, .append sz bytes e, [x, y], none⟩ :: rest) K s := by
  refine Step1.raw fun slots ops o i ro n a w h hc hs hi R Q next hn => ?_
  obtain ⟨os, cc⟩ := comp_of hc
  obtain ⟨c, p, q, t, ie, z, ho, hcal, hca, hct, ht, hie, hz, hzs, rfl, rfl, rfl⟩ := opK_app cc.op
  obtain ⟨u, v, huv, hu, hv'⟩ := (opds_of R.1 cc.xs (evXs_ok hx)).two
  cases huv
  obtain ⟨cs, hA, hcs, hcap, htk⟩ : ∃ cs, (blk, Ob.cells cs) ∈ A ∧ cs.length = cap * ie.size ∧ xs.length ≤ cap ∧ cs.take (xs.length * ie.size) = xs.flatMap cells := by
    rcases hO with ⟨_, h⟩ | ⟨b', c', cs, e1, e2, e3, e4, e5⟩
    · cases h
    · cases e1; exact ⟨cs, e2, e3, e4, e5⟩
  have hzs0 : ofScs z.cells.toList = some zs := by unfold zeroOf at hz0; rw [hie] at hz0; simp only [hz] at hz0; exact hz0
  obtain ⟨ad, cp, news, ey, nl, fl, ncell, none1, nrep⟩ := app_news hv' hne
  have hpos : 0 < ys.length := List.length_pos_iff.2 hne
  have ea : c.args = #[p, q] := by rw [← Array.toList_inj]; simpa using hca
  have et : c.argTypes = #[t, t] := by rw [← Array.toList_inj]; simpa using hct
  have ep := ok_sref hu
  have R' : E.relF (encA A) s.stp s.fs a w h := by rw [← hl]; exact R
  obtain ⟨vs, vt, w1, w2, w3⟩ := (hE.ar R').ok _ hA
  have hxl : xs.length * ie.size ≤ cs.length := by rw [hcs]; exact Nat.mul_le_mul_right _ hcap
  have fxl : (xs.flatMap cells).length = xs.length * ie.size := by rw [← htk, List.length_take]; omega
  have hfl2 : ((xs ++ ys).flatMap cells).length = (xs ++ ys).length * ie.size := by rw [List.flatMap_append, List.length_append, fxl, fl, List.length_append, Nat.add_mul]
  by_cases hroom : xs.length + ys.length ≤ cap
  · -- there is room
    have hin : 0 + xs.length * ie.size + news.length ≤ vs.size := by
      rw [w2, hcs, nl, Nat.zero_add, ← Nat.add_mul]; exact Nat.mul_le_mul_right _ hroom
    have hst := run_storeCells_at E.P blk (0 + xs.length * ie.size) vt news 0 vs w w1 (by simpa using hin) none1
    simp only [Nat.add_zero] at hst
    have hfc := run_firstCells_some (P := E.P) w ie.size ys.length ad ys.length cp news nl ncell
    have hrun : (Builtin.append_ #[t, t] o.type #[.slice (some ⟨blk, 0, none⟩) xs.length cap, .slice (some ad) ys.length cp]).run E.P w = .ok (.slice (some ⟨blk, 0, none⟩) (xs.length + ys.length) cap) (w.setRow blk (vs.toList.take (0 + xs.length * ie.size) ++ news ++ vs.toList.drop (0 + xs.length * ie.size + news.length)).toArray) := by
      simp [Builtin.append_, run_underlying ht, sizeOf, typeInfo, hie, Builtin.lenOf, hroom, hfc, Addr.add_lit]
      simp only [Nat.zero_add] at hst
      rw [hst]
      simp
    have hex : (execOp a.eval o).run E.P w = .ok (.value (.slice (some ⟨blk, 0, none⟩) (xs.length + ys.length) cap)) (w.setRow blk (vs.toList.take (0 + xs.length * ie.size) ++ news ++ vs.toList.drop (0 + xs.length * ie.size + news.length)).toArray) := by
      simp only [execOp, ho, resolve, hcal, ea, et, Sem.run_bind, Sem.run_pure, Result.andThen_ok, invoke, builtin]
      simp only [List.map_toArray, List.map_cons, List.map_nil, ep, ey, hrun]
      rfl
    have hsl : (vs.toList.take (0 + xs.length * ie.size) ++ news ++ vs.toList.drop (0 + xs.length * ie.size + news.length)).length = vs.size := by simp; omega
    have R2 := hE.turn R' hA (.cells (cs.take (xs.length * ie.size) ++ ys.flatMap cells ++ cs.drop (xs.length * ie.size + ys.length * ie.size))) (w' := w.setRow blk (vs.toList.take (0 + xs.length * ie.size) ++ news ++ vs.toList.drop (0 + xs.length * ie.size + news.length)).toArray)
      (fun k hk => setRow_other w blk k _ hk) (by simp) rfl rfl rfl (fun ext => ⟨_, vt, setRow_heap w blk vs _ vt (0, 0) w1, by simp [fl, nl]; omega, fun j v x hv hx => by
        rw [List.getElem?_toArray] at hx
        rw [List.append_assoc, List.getElem?_append] at hv hx
        have l1 : (cs.take (xs.length * ie.size)).length = xs.length * ie.size := by rw [List.length_take]; omega
        have l2 : (vs.toList.take (0 + xs.length * ie.size)).length = xs.length * ie.size := by rw [List.length_take]; simp; omega
        rw [l1] at hv
        rw [l2] at hx
        by_cases hj : j < xs.length * ie.size
        · rw [if_pos hj, List.getElem?_take_of_lt hj] at hv
          rw [if_pos hj, List.getElem?_take_of_lt (by omega)] at hx
          have := w3 j v x hv (by simpa using hx)
          exact ⟨this.1.mono ext, this.2⟩
        · rw [if_neg hj, List.getElem?_append] at hv hx
          rw [fl] at hv
          rw [nl] at hx
          by_cases hj2 : j - xs.length * ie.size < ys.length * ie.size
          · rw [if_pos hj2] at hv hx
            have := nrep _ v x hv hx
            exact ⟨this.1.mono ext, this.2⟩
          · rw [if_neg hj2, List.getElem?_drop] at hv hx
            have := w3 _ v x hv (by rw [← hx]; simp [nl])
            exact ⟨this.1.mono ext, this.2⟩⟩)
    have own : OwnS (setA A blk (.cells (cs.take (xs.length * ie.size) ++ ys.flatMap cells ++ cs.drop (xs.length * ie.size + ys.length * ie.size)))) ie.size (xs ++ ys) (.sref blk 0 (xs ++ ys).length cap) := by
      refine .inr ⟨blk, cap, cs.take (xs.length * ie.size) ++ ys.flatMap cells ++ cs.drop (xs.length * ie.size + ys.length * ie.size), rfl, ?_, ?_, ?_, ?_⟩
      · exact List.mem_map.2 ⟨_, hA, by simp⟩
      · have : (xs.length + ys.length) * ie.size ≤ cap * ie.size := Nat.mul_le_mul_right _ hroom
        rw [Nat.add_mul] at this
        simp [fl]; omega
      · simpa using hroom
      · rw [List.length_append, Nat.add_mul, List.flatMap_append, ← htk]
        rw [List.take_append_of_le_length (by rw [List.length_append, List.length_take, fl]; omega), List.take_of_length_le (by rw [List.length_append, List.length_take, fl]; omega)]
    refine wpOp_done hi (wanted_none (guard_none cc rfl)) (opK_defer cc.op) (.inl hex) (hn _ _ _ h (hk blk cap _ own fun p hp hne => ⟨List.mem_map.2 ⟨p, hp, by rw [if_neg hne]⟩, hne⟩) (rel_putA cc R2 (by rw [List.length_append]; exact ⟨.data (.sref _ _ _ _), GrowV.of_data (w0 := w) (φ0 := h.φ) (.sref _ _ _ _)⟩) rfl) rfl)
  · -- it grows
    obtain ⟨olds, holds⟩ : ∃ olds, olds = vs.toList.take (xs.length * ie.size) := ⟨_, rfl⟩
    have ol : olds.length = xs.length * ie.size := by rw [holds, List.length_take]; simp; omega
    have ocell : ∀ j v, olds[j]? = some v → w.cell? ((⟨blk, 0, none⟩ : Addr).add j) = some v := fun j v hv => by
      have hj : j < xs.length * ie.size := by have := (List.getElem?_eq_some_iff.1 hv).1; omega
      rw [Addr.add_lit, Nat.zero_add, cell_of_row w blk j vs vt (0, 0) w1]
      rw [holds, List.getElem?_take_of_lt hj] at hv
      simpa using hv
    have hrun := run_append_grow (P := E.P) w t o.type e ie z ht hie hz ⟨blk, 0, none⟩ xs.length cap olds ol ocell ad ys.length cp news nl ncell (by omega) (by omega) (growslice_fits (by omega) (by omega))
    have hge := grownCap_ge w (xs.length + ys.length) cap e
    obtain ⟨g, hg⟩ : ∃ g, grownCap w (xs.length + ys.length) cap e = g := ⟨_, rfl⟩
    rw [hg] at hrun hge
    have hex : (execOp a.eval o).run E.P w = .ok (.value (.slice (some ⟨w.heap.size, 0, none⟩) (xs.length + ys.length) g)) (w.drew.alloc (.cells (olds.toArray ++ news.toArray ++ Builtin.zeroCells z.cells (g - (xs.length + ys.length))) e)) := by
      simp only [execOp, ho, resolve, hcal, ea, et, Sem.run_bind, Sem.run_pure, Result.andThen_ok, invoke, builtin]
      simp only [List.map_toArray, List.map_cons, List.map_nil, ep, ey, hrun]
      rfl
    have R1 := relF_drew R'
    have zr := zero_rep (w := w.drew.alloc (.cells (olds.toArray ++ news.toArray ++ Builtin.zeroCells z.cells (g - (xs.length + ys.length))) e)) (φ := h.φ) hzs0 (g - (xs.length + ys.length))
    have zl : zs.length = ie.size := by have := (ofScs_rep (w := w) (φ := h.φ) hzs0).1; simp at this; omega
    have hcl : ((xs ++ ys).flatMap cells ++ (List.replicate (g - (xs.length + ys.length)) zs).flatten).length = g * ie.size := by
      rw [List.length_append, hfl2]
      simp only [List.length_flatten, List.map_replicate, List.sum_replicate_nat, zl, List.length_append]
      rw [← Nat.add_mul]; congr 1; omega
    obtain ⟨R2, hnm⟩ := hE.fresh R1 (.cells (olds.toArray ++ news.toArray ++ Builtin.zeroCells z.cells (g - (xs.length + ys.length))) e) (.cells ((xs ++ ys).flatMap cells ++ (List.replicate (g - (xs.length + ys.length)) zs).flatten)) (fun ext => ⟨_, e, heap_alloc_new w.drew _, by rw [Array.size_append, List.length_append, zr.1, hfl2]; simp [nl, ol, Nat.add_mul], fun j v x hv hx => by
      have ext' : Ext w h.φ (w.drew.alloc (.cells (olds.toArray ++ news.toArray ++ Builtin.zeroCells z.cells (g - (xs.length + ys.length))) e)) h.φ := Ext.trans (fun _ _ ho => ⟨ho, rfl, rfl⟩) ext
      rw [List.flatMap_append, List.append_assoc, List.getElem?_append, fxl] at hv
      rw [Array.append_assoc, Array.getElem?_append] at hx
      simp only [List.size_toArray, ol] at hx
      by_cases hj : j < xs.length * ie.size
      · rw [if_pos hj] at hv hx
        simp only [List.getElem?_toArray] at hx
        rw [← htk, List.getElem?_take_of_lt hj] at hv
        rw [holds, List.getElem?_take_of_lt hj] at hx
        have := w3 j v x hv (by simpa using hx)
        exact ⟨this.1.mono ext', this.2⟩
      · rw [if_neg hj, List.getElem?_append, fl] at hv
        rw [if_neg hj, Array.getElem?_append] at hx
        simp only [List.size_toArray, nl] at hx
        by_cases hj2 : j - xs.length * ie.size < ys.length * ie.size
        · rw [if_pos hj2] at hv hx
          simp only [List.getElem?_toArray] at hx
          have := nrep _ v x hv hx
          exact ⟨this.1.mono ext', this.2⟩
        · rw [if_neg hj2] at hv hx
          exact zr.2 _ v x hv hx⟩)
    refine wpOp_done hi (wanted_none (guard_none cc rfl)) (opK_defer cc.op) (.inl hex) (hn _ _ _ h (hk w.heap.size g _ (.inr ⟨w.heap.size, g, _, rfl, by simp, hcl, by simpa using hge, ?_⟩) fun p hp _ => ⟨List.mem_cons_of_mem _ hp, fun e => hnm (List.mem_map.2 ⟨p, hp, e⟩)⟩) (rel_putA cc R2 (by rw [List.length_append]; exact ⟨.data (.sref _ _ _ _), GrowV.of_data (w0 := w) (φ0 := h.φ) (.sref _ _ _ _)⟩) rfl) rfl)
    rw [← hfl2, List.take_left]

end
end Go.Am

/-! AM, part Zo: calls by name over an arena; what lies in an arena becomes data. -/
set_option linter.unusedVariables false
set_option linter.unusedSimpArgs false
namespace Go.Am
open Go.RowKit

section
variable {E : Env} {S0 : Sur} {l0 : List (List V)} {s0 : Bool} {A : Arena}

theorem Steps.callA (hE : InA E S0 l0 s0) {K : St → Prop} {Ks : List (Nat × List V)} {s : St} {d : Option Nat} {f : FuncId} {xs : List X} {rest : List Ins} {vs us : List V} {ids : List Nat} {r : V} {F A1 B : Arena} (hx : evXs s.env xs = some vs) (hd : toDs s.fs.b vs = some (us, ids)) (hl : s.log = encA (F ++ A1))
    (hC : CA E.P f A1 Ks us r B) (hKs : (∀ p ∈ Ks, (p.1, Ob.cells p.2) ∈ F) ∨ InK E Ks ∧ ∀ p ∈ Ks, p.1 ∉ A1.map (·.1))
    (hk : Steps E rest K { (s.eff { v := r, wb := freeze s.fs.b ids }).put d r with log := encA (F ++ B) }) : Steps E (⟨d, .call f, xs, none⟩ :: rest) K s := by
  refine Step1.raw fun slots ops o i ro n a w h hc hs hi R Q next hn => ?_
  obtain ⟨os, cc⟩ := comp_of hc
  have hgo := guard_none cc rfl
  obtain ⟨c, e1, e2, rfl⟩ := opK_call cc.op
  have R' : E.relF (encA (F ++ A1)) s.stp s.fs a w h := by rw [← hl]; exact R
  have hAr := hE.ar R'
  have hnd := hAr.nd
  rw [List.map_append, List.nodup_append] at hnd
  obtain ⟨l1, l2⟩ := opds_args (opds_of R.1 cc.xs (evXs_ok hx))
  refine wp_callA hE R' cc hd hC (fun h' R1 => ?_) (fun p hp => ?_) _ l1 l2 hi (wanted_none hgo) (run_call hC.1 e2 e1) fun a' w' h' R2 hy => hn _ a' w' h' hk ?_ hy
  · rcases hKs with hKs | hKs
    · intro p hp
      have := (hE.ar R1)
      exact ⟨this.ok _ (List.mem_append.2 (.inl (hKs p hp))), this.lt _ (List.mem_append.2 (.inl (hKs p hp)))⟩
    · exact hKs.1 _ _ _ _ _ R1.1.sur
  · rcases hKs with hKs | hKs
    · exact fun h => hnd.2.2 _ (List.mem_map.2 ⟨_, hKs p hp, rfl⟩) _ h rfl
    · exact hKs.2 p hp
  · show E.relF _ _ _ _ _ _
    have e : ({ (s.eff { v := r, wb := freeze s.fs.b ids }).put d r with log := encA (F ++ B) } : St).fs = ((s.fs.eff { v := r, wb := freeze s.fs.b ids }).put d r) := by
      cases d with
      | none => exact fs_eff s _
      | some d => show ((s.eff _).put (some d) r).fs = _; rw [fs_put, fs_eff]; rfl
    have e2 : ({ (s.eff { v := r, wb := freeze s.fs.b ids }).put d r with log := encA (F ++ B) } : St).stp = s.stp := by
      show ((s.eff _).put d r).stp = _
      rw [(put_log _ _ _).2, (eff_log _ _).2]
    rw [e, e2]
    exact R2

/-- A block's cells are frozen. -/
def cut (φ : Nat → Nat) (blk len : Nat) : Nat → Nat := fun b => if b = blk then len else φ b

theorem InA.close (hE : InA E S0 l0 s0) {stp : Bool} {σ : FSt} {a : Act} {w : World} {h : Gh} (R : E.relF (encA A) stp σ a w h) {blk : Nat} {o : Ob} (hA : (blk, o) ∈ A) (len : Nat) {B : Arena} (hkeys : ∀ p ∈ B, p.1 ∈ A.map (·.1) ∧ p.1 ≠ blk) (hnd : (B.map (·.1)).Nodup)
    (hB : Ext w h.φ w (cut h.φ blk len) → ∀ p ∈ B, ObOk w (cut h.φ blk len) p.1 p.2) : Ext w h.φ w (cut h.φ blk len) ∧ E.relF (encA B) stp σ a w { h with φ := cut h.φ blk len } := by
  obtain ⟨M1, hM1, hlt1, ⟨A0, e, hs, hAr, hS⟩, back⟩ := hE.sub _ _ _ _ _ R.1.sur R.1.mine
  obtain rfl := encA_inj e
  have hz := hAr.z _ hA
  simp only at hz
  have other : ∀ b, b ≠ blk → cut h.φ blk len b = h.φ b := fun b hb => by unfold cut; rw [if_neg hb]
  have ext : Ext w h.φ w (cut h.φ blk len) := fun b o ho => by
    have hb : b ≠ blk := fun e => by rw [e, hz] at ho; omega
    exact ⟨by rw [other b hb]; exact ho, rfl, rfl⟩
  have top' : ∀ b, w.heap.size ≤ b → cut h.φ blk len b = 0 := fun b hb => by
    have := hAr.lt _ hA
    simp only at this
    rw [other b (by omega)]; exact R.1.top b hb
  have own : ∀ b, M1 b → w.heap[b]? = w.heap[b]? ∧ cut h.φ blk len b = h.φ b := fun b hb => ⟨rfl, other b fun e => by
    have := hAr.fr _ hA
    exact this (e ▸ hb)⟩
  have keyOld : ∀ p ∈ B, ∃ q ∈ A, q.1 = p.1 := fun p hp => by
    obtain ⟨q, hq, e⟩ := List.mem_map.1 (hkeys p hp).1
    exact ⟨q, hq, e⟩
  have sa : SA S0 l0 s0 (encA B) stp M1 w (cut h.φ blk len) := by
    refine ⟨B, rfl, hs, ⟨hnd, hB ext, fun p hp hM => ?_, fun p hp => ?_, fun p hp => ?_⟩, hE.ok _ _ _ _ _ _ _ _ hS ⟨ext, fun b hb hn => ⟨rfl, other b fun e => hn (.inr (List.mem_map.2 ⟨_, hA, e.symm⟩))⟩, Nat.le_refl _, rfl, rfl, rfl, fun b hb => .inl ?_, top'⟩⟩
    · obtain ⟨q, hq, e⟩ := keyOld p hp
      exact hAr.fr q hq (e ▸ hM)
    · obtain ⟨q, hq, e⟩ := keyOld p hp
      rw [← e]; exact hAr.lt q hq
    · obtain ⟨q, hq, e⟩ := keyOld p hp
      rw [other _ (hkeys p hp).2, ← e]; exact hAr.z q hq
    · rcases hb with hb | hb
      · exact .inl hb
      · obtain ⟨p, hp, rfl⟩ := List.mem_map.1 hb
        exact .inr (hkeys p hp).1
  have sur' := back (encA B) stp w (cut h.φ blk len) sa ext own (Nat.le_refl _) top' rfl rfl rfl
  exact ⟨ext, rel_round R.1 ext (fun b hb => own b (hM1 b hb)) (Nat.le_refl _) top' sur', R.2⟩

/-- A block's cells, as a slice of data. -/
theorem close_rep {w : World} {φ : Nat → Nat} {blk cap sz : Nat} {cs xs : List V} (ho : ObOk w φ blk (.cells cs)) (h0 : 0 < sz) (hcap : xs.length ≤ cap) (hxs : ∀ x ∈ xs, (cells x).length = sz) (htk : cs.take (xs.length * sz) = xs.flatMap cells) (ext : Ext w φ w (cut φ blk (xs.length * sz))) :
    RepD w (cut φ blk (xs.length * sz)) (.slice 0 sz xs) (.slice (some ⟨blk, 0, none⟩) xs.length cap) := by
  obtain ⟨vs, et, h1, h2, h3⟩ := ho
  have fl := flat_len hxs
  have at' : ∀ (j : Nat) v, (xs.flatMap cells)[j]? = some v → j < xs.length * sz ∧ j < vs.size ∧ cs[j]? = some v := fun j v hv => by
    have hj : j < xs.length * sz := by have := (List.getElem?_eq_some_iff.1 hv).1; omega
    rw [← htk, List.getElem?_take_of_lt hj] at hv
    have := (List.getElem?_eq_some_iff.1 hv).1
    exact ⟨hj, by omega, hv⟩
  refine .slice sz xs blk 0 xs.length cap (fun j => vs.getD j undef) h0 rfl hcap hxs (fun j v hv => ?_) (fun j v hv => ?_)
  · obtain ⟨a1, a2, a3⟩ := at' j v hv
    have e : vs[j]? = some (vs.getD j undef) := by simp [a2]
    refine ⟨by unfold cut; rw [if_pos rfl]; omega, ?_, (h3 j v _ a3 e).2⟩
    rw [Nat.zero_add, cell_of_row w blk j vs et (0, 0) h1, e]
  · obtain ⟨a1, a2, a3⟩ := at' j v hv
    have e : vs[j]? = some (vs.getD j undef) := by simp [a2]
    exact (h3 j v _ a3 e).1.mono ext

def dropA (A : Arena) (blk : Nat) : Arena := A.filter fun p => p.1 != blk

theorem dropA_mem {A : Arena} {blk : Nat} {p : Nat × Ob} : p ∈ dropA A blk ↔ p ∈ A ∧ p.1 ≠ blk := by
  unfold dropA; rw [List.mem_filter]; simp

theorem dropA_nd {A : Arena} {blk : Nat} (h : (A.map (·.1)).Nodup) : ((dropA A blk).map (·.1)).Nodup := h.sublist (List.Sublist.map _ List.filter_sublist)

/-- A slice of an arena becomes data. -/
theorem Wk.close (hE : InA E S0 l0 s0) {s : St} {t blk cap sz : Nat} {cs xs : List V} (ht : get s.env t = some (.sref blk 0 xs.length cap)) (hl : s.log = encA A) (hA : (blk, Ob.cells cs) ∈ A) (h0 : 0 < sz) (hcap : xs.length ≤ cap) (hxs : ∀ x ∈ xs, (cells x).length = sz) (htk : cs.take (xs.length * sz) = xs.flatMap cells) :
    Wk E s { s.put (some t) (.slice 0 sz xs) with log := encA (dropA A blk) } := by
  intro a w h R
  obtain ⟨q1, q2, _⟩ := R.1.env t _ (by rw [fs_g]; exact ht)
  have R' : E.relF (encA A) s.stp s.fs a w h := by rw [← hl]; exact R
  have hAr := hE.ar R'
  obtain ⟨ext, R2⟩ := hE.close R' hA (xs.length * sz) (B := dropA A blk) (fun p hp => ⟨List.mem_map.2 ⟨p, (dropA_mem.1 hp).1, rfl⟩, (dropA_mem.1 hp).2⟩) (dropA_nd hAr.nd) (fun ext p hp => (hAr.ok p (dropA_mem.1 hp).1).mono rfl ext)
  have rd := close_rep (cap := cap) (hAr.ok _ hA) h0 hcap hxs htk ext
  have e : a.tmps.getD t undef = .slice (some ⟨blk, 0, none⟩) xs.length cap := by
    revert q2
    generalize a.tmps.getD t undef = x1
    intro q2
    cases q2 with
    | data r => cases r; rfl
  have R3 := R2.1.put (d := t) (v := .slice 0 sz xs) (x := a.tmps.getD t undef) q1 (by rw [e]; exact .data rd) (by rw [e]; exact GrowV.of_data rd)
  rw [put_self (by rw [R.1.size]; exact q1)] at R3
  refine ⟨_, ⟨?_, R2.2⟩, rfl⟩
  show Rel E.nt E.S _ s.stp (s.put (some t) (.slice 0 sz xs)).fs _ _ _
  rw [fs_put]
  exact R3

/-- Less of an arena, in whatever order. -/
theorem Wk.keep (hE : InA E S0 l0 s0) {s : St} {B : Arena} (hl : s.log = encA A) (hsub : ∀ p ∈ B, p ∈ A) (hnd : (B.map (·.1)).Nodup) : Wk E s { s with log := encA B } := by
  intro a w h R
  have R' : E.relF (encA A) s.stp s.fs a w h := by rw [← hl]; exact R
  obtain ⟨M1, hM1, hlt1, ⟨A0, e, hs, hAr, hS⟩, back⟩ := hE.sub _ _ _ _ _ R'.1.sur R'.1.mine
  obtain rfl := encA_inj e
  have sa : SA S0 l0 s0 (encA B) s.stp M1 w h.φ := by
    refine ⟨B, rfl, hs, ⟨hnd, fun p hp => hAr.ok p (hsub p hp), fun p hp => hAr.fr p (hsub p hp), fun p hp => hAr.lt p (hsub p hp), fun p hp => hAr.z p (hsub p hp)⟩, hE.ok _ _ _ _ _ _ _ _ hS ⟨Ext.refl _ _, fun _ _ _ => ⟨rfl, rfl⟩, Nat.le_refl _, rfl, rfl, rfl, fun b hb => .inl ?_, R'.1.top⟩⟩
    rcases hb with hb | hb
    · exact .inl hb
    · obtain ⟨p, hp, rfl⟩ := List.mem_map.1 hb
      exact .inr (List.mem_map.2 ⟨p, hsub p hp, rfl⟩)
  have sur' := back (encA B) s.stp w h.φ sa (Ext.refl _ _) (fun _ _ => ⟨rfl, rfl⟩) (Nat.le_refl _) R'.1.top rfl rfl rfl
  exact ⟨h, ⟨{ R'.1 with sur := sur' }, R'.2⟩, rfl⟩

theorem mem_setA_ne {b : Nat} {o : Ob} {p : Nat × Ob} (h : p ∈ A) (hne : p.1 ≠ b) : p ∈ setA A b o := List.mem_map.2 ⟨p, h, by rw [if_neg hne]⟩
theorem mem_setA_self {b : Nat} {o o' : Ob} (h : (b, o') ∈ A) : (b, o) ∈ setA A b o := List.mem_map.2 ⟨_, h, by rw [if_pos rfl]⟩

/-- An append to a slice of one's own. -/
theorem Steps.appendOwn (hE : InA E S0 l0 s0) {K : St → Prop} {s : St} {d : Nat} {x y : X} {v : V} {sz bytes e r : Nat} {xs ys zs : List V} {rest : List Ins} (hx : evXs s.env [x, y] = some [v, .slice r sz ys]) (hl : s.log = encA A) (hO : OwnS A sz xs v) (hz0 : zeroOf E.P e = some zs) (h0 : 0 < sz) (hb : (xs.length + ys.length) * bytes ≤ 2 ^ 47) (hm : xs.length + ys.length ≤ 2 ^ 47) (hne : ys ≠ [])
    (hk : ∀ v' A', OwnS A' sz (xs ++ ys) v' → (∀ p ∈ A, offS v p.1 → p ∈ A' ∧ offS v' p.1) → Steps E rest K { s.put (some d) v' with log := encA A' }) : Steps E (⟨some d, .append sz bytes e, [x, y], none⟩ :: rest) K s := by
  rcases hO with ⟨rfl, rfl⟩ | ⟨blk, cap, cs, rfl, h2, h3, h4, h5⟩
  · refine Steps.appendA0 hE hx hl hz0 h0 (by simpa using hb) (by simpa using hm) hne fun blk cap A' hO hp => hk _ A' hO fun p hpA _ => ⟨(hp p hpA).1, fun b o n c e => ?_⟩
    cases e; exact (hp p hpA).2
  · refine Steps.appendA hE hx hl (.inr ⟨blk, cap, cs, rfl, h2, h3, h4, h5⟩) hz0 h0 hb hm hne fun blk' cap' A' hO hp => hk _ A' hO fun p hpA hoff => ?_
    have := hp p hpA (hoff _ _ _ _ rfl)
    refine ⟨this.1, fun b o n c e => ?_⟩
    cases e; exact this.2

end
end Go.Am

/-! AM, part Zp: slices that are made in an arena; their elements; rows of rows that become data. -/
set_option linter.unusedVariables false
set_option linter.unusedSimpArgs false
namespace Go.Am
open Go.RowKit

theorem opK_mkbox {P : Program} {o : Oper} {os : List Operand} {sz bytes : Nat} {zs : List V} (hk : opK P o.op = some (.mkbox sz bytes zs, os)) : ∃ t p q e ie z, o.op = .makeSlice t p q ∧ P.underlying t = some (.slice e) ∧ P.info? e = some ie ∧ ie.zero = some z ∧ z.cells.size = ie.size ∧ ofScs z.cells.toList = some zs ∧ ie.size = sz ∧ ie.bytes = bytes ∧ os = [p, q] := by
  cases ho : o.op <;> rw [ho] at hk <;> simp only [opK] at hk <;> (try (cases hk; done)) <;> (try (repeat' (split at hk <;> (try (cases hk; done)))))
  all_goals first
    | (simp only [Option.map_eq_some_iff, Prod.mk.injEq, K.mkbox.injEq] at hk
       obtain ⟨zs', hof, ⟨rfl, rfl, rfl⟩, rfl⟩ := hk
       exact ⟨_, _, _, _, _, _, rfl, by assumption, by assumption, by assumption, beq_iff_eq.1 (by assumption), hof, rfl, rfl, rfl⟩)
    | (simp only [Option.map_eq_some_iff, Prod.mk.injEq] at hk; obtain ⟨_, _, h1, _⟩ := hk; cases h1; done)
    | (simp only [eqKind] at hk; repeat' (split at hk <;> (try (cases hk; done))))

theorem opK_iaddrS {P : Program} {o : Oper} {os : List Operand} {sz : Nat} (hk : opK P o.op = some (.iaddrS sz, os)) : ∃ t p q e, o.op = .indexAddr t p q ∧ P.underlying t = some (.slice e) ∧ szOf P e = some sz ∧ os = [p, q] := by
  cases ho : o.op <;> rw [ho] at hk <;> simp only [opK] at hk <;> (try (cases hk; done)) <;> (try (repeat' (split at hk <;> (try (cases hk; done)))))
  all_goals first
    | (simp only [Option.map_eq_some_iff, Prod.mk.injEq, K.iaddrS.injEq] at hk
       obtain ⟨m, hm, rfl, rfl⟩ := hk
       exact ⟨_, _, _, _, rfl, by assumption, hm, rfl⟩)
    | (simp only [Option.map_eq_some_iff, Prod.mk.injEq] at hk; obtain ⟨_, _, h1, _⟩ := hk; cases h1; done)
    | (simp only [eqKind] at hk; repeat' (split at hk <;> (try (cases hk; done))))

section
variable {E : Env} {S0 : Sur} {l0 : List (List V)} {s0 : Bool} {A : Arena}

/-- A slice is made in the arena. -/
theorem Steps.amkbox (hE : InA E S0 l0 s0) {K : St → Prop} {s : St} {d N : Nat} {k1 k2 : IntKind} {n1 n2 : Int} {x y : X} {sz bytes : Nat} {zs : List V} {rest : List Ins} (hx : evXs s.env [x, y] = some [.int k1 n1, .int k2 n2]) (e1 : n1 = (N : Int)) (e2 : n2 = (N : Int)) (hN : N ≤ 1000000) (hb : bytes ≤ 1000000) (hs : N * sz ≤ 1000000) (hl : s.log = encA A)
    (hk : ∀ b, b ∉ A.map (·.1) → Steps E rest K { s.put (some d) (.sref b 0 N N) with log := encA ((b, .cells (List.replicate N zs).flatten) :: A) }) : Steps E (⟨some d, .mkbox sz bytes zs, [x, y], none⟩ :: rest) K s := by
  subst e1 e2
  refine Step1.raw fun slots ops o i ro n a w h hc hsl hi R Q next hn => ?_
  obtain ⟨os, cc⟩ := comp_of hc
  obtain ⟨t, p, q, e, ie, z, ho, ht, hie, hz, hzs, hof, rfl, rfl, rfl⟩ := opK_mkbox cc.op
  obtain ⟨u, v, huv, hu, hv'⟩ := (opds_of R.1 cc.xs (evXs_ok hx)).two
  cases huv
  have R' : E.relF (encA A) s.stp s.fs a w h := by rw [← hl]; exact R
  have hbb : (ie.bytes : Int) * (N : Int) ≤ 281474976710656 := by
    have : ie.bytes * N ≤ 1000000 * 1000000 := Nat.mul_le_mul hb hN
    have h2 : ((ie.bytes * N : Nat) : Int) ≤ 281474976710656 := by omega
    push_cast at h2; exact h2
  have hr := run_make (P := E.P) w t e ie z ht hie hz k1 k2 N N (by omega) (Int.le_refl _) hbb (by omega)
  simp only [Int.toNat_natCast] at hr
  obtain ⟨R2, hnm⟩ := hE.fresh R' (.cells (madeCells z.cells (N * ie.size)) e) (.cells (List.replicate N zs).flatten) (fun ext => by
    obtain ⟨g1, g2⟩ := ofScs_rep (w := w.alloc (.cells (madeCells z.cells (N * ie.size)) e)) (φ := h.φ) hof
    have hcl : zs.length = z.cells.size := by rw [g1]; simp
    refine ⟨_, e, heap_alloc_new w _, by rw [size_madeCells]; simp [hcl, hzs], fun j v x hv hx => ?_⟩
    rw [rep_flat] at hv
    split at hv
    · rename_i hj
      have hx' : x = z.cells[j % z.cells.size]! := by
        have hj' : j < N * ie.size := by rw [← hzs, ← hcl]; exact hj
        unfold madeCells at hx
        simp [hj'] at hx
        exact hx.symm
      have hpos : 0 < zs.length := by
        rcases Nat.eq_zero_or_pos zs.length with h | h
        · rw [h] at hj; simp at hj
        · exact h
      have hjm : j % zs.length < zs.length := Nat.mod_lt _ hpos
      exact g2 (j % zs.length) v x hv (by
        rw [hcl, hx']
        have : j % z.cells.size < z.cells.size := by rw [← hcl]; exact hjm
        simp [this])
    · cases hv)
  refine wpOp_done hi (wanted_none (guard_none cc rfl)) (opK_defer cc.op) (.inl ?_) (hn _ _ _ h (hk _ hnm) (rel_putA cc R2 (.data (.sref _ _ _ _)) rfl) rfl)
  simp [execOp, ho, ok_int hu, ok_int hv', hr]

end

/-- An element of a slice that is known exactly. -/
theorem does_sidx {E : Env} {σ : FSt} {d blk off n cap sz : Nat} {k : IntKind} {i : Int} {j : Nat} {x y : X} (hx : [x, y].mapM (evX σ) = some [.sref blk off n cap, .int k i]) (hi : i = (j : Int)) (hj : j < n) : Does E σ ⟨some d, .iaddrS sz, [x, y], none⟩ { v := .rptr blk (off + j * sz) } (xslots [x, y]) := by
  subst hi
  refine .ext rfl hx fun o os log stp σ' a w h ho R hO => ?_
  obtain ⟨t, p, q, e, e1, e2, e3, rfl⟩ := opK_iaddrS ho
  obtain ⟨u, v, huv, hu, hv'⟩ := hO.two
  cases huv
  refine ⟨.pointer (some ⟨blk, off + j * sz, none⟩), ?_, .data (.rptr _ _), GrowV.of_data (w0 := w) (φ0 := h.φ) (.rptr _ _)⟩
  have h1 : (j : Int) < (n : Int) := by omega
  simp only [execOp, e1, ok_sref hu, ok_int hv']
  simp [Instr.indexAt, asIntOf, run_underlying e2, run_szOf e3, h1, hj, Addr.add_lit]

theorem Steps.sidx {E : Env} {s : St} {K : St → Prop} {d blk off n cap sz : Nat} {k : IntKind} {i : Int} {j : Nat} {x y : X} {rest : List Ins} (hx : evXs s.env [x, y] = some [.sref blk off n cap, .int k i]) (hi : i = (j : Int)) (hj : j < n) (hk : Steps E rest K (s.put (some d) (.rptr blk (off + j * sz)))) : Steps E (⟨some d, .iaddrS sz, [x, y], none⟩ :: rest) K s :=
  Step1.does (ins := ⟨some d, .iaddrS sz, [x, y], none⟩) (does_sidx (evXs_ok hx) hi hj) hk

theorem TraceK.sidx {E : Env} {s : St} {K : List (List Loc × List Loc) → St → List Ins → Prop} {d blk off n cap sz : Nat} {k : IntKind} {i : Int} {j : Nat} {x y : X} {rest : List Ins} (hx : evXs s.env [x, y] = some [.sref blk off n cap, .int k i]) (hi : i = (j : Int)) (hj : j < n)
    (tr : TraceK E (s.put (some d) (.rptr blk (off + j * sz))) rest fun fp s' r' => K (([.slot d], xslots [x, y]) :: fp) s' r') : TraceK E s (⟨some d, .iaddrS sz, [x, y], none⟩ :: rest) K :=
  .step (ins := ⟨some d, .iaddrS sz, [x, y], none⟩) (eff := { v := .rptr blk (off + j * sz) }) (does_sidx (evXs_ok hx) hi hj) tr

section
variable {E : Env} {S0 : Sur} {l0 : List (List V)} {s0 : Bool} {A : Arena}

/-- A slice of an arena that lies in a slice of data becomes data. -/
theorem Wk.closeIn (hE : InA E S0 l0 s0) {s : St} {t r blk cap sz j : Nat} {cs xs ys : List V} (ht : get s.env t = some (.slice r 1 ys)) (hj : ys[j]? = some (.sref blk 0 xs.length cap)) (hl : s.log = encA A) (hA : (blk, Ob.cells cs) ∈ A) (h0 : 0 < sz) (hcap : xs.length ≤ cap) (hxs : ∀ x ∈ xs, (cells x).length = sz) (htk : cs.take (xs.length * sz) = xs.flatMap cells) (h1 : ∀ y ∈ ys, cells y = [y]) :
    Wk E s { s.put (some t) (.slice 0 1 (ys.set j (.slice 0 sz xs))) with log := encA (dropA A blk) } := by
  intro a w h R
  obtain ⟨q1, q2, q3⟩ := R.1.env t _ (by rw [fs_g]; exact ht)
  have R' : E.relF (encA A) s.stp s.fs a w h := by rw [← hl]; exact R
  have hAr := hE.ar R'
  obtain ⟨ext, R2⟩ := hE.close R' hA (xs.length * sz) (B := dropA A blk) (fun p hp => ⟨List.mem_map.2 ⟨p, (dropA_mem.1 hp).1, rfl⟩, (dropA_mem.1 hp).2⟩) (dropA_nd hAr.nd) (fun ext p hp => (hAr.ok p (dropA_mem.1 hp).1).mono rfl ext)
  have rd := close_rep (cap := cap) (hAr.ok _ hA) h0 hcap hxs htk ext
  have rs := ok_slice ⟨q2, q3⟩
  obtain ⟨x, hx⟩ : ∃ x, a.tmps.getD t undef = x := ⟨_, rfl⟩
  rw [hx] at rs
  have hjl : j < ys.length := (List.getElem?_eq_some_iff.1 hj).1
  have rd2 : RepD w (cut h.φ blk (xs.length * sz)) (.slice 0 1 (ys.set j (.slice 0 sz xs))) x := by
    have rs := rs.mono ext
    rcases slice_at rs with ⟨_, e0⟩ | ⟨yb, yo, ycap, cvy, rfl, hp, hcy, hys, ay⟩
    · rw [e0] at hjl; simp at hjl
    have hset : ∀ x ∈ ys.set j (.slice 0 sz xs), cells x = [x] := fun x hx => by
      rcases List.mem_or_eq_of_mem_set hx with hx | rfl
      · exact h1 x hx
      · rfl
    rw [flat_one h1] at ay
    refine .slice 1 _ yb yo ys.length ycap cvy (by omega) (by simp) hcy (fun x hx => by rw [hset x hx]; rfl) (fun k v hk => ?_) (fun k v hk => ?_)
    · rw [flat_one hset] at hk
      by_cases ek : k = j
      · subst ek
        rw [List.getElem?_set_self hjl] at hk
        cases hk
        obtain ⟨a1, a2, _, _⟩ := ay k _ hj
        exact ⟨a1, a2, rfl⟩
      · rw [List.getElem?_set_ne (fun h => ek h.symm)] at hk
        obtain ⟨a1, a2, _, a4⟩ := ay k _ hk
        exact ⟨a1, a2, a4⟩
    · rw [flat_one hset] at hk
      by_cases ek : k = j
      · subst ek
        rw [List.getElem?_set_self hjl] at hk
        cases hk
        obtain ⟨_, _, a3, _⟩ := ay k _ hj
        generalize hz : cvy k = z at a3
        cases a3
        exact rd
      · rw [List.getElem?_set_ne (fun h => ek h.symm)] at hk
        exact (ay k _ hk).2.2.1
  have R3 := R2.1.put (d := t) (v := .slice 0 1 (ys.set j (.slice 0 sz xs))) (x := a.tmps.getD t undef) q1 (by rw [hx]; exact .data rd2) (by rw [hx]; exact GrowV.of_data rd2)
  rw [put_self (by rw [R.1.size]; exact q1)] at R3
  refine ⟨_, ⟨?_, R2.2⟩, rfl⟩
  show Rel E.nt E.S _ s.stp (s.put (some t) (.slice 0 1 (ys.set j (.slice 0 sz xs)))).fs _ _ _
  rw [fs_put]
  exact R3

end
end Go.Am

/-! AM, part Zq: two strings as one. -/
set_option linter.unusedVariables false
set_option linter.unusedSimpArgs false
namespace Go.Am
open Go.RowKit

theorem opK_add {P : Program} {o : Oper} {os : List Operand} (hk : opK P o.op = some (.bin .add, os)) : ∃ t u p q, o.op = .binOp .add t p q u ∧ os = [p, q] := by
  cases ho : o.op <;> rw [ho] at hk <;> simp only [opK] at hk <;> (try (cases hk; done)) <;> (try (repeat' (split at hk <;> (try (cases hk; done)))))
  all_goals first
    | (simp only [Option.map_eq_some_iff, Prod.mk.injEq] at hk; obtain ⟨_, _, h1, _⟩ := hk; cases h1; done)
    | (simp only [eqKind] at hk; repeat' (split at hk <;> (try (cases hk; done))))
    | (cases hk; exact ⟨_, _, _, _, rfl, rfl⟩)

theorem str_app (l m : List UInt8) : (⟨l.toArray⟩ : ByteArray) ++ ⟨m.toArray⟩ = ⟨(l ++ m).toArray⟩ := by
  apply ByteArray.ext
  rw [ByteArray.data_append]; simp

section
variable {E : Env}

/-- Two strings as one. -/
theorem Steps.strAdd {s : St} {K : St → Prop} {d : Nat} {x y : X} {l m : List UInt8} {rest : List Ins} (hx : evXs s.env [x, y] = some [.str ⟨l.toArray⟩, .str ⟨m.toArray⟩]) (hl : l.length + m.length ≤ 9223372036854775807)
    (hk : Steps E rest K (s.put (some d) (.str ⟨(l ++ m).toArray⟩))) : Steps E (⟨some d, .bin .add, [x, y], none⟩ :: rest) K s := by
  refine Step1.raw fun slots ops o i ro n a w h hc hs hi R Q next hn => ?_
  obtain ⟨os, cc⟩ := comp_of hc
  obtain ⟨t, u, p, q, ho, rfl⟩ := opK_add cc.op
  obtain ⟨v1, v2, hv, o1, o2⟩ := (opds_of R.1 cc.xs (evXs_ok hx)).two
  simp only [List.cons.injEq, and_true] at hv
  obtain ⟨rfl, rfl⟩ := hv
  have key : (execOp a.eval o).run E.P w = .ok (.value (.string ⟨(l ++ m).toArray⟩)) w := by
    have hadd := run_string_add_sum (P := E.P) (w := w) (⟨l.toArray⟩ : ByteArray) ⟨m.toArray⟩ (by simpa [ByteArray.size] using hl)
    rw [str_app] at hadd
    have hb : (binOp .add t (.string ⟨l.toArray⟩) (.string ⟨m.toArray⟩)).run E.P w = .ok (.string ⟨(l ++ m).toArray⟩) w := by rw [binOp_string_add]; exact hadd
    have hg : (eqGuard .add t p q (.string ⟨l.toArray⟩) (.string ⟨m.toArray⟩)).run E.P w = .ok () w := by simp [eqGuard]
    simp only [execOp, ho, ok_str o1, ok_str o2, Sem.run_bind, hg, hb, Result.andThen_ok]; rfl
  refine wpOp_done hi (wanted_none (guard_none cc rfl)) (opK_defer cc.op) (.inl key) (hn _ _ w h hk ?_ rfl)
  show E.relF _ _ _ _ _ _
  rw [(put_log _ _ _).1, (put_log _ _ _).2, fs_put]
  exact rel_after (eff := { v := _ }) cc R R.1 ⟨.data (.str _), GrowV.of_data (w0 := w) (φ0 := h.φ) (.str _)⟩ rfl

end
end Go.Am

/-! The code of the loaded functions, compiled. -/
set_option maxRecDepth 100000
namespace Go.Proofs.YtffoiccokigjcaaDoor
open Go.Am
theorem mixed : Tryd.prog.follows .mixedOrders = true := by kernel_rfl
/-- paravane/bin.Map -/
abbrev F.bin_Map : Nat := 12
def ir.bin_Map : IC :=
 (.seq (.reg [⟨(some 3), .box, [.t 0], none⟩,
     ⟨(some 6), .mov, [.c (.str ⟨#[]⟩)], none⟩,
     ⟨(some 7), .mov, [.c (.int .i64 0)], none⟩])
   (.seq (.seq (.reg [⟨(some 16), .load 6 true, [.t 3], none⟩,
     ⟨(some 17), .call 35, [.t 16], none⟩,
     ⟨(some 8), .mov, [.t 17], none⟩])
   (.seq (.reg [⟨(some 18), .mov, [.t 8], none⟩,
     ⟨(some 19), .bin .neq, [.t 18, .c (.int .i64 0)], none⟩])
   (.cond (.t 19) (.seq (.reg [⟨(some 20), .mov, [.t 8], none⟩,
     ⟨(some 6), .mov, [.c (.str ⟨#[]⟩)], none⟩,
     ⟨(some 7), .mov, [.t 20], none⟩])
   .ret) .skip)))
   (.seq (.reg [⟨(some 21), .mov, [.t 1], none⟩,
     ⟨(some 22), .len false, [.t 21], none⟩,
     ⟨(some 23), .faddr 3, [.t 3], none⟩,
     ⟨(some 24), .load 1 false, [.t 23], none⟩,
     ⟨(some 25), .faddr 4, [.t 3], none⟩,
     ⟨(some 26), .load 1 false, [.t 25], none⟩,
     ⟨(some 27), .bin .mul, [.t 24, .t 26], none⟩,
     ⟨(some 28), .bin .eql, [.t 22, .t 27], none⟩,
     ⟨(some 9), .mov, [.t 28], none⟩])
   (.seq (.seq (.reg [⟨(some 29), .mov, [.t 1], none⟩,
     ⟨(some 30), .len false, [.t 29], none⟩,
     ⟨(some 31), .mov, [.c (.int .i64 0)], none⟩])
   (.block 0 (.loop (.seq (.reg [⟨(some 32), .bin .lss, [.t 31, .t 30], none⟩])
   (.seq (.cond (.t 32) .skip (.exit 0))
   (.seq (.block 1 (.seq (.reg [⟨(some 33), .iaddrS 1, [.t 29, .t 31], none⟩,
     ⟨(some 34), .load 1 false, [.t 33], none⟩,
     ⟨(some 11), .mov, [.t 34], none⟩])
   (.reg [⟨(some 35), .mov, [.t 9], none⟩,
     ⟨(some 36), .mov, [.t 35], none⟩,
     ⟨(some 37), .mov, [.t 11], (some (36, true))⟩,
     ⟨(some 38), .len false, [.t 37], (some (36, true))⟩,
     ⟨(some 39), .faddr 5, [.t 3], (some (36, true))⟩,
     ⟨(some 40), .load 1 false, [.t 39], (some (36, true))⟩,
     ⟨(some 41), .len false, [.t 40], (some (36, true))⟩,
     ⟨(some 42), .bin .eql, [.t 38, .t 41], (some (36, true))⟩,
     ⟨(some 43), .pick, [.t 36, .t 42, .c (.bool false)], none⟩,
     ⟨(some 44), .mov, [.t 43], none⟩,
     ⟨(some 45), .mov, [.t 11], (some (44, true))⟩,
     ⟨(some 46), .call 45, [.t 45, .c (.func (.func 46) [] [])], (some (44, true))⟩,
     ⟨(some 47), .un .not, [.t 46], (some (44, true))⟩,
     ⟨(some 48), .pick, [.t 44, .t 47, .c (.bool false)], none⟩,
     ⟨(some 9), .mov, [.t 48], none⟩])))
   (.reg [⟨(some 49), .bin .add, [.t 31, .c (.int .i64 1)], none⟩,
     ⟨(some 31), .mov, [.t 49], none⟩])))))))
   (.seq (.seq (.reg [⟨(some 50), .mov, [.t 9], none⟩,
     ⟨(some 51), .un .not, [.t 50], none⟩])
   (.cond (.t 51) (.seq (.reg [⟨(some 6), .mov, [.c (.str ⟨#[]⟩)], none⟩,
     ⟨(some 7), .mov, [.c (.int .i64 73)], none⟩])
   .ret) .skip))
   (.seq (.seq (.reg [⟨(some 52), .mov, [.t 2], none⟩,
     ⟨(some 53), .faddr 5, [.t 3], none⟩,
     ⟨(some 54), .load 1 false, [.t 53], none⟩,
     ⟨(some 55), .len false, [.t 54], none⟩,
     ⟨(some 56), .bin .sub, [.t 55, .c (.int .i64 1)], none⟩,
     ⟨(some 57), .call 47, [.t 52, .c (.int .i64 0), .t 56], none⟩,
     ⟨(some 58), .un .not, [.t 57], none⟩])
   (.cond (.t 58) (.seq (.reg [⟨(some 6), .mov, [.c (.str ⟨#[]⟩)], none⟩,
     ⟨(some 7), .mov, [.c (.int .i64 72)], none⟩])
   .ret) .skip))
   (.seq (.reg [⟨(some 12), .mov, [.c .nils], none⟩])
   (.seq (.seq (.reg [⟨(some 59), .faddr 4, [.t 3], none⟩,
     ⟨(some 60), .load 1 false, [.t 59], none⟩,
     ⟨(some 61), .bin .sub, [.t 60, .c (.int .i64 1)], none⟩,
     ⟨(some 13), .mov, [.t 61], none⟩])
   (.block 2 (.loop (.seq (.seq (.reg [⟨(some 62), .mov, [.t 13], none⟩,
     ⟨(some 63), .bin .geq, [.t 62, .c (.int .i64 0)], none⟩])
   (.cond (.t 63) .skip (.exit 2)))
   (.seq (.block 3 (.seq (.seq (.reg [⟨(some 66), .faddr 3, [.t 3], none⟩,
     ⟨(some 67), .load 1 false, [.t 66], none⟩,
     ⟨(some 68), .mov, [.c (.int .i64 0)], none⟩])
   (.block 4 (.loop (.seq (.reg [⟨(some 69), .bin .lss, [.t 68, .t 67], none⟩])
   (.seq (.cond (.t 69) .skip (.exit 4))
   (.seq (.block 5 (.seq (.reg [⟨(some 70), .mov, [.t 68], none⟩,
     ⟨(some 14), .mov, [.t 70], none⟩])
   (.seq (.reg [⟨(some 71), .mov, [.t 1], none⟩,
     ⟨(some 72), .mov, [.t 13], none⟩,
     ⟨(some 73), .faddr 3, [.t 3], none⟩,
     ⟨(some 74), .load 1 false, [.t 73], none⟩,
     ⟨(some 75), .bin .mul, [.t 72, .t 74], none⟩,
     ⟨(some 76), .mov, [.t 14], none⟩,
     ⟨(some 77), .bin .add, [.t 75, .t 76], none⟩,
     ⟨(some 78), .iaddrS 1, [.t 71, .t 77], none⟩,
     ⟨(some 79), .load 1 false, [.t 78], none⟩,
     ⟨(some 80), .mov, [.t 2], none⟩,
     ⟨(some 81), .iaddrS 1, [.t 79, .t 80], none⟩,
     ⟨(some 82), .load 1 false, [.t 81], none⟩,
     ⟨(some 15), .mov, [.t 82], none⟩])
   (.block 6 (.seq (.reg [⟨(some 87), .mov, [.t 15], none⟩,
     ⟨(some 88), .bin .eql, [.t 87, .c (.int .i64 0)], none⟩,
     ⟨(some 86), .mov, [.t 88], none⟩])
   (.cond (.t 86) (.reg [⟨(some 89), .mov, [.t 12], none⟩,
     ⟨(some 90), .mkslice 1 5, [.c (.int .u8 46)], none⟩,
     ⟨(some 91), .append 1 1 5, [.t 89, .t 90], none⟩,
     ⟨(some 12), .mov, [.t 91], none⟩]) (.seq (.reg [⟨(some 93), .mov, [.t 15], none⟩,
     ⟨(some 94), .bin .leq, [.t 93, .c (.int .i64 9)], none⟩,
     ⟨(some 92), .mov, [.t 94], none⟩])
   (.cond (.t 92) (.reg [⟨(some 95), .mov, [.t 12], none⟩,
     ⟨(some 96), .mov, [.t 15], none⟩,
     ⟨(some 97), .bin .add, [.c (.int .i64 48), .t 96], none⟩,
     ⟨(some 98), .conv .u8, [.t 97], none⟩,
     ⟨(some 99), .mkslice 1 5, [.t 98], none⟩,
     ⟨(some 100), .append 1 1 5, [.t 95, .t 99], none⟩,
     ⟨(some 12), .mov, [.t 100], none⟩]) (.reg [⟨(some 83), .mov, [.t 12], none⟩,
     ⟨(some 84), .mkslice 1 5, [.c (.int .u8 43)], none⟩,
     ⟨(some 85), .append 1 1 5, [.t 83, .t 84], none⟩,
     ⟨(some 12), .mov, [.t 85], none⟩])))))))))
   (.reg [⟨(some 101), .bin .add, [.t 68, .c (.int .i64 1)], none⟩,
     ⟨(some 68), .mov, [.t 101], none⟩])))))))
   (.reg [⟨(some 102), .mov, [.t 12], none⟩,
     ⟨(some 103), .mkslice 1 5, [.c (.int .u8 10)], none⟩,
     ⟨(some 104), .append 1 1 5, [.t 102, .t 103], none⟩,
     ⟨(some 12), .mov, [.t 104], none⟩])))
   (.reg [⟨(some 64), .mov, [.t 13], none⟩,
     ⟨(some 65), .bin .sub, [.t 64, .c (.int .i64 1)], none⟩,
     ⟨(some 13), .mov, [.t 65], none⟩]))))))
   (.seq (.reg [⟨(some 105), .mov, [.t 12], none⟩,
     ⟨(some 106), .raw 5 106 9, [.t 105], none⟩,
     ⟨(some 6), .mov, [.t 106], none⟩,
     ⟨(some 7), .mov, [.c (.int .i64 0)], none⟩])
   .ret)))))))))
theorem chk.bin_Map : chkF Tryd.prog 12 = some (107, ir.bin_Map, [.tmp 6, .tmp 7]) := by kernel_rfl

/-- paravane/paravanelaw07.works -/
abbrev F.law07_works : Nat := 14
def ir.law07_works : IC :=
 (.seq (.reg [⟨(some 0), .mov, [.c (.bool false)], none⟩])
   (.seq (.reg [⟨(some 19), .call 33, [], none⟩,
     ⟨(some 20), .build [(.int .i64 0), (.int .i64 0)] [(0, 1), (1, 1)], [.c (.int .i64 1), .c (.int .i64 1)], none⟩,
     ⟨(some 21), .build [(.int .i64 0), (.int .i64 0)] [(0, 1), (1, 1)], [.c (.int .i64 9), .c (.int .i64 3)], none⟩,
     ⟨(some 22), .call 15, [.t 19, .t 20, .t 21], none⟩,
     ⟨(some 18), .mov, [.t 22], none⟩,
     ⟨(some 23), .extract 0, [.t 18], none⟩,
     ⟨(some 24), .extract 1, [.t 18], none⟩,
     ⟨(some 1), .alloc [(.int .i64 0), (.int .i64 0)], [], none⟩,
     ⟨none, .store 2, [.t 1, .t 23], none⟩,
     ⟨(some 2), .mov, [.t 24], none⟩])
   (.seq (.reg [⟨(some 26), .call 33, [], none⟩,
     ⟨(some 27), .call 36, [], none⟩,
     ⟨(some 28), .call 19, [.t 26, .t 27, .c (.int .i64 2)], none⟩,
     ⟨(some 25), .mov, [.t 28], none⟩,
     ⟨(some 29), .extract 0, [.t 25], none⟩,
     ⟨(some 30), .extract 1, [.t 25], none⟩,
     ⟨(some 3), .mov, [.t 29], none⟩,
     ⟨(some 4), .mov, [.t 30], none⟩])
   (.seq (.reg [⟨(some 32), .call 33, [], none⟩,
     ⟨(some 33), .call 36, [], none⟩,
     ⟨(some 34), .call 18, [.t 32, .t 33], none⟩,
     ⟨(some 31), .mov, [.t 34], none⟩,
     ⟨(some 35), .extract 0, [.t 31], none⟩,
     ⟨(some 36), .extract 1, [.t 31], none⟩,
     ⟨(some 37), .extract 2, [.t 31], none⟩,
     ⟨(some 5), .mov, [.t 35], none⟩,
     ⟨(some 6), .mov, [.t 36], none⟩,
     ⟨(some 7), .mov, [.t 37], none⟩])
   (.seq (.seq (.reg [⟨(some 38), .mov, [.t 2], none⟩,
     ⟨(some 39), .bin .neq, [.t 38, .c (.int .i64 0)], none⟩,
     ⟨(some 40), .mov, [.t 39], none⟩,
     ⟨(some 41), .mov, [.t 4], (some (40, false))⟩,
     ⟨(some 42), .bin .neq, [.t 41, .c (.int .i64 0)], (some (40, false))⟩,
     ⟨(some 43), .pick, [.t 40, .c (.bool true), .t 42], none⟩,
     ⟨(some 44), .mov, [.t 43], none⟩,
     ⟨(some 45), .mov, [.t 7], (some (44, false))⟩,
     ⟨(some 46), .bin .neq, [.t 45, .c (.int .i64 0)], (some (44, false))⟩,
     ⟨(some 47), .pick, [.t 44, .c (.bool true), .t 46], none⟩,
     ⟨(some 48), .mov, [.t 47], none⟩,
     ⟨(some 49), .load 2 true, [.t 1], (some (48, false))⟩,
     ⟨(some 50), .build [(.int .i64 0), (.int .i64 0)] [(0, 1), (1, 1)], [.c (.int .i64 5), .c (.int .i64 1)], (some (48, false))⟩,
     ⟨(some 51), .eqs true [0, 0], [.t 49, .t 50], (some (48, false))⟩,
     ⟨(some 52), .pick, [.t 48, .c (.bool true), .t 51], none⟩,
     ⟨(some 53), .mov, [.t 52], none⟩,
     ⟨(some 54), .mov, [.t 3], (some (53, false))⟩,
     ⟨(some 55), .build [(.int .i64 0), (.int .i64 0)] [(0, 1), (1, 1)], [.c (.int .i64 (-1)), .c (.int .i64 (-1))], (some (53, false))⟩,
     ⟨(some 56), .build [(.int .i64 0), (.int .i64 0)] [(0, 1)], [.c (.int .i64 5)], (some (53, false))⟩,
     ⟨(some 57), .mkslice 2 36, [.t 55, .t 56], (some (53, false))⟩,
     ⟨(some 58), .call 50, [.t 54, .t 57], (some (53, false))⟩,
     ⟨(some 59), .un .not, [.t 58], (some (53, false))⟩,
     ⟨(some 60), .pick, [.t 53, .c (.bool true), .t 59], none⟩,
     ⟨(some 61), .mov, [.t 60], none⟩,
     ⟨(some 62), .mov, [.t 5], (some (61, false))⟩,
     ⟨(some 63), .mkslice 1 3, [.c (.int .i64 0), .c (.int .i64 0)], (some (61, false))⟩,
     ⟨(some 64), .mkslice 1 3, [.c (.int .i64 0), .c (.int .i64 0)], (some (61, false))⟩,
     ⟨(some 65), .mkslice 1 3, [.c (.int .i64 0), .c (.int .i64 0)], (some (61, false))⟩,
     ⟨(some 66), .mkslice 1 3, [.c (.int .i64 0), .c (.int .i64 0)], (some (61, false))⟩,
     ⟨(some 67), .mkslice 1 3, [.c (.int .i64 1), .c (.int .i64 0)], (some (61, false))⟩,
     ⟨(some 68), .mkslice 1 3, [.c (.int .i64 0), .c (.int .i64 1)], (some (61, false))⟩,
     ⟨(some 69), .mkslice 1 48, [.t 63, .t 64, .t 65, .t 66, .t 67, .t 68], (some (61, false))⟩,
     ⟨(some 70), .call 20, [.t 62, .t 69], (some (61, false))⟩,
     ⟨(some 71), .un .not, [.t 70], (some (61, false))⟩,
     ⟨(some 72), .pick, [.t 61, .c (.bool true), .t 71], none⟩,
     ⟨(some 73), .mov, [.t 72], none⟩,
     ⟨(some 74), .mov, [.t 6], (some (73, false))⟩,
     ⟨(some 75), .mkslice 1 3, [.c (.int .i64 0), .c (.int .i64 0)], (some (73, false))⟩,
     ⟨(some 76), .mkslice 1 3, [.c (.int .i64 0), .c (.int .i64 0)], (some (73, false))⟩,
     ⟨(some 77), .mkslice 1 3, [.c (.int .i64 0), .c (.int .i64 0)], (some (73, false))⟩,
     ⟨(some 78), .mkslice 1 3, [.c (.int .i64 0), .c (.int .i64 0)], (some (73, false))⟩,
     ⟨(some 79), .mkslice 1 3, [.c (.int .i64 1), .c (.int .i64 0)], (some (73, false))⟩,
     ⟨(some 80), .mkslice 1 3, [.c (.int .i64 1), .c (.int .i64 1)], (some (73, false))⟩,
     ⟨(some 81), .mkslice 1 48, [.t 75, .t 76, .t 77, .t 78, .t 79, .t 80], (some (73, false))⟩,
     ⟨(some 82), .call 20, [.t 74, .t 81], (some (73, false))⟩,
     ⟨(some 83), .un .not, [.t 82], (some (73, false))⟩,
     ⟨(some 84), .pick, [.t 73, .c (.bool true), .t 83], none⟩])
   (.cond (.t 84) (.seq (.reg [⟨(some 0), .mov, [.c (.bool false)], none⟩])
   .ret) .skip))
   (.seq (.reg [⟨(some 86), .call 33, [], none⟩,
     ⟨(some 87), .mov, [.t 5], none⟩,
     ⟨(some 88), .call 12, [.t 86, .t 87, .c (.int .i64 0)], none⟩,
     ⟨(some 85), .mov, [.t 88], none⟩,
     ⟨(some 89), .extract 0, [.t 85], none⟩,
     ⟨(some 90), .extract 1, [.t 85], none⟩,
     ⟨(some 8), .mov, [.t 89], none⟩,
     ⟨(some 2), .mov, [.t 90], none⟩])
   (.seq (.reg [⟨(some 92), .call 33, [], none⟩,
     ⟨(some 93), .call 36, [], none⟩,
     ⟨(some 94), .mkslice 1 3, [.c (.int .i64 0), .c (.int .i64 2)], none⟩,
     ⟨(some 95), .call 38, [.t 92, .t 93, .t 94], none⟩,
     ⟨(some 91), .mov, [.t 95], none⟩,
     ⟨(some 96), .extract 0, [.t 91], none⟩,
     ⟨(some 97), .extract 1, [.t 91], none⟩,
     ⟨(some 9), .mov, [.t 96], none⟩,
     ⟨(some 4), .mov, [.t 97], none⟩])
   (.seq (.reg [⟨(some 99), .call 33, [], none⟩,
     ⟨(some 100), .call 36, [], none⟩,
     ⟨(some 101), .call 39, [.t 99, .t 100, .c (.int .i64 2)], none⟩,
     ⟨(some 98), .mov, [.t 101], none⟩,
     ⟨(some 102), .extract 0, [.t 98], none⟩,
     ⟨(some 103), .extract 1, [.t 98], none⟩,
     ⟨(some 10), .mov, [.t 102], none⟩,
     ⟨(some 7), .mov, [.t 103], none⟩])
   (.seq (.reg [⟨(some 105), .call 42, [], none⟩,
     ⟨(some 106), .call 26, [.t 105], none⟩,
     ⟨(some 104), .mov, [.t 106], none⟩,
     ⟨(some 107), .extract 0, [.t 104], none⟩,
     ⟨(some 108), .extract 1, [.t 104], none⟩,
     ⟨(some 109), .extract 2, [.t 104], none⟩,
     ⟨(some 11), .mov, [.t 107], none⟩,
     ⟨(some 12), .mov, [.t 108], none⟩,
     ⟨(some 13), .mov, [.t 109], none⟩])
   (.seq (.reg [⟨(some 111), .call 42, [], none⟩,
     ⟨(some 112), .call 29, [.t 111, .c (.int .i64 3)], none⟩,
     ⟨(some 110), .mov, [.t 112], none⟩,
     ⟨(some 113), .extract 0, [.t 110], none⟩,
     ⟨(some 114), .extract 1, [.t 110], none⟩,
     ⟨(some 14), .mov, [.t 113], none⟩,
     ⟨(some 15), .mov, [.t 114], none⟩])
   (.seq (.reg [⟨(some 116), .call 42, [], none⟩,
     ⟨(some 117), .mkslice 1 3, [.c (.int .i64 2), .c (.int .i64 2)], none⟩,
     ⟨(some 118), .build [(.int .i64 0), .nils] [(0, 1), (1, 1)], [.c (.int .i64 (-1)), .t 117], none⟩,
     ⟨(some 119), .mkslice 2 60, [.t 118], none⟩,
     ⟨(some 120), .call 21, [.t 116, .t 119], none⟩,
     ⟨(some 115), .mov, [.t 120], none⟩,
     ⟨(some 121), .extract 0, [.t 115], none⟩,
     ⟨(some 122), .extract 1, [.t 115], none⟩,
     ⟨(some 16), .mov, [.t 121], none⟩,
     ⟨(some 17), .mov, [.t 122], none⟩])
   (.seq (.reg [⟨(some 123), .mov, [.t 2], none⟩,
     ⟨(some 124), .bin .eql, [.t 123, .c (.int .i64 0)], none⟩,
     ⟨(some 125), .mov, [.t 124], none⟩,
     ⟨(some 126), .mov, [.t 4], (some (125, true))⟩,
     ⟨(some 127), .bin .eql, [.t 126, .c (.int .i64 0)], (some (125, true))⟩,
     ⟨(some 128), .pick, [.t 125, .t 127, .c (.bool false)], none⟩,
     ⟨(some 129), .mov, [.t 128], none⟩,
     ⟨(some 130), .mov, [.t 7], (some (129, true))⟩,
     ⟨(some 131), .bin .eql, [.t 130, .c (.int .i64 0)], (some (129, true))⟩,
     ⟨(some 132), .pick, [.t 129, .t 131, .c (.bool false)], none⟩,
     ⟨(some 133), .mov, [.t 132], none⟩,
     ⟨(some 134), .mov, [.t 13], (some (133, true))⟩,
     ⟨(some 135), .bin .eql, [.t 134, .c (.int .i64 0)], (some (133, true))⟩,
     ⟨(some 136), .pick, [.t 133, .t 135, .c (.bool false)], none⟩,
     ⟨(some 137), .mov, [.t 136], none⟩,
     ⟨(some 138), .mov, [.t 15], (some (137, true))⟩,
     ⟨(some 139), .bin .eql, [.t 138, .c (.int .i64 0)], (some (137, true))⟩,
     ⟨(some 140), .pick, [.t 137, .t 139, .c (.bool false)], none⟩,
     ⟨(some 141), .mov, [.t 140], none⟩,
     ⟨(some 142), .mov, [.t 17], (some (141, true))⟩,
     ⟨(some 143), .bin .eql, [.t 142, .c (.int .i64 0)], (some (141, true))⟩,
     ⟨(some 144), .pick, [.t 141, .t 143, .c (.bool false)], none⟩,
     ⟨(some 145), .mov, [.t 144], none⟩,
     ⟨(some 146), .mov, [.t 8], (some (145, true))⟩,
     ⟨(some 147), .bin .eql, [.t 146, .c (.str ⟨#[46, 49, 46, 10, 46, 46, 46, 10]⟩)], (some (145, true))⟩,
     ⟨(some 148), .pick, [.t 145, .t 147, .c (.bool false)], none⟩,
     ⟨(some 149), .mov, [.t 148], none⟩,
     ⟨(some 150), .mov, [.t 9], (some (149, true))⟩,
     ⟨(some 151), .len false, [.t 150], (some (149, true))⟩,
     ⟨(some 152), .bin .eql, [.t 151, .c (.int .i64 6)], (some (149, true))⟩,
     ⟨(some 153), .pick, [.t 149, .t 152, .c (.bool false)], none⟩,
     ⟨(some 154), .mov, [.t 153], none⟩,
     ⟨(some 155), .mov, [.t 9], (some (154, true))⟩,
     ⟨(some 156), .iaddrS 3, [.t 155, .c (.int .i64 5)], (some (154, true))⟩,
     ⟨(some 157), .load 3 true, [.t 156], (some (154, true))⟩,
     ⟨(some 158), .build [(.int .i64 0), (.int .i64 0), (.int .i64 0)] [(0, 1), (1, 1), (2, 1)], [.c (.int .i64 5), .c (.int .i64 1), .c (.int .i64 1)], (some (154, true))⟩,
     ⟨(some 159), .eqs false [0, 0, 0], [.t 157, .t 158], (some (154, true))⟩,
     ⟨(some 160), .pick, [.t 154, .t 159, .c (.bool false)], none⟩,
     ⟨(some 161), .mov, [.t 160], none⟩,
     ⟨(some 162), .mov, [.t 10], (some (161, true))⟩,
     ⟨(some 163), .bin .eql, [.t 162, .c (.int .i64 0)], (some (161, true))⟩,
     ⟨(some 164), .pick, [.t 161, .t 163, .c (.bool false)], none⟩,
     ⟨(some 165), .mov, [.t 164], none⟩,
     ⟨(some 166), .mov, [.t 11], (some (165, true))⟩,
     ⟨(some 167), .mkslice 1 3, [.c (.int .i64 3)], (some (165, true))⟩,
     ⟨(some 168), .call 28, [.t 166, .t 167], (some (165, true))⟩,
     ⟨(some 169), .pick, [.t 165, .t 168, .c (.bool false)], none⟩,
     ⟨(some 170), .mov, [.t 169], none⟩,
     ⟨(some 171), .mov, [.t 12], (some (170, true))⟩,
     ⟨(some 172), .bin .eql, [.t 171, .c (.int .i64 6)], (some (170, true))⟩,
     ⟨(some 173), .pick, [.t 170, .t 172, .c (.bool false)], none⟩,
     ⟨(some 174), .mov, [.t 173], none⟩,
     ⟨(some 175), .mov, [.t 14], (some (174, true))⟩,
     ⟨(some 176), .bin .eql, [.t 175, .c (.int .i64 1)], (some (174, true))⟩,
     ⟨(some 177), .pick, [.t 174, .t 176, .c (.bool false)], none⟩,
     ⟨(some 178), .mov, [.t 177], none⟩,
     ⟨(some 179), .mov, [.t 16], (some (178, true))⟩,
     ⟨(some 180), .bin .eql, [.t 179, .c (.int .i64 6)], (some (178, true))⟩,
     ⟨(some 181), .pick, [.t 178, .t 180, .c (.bool false)], none⟩,
     ⟨(some 0), .mov, [.t 181], none⟩])
   .ret))))))))))))
theorem chk.law07_works : chkF Tryd.prog 14 = some (182, ir.law07_works, [.tmp 0]) := by kernel_rfl

/-- paravane/bin.Cell -/
abbrev F.bin_Cell : Nat := 15
def ir.bin_Cell : IC :=
 (.seq (.reg [⟨(some 3), .box, [.t 0], none⟩,
     ⟨(some 4), .box, [.t 1], none⟩,
     ⟨(some 5), .box, [.t 2], none⟩,
     ⟨(some 6), .alloc [(.int .i64 0), (.int .i64 0)], [], none⟩,
     ⟨(some 7), .mov, [.c (.int .i64 0)], none⟩])
   (.seq (.seq (.reg [⟨(some 9), .load 6 true, [.t 3], none⟩,
     ⟨(some 10), .call 35, [.t 9], none⟩,
     ⟨(some 8), .mov, [.t 10], none⟩])
   (.seq (.reg [⟨(some 11), .mov, [.t 8], none⟩,
     ⟨(some 12), .bin .neq, [.t 11, .c (.int .i64 0)], none⟩])
   (.cond (.t 12) (.seq (.reg [⟨(some 13), .build [(.int .i64 0), (.int .i64 0)] [], [], none⟩,
     ⟨(some 14), .mov, [.t 8], none⟩,
     ⟨none, .store 2, [.t 6, .t 13], none⟩,
     ⟨(some 7), .mov, [.t 14], none⟩])
   .ret) .skip)))
   (.seq (.seq (.reg [⟨(some 15), .load 2 true, [.t 4], none⟩,
     ⟨(some 16), .call 51, [.t 15], none⟩,
     ⟨(some 17), .bin .neq, [.t 16, .c (.int .i64 0)], none⟩,
     ⟨(some 18), .mov, [.t 17], none⟩,
     ⟨(some 19), .load 2 true, [.t 5], (some (18, false))⟩,
     ⟨(some 20), .call 51, [.t 19], (some (18, false))⟩,
     ⟨(some 21), .bin .neq, [.t 20, .c (.int .i64 0)], (some (18, false))⟩,
     ⟨(some 22), .pick, [.t 18, .c (.bool true), .t 21], none⟩])
   (.cond (.t 22) (.seq (.reg [⟨(some 23), .build [(.int .i64 0), (.int .i64 0)] [], [], none⟩,
     ⟨none, .store 2, [.t 6, .t 23], none⟩,
     ⟨(some 7), .mov, [.c (.int .i64 10)], none⟩])
   .ret) .skip))
   (.seq (.reg [⟨(some 24), .load 6 true, [.t 3], none⟩,
     ⟨(some 25), .load 2 true, [.t 4], none⟩,
     ⟨(some 26), .load 2 true, [.t 5], none⟩,
     ⟨(some 27), .call 52, [.t 24, .t 25, .t 26], none⟩,
     ⟨none, .store 2, [.t 6, .t 27], none⟩,
     ⟨(some 7), .mov, [.c (.int .i64 0)], none⟩])
   .ret))))
theorem chk.bin_Cell : chkF Tryd.prog 15 = some (28, ir.bin_Cell, [.cell 6 36, .tmp 7]) := by kernel_rfl

/-- paravane/paravaneref00.Between -/
abbrev F.ref00_Between : Nat := 16
def ir.ref00_Between : IC :=
 (.seq (.reg [⟨(some 6), .mov, [.c (.bool false)], none⟩])
   (.seq (.reg [⟨(some 7), .mov, [.t 0], none⟩,
     ⟨(some 8), .mov, [.t 1], none⟩,
     ⟨(some 9), .bin .geq, [.t 7, .t 8], none⟩,
     ⟨(some 10), .mov, [.t 9], none⟩,
     ⟨(some 11), .mov, [.t 0], (some (10, true))⟩,
     ⟨(some 12), .mov, [.t 2], (some (10, true))⟩,
     ⟨(some 13), .bin .leq, [.t 11, .t 12], (some (10, true))⟩,
     ⟨(some 14), .pick, [.t 10, .t 13, .c (.bool false)], none⟩,
     ⟨(some 6), .mov, [.t 14], none⟩])
   .ret))
theorem chk.ref00_Between : chkF Tryd.prog 16 = some (15, ir.ref00_Between, [.tmp 6]) := by kernel_rfl

/-- paravane/paravaneref00.Rest -/
abbrev F.ref00_Rest : Nat := 17
def ir.ref00_Rest : IC :=
 (.seq (.reg [⟨(some 4), .mov, [.c (.int .i64 0)], none⟩])
   (.seq (.seq (.reg [⟨(some 5), .mov, [.t 1], none⟩,
     ⟨(some 6), .bin .lss, [.t 5, .c (.int .i64 1)], none⟩])
   (.cond (.t 6) (.seq (.reg [⟨(some 4), .mov, [.c (.int .i64 0)], none⟩])
   .ret) .skip))
   (.seq (.reg [⟨(some 7), .mov, [.t 0], none⟩,
     ⟨(some 8), .mov, [.t 1], none⟩,
     ⟨(some 9), .bin .rem, [.t 7, .t 8], none⟩,
     ⟨(some 0), .mov, [.t 9], none⟩])
   (.seq (.seq (.reg [⟨(some 10), .mov, [.t 0], none⟩,
     ⟨(some 11), .bin .lss, [.t 10, .c (.int .i64 0)], none⟩])
   (.cond (.t 11) (.reg [⟨(some 12), .mov, [.t 0], none⟩,
     ⟨(some 13), .mov, [.t 1], none⟩,
     ⟨(some 14), .bin .add, [.t 12, .t 13], none⟩,
     ⟨(some 0), .mov, [.t 14], none⟩]) .skip))
   (.seq (.reg [⟨(some 15), .mov, [.t 0], none⟩,
     ⟨(some 4), .mov, [.t 15], none⟩])
   .ret)))))
theorem chk.ref00_Rest : chkF Tryd.prog 17 = some (16, ir.ref00_Rest, [.tmp 4]) := by kernel_rfl

/-- paravane/bin.Fold -/
abbrev F.bin_Fold : Nat := 18
def ir.bin_Fold : IC :=
 (.seq (.reg [⟨(some 2), .box, [.t 0], none⟩,
     ⟨(some 3), .box, [.t 1], none⟩,
     ⟨(some 4), .mov, [.c .nils], none⟩,
     ⟨(some 5), .mov, [.c .nils], none⟩,
     ⟨(some 6), .mov, [.c (.int .i64 0)], none⟩])
   (.seq (.reg [⟨(some 11), .load 6 true, [.t 2], none⟩,
     ⟨(some 12), .load 2 true, [.t 3], none⟩,
     ⟨(some 13), .call 53, [.t 11, .t 12], none⟩,
     ⟨(some 10), .mov, [.t 13], none⟩,
     ⟨(some 14), .extract 0, [.t 10], none⟩,
     ⟨(some 15), .extract 1, [.t 10], none⟩,
     ⟨(some 7), .alloc [(.int .i64 0), (.int .i64 0), (.int .i64 0), (.int .i64 0), (.int .i64 0), .nils, .nils, .nils], [], none⟩,
     ⟨none, .store 8, [.t 7, .t 14], none⟩,
     ⟨(some 6), .mov, [.t 15], none⟩])
   (.seq (.seq (.reg [⟨(some 16), .mov, [.t 6], none⟩,
     ⟨(some 17), .bin .neq, [.t 16, .c (.int .i64 0)], none⟩])
   (.cond (.t 17) (.seq (.reg [⟨(some 18), .mov, [.t 6], none⟩,
     ⟨(some 4), .mov, [.c .nils], none⟩,
     ⟨(some 5), .mov, [.c .nils], none⟩,
     ⟨(some 6), .mov, [.t 18], none⟩])
   .ret) .skip))
   (.seq (.draw [0, 1, 0, 4, 3, 31] [⟨(some 19), .load 8 true, [.t 7], none⟩,
     ⟨(some 20), .mkfunc (.func 54) 1, [.t 19], none⟩,
     ⟨(some 21), .load 8 true, [.t 7], none⟩,
     ⟨(some 22), .mkfunc (.func 55) 1, [.t 21], none⟩,
     ⟨(some 8), .mov, [.t 20], none⟩,
     ⟨(some 9), .mov, [.t 22], none⟩])
   (.seq (.draw [0, 0, 3, 0, 0, 31, 63, 127, 255] [⟨(some 23), .load 8 true, [.t 7], none⟩,
     ⟨(some 24), .mov, [.t 8], none⟩,
     ⟨(some 25), .call 56, [.t 23, .t 24], none⟩,
     ⟨(some 26), .load 8 true, [.t 7], none⟩,
     ⟨(some 27), .mov, [.t 9], none⟩,
     ⟨(some 28), .call 56, [.t 26, .t 27], none⟩,
     ⟨(some 4), .mov, [.t 25], none⟩,
     ⟨(some 5), .mov, [.t 28], none⟩,
     ⟨(some 6), .mov, [.c (.int .i64 0)], none⟩])
   .ret)))))
theorem chk.bin_Fold : chkF Tryd.prog 18 = some (29, ir.bin_Fold, [.tmp 4, .tmp 5, .tmp 6]) := by kernel_rfl

/-- paravane/bin.Hits -/
abbrev F.bin_Hits : Nat := 19
def ir.bin_Hits : IC :=
 (.seq (.reg [⟨(some 3), .box, [.t 0], none⟩,
     ⟨(some 4), .box, [.t 1], none⟩,
     ⟨(some 6), .mov, [.c .nils], none⟩,
     ⟨(some 7), .mov, [.c (.int .i64 0)], none⟩])
   (.seq (.reg [⟨(some 11), .load 6 true, [.t 3], none⟩,
     ⟨(some 12), .load 2 true, [.t 4], none⟩,
     ⟨(some 13), .call 53, [.t 11, .t 12], none⟩,
     ⟨(some 10), .mov, [.t 13], none⟩,
     ⟨(some 14), .extract 0, [.t 10], none⟩,
     ⟨(some 15), .extract 1, [.t 10], none⟩,
     ⟨(some 8), .alloc [(.int .i64 0), (.int .i64 0), (.int .i64 0), (.int .i64 0), (.int .i64 0), .nils, .nils, .nils], [], none⟩,
     ⟨none, .store 8, [.t 8, .t 14], none⟩,
     ⟨(some 9), .mov, [.t 15], none⟩])
   (.seq (.seq (.reg [⟨(some 16), .mov, [.t 9], none⟩,
     ⟨(some 17), .bin .neq, [.t 16, .c (.int .i64 0)], none⟩])
   (.cond (.t 17) (.seq (.reg [⟨(some 18), .mov, [.t 9], none⟩,
     ⟨(some 6), .mov, [.c .nils], none⟩,
     ⟨(some 7), .mov, [.t 18], none⟩])
   .ret) .skip))
   (.seq (.seq (.reg [⟨(some 19), .mov, [.t 2], none⟩,
     ⟨(some 20), .faddr 1, [.t 4], none⟩,
     ⟨(some 21), .load 1 false, [.t 20], none⟩,
     ⟨(some 22), .len false, [.t 21], none⟩,
     ⟨(some 23), .bin .sub, [.t 22, .c (.int .i64 1)], none⟩,
     ⟨(some 24), .call 47, [.t 19, .c (.int .i64 0), .t 23], none⟩,
     ⟨(some 25), .un .not, [.t 24], none⟩])
   (.cond (.t 25) (.seq (.reg [⟨(some 6), .mov, [.c .nils], none⟩,
     ⟨(some 7), .mov, [.c (.int .i64 72)], none⟩])
   .ret) .skip))
   (.seq (.reg [⟨(some 26), .load 8 true, [.t 8], none⟩,
     ⟨(some 27), .mov, [.t 2], none⟩,
     ⟨(some 28), .call 55, [.t 26, .t 27], none⟩,
     ⟨(some 6), .mov, [.t 28], none⟩,
     ⟨(some 7), .mov, [.c (.int .i64 0)], none⟩])
   .ret)))))
theorem chk.bin_Hits : chkF Tryd.prog 19 = some (29, ir.bin_Hits, [.tmp 6, .tmp 7]) := by kernel_rfl

/-- paravane/paravaneref00.AlikeLists -/
abbrev F.ref00_AlikeLists : Nat := 20
def ir.ref00_AlikeLists : IC :=
 (.seq (.reg [⟨(some 4), .mov, [.c (.bool false)], none⟩])
   (.seq (.seq (.reg [⟨(some 6), .mov, [.t 0], none⟩,
     ⟨(some 7), .len false, [.t 6], none⟩,
     ⟨(some 8), .mov, [.t 1], none⟩,
     ⟨(some 9), .len false, [.t 8], none⟩,
     ⟨(some 10), .bin .neq, [.t 7, .t 9], none⟩])
   (.cond (.t 10) (.seq (.reg [⟨(some 4), .mov, [.c (.bool false)], none⟩])
   .ret) .skip))
   (.seq (.seq (.reg [⟨(some 5), .mov, [.c (.int .i64 0)], none⟩])
   (.block 0 (.loop (.seq (.seq (.reg [⟨(some 11), .mov, [.t 5], none⟩,
     ⟨(some 12), .mov, [.t 0], none⟩,
     ⟨(some 13), .len false, [.t 12], none⟩,
     ⟨(some 14), .bin .lss, [.t 11, .t 13], none⟩])
   (.cond (.t 14) .skip (.exit 0)))
   (.seq (.block 1 (.seq (.draw [0, 0, 3, 7, 0, 0, 48, 112, 255, 511] [⟨(some 17), .mov, [.t 0], none⟩,
     ⟨(some 18), .mov, [.t 5], none⟩,
     ⟨(some 19), .iaddrS 1, [.t 17, .t 18], none⟩,
     ⟨(some 20), .load 1 false, [.t 19], none⟩,
     ⟨(some 21), .mov, [.t 1], none⟩,
     ⟨(some 22), .mov, [.t 5], none⟩,
     ⟨(some 23), .iaddrS 1, [.t 21, .t 22], none⟩,
     ⟨(some 24), .load 1 false, [.t 23], none⟩,
     ⟨(some 25), .call 28, [.t 20, .t 24], none⟩,
     ⟨(some 26), .un .not, [.t 25], none⟩])
   (.cond (.t 26) (.seq (.reg [⟨(some 4), .mov, [.c (.bool false)], none⟩])
   .ret) .skip)))
   (.reg [⟨(some 15), .mov, [.t 5], none⟩,
     ⟨(some 16), .bin .add, [.t 15, .c (.int .i64 1)], none⟩,
     ⟨(some 5), .mov, [.t 16], none⟩]))))))
   (.seq (.reg [⟨(some 4), .mov, [.c (.bool true)], none⟩])
   .ret))))
theorem chk.ref00_AlikeLists : chkF Tryd.prog 20 = some (27, ir.ref00_AlikeLists, [.tmp 4]) := by kernel_rfl

/-- paravane/bin.Bound -/
abbrev F.bin_Bound : Nat := 21
def ir.bin_Bound : IC :=
 (.seq (.reg [⟨(some 2), .box, [.t 0], none⟩,
     ⟨(some 3), .box, [.t 1], none⟩,
     ⟨(some 4), .mov, [.c (.int .i64 0)], none⟩,
     ⟨(some 5), .mov, [.c (.int .i64 0)], none⟩])
   (.seq (.seq (.reg [⟨(some 12), .load 2 true, [.t 2], none⟩,
     ⟨(some 13), .call 24, [.t 12], none⟩,
     ⟨(some 6), .mov, [.t 13], none⟩])
   (.seq (.reg [⟨(some 14), .mov, [.t 6], none⟩,
     ⟨(some 15), .bin .neq, [.t 14, .c (.int .i64 0)], none⟩])
   (.cond (.t 15) (.seq (.reg [⟨(some 16), .mov, [.t 6], none⟩,
     ⟨(some 4), .mov, [.c (.int .i64 0)], none⟩,
     ⟨(some 5), .mov, [.t 16], none⟩])
   .ret) .skip)))
   (.seq (.seq (.reg [⟨(some 17), .load 1 false, [.t 3], none⟩,
     ⟨(some 18), .len false, [.t 17], none⟩,
     ⟨(some 19), .bin .gtr, [.t 18, .c (.int .i64 2048)], none⟩])
   (.cond (.t 19) (.seq (.reg [⟨(some 4), .mov, [.c (.int .i64 0)], none⟩,
     ⟨(some 5), .mov, [.c (.int .i64 76)], none⟩])
   .ret) .skip))
   (.seq (.reg [⟨(some 7), .alloc [(.int .i64 0)], [], none⟩,
     ⟨(some 8), .alloc [(.bool false)], [], none⟩,
     ⟨(some 9), .alloc [(.bool false)], [], none⟩,
     ⟨(some 10), .alloc [(.int .i64 0)], [], none⟩,
     ⟨none, .store 1, [.t 7, .c (.int .i64 0)], none⟩,
     ⟨none, .store 1, [.t 8, .c (.bool false)], none⟩,
     ⟨none, .store 1, [.t 9, .c (.bool true)], none⟩,
     ⟨none, .store 1, [.t 10, .c (.int .i64 0)], none⟩])
   (.seq (.reg [⟨(some 11), .alloc [.nilf], [], none⟩])
   (.seq (.reg [⟨(some 20), .mkfunc (.func 57) 0, [.t 9, .t 10, .t 3, .t 2, .t 11, .t 8, .t 7], none⟩,
     ⟨none, .store 1, [.t 11, .t 20], none⟩])
   (.seq (.reg [⟨(some 21), .load 1 false, [.t 11], none⟩,
     ⟨(some 22), .callv, [.t 21, .c (.int .i64 0), .c (.int .i64 0)], none⟩])
   (.seq (.seq (.reg [⟨(some 23), .load 1 false, [.t 9], none⟩,
     ⟨(some 24), .un .not, [.t 23], none⟩,
     ⟨(some 25), .mov, [.t 24], none⟩,
     ⟨(some 26), .load 1 false, [.t 10], (some (25, false))⟩,
     ⟨(some 27), .load 1 false, [.t 3], (some (25, false))⟩,
     ⟨(some 28), .len false, [.t 27], (some (25, false))⟩,
     ⟨(some 29), .bin .neq, [.t 26, .t 28], (some (25, false))⟩,
     ⟨(some 30), .pick, [.t 25, .c (.bool true), .t 29], none⟩])
   (.cond (.t 30) (.seq (.reg [⟨(some 4), .mov, [.c (.int .i64 0)], none⟩,
     ⟨(some 5), .mov, [.c (.int .i64 76)], none⟩])
   .ret) .skip))
   (.seq (.reg [⟨(some 31), .load 1 false, [.t 7], none⟩,
     ⟨(some 4), .mov, [.t 31], none⟩,
     ⟨(some 5), .mov, [.c (.int .i64 0)], none⟩])
   .ret)))))))))
theorem chk.bin_Bound : chkF Tryd.prog 21 = some (32, ir.bin_Bound, [.tmp 4, .tmp 5]) := by kernel_rfl

/-- paravane/bin.CheckInfill -/
abbrev F.bin_CheckInfill : Nat := 24
def ir.bin_CheckInfill : IC :=
 (.seq (.reg [⟨(some 1), .box, [.t 0], none⟩,
     ⟨(some 2), .mov, [.c (.int .i64 0)], none⟩])
   (.seq (.seq (.reg [⟨(some 7), .faddr 0, [.t 1], none⟩,
     ⟨(some 8), .load 1 false, [.t 7], none⟩,
     ⟨(some 9), .len false, [.t 8], none⟩,
     ⟨(some 10), .bin .gtr, [.t 9, .c (.int .i64 16)], none⟩,
     ⟨(some 11), .mov, [.t 10], none⟩,
     ⟨(some 12), .faddr 1, [.t 1], (some (11, false))⟩,
     ⟨(some 13), .load 1 false, [.t 12], (some (11, false))⟩,
     ⟨(some 14), .len false, [.t 13], (some (11, false))⟩,
     ⟨(some 15), .bin .gtr, [.t 14, .c (.int .i64 10)], (some (11, false))⟩,
     ⟨(some 16), .pick, [.t 11, .c (.bool true), .t 15], none⟩])
   (.cond (.t 16) (.seq (.reg [⟨(some 2), .mov, [.c (.int .i64 74)], none⟩])
   .ret) .skip))
   (.seq (.seq (.reg [⟨(some 17), .faddr 0, [.t 1], none⟩,
     ⟨(some 18), .load 1 false, [.t 17], none⟩,
     ⟨(some 19), .len false, [.t 18], none⟩,
     ⟨(some 20), .mov, [.c (.int .i64 0)], none⟩])
   (.block 0 (.loop (.seq (.reg [⟨(some 21), .bin .lss, [.t 20, .t 19], none⟩])
   (.seq (.cond (.t 21) .skip (.exit 0))
   (.seq (.block 1 (.seq (.reg [⟨(some 22), .iaddrS 1, [.t 18, .t 20], none⟩,
     ⟨(some 23), .load 1 false, [.t 22], none⟩,
     ⟨(some 4), .mov, [.t 23], none⟩])
   (.seq (.reg [⟨(some 24), .mov, [.t 4], none⟩,
     ⟨(some 25), .call 47, [.t 24, .c (.int .i64 1), .c (.int .i64 100)], none⟩,
     ⟨(some 26), .un .not, [.t 25], none⟩])
   (.cond (.t 26) (.seq (.reg [⟨(some 2), .mov, [.c (.int .i64 74)], none⟩])
   .ret) .skip))))
   (.reg [⟨(some 27), .bin .add, [.t 20, .c (.int .i64 1)], none⟩,
     ⟨(some 20), .mov, [.t 27], none⟩])))))))
   (.seq (.seq (.reg [⟨(some 28), .faddr 1, [.t 1], none⟩,
     ⟨(some 29), .load 1 false, [.t 28], none⟩,
     ⟨(some 30), .len false, [.t 29], none⟩,
     ⟨(some 31), .mov, [.c (.int .i64 0)], none⟩])
   (.block 2 (.loop (.seq (.reg [⟨(some 32), .bin .lss, [.t 31, .t 30], none⟩])
   (.seq (.cond (.t 32) .skip (.exit 2))
   (.seq (.block 3 (.seq (.reg [⟨(some 33), .iaddrS 2, [.t 29, .t 31], none⟩,
     ⟨(some 34), .load 2 true, [.t 33], none⟩,
     ⟨(some 6), .alloc [(.int .i64 0), .nils], [], none⟩,
     ⟨none, .store 2, [.t 6, .t 34], none⟩])
   (.seq (.reg [⟨(some 35), .faddr 0, [.t 6], none⟩,
     ⟨(some 36), .load 1 false, [.t 35], none⟩,
     ⟨(some 37), .call 47, [.t 36, .c (.int .i64 1), .c (.int .i64 1000)], none⟩,
     ⟨(some 38), .un .not, [.t 37], none⟩,
     ⟨(some 39), .mov, [.t 38], none⟩,
     ⟨(some 40), .faddr 1, [.t 6], (some (39, false))⟩,
     ⟨(some 41), .load 1 false, [.t 40], (some (39, false))⟩,
     ⟨(some 42), .len false, [.t 41], (some (39, false))⟩,
     ⟨(some 43), .faddr 0, [.t 1], (some (39, false))⟩,
     ⟨(some 44), .load 1 false, [.t 43], (some (39, false))⟩,
     ⟨(some 45), .len false, [.t 44], (some (39, false))⟩,
     ⟨(some 46), .bin .neq, [.t 42, .t 45], (some (39, false))⟩,
     ⟨(some 47), .pick, [.t 39, .c (.bool true), .t 46], none⟩,
     ⟨(some 48), .mov, [.t 47], none⟩,
     ⟨(some 49), .faddr 1, [.t 6], (some (48, false))⟩,
     ⟨(some 50), .load 1 false, [.t 49], (some (48, false))⟩,
     ⟨(some 51), .call 45, [.t 50, .c (.func (.func 63) [] [])], (some (48, false))⟩,
     ⟨(some 52), .pick, [.t 48, .c (.bool true), .t 51], none⟩])
   (.cond (.t 52) (.seq (.reg [⟨(some 2), .mov, [.c (.int .i64 74)], none⟩])
   .ret) .skip))))
   (.reg [⟨(some 53), .bin .add, [.t 31, .c (.int .i64 1)], none⟩,
     ⟨(some 31), .mov, [.t 53], none⟩])))))))
   (.seq (.reg [⟨(some 2), .mov, [.c (.int .i64 0)], none⟩])
   .ret)))))
theorem chk.bin_CheckInfill : chkF Tryd.prog 24 = some (54, ir.bin_CheckInfill, [.tmp 2]) := by kernel_rfl

/-- paravane/bin.Best -/
abbrev F.bin_Best : Nat := 26
def ir.bin_Best : IC :=
 (.seq (.reg [⟨(some 1), .box, [.t 0], none⟩,
     ⟨(some 2), .mov, [.c .nils], none⟩,
     ⟨(some 3), .mov, [.c (.int .i64 0)], none⟩,
     ⟨(some 4), .mov, [.c (.int .i64 0)], none⟩])
   (.seq (.seq (.reg [⟨(some 8), .load 2 true, [.t 1], none⟩,
     ⟨(some 9), .call 24, [.t 8], none⟩,
     ⟨(some 5), .mov, [.t 9], none⟩])
   (.seq (.reg [⟨(some 10), .mov, [.t 5], none⟩,
     ⟨(some 11), .bin .neq, [.t 10, .c (.int .i64 0)], none⟩])
   (.cond (.t 11) (.seq (.reg [⟨(some 12), .mov, [.t 5], none⟩,
     ⟨(some 2), .mov, [.c .nils], none⟩,
     ⟨(some 3), .mov, [.c (.int .i64 0)], none⟩,
     ⟨(some 4), .mov, [.t 12], none⟩])
   .ret) .skip)))
   (.seq (.reg [⟨(some 14), .load 2 true, [.t 1], none⟩,
     ⟨(some 15), .call 64, [.t 14, .c (.int .i64 0)], none⟩,
     ⟨(some 13), .mov, [.t 15], none⟩,
     ⟨(some 16), .extract 0, [.t 13], none⟩,
     ⟨(some 17), .extract 1, [.t 13], none⟩,
     ⟨(some 6), .mov, [.t 16], none⟩,
     ⟨(some 7), .mov, [.t 17], none⟩])
   (.seq (.seq (.reg [⟨(some 18), .mov, [.t 7], none⟩,
     ⟨(some 19), .un .not, [.t 18], none⟩])
   (.cond (.t 19) (.seq (.reg [⟨(some 2), .mov, [.c .nils], none⟩,
     ⟨(some 3), .mov, [.c (.int .i64 0)], none⟩,
     ⟨(some 4), .mov, [.c (.int .i64 4)], none⟩])
   .ret) .skip))
   (.seq (.draw [0, 1, 0, 0, 15, 31, 63, 127] [⟨(some 20), .mov, [.t 6], none⟩,
     ⟨(some 21), .call 65, [.t 20], none⟩,
     ⟨(some 22), .load 2 true, [.t 1], none⟩,
     ⟨(some 23), .mov, [.t 6], none⟩,
     ⟨(some 24), .call 66, [.t 22, .t 23], none⟩,
     ⟨(some 2), .mov, [.t 21], none⟩,
     ⟨(some 3), .mov, [.t 24], none⟩,
     ⟨(some 4), .mov, [.c (.int .i64 0)], none⟩])
   .ret)))))
theorem chk.bin_Best : chkF Tryd.prog 26 = some (25, ir.bin_Best, [.tmp 2, .tmp 3, .tmp 4]) := by kernel_rfl

/-- paravane/paravaneref00.Alike -/
abbrev F.ref00_Alike : Nat := 28
def ir.ref00_Alike : IC :=
 (.seq (.reg [⟨(some 4), .mov, [.c (.bool false)], none⟩])
   (.seq (.seq (.reg [⟨(some 6), .mov, [.t 0], none⟩,
     ⟨(some 7), .len false, [.t 6], none⟩,
     ⟨(some 8), .mov, [.t 1], none⟩,
     ⟨(some 9), .len false, [.t 8], none⟩,
     ⟨(some 10), .bin .neq, [.t 7, .t 9], none⟩])
   (.cond (.t 10) (.seq (.reg [⟨(some 4), .mov, [.c (.bool false)], none⟩])
   .ret) .skip))
   (.seq (.seq (.reg [⟨(some 5), .mov, [.c (.int .i64 0)], none⟩])
   (.block 0 (.loop (.seq (.seq (.reg [⟨(some 11), .mov, [.t 5], none⟩,
     ⟨(some 12), .mov, [.t 0], none⟩,
     ⟨(some 13), .len false, [.t 12], none⟩,
     ⟨(some 14), .bin .lss, [.t 11, .t 13], none⟩])
   (.cond (.t 14) .skip (.exit 0)))
   (.seq (.block 1 (.seq (.draw [0, 0, 3, 7, 0, 0, 48, 112, 255] [⟨(some 17), .mov, [.t 0], none⟩,
     ⟨(some 18), .mov, [.t 5], none⟩,
     ⟨(some 19), .iaddrS 1, [.t 17, .t 18], none⟩,
     ⟨(some 20), .load 1 false, [.t 19], none⟩,
     ⟨(some 21), .mov, [.t 1], none⟩,
     ⟨(some 22), .mov, [.t 5], none⟩,
     ⟨(some 23), .iaddrS 1, [.t 21, .t 22], none⟩,
     ⟨(some 24), .load 1 false, [.t 23], none⟩,
     ⟨(some 25), .bin .neq, [.t 20, .t 24], none⟩])
   (.cond (.t 25) (.seq (.reg [⟨(some 4), .mov, [.c (.bool false)], none⟩])
   .ret) .skip)))
   (.reg [⟨(some 15), .mov, [.t 5], none⟩,
     ⟨(some 16), .bin .add, [.t 15, .c (.int .i64 1)], none⟩,
     ⟨(some 5), .mov, [.t 16], none⟩]))))))
   (.seq (.reg [⟨(some 4), .mov, [.c (.bool true)], none⟩])
   .ret))))
theorem chk.ref00_Alike : chkF Tryd.prog 28 = some (26, ir.ref00_Alike, [.tmp 4]) := by kernel_rfl

/-- paravane/bin.Without -/
abbrev F.bin_Without : Nat := 29
def ir.bin_Without : IC :=
 (.seq (.reg [⟨(some 2), .box, [.t 0], none⟩,
     ⟨(some 4), .mov, [.c (.int .i64 0)], none⟩,
     ⟨(some 5), .mov, [.c (.int .i64 0)], none⟩])
   (.seq (.seq (.reg [⟨(some 11), .load 2 true, [.t 2], none⟩,
     ⟨(some 12), .call 24, [.t 11], none⟩,
     ⟨(some 6), .mov, [.t 12], none⟩])
   (.seq (.reg [⟨(some 13), .mov, [.t 6], none⟩,
     ⟨(some 14), .bin .neq, [.t 13, .c (.int .i64 0)], none⟩])
   (.cond (.t 14) (.seq (.reg [⟨(some 15), .mov, [.t 6], none⟩,
     ⟨(some 4), .mov, [.c (.int .i64 0)], none⟩,
     ⟨(some 5), .mov, [.t 15], none⟩])
   .ret) .skip)))
   (.seq (.seq (.reg [⟨(some 16), .mov, [.t 1], none⟩,
     ⟨(some 17), .faddr 1, [.t 2], none⟩,
     ⟨(some 18), .load 1 false, [.t 17], none⟩,
     ⟨(some 19), .len false, [.t 18], none⟩,
     ⟨(some 20), .bin .sub, [.t 19, .c (.int .i64 1)], none⟩,
     ⟨(some 21), .call 47, [.t 16, .c (.int .i64 0), .t 20], none⟩,
     ⟨(some 22), .un .not, [.t 21], none⟩])
   (.cond (.t 22) (.seq (.reg [⟨(some 4), .mov, [.c (.int .i64 0)], none⟩,
     ⟨(some 5), .mov, [.c (.int .i64 75)], none⟩])
   .ret) .skip))
   (.seq (.draw [0, 0, 2, 7, 15, 31, 31, 63, 255] [⟨(some 24), .load 2 true, [.t 2], none⟩,
     ⟨(some 25), .mov, [.t 1], none⟩,
     ⟨(some 26), .bin .shl, [.c (.int .i64 1), .t 25], none⟩,
     ⟨(some 27), .call 64, [.t 24, .t 26], none⟩,
     ⟨(some 23), .mov, [.t 27], none⟩,
     ⟨(some 28), .extract 0, [.t 23], none⟩,
     ⟨(some 29), .extract 1, [.t 23], none⟩,
     ⟨(some 7), .mov, [.t 28], none⟩,
     ⟨(some 8), .mov, [.t 29], none⟩])
   (.seq (.seq (.reg [⟨(some 30), .mov, [.t 8], none⟩,
     ⟨(some 31), .un .not, [.t 30], none⟩])
   (.cond (.t 31) (.seq (.reg [⟨(some 4), .mov, [.c (.int .i64 0)], none⟩,
     ⟨(some 5), .mov, [.c (.int .i64 4)], none⟩])
   .ret) .skip))
   (.seq (.reg [⟨(some 33), .load 2 true, [.t 2], none⟩,
     ⟨(some 34), .call 64, [.t 33, .c (.int .i64 0)], none⟩,
     ⟨(some 32), .mov, [.t 34], none⟩,
     ⟨(some 35), .extract 0, [.t 32], none⟩,
     ⟨(some 36), .extract 1, [.t 32], none⟩,
     ⟨(some 9), .mov, [.t 35], none⟩,
     ⟨(some 10), .mov, [.t 36], none⟩])
   (.seq (.draw [0, 0, 3, 0, 0, 31, 63, 127, 255] [⟨(some 37), .load 2 true, [.t 2], none⟩,
     ⟨(some 38), .mov, [.t 7], none⟩,
     ⟨(some 39), .call 66, [.t 37, .t 38], none⟩,
     ⟨(some 40), .load 2 true, [.t 2], none⟩,
     ⟨(some 41), .mov, [.t 9], none⟩,
     ⟨(some 42), .call 66, [.t 40, .t 41], none⟩,
     ⟨(some 43), .bin .sub, [.t 39, .t 42], none⟩,
     ⟨(some 4), .mov, [.t 43], none⟩,
     ⟨(some 5), .mov, [.c (.int .i64 0)], none⟩])
   .ret)))))))
theorem chk.bin_Without : chkF Tryd.prog 29 = some (44, ir.bin_Without, [.tmp 4, .tmp 5]) := by kernel_rfl

/-- paravane/paravanelaw07.grid -/
abbrev F.law07_grid : Nat := 33
def ir.law07_grid : IC :=
 (.seq (.reg [⟨(some 0), .alloc [(.int .i64 0), (.int .i64 0), (.int .i64 0), (.int .i64 0), (.int .i64 0), .nils], [], none⟩])
   (.seq (.reg [⟨(some 1), .call 34, [.c (.int .i64 0), .c (.int .i64 25)], none⟩,
     ⟨(some 2), .call 34, [.c (.int .i64 26), .c (.int .i64 400)], none⟩,
     ⟨(some 3), .mkslice 2 82, [.t 1, .t 2], none⟩,
     ⟨(some 4), .build [(.int .i64 0), (.int .i64 0), (.int .i64 0), (.int .i64 0), (.int .i64 0), .nils] [(2, 1), (3, 1), (4, 1), (5, 1)], [.c (.int .i64 2), .c (.int .i64 3), .c (.int .i64 2), .t 3], none⟩,
     ⟨none, .store 6, [.t 0, .t 4], none⟩])
   .ret))
theorem chk.law07_grid : chkF Tryd.prog 33 = some (5, ir.law07_grid, [.cell 0 26]) := by kernel_rfl

/-- paravane/paravanelaw07.bound -/
abbrev F.law07_bound : Nat := 34
def ir.law07_bound : IC :=
 (.seq (.reg [⟨(some 4), .alloc [(.int .i64 0), (.int .i64 0)], [], none⟩])
   (.seq (.reg [⟨(some 5), .mov, [.t 0], none⟩,
     ⟨(some 6), .mov, [.t 1], none⟩,
     ⟨(some 7), .build [(.int .i64 0), (.int .i64 0)] [(0, 1), (1, 1)], [.t 5, .t 6], none⟩,
     ⟨none, .store 2, [.t 4, .t 7], none⟩])
   .ret))
theorem chk.law07_bound : chkF Tryd.prog 34 = some (8, ir.law07_bound, [.cell 4 82]) := by kernel_rfl

/-- paravane/bin.CheckGrid -/
abbrev F.bin_CheckGrid : Nat := 35
def ir.bin_CheckGrid : IC :=
 (.seq (.reg [⟨(some 1), .box, [.t 0], none⟩,
     ⟨(some 2), .mov, [.c (.int .i64 0)], none⟩])
   (.seq (.seq (.reg [⟨(some 6), .faddr 0, [.t 1], none⟩,
     ⟨(some 7), .load 2 true, [.t 6], none⟩,
     ⟨(some 8), .call 51, [.t 7], none⟩,
     ⟨(some 9), .bin .neq, [.t 8, .c (.int .i64 0)], none⟩,
     ⟨(some 10), .mov, [.t 9], none⟩,
     ⟨(some 11), .faddr 2, [.t 1], (some (10, false))⟩,
     ⟨(some 12), .load 1 false, [.t 11], (some (10, false))⟩,
     ⟨(some 13), .call 47, [.t 12, .c (.int .i64 1), .c (.int .i64 1000)], (some (10, false))⟩,
     ⟨(some 14), .un .not, [.t 13], (some (10, false))⟩,
     ⟨(some 15), .pick, [.t 10, .c (.bool true), .t 14], none⟩,
     ⟨(some 16), .mov, [.t 15], none⟩,
     ⟨(some 17), .faddr 3, [.t 1], (some (16, false))⟩,
     ⟨(some 18), .load 1 false, [.t 17], (some (16, false))⟩,
     ⟨(some 19), .call 47, [.t 18, .c (.int .i64 1), .c (.int .i64 16)], (some (16, false))⟩,
     ⟨(some 20), .un .not, [.t 19], (some (16, false))⟩,
     ⟨(some 21), .pick, [.t 16, .c (.bool true), .t 20], none⟩,
     ⟨(some 22), .mov, [.t 21], none⟩,
     ⟨(some 23), .faddr 4, [.t 1], (some (22, false))⟩,
     ⟨(some 24), .load 1 false, [.t 23], (some (22, false))⟩,
     ⟨(some 25), .call 47, [.t 24, .c (.int .i64 1), .c (.int .i64 16)], (some (22, false))⟩,
     ⟨(some 26), .un .not, [.t 25], (some (22, false))⟩,
     ⟨(some 27), .pick, [.t 22, .c (.bool true), .t 26], none⟩,
     ⟨(some 28), .mov, [.t 27], none⟩,
     ⟨(some 29), .faddr 5, [.t 1], (some (28, false))⟩,
     ⟨(some 30), .load 1 false, [.t 29], (some (28, false))⟩,
     ⟨(some 31), .len false, [.t 30], (some (28, false))⟩,
     ⟨(some 32), .call 47, [.t 31, .c (.int .i64 1), .c (.int .i64 4)], (some (28, false))⟩,
     ⟨(some 33), .un .not, [.t 32], (some (28, false))⟩,
     ⟨(some 34), .pick, [.t 28, .c (.bool true), .t 33], none⟩])
   (.cond (.t 34) (.seq (.reg [⟨(some 2), .mov, [.c (.int .i64 70)], none⟩])
   .ret) .skip))
   (.seq (.reg [⟨(some 3), .mov, [.c (.int .i64 (-1))], none⟩])
   (.seq (.seq (.reg [⟨(some 35), .faddr 5, [.t 1], none⟩,
     ⟨(some 36), .load 1 false, [.t 35], none⟩,
     ⟨(some 37), .len false, [.t 36], none⟩,
     ⟨(some 38), .mov, [.c (.int .i64 0)], none⟩])
   (.block 0 (.loop (.seq (.reg [⟨(some 39), .bin .lss, [.t 38, .t 37], none⟩])
   (.seq (.cond (.t 39) .skip (.exit 0))
   (.seq (.block 1 (.seq (.reg [⟨(some 40), .iaddrS 2, [.t 36, .t 38], none⟩,
     ⟨(some 41), .load 2 true, [.t 40], none⟩,
     ⟨(some 5), .alloc [(.int .i64 0), (.int .i64 0)], [], none⟩,
     ⟨none, .store 2, [.t 5, .t 41], none⟩])
   (.seq (.seq (.reg [⟨(some 42), .faddr 0, [.t 5], none⟩,
     ⟨(some 43), .load 1 false, [.t 42], none⟩,
     ⟨(some 44), .mov, [.t 3], none⟩,
     ⟨(some 45), .bin .leq, [.t 43, .t 44], none⟩,
     ⟨(some 46), .mov, [.t 45], none⟩,
     ⟨(some 47), .faddr 0, [.t 5], (some (46, false))⟩,
     ⟨(some 48), .load 1 false, [.t 47], (some (46, false))⟩,
     ⟨(some 49), .faddr 1, [.t 5], (some (46, false))⟩,
     ⟨(some 50), .load 1 false, [.t 49], (some (46, false))⟩,
     ⟨(some 51), .bin .gtr, [.t 48, .t 50], (some (46, false))⟩,
     ⟨(some 52), .pick, [.t 46, .c (.bool true), .t 51], none⟩,
     ⟨(some 53), .mov, [.t 52], none⟩,
     ⟨(some 54), .faddr 1, [.t 5], (some (53, false))⟩,
     ⟨(some 55), .load 1 false, [.t 54], (some (53, false))⟩,
     ⟨(some 56), .bin .gtr, [.t 55, .c (.int .i64 17179869184)], (some (53, false))⟩,
     ⟨(some 57), .pick, [.t 53, .c (.bool true), .t 56], none⟩])
   (.cond (.t 57) (.seq (.reg [⟨(some 2), .mov, [.c (.int .i64 70)], none⟩])
   .ret) .skip))
   (.reg [⟨(some 58), .faddr 1, [.t 5], none⟩,
     ⟨(some 59), .load 1 false, [.t 58], none⟩,
     ⟨(some 3), .mov, [.t 59], none⟩]))))
   (.reg [⟨(some 60), .bin .add, [.t 38, .c (.int .i64 1)], none⟩,
     ⟨(some 38), .mov, [.t 60], none⟩])))))))
   (.seq (.reg [⟨(some 2), .mov, [.c (.int .i64 0)], none⟩])
   .ret)))))
theorem chk.bin_CheckGrid : chkF Tryd.prog 35 = some (61, ir.bin_CheckGrid, [.tmp 2]) := by kernel_rfl

/-- paravane/paravanelaw07.lines -/
abbrev F.law07_lines : Nat := 36
def ir.law07_lines : IC :=
 (.seq (.reg [⟨(some 0), .alloc [.nils, .nils], [], none⟩])
   (.seq (.reg [⟨(some 1), .call 69, [.c (.int .i64 1), .c (.int .i64 1)], none⟩,
     ⟨(some 2), .call 69, [.c (.int .i64 3), .c (.int .i64 3)], none⟩,
     ⟨(some 3), .call 34, [.c (.int .i64 7), .c (.int .i64 9)], none⟩,
     ⟨(some 4), .call 34, [.c (.int .i64 3), .c (.int .i64 3)], none⟩,
     ⟨(some 5), .call 34, [.c (.int .i64 10), .c (.int .i64 12)], none⟩,
     ⟨(some 6), .call 34, [.c (.int .i64 4), .c (.int .i64 6)], none⟩,
     ⟨(some 7), .build [(.int .i64 0), (.int .i64 0), (.int .i64 0), (.int .i64 0), (.int .i64 0), (.int .i64 0), (.int .i64 0), (.int .i64 0)] [(0, 2), (2, 2), (4, 2), (6, 2)], [.t 3, .t 4, .t 5, .t 6], none⟩,
     ⟨(some 8), .mkslice 8 87, [.t 1, .t 2, .t 7], none⟩,
     ⟨(some 9), .build [(.int .i64 0), (.int .i64 0)] [(0, 1), (1, 1)], [.c (.int .i64 0), .c (.int .i64 1)], none⟩,
     ⟨(some 10), .build [(.int .i64 0), (.int .i64 0)] [(0, 1), (1, 1)], [.c (.int .i64 0), .c (.int .i64 2)], none⟩,
     ⟨(some 11), .build [(.int .i64 0), (.int .i64 0)] [(0, 1), (1, 1)], [.c (.int .i64 1), .c (.int .i64 2)], none⟩,
     ⟨(some 12), .mkslice 2 70, [.t 9, .t 10, .t 11], none⟩,
     ⟨(some 13), .build [.nils, .nils] [(0, 1), (1, 1)], [.t 8, .t 12], none⟩,
     ⟨none, .store 2, [.t 0, .t 13], none⟩])
   .ret))
theorem chk.law07_lines : chkF Tryd.prog 36 = some (14, ir.law07_lines, [.cell 0 45]) := by kernel_rfl

/-- paravane/bin.CheckLayout -/
abbrev F.bin_CheckLayout : Nat := 37
def ir.bin_CheckLayout : IC :=
 (.seq (.reg [⟨(some 1), .box, [.t 0], none⟩,
     ⟨(some 2), .mov, [.c (.int .i64 0)], none⟩])
   (.seq (.seq (.reg [⟨(some 9), .faddr 0, [.t 1], none⟩,
     ⟨(some 10), .load 1 false, [.t 9], none⟩,
     ⟨(some 11), .len false, [.t 10], none⟩,
     ⟨(some 12), .bin .gtr, [.t 11, .c (.int .i64 16)], none⟩,
     ⟨(some 13), .mov, [.t 12], none⟩,
     ⟨(some 14), .faddr 1, [.t 1], (some (13, false))⟩,
     ⟨(some 15), .load 1 false, [.t 14], (some (13, false))⟩,
     ⟨(some 16), .len false, [.t 15], (some (13, false))⟩,
     ⟨(some 17), .bin .gtr, [.t 16, .c (.int .i64 64)], (some (13, false))⟩,
     ⟨(some 18), .pick, [.t 13, .c (.bool true), .t 17], none⟩])
   (.cond (.t 18) (.seq (.reg [⟨(some 2), .mov, [.c (.int .i64 71)], none⟩])
   .ret) .skip))
   (.seq (.seq (.reg [⟨(some 19), .faddr 0, [.t 1], none⟩,
     ⟨(some 20), .load 1 false, [.t 19], none⟩,
     ⟨(some 21), .len false, [.t 20], none⟩,
     ⟨(some 22), .mov, [.c (.int .i64 0)], none⟩])
   (.block 0 (.loop (.seq (.reg [⟨(some 23), .bin .lss, [.t 22, .t 21], none⟩])
   (.seq (.cond (.t 23) .skip (.exit 0))
   (.seq (.block 1 (.seq (.reg [⟨(some 24), .iaddrS 8, [.t 20, .t 22], none⟩,
     ⟨(some 25), .load 8 true, [.t 24], none⟩,
     ⟨(some 4), .alloc [(.int .i64 0), (.int .i64 0), (.int .i64 0), (.int .i64 0), (.int .i64 0), (.int .i64 0), (.int .i64 0), (.int .i64 0)], [], none⟩,
     ⟨none, .store 8, [.t 4, .t 25], none⟩])
   (.seq (.reg [⟨(some 27), .load 8 true, [.t 4], none⟩,
     ⟨(some 28), .call 70, [.t 27], none⟩,
     ⟨(some 26), .mov, [.t 28], none⟩,
     ⟨(some 29), .extract 0, [.t 26], none⟩,
     ⟨(some 30), .extract 1, [.t 26], none⟩,
     ⟨(some 5), .mov, [.t 29], none⟩,
     ⟨(some 6), .mov, [.t 30], none⟩])
   (.seq (.reg [⟨(some 31), .mov, [.t 6], none⟩,
     ⟨(some 32), .bin .neq, [.t 31, .c (.int .i64 0)], none⟩,
     ⟨(some 33), .mov, [.t 32], none⟩,
     ⟨(some 34), .mov, [.t 5], (some (33, false))⟩,
     ⟨(some 35), .call 47, [.t 34, .c (.int .i64 1), .c (.int .i64 64)], (some (33, false))⟩,
     ⟨(some 36), .un .not, [.t 35], (some (33, false))⟩,
     ⟨(some 37), .pick, [.t 33, .c (.bool true), .t 36], none⟩])
   (.cond (.t 37) (.seq (.reg [⟨(some 2), .mov, [.c (.int .i64 71)], none⟩])
   .ret) .skip)))))
   (.reg [⟨(some 38), .bin .add, [.t 22, .c (.int .i64 1)], none⟩,
     ⟨(some 22), .mov, [.t 38], none⟩])))))))
   (.seq (.seq (.reg [⟨(some 39), .faddr 1, [.t 1], none⟩,
     ⟨(some 40), .load 1 false, [.t 39], none⟩,
     ⟨(some 41), .len false, [.t 40], none⟩,
     ⟨(some 42), .mov, [.c (.int .i64 0)], none⟩])
   (.block 2 (.loop (.seq (.reg [⟨(some 43), .bin .lss, [.t 42, .t 41], none⟩])
   (.seq (.cond (.t 43) .skip (.exit 2))
   (.seq (.block 3 (.seq (.reg [⟨(some 44), .iaddrS 2, [.t 40, .t 42], none⟩,
     ⟨(some 45), .load 2 true, [.t 44], none⟩,
     ⟨(some 8), .alloc [(.int .i64 0), (.int .i64 0)], [], none⟩,
     ⟨none, .store 2, [.t 8, .t 45], none⟩])
   (.seq (.reg [⟨(some 46), .iaddrA 2 1, [.t 8, .c (.int .i64 0)], none⟩,
     ⟨(some 47), .load 1 false, [.t 46], none⟩,
     ⟨(some 48), .faddr 0, [.t 1], none⟩,
     ⟨(some 49), .load 1 false, [.t 48], none⟩,
     ⟨(some 50), .len false, [.t 49], none⟩,
     ⟨(some 51), .bin .sub, [.t 50, .c (.int .i64 1)], none⟩,
     ⟨(some 52), .call 47, [.t 47, .c (.int .i64 0), .t 51], none⟩,
     ⟨(some 53), .un .not, [.t 52], none⟩,
     ⟨(some 54), .mov, [.t 53], none⟩,
     ⟨(some 55), .iaddrA 2 1, [.t 8, .c (.int .i64 1)], (some (54, false))⟩,
     ⟨(some 56), .load 1 false, [.t 55], (some (54, false))⟩,
     ⟨(some 57), .faddr 0, [.t 1], (some (54, false))⟩,
     ⟨(some 58), .load 1 false, [.t 57], (some (54, false))⟩,
     ⟨(some 59), .len false, [.t 58], (some (54, false))⟩,
     ⟨(some 60), .bin .sub, [.t 59, .c (.int .i64 1)], (some (54, false))⟩,
     ⟨(some 61), .call 47, [.t 56, .c (.int .i64 0), .t 60], (some (54, false))⟩,
     ⟨(some 62), .un .not, [.t 61], (some (54, false))⟩,
     ⟨(some 63), .pick, [.t 54, .c (.bool true), .t 62], none⟩,
     ⟨(some 64), .mov, [.t 63], none⟩,
     ⟨(some 65), .iaddrA 2 1, [.t 8, .c (.int .i64 0)], (some (64, false))⟩,
     ⟨(some 66), .load 1 false, [.t 65], (some (64, false))⟩,
     ⟨(some 67), .iaddrA 2 1, [.t 8, .c (.int .i64 1)], (some (64, false))⟩,
     ⟨(some 68), .load 1 false, [.t 67], (some (64, false))⟩,
     ⟨(some 69), .bin .eql, [.t 66, .t 68], (some (64, false))⟩,
     ⟨(some 70), .pick, [.t 64, .c (.bool true), .t 69], none⟩])
   (.cond (.t 70) (.seq (.reg [⟨(some 2), .mov, [.c (.int .i64 71)], none⟩])
   .ret) .skip))))
   (.reg [⟨(some 71), .bin .add, [.t 42, .c (.int .i64 1)], none⟩,
     ⟨(some 42), .mov, [.t 71], none⟩])))))))
   (.seq (.reg [⟨(some 2), .mov, [.c (.int .i64 0)], none⟩])
   .ret)))))
theorem chk.bin_CheckLayout : chkF Tryd.prog 37 = some (72, ir.bin_CheckLayout, [.tmp 2]) := by kernel_rfl

/-- paravane/bin.Lacks -/
abbrev F.bin_Lacks : Nat := 38
def ir.bin_Lacks : IC :=
 (.seq (.reg [⟨(some 3), .box, [.t 0], none⟩,
     ⟨(some 4), .box, [.t 1], none⟩,
     ⟨(some 6), .mov, [.c .nils], none⟩,
     ⟨(some 7), .mov, [.c (.int .i64 0)], none⟩])
   (.seq (.reg [⟨(some 11), .load 6 true, [.t 3], none⟩,
     ⟨(some 12), .load 2 true, [.t 4], none⟩,
     ⟨(some 13), .call 53, [.t 11, .t 12], none⟩,
     ⟨(some 10), .mov, [.t 13], none⟩,
     ⟨(some 14), .extract 0, [.t 10], none⟩,
     ⟨(some 15), .extract 1, [.t 10], none⟩,
     ⟨(some 8), .alloc [(.int .i64 0), (.int .i64 0), (.int .i64 0), (.int .i64 0), (.int .i64 0), .nils, .nils, .nils], [], none⟩,
     ⟨none, .store 8, [.t 8, .t 14], none⟩,
     ⟨(some 9), .mov, [.t 15], none⟩])
   (.seq (.seq (.reg [⟨(some 16), .mov, [.t 9], none⟩,
     ⟨(some 17), .bin .neq, [.t 16, .c (.int .i64 0)], none⟩])
   (.cond (.t 17) (.seq (.reg [⟨(some 18), .mov, [.t 9], none⟩,
     ⟨(some 6), .mov, [.c .nils], none⟩,
     ⟨(some 7), .mov, [.t 18], none⟩])
   .ret) .skip))
   (.seq (.seq (.reg [⟨(some 19), .load 6 true, [.t 3], none⟩,
     ⟨(some 20), .mov, [.t 2], none⟩,
     ⟨(some 21), .call 71, [.t 19, .t 20], none⟩,
     ⟨(some 22), .un .not, [.t 21], none⟩])
   (.cond (.t 22) (.seq (.reg [⟨(some 6), .mov, [.c .nils], none⟩,
     ⟨(some 7), .mov, [.c (.int .i64 73)], none⟩])
   .ret) .skip))
   (.seq (.reg [⟨(some 23), .load 8 true, [.t 8], none⟩,
     ⟨(some 24), .mov, [.t 2], none⟩,
     ⟨(some 25), .call 72, [.t 23, .t 24], none⟩,
     ⟨(some 6), .mov, [.t 25], none⟩,
     ⟨(some 7), .mov, [.c (.int .i64 0)], none⟩])
   .ret)))))
theorem chk.bin_Lacks : chkF Tryd.prog 38 = some (26, ir.bin_Lacks, [.tmp 6, .tmp 7]) := by kernel_rfl

/-- paravane/bin.Gain -/
abbrev F.bin_Gain : Nat := 39
def ir.bin_Gain : IC :=
 (.seq (.reg [⟨(some 3), .box, [.t 0], none⟩,
     ⟨(some 4), .box, [.t 1], none⟩,
     ⟨(some 6), .mov, [.c (.int .i64 0)], none⟩,
     ⟨(some 7), .mov, [.c (.int .i64 0)], none⟩])
   (.seq (.reg [⟨(some 17), .load 6 true, [.t 3], none⟩,
     ⟨(some 18), .load 2 true, [.t 4], none⟩,
     ⟨(some 19), .call 53, [.t 17, .t 18], none⟩,
     ⟨(some 16), .mov, [.t 19], none⟩,
     ⟨(some 20), .extract 0, [.t 16], none⟩,
     ⟨(some 21), .extract 1, [.t 16], none⟩,
     ⟨(some 8), .alloc [(.int .i64 0), (.int .i64 0), (.int .i64 0), (.int .i64 0), (.int .i64 0), .nils, .nils, .nils], [], none⟩,
     ⟨none, .store 8, [.t 8, .t 20], none⟩,
     ⟨(some 9), .mov, [.t 21], none⟩])
   (.seq (.seq (.reg [⟨(some 22), .mov, [.t 9], none⟩,
     ⟨(some 23), .bin .neq, [.t 22, .c (.int .i64 0)], none⟩])
   (.cond (.t 23) (.seq (.reg [⟨(some 24), .mov, [.t 9], none⟩,
     ⟨(some 6), .mov, [.c (.int .i64 0)], none⟩,
     ⟨(some 7), .mov, [.t 24], none⟩])
   .ret) .skip))
   (.seq (.seq (.reg [⟨(some 25), .mov, [.t 2], none⟩,
     ⟨(some 26), .faddr 0, [.t 4], none⟩,
     ⟨(some 27), .load 1 false, [.t 26], none⟩,
     ⟨(some 28), .len false, [.t 27], none⟩,
     ⟨(some 29), .bin .sub, [.t 28, .c (.int .i64 1)], none⟩,
     ⟨(some 30), .call 47, [.t 25, .c (.int .i64 0), .t 29], none⟩,
     ⟨(some 31), .un .not, [.t 30], none⟩])
   (.cond (.t 31) (.seq (.reg [⟨(some 6), .mov, [.c (.int .i64 0)], none⟩,
     ⟨(some 7), .mov, [.c (.int .i64 72)], none⟩])
   .ret) .skip))
   (.seq (.reg [⟨(some 32), .load 8 true, [.t 8], none⟩,
     ⟨(some 33), .call 73, [.t 32], none⟩,
     ⟨(some 10), .mov, [.t 33], none⟩])
   (.seq (.reg [⟨(some 11), .mov, [.c (.int .i64 (-1))], none⟩])
   (.seq (.seq (.reg [⟨(some 34), .faddr 7, [.t 8], none⟩,
     ⟨(some 35), .load 1 false, [.t 34], none⟩,
     ⟨(some 36), .mov, [.t 2], none⟩,
     ⟨(some 37), .iaddrS 1, [.t 35, .t 36], none⟩,
     ⟨(some 38), .load 1 false, [.t 37], none⟩,
     ⟨(some 39), .len false, [.t 38], none⟩,
     ⟨(some 40), .mov, [.c (.int .i64 0)], none⟩])
   (.block 0 (.loop (.seq (.reg [⟨(some 41), .bin .lss, [.t 40, .t 39], none⟩])
   (.seq (.cond (.t 41) .skip (.exit 0))
   (.seq (.block 1 (.seq (.reg [⟨(some 42), .iaddrS 2, [.t 38, .t 40], none⟩,
     ⟨(some 43), .load 2 true, [.t 42], none⟩,
     ⟨(some 13), .alloc [(.int .i64 0), (.int .i64 0)], [], none⟩,
     ⟨none, .store 2, [.t 13, .t 43], none⟩])
   (.seq (.reg [⟨(some 44), .load 8 true, [.t 8], none⟩,
     ⟨(some 14), .alloc [(.int .i64 0), (.int .i64 0), (.int .i64 0), (.int .i64 0), (.int .i64 0), .nils, .nils, .nils], [], none⟩,
     ⟨none, .store 8, [.t 14, .t 44], none⟩])
   (.seq (.reg [⟨(some 45), .faddr 7, [.t 8], none⟩,
     ⟨(some 46), .load 1 false, [.t 45], none⟩,
     ⟨(some 47), .call 74, [.t 46], none⟩,
     ⟨(some 48), .faddr 7, [.t 14], none⟩,
     ⟨none, .store 1, [.t 48, .t 47], none⟩])
   (.seq (.reg [⟨(some 49), .faddr 7, [.t 14], none⟩,
     ⟨(some 50), .load 1 false, [.t 49], none⟩,
     ⟨(some 51), .mov, [.t 2], none⟩,
     ⟨(some 52), .load 2 true, [.t 13], none⟩,
     ⟨(some 53), .mkslice 2 23, [.t 52], none⟩,
     ⟨(some 54), .iaddrS 1, [.t 50, .t 51], none⟩,
     ⟨none, .store 1, [.t 54, .t 53], none⟩])
   (.seq (.reg [⟨(some 55), .load 8 true, [.t 14], none⟩,
     ⟨(some 56), .call 73, [.t 55], none⟩,
     ⟨(some 15), .mov, [.t 56], none⟩])
   (.seq (.reg [⟨(some 57), .mov, [.t 11], none⟩,
     ⟨(some 58), .bin .lss, [.t 57, .c (.int .i64 0)], none⟩,
     ⟨(some 59), .mov, [.t 58], none⟩,
     ⟨(some 60), .mov, [.t 15], (some (59, false))⟩,
     ⟨(some 61), .mov, [.t 11], (some (59, false))⟩,
     ⟨(some 62), .bin .lss, [.t 60, .t 61], (some (59, false))⟩,
     ⟨(some 63), .pick, [.t 59, .c (.bool true), .t 62], none⟩])
   (.cond (.t 63) (.reg [⟨(some 64), .mov, [.t 15], none⟩,
     ⟨(some 11), .mov, [.t 64], none⟩]) .skip))))))))
   (.reg [⟨(some 65), .bin .add, [.t 40, .c (.int .i64 1)], none⟩,
     ⟨(some 40), .mov, [.t 65], none⟩])))))))
   (.seq (.reg [⟨(some 66), .mov, [.t 11], none⟩,
     ⟨(some 67), .mov, [.t 10], none⟩,
     ⟨(some 68), .bin .sub, [.t 66, .t 67], none⟩,
     ⟨(some 6), .mov, [.t 68], none⟩,
     ⟨(some 7), .mov, [.c (.int .i64 0)], none⟩])
   .ret))))))))
theorem chk.bin_Gain : chkF Tryd.prog 39 = some (69, ir.bin_Gain, [.tmp 6, .tmp 7]) := by kernel_rfl

/-- paravane/paravanelaw07.gaps -/
abbrev F.law07_gaps : Nat := 42
def ir.law07_gaps : IC :=
 (.seq (.reg [⟨(some 0), .alloc [.nils, .nils], [], none⟩])
   (.seq (.reg [⟨(some 1), .mkslice 1 3, [.c (.int .i64 2), .c (.int .i64 1)], none⟩,
     ⟨(some 2), .mkslice 1 3, [.c (.int .i64 2), .c (.int .i64 0)], none⟩,
     ⟨(some 3), .build [(.int .i64 0), .nils] [(0, 1), (1, 1)], [.c (.int .i64 4), .t 2], none⟩,
     ⟨(some 4), .mkslice 1 3, [.c (.int .i64 0), .c (.int .i64 1)], none⟩,
     ⟨(some 5), .build [(.int .i64 0), .nils] [(0, 1), (1, 1)], [.c (.int .i64 3), .t 4], none⟩,
     ⟨(some 6), .mkslice 1 3, [.c (.int .i64 1), .c (.int .i64 1)], none⟩,
     ⟨(some 7), .build [(.int .i64 0), .nils] [(0, 1), (1, 1)], [.c (.int .i64 5), .t 6], none⟩,
     ⟨(some 8), .mkslice 1 3, [.c (.int .i64 2), .c (.int .i64 1)], none⟩,
     ⟨(some 9), .build [(.int .i64 0), .nils] [(0, 1), (1, 1)], [.c (.int .i64 6), .t 8], none⟩,
     ⟨(some 10), .mkslice 2 72, [.t 3, .t 5, .t 7, .t 9], none⟩,
     ⟨(some 11), .build [.nils, .nils] [(0, 1), (1, 1)], [.t 1, .t 10], none⟩,
     ⟨none, .store 2, [.t 0, .t 11], none⟩])
   .ret))
theorem chk.law07_gaps : chkF Tryd.prog 42 = some (12, ir.law07_gaps, [.cell 0 56]) := by kernel_rfl

/-- slices.ContainsFunc[[]int,int] -/
abbrev F.slices_ContainsFunc_int_int : Nat := 45
def ir.slices_ContainsFunc_int_int : IC :=
 (.seq (.reg [⟨(some 4), .mov, [.c (.bool false)], none⟩])
   (.seq (.reg [⟨(some 5), .mov, [.t 0], none⟩,
     ⟨(some 6), .mov, [.t 1], none⟩,
     ⟨(some 7), .call 79, [.t 5, .t 6], none⟩,
     ⟨(some 8), .bin .geq, [.t 7, .c (.int .i64 0)], none⟩,
     ⟨(some 4), .mov, [.t 8], none⟩])
   .ret))
theorem chk.slices_ContainsFunc_int_int : chkF Tryd.prog 45 = some (9, ir.slices_ContainsFunc_int_int, [.tmp 4]) := by kernel_rfl

/-- paravane/bin.Map$1 -/
abbrev F.bin_Map_1 : Nat := 46
def ir.bin_Map_1 : IC :=
 (.seq (.reg [⟨(some 2), .mov, [.c (.bool false)], none⟩])
   (.seq (.reg [⟨(some 3), .mov, [.t 0], none⟩,
     ⟨(some 4), .bin .lss, [.t 3, .c (.int .i64 0)], none⟩,
     ⟨(some 2), .mov, [.t 4], none⟩])
   .ret))
theorem chk.bin_Map_1 : chkF Tryd.prog 46 = some (5, ir.bin_Map_1, [.tmp 2]) := by kernel_rfl

/-- paravane/bin.within -/
abbrev F.bin_within : Nat := 47
def ir.bin_within : IC :=
 (.seq (.reg [⟨(some 6), .mov, [.c (.bool false)], none⟩])
   (.seq (.reg [⟨(some 7), .mov, [.t 0], none⟩,
     ⟨(some 8), .mov, [.t 1], none⟩,
     ⟨(some 9), .bin .geq, [.t 7, .t 8], none⟩,
     ⟨(some 10), .mov, [.t 9], none⟩,
     ⟨(some 11), .mov, [.t 0], (some (10, true))⟩,
     ⟨(some 12), .mov, [.t 2], (some (10, true))⟩,
     ⟨(some 13), .bin .leq, [.t 11, .t 12], (some (10, true))⟩,
     ⟨(some 14), .pick, [.t 10, .t 13, .c (.bool false)], none⟩,
     ⟨(some 6), .mov, [.t 14], none⟩])
   .ret))
theorem chk.bin_within : chkF Tryd.prog 47 = some (15, ir.bin_within, [.tmp 6]) := by kernel_rfl

/-- paravane/paravanelaw07.cells -/
abbrev F.law07_cells : Nat := 50
def ir.law07_cells : IC :=
 (.seq (.reg [⟨(some 4), .mov, [.c (.bool false)], none⟩])
   (.seq (.seq (.reg [⟨(some 6), .mov, [.t 0], none⟩,
     ⟨(some 7), .len false, [.t 6], none⟩,
     ⟨(some 8), .mov, [.t 1], none⟩,
     ⟨(some 9), .len false, [.t 8], none⟩,
     ⟨(some 10), .bin .neq, [.t 7, .t 9], none⟩])
   (.cond (.t 10) (.seq (.reg [⟨(some 4), .mov, [.c (.bool false)], none⟩])
   .ret) .skip))
   (.seq (.seq (.reg [⟨(some 5), .mov, [.c (.int .i64 0)], none⟩])
   (.block 0 (.loop (.seq (.seq (.reg [⟨(some 11), .mov, [.t 5], none⟩,
     ⟨(some 12), .mov, [.t 0], none⟩,
     ⟨(some 13), .len false, [.t 12], none⟩,
     ⟨(some 14), .bin .lss, [.t 11, .t 13], none⟩])
   (.cond (.t 14) .skip (.exit 0)))
   (.seq (.block 1 (.seq (.draw [0, 0, 3, 7, 0, 0, 48, 112, 255] [⟨(some 17), .mov, [.t 0], none⟩,
     ⟨(some 18), .mov, [.t 5], none⟩,
     ⟨(some 19), .iaddrS 2, [.t 17, .t 18], none⟩,
     ⟨(some 20), .load 2 true, [.t 19], none⟩,
     ⟨(some 21), .mov, [.t 1], none⟩,
     ⟨(some 22), .mov, [.t 5], none⟩,
     ⟨(some 23), .iaddrS 2, [.t 21, .t 22], none⟩,
     ⟨(some 24), .load 2 true, [.t 23], none⟩,
     ⟨(some 25), .eqs true [0, 0], [.t 20, .t 24], none⟩])
   (.cond (.t 25) (.seq (.reg [⟨(some 4), .mov, [.c (.bool false)], none⟩])
   .ret) .skip)))
   (.reg [⟨(some 15), .mov, [.t 5], none⟩,
     ⟨(some 16), .bin .add, [.t 15, .c (.int .i64 1)], none⟩,
     ⟨(some 5), .mov, [.t 16], none⟩]))))))
   (.seq (.reg [⟨(some 4), .mov, [.c (.bool true)], none⟩])
   .ret))))
theorem chk.law07_cells : chkF Tryd.prog 50 = some (26, ir.law07_cells, [.tmp 4]) := by kernel_rfl

/-- paravane/region.CheckPoint -/
abbrev F.region_CheckPoint : Nat := 51
def ir.region_CheckPoint : IC :=
 (.seq (.reg [⟨(some 1), .box, [.t 0], none⟩,
     ⟨(some 2), .mov, [.c (.int .i64 0)], none⟩])
   (.seq (.seq (.reg [⟨(some 5), .faddr 0, [.t 1], none⟩,
     ⟨(some 6), .load 1 false, [.t 5], none⟩,
     ⟨(some 7), .faddr 1, [.t 1], none⟩,
     ⟨(some 8), .load 1 false, [.t 7], none⟩,
     ⟨(some 9), .build [(.int .i64 0), (.int .i64 0)] [(0, 1), (1, 1)], [.t 6, .t 8], none⟩,
     ⟨(some 10), .mov, [.c (.int .i64 0)], none⟩])
   (.block 0 (.loop (.seq (.reg [⟨(some 11), .bin .lss, [.t 10, .c (.int .i64 2)], none⟩])
   (.seq (.cond (.t 11) .skip (.exit 0))
   (.seq (.block 1 (.seq (.reg [⟨(some 12), .idxA 2 1 false, [.t 9, .t 10], none⟩,
     ⟨(some 4), .mov, [.t 12], none⟩])
   (.seq (.reg [⟨(some 13), .mov, [.t 4], none⟩,
     ⟨(some 14), .call 82, [.c (.int .i64 32768), .t 13], none⟩,
     ⟨(some 15), .mov, [.t 4], none⟩,
     ⟨(some 16), .bin .neq, [.t 14, .t 15], none⟩])
   (.cond (.t 16) (.seq (.reg [⟨(some 2), .mov, [.c (.int .i64 10)], none⟩])
   .ret) .skip))))
   (.reg [⟨(some 17), .bin .add, [.t 10, .c (.int .i64 1)], none⟩,
     ⟨(some 10), .mov, [.t 17], none⟩])))))))
   (.seq (.reg [⟨(some 2), .mov, [.c (.int .i64 0)], none⟩])
   .ret)))
theorem chk.region_CheckPoint : chkF Tryd.prog 51 = some (18, ir.region_CheckPoint, [.tmp 2]) := by kernel_rfl

/-- paravane/bin.cell -/
abbrev F.bin_cell : Nat := 52
def ir.bin_cell : IC :=
 (.seq (.reg [⟨(some 3), .box, [.t 0], none⟩,
     ⟨(some 4), .box, [.t 1], none⟩,
     ⟨(some 5), .box, [.t 2], none⟩,
     ⟨(some 6), .alloc [(.int .i64 0), (.int .i64 0)], [], none⟩])
   (.seq (.draw [0, 1, 0, 4, 15, 0, 32, 96, 224, 511, 0, 1024, 3072, 8191, 0, 16384, 0, 65536, 245760, 0, 524288, 1572864, 3670016, 8372224, 0, 16777216, 50331648, 134217727, 268435455, 536870911] [⟨(some 13), .faddr 0, [.t 4], none⟩,
     ⟨(some 14), .load 1 false, [.t 13], none⟩,
     ⟨(some 15), .faddr 0, [.t 5], none⟩,
     ⟨(some 16), .load 1 false, [.t 15], none⟩,
     ⟨(some 17), .bin .add, [.t 14, .t 16], none⟩,
     ⟨(some 18), .faddr 0, [.t 3], none⟩,
     ⟨(some 19), .faddr 0, [.t 18], none⟩,
     ⟨(some 20), .load 1 false, [.t 19], none⟩,
     ⟨(some 21), .bin .mul, [.c (.int .i64 2), .t 20], none⟩,
     ⟨(some 22), .bin .sub, [.t 17, .t 21], none⟩,
     ⟨(some 23), .faddr 2, [.t 3], none⟩,
     ⟨(some 24), .load 1 false, [.t 23], none⟩,
     ⟨(some 25), .bin .mul, [.c (.int .i64 2), .t 24], none⟩,
     ⟨(some 26), .call 83, [.t 22, .t 25], none⟩,
     ⟨(some 27), .faddr 1, [.t 4], none⟩,
     ⟨(some 28), .load 1 false, [.t 27], none⟩,
     ⟨(some 29), .faddr 1, [.t 5], none⟩,
     ⟨(some 30), .load 1 false, [.t 29], none⟩,
     ⟨(some 31), .bin .add, [.t 28, .t 30], none⟩,
     ⟨(some 32), .faddr 0, [.t 3], none⟩,
     ⟨(some 33), .faddr 1, [.t 32], none⟩,
     ⟨(some 34), .load 1 false, [.t 33], none⟩,
     ⟨(some 35), .bin .mul, [.c (.int .i64 2), .t 34], none⟩,
     ⟨(some 36), .bin .sub, [.t 31, .t 35], none⟩,
     ⟨(some 37), .faddr 2, [.t 3], none⟩,
     ⟨(some 38), .load 1 false, [.t 37], none⟩,
     ⟨(some 39), .bin .mul, [.c (.int .i64 2), .t 38], none⟩,
     ⟨(some 40), .call 83, [.t 36, .t 39], none⟩,
     ⟨(some 7), .mov, [.t 26], none⟩,
     ⟨(some 8), .mov, [.t 40], none⟩])
   (.seq (.seq (.reg [⟨(some 41), .mov, [.t 7], none⟩,
     ⟨(some 42), .faddr 3, [.t 3], none⟩,
     ⟨(some 43), .load 1 false, [.t 42], none⟩,
     ⟨(some 44), .bin .sub, [.t 43, .c (.int .i64 1)], none⟩,
     ⟨(some 45), .call 47, [.t 41, .c (.int .i64 0), .t 44], none⟩,
     ⟨(some 46), .un .not, [.t 45], none⟩,
     ⟨(some 47), .mov, [.t 46], none⟩,
     ⟨(some 48), .mov, [.t 8], (some (47, false))⟩,
     ⟨(some 49), .faddr 4, [.t 3], (some (47, false))⟩,
     ⟨(some 50), .load 1 false, [.t 49], (some (47, false))⟩,
     ⟨(some 51), .bin .sub, [.t 50, .c (.int .i64 1)], (some (47, false))⟩,
     ⟨(some 52), .call 47, [.t 48, .c (.int .i64 0), .t 51], (some (47, false))⟩,
     ⟨(some 53), .un .not, [.t 52], (some (47, false))⟩,
     ⟨(some 54), .pick, [.t 47, .c (.bool true), .t 53], none⟩])
   (.cond (.t 54) (.seq (.reg [⟨(some 55), .load 2 true, [.c (.rptr 0 0)], none⟩,
     ⟨none, .store 2, [.t 6, .t 55], none⟩])
   .ret) .skip))
   (.seq (.draw [0, 1, 0, 4, 15, 0, 32, 0, 128, 480, 31, 2047] [⟨(some 56), .faddr 0, [.t 4], none⟩,
     ⟨(some 57), .load 1 false, [.t 56], none⟩,
     ⟨(some 58), .faddr 0, [.t 5], none⟩,
     ⟨(some 59), .load 1 false, [.t 58], none⟩,
     ⟨(some 60), .bin .sub, [.t 57, .t 59], none⟩,
     ⟨(some 61), .faddr 1, [.t 4], none⟩,
     ⟨(some 62), .load 1 false, [.t 61], none⟩,
     ⟨(some 63), .faddr 1, [.t 5], none⟩,
     ⟨(some 64), .load 1 false, [.t 63], none⟩,
     ⟨(some 65), .bin .sub, [.t 62, .t 64], none⟩,
     ⟨(some 9), .mov, [.t 60], none⟩,
     ⟨(some 10), .mov, [.t 65], none⟩])
   (.seq (.seq (.reg [⟨(some 66), .faddr 5, [.t 3], none⟩,
     ⟨(some 67), .load 1 false, [.t 66], none⟩,
     ⟨(some 68), .len false, [.t 67], none⟩,
     ⟨(some 69), .mov, [.c (.int .i64 0)], none⟩])
   (.block 0 (.loop (.seq (.reg [⟨(some 70), .bin .lss, [.t 69, .t 68], none⟩])
   (.seq (.cond (.t 70) .skip (.exit 0))
   (.seq (.block 1 (.seq (.reg [⟨(some 71), .mov, [.t 69], none⟩,
     ⟨(some 72), .iaddrS 2, [.t 67, .t 69], none⟩,
     ⟨(some 73), .load 2 true, [.t 72], none⟩,
     ⟨(some 12), .alloc [(.int .i64 0), (.int .i64 0)], [], none⟩,
     ⟨(some 11), .mov, [.t 71], none⟩,
     ⟨none, .store 2, [.t 12, .t 73], none⟩])
   (.seq (.reg [⟨(some 74), .mov, [.t 9], none⟩,
     ⟨(some 75), .mov, [.t 9], none⟩,
     ⟨(some 76), .bin .mul, [.t 74, .t 75], none⟩,
     ⟨(some 77), .mov, [.t 10], none⟩,
     ⟨(some 78), .mov, [.t 10], none⟩,
     ⟨(some 79), .bin .mul, [.t 77, .t 78], none⟩,
     ⟨(some 80), .bin .add, [.t 76, .t 79], none⟩,
     ⟨(some 81), .faddr 0, [.t 12], none⟩,
     ⟨(some 82), .load 1 false, [.t 81], none⟩,
     ⟨(some 83), .faddr 1, [.t 12], none⟩,
     ⟨(some 84), .load 1 false, [.t 83], none⟩,
     ⟨(some 85), .call 47, [.t 80, .t 82, .t 84], none⟩])
   (.cond (.t 85) (.seq (.reg [⟨(some 86), .mov, [.t 8], none⟩,
     ⟨(some 87), .faddr 3, [.t 3], none⟩,
     ⟨(some 88), .load 1 false, [.t 87], none⟩,
     ⟨(some 89), .bin .mul, [.t 86, .t 88], none⟩,
     ⟨(some 90), .mov, [.t 7], none⟩,
     ⟨(some 91), .bin .add, [.t 89, .t 90], none⟩,
     ⟨(some 92), .mov, [.t 11], none⟩,
     ⟨(some 93), .build [(.int .i64 0), (.int .i64 0)] [(0, 1), (1, 1)], [.t 91, .t 92], none⟩,
     ⟨none, .store 2, [.t 6, .t 93], none⟩])
   .ret) .skip))))
   (.reg [⟨(some 94), .bin .add, [.t 69, .c (.int .i64 1)], none⟩,
     ⟨(some 69), .mov, [.t 94], none⟩])))))))
   (.seq (.reg [⟨(some 95), .load 2 true, [.c (.rptr 0 0)], none⟩,
     ⟨none, .store 2, [.t 6, .t 95], none⟩])
   .ret))))))
theorem chk.bin_cell : chkF Tryd.prog 52 = some (96, ir.bin_cell, [.cell 6 36]) := by kernel_rfl

/-- paravane/bin.begun -/
abbrev F.bin_begun : Nat := 53
def ir.bin_begun : IC :=
 (.seq (.reg [⟨(some 2), .box, [.t 0], none⟩,
     ⟨(some 3), .box, [.t 1], none⟩,
     ⟨(some 4), .alloc [(.int .i64 0), (.int .i64 0), (.int .i64 0), (.int .i64 0), (.int .i64 0), .nils, .nils, .nils], [], none⟩,
     ⟨(some 5), .mov, [.c (.int .i64 0)], none⟩])
   (.seq (.seq (.reg [⟨(some 8), .load 6 true, [.t 2], none⟩,
     ⟨(some 9), .call 35, [.t 8], none⟩,
     ⟨(some 6), .mov, [.t 9], none⟩])
   (.seq (.reg [⟨(some 10), .mov, [.t 6], none⟩,
     ⟨(some 11), .bin .neq, [.t 10, .c (.int .i64 0)], none⟩])
   (.cond (.t 11) (.seq (.reg [⟨(some 12), .build [(.int .i64 0), (.int .i64 0), (.int .i64 0), (.int .i64 0), (.int .i64 0), .nils, .nils, .nils] [], [], none⟩,
     ⟨(some 13), .mov, [.t 6], none⟩,
     ⟨none, .store 8, [.t 4, .t 12], none⟩,
     ⟨(some 5), .mov, [.t 13], none⟩])
   .ret) .skip)))
   (.seq (.seq (.reg [⟨(some 14), .load 2 true, [.t 3], none⟩,
     ⟨(some 15), .call 37, [.t 14], none⟩,
     ⟨(some 7), .mov, [.t 15], none⟩])
   (.seq (.reg [⟨(some 16), .mov, [.t 7], none⟩,
     ⟨(some 17), .bin .neq, [.t 16, .c (.int .i64 0)], none⟩])
   (.cond (.t 17) (.seq (.reg [⟨(some 18), .build [(.int .i64 0), (.int .i64 0), (.int .i64 0), (.int .i64 0), (.int .i64 0), .nils, .nils, .nils] [], [], none⟩,
     ⟨(some 19), .mov, [.t 7], none⟩,
     ⟨none, .store 8, [.t 4, .t 18], none⟩,
     ⟨(some 5), .mov, [.t 19], none⟩])
   .ret) .skip)))
   (.seq (.reg [⟨(some 20), .load 6 true, [.t 2], none⟩,
     ⟨(some 21), .load 2 true, [.t 3], none⟩,
     ⟨(some 22), .call 76, [.t 20, .t 21], none⟩,
     ⟨none, .store 8, [.t 4, .t 22], none⟩,
     ⟨(some 5), .mov, [.c (.int .i64 0)], none⟩])
   .ret))))
theorem chk.bin_begun : chkF Tryd.prog 53 = some (23, ir.bin_begun, [.cell 4 115, .tmp 5]) := by kernel_rfl

/-- (paravane/bin.laid).surely -/
abbrev F.bin_laid_surely : Nat := 54
def ir.bin_laid_surely : IC :=
 (.seq (.reg [⟨(some 2), .box, [.t 0], none⟩,
     ⟨(some 4), .mov, [.c .nils], none⟩])
   (.seq (.seq (.reg [⟨(some 6), .load 8 true, [.t 2], none⟩,
     ⟨(some 7), .mov, [.t 1], none⟩,
     ⟨(some 8), .call 55, [.t 6, .t 7], none⟩,
     ⟨(some 5), .mov, [.t 8], none⟩])
   (.seq (.draw [0, 1, 3, 7, 15, 31, 63, 15, 255, 511] [⟨(some 9), .mov, [.t 5], none⟩,
     ⟨(some 10), .len false, [.t 9], none⟩,
     ⟨(some 11), .bin .eql, [.t 10, .c (.int .i64 1)], none⟩,
     ⟨(some 12), .mov, [.t 11], none⟩,
     ⟨(some 13), .mov, [.t 5], (some (12, true))⟩,
     ⟨(some 14), .iaddrS 2, [.t 13, .c (.int .i64 0)], (some (12, true))⟩,
     ⟨(some 15), .load 2 true, [.t 14], (some (12, true))⟩,
     ⟨(some 16), .load 2 true, [.c (.rptr 0 0)], (some (12, true))⟩,
     ⟨(some 17), .eqs true [0, 0], [.t 15, .t 16], (some (12, true))⟩,
     ⟨(some 18), .pick, [.t 12, .t 17, .c (.bool false)], none⟩])
   (.cond (.t 18) (.seq (.reg [⟨(some 19), .mov, [.t 5], none⟩,
     ⟨(some 4), .mov, [.t 19], none⟩])
   .ret) .skip)))
   (.seq (.reg [⟨(some 4), .mov, [.c .nils], none⟩])
   .ret)))
theorem chk.bin_laid_surely : chkF Tryd.prog 54 = some (20, ir.bin_laid_surely, [.tmp 4]) := by kernel_rfl

/-- (paravane/bin.laid).hits -/
abbrev F.bin_laid_hits : Nat := 55
def ir.bin_laid_hits : IC :=
 (.seq (.reg [⟨(some 2), .box, [.t 0], none⟩,
     ⟨(some 4), .mov, [.c .nils], none⟩])
   (.seq (.reg [⟨(some 11), .raw 0 146 0, [], none⟩,
     ⟨(some 5), .alloc [.nilm], [], none⟩,
     ⟨none, .store 1, [.t 5, .t 11], none⟩])
   (.seq (.reg [⟨(some 12), .faddr 6, [.t 2], none⟩,
     ⟨(some 13), .load 1 false, [.t 12], none⟩,
     ⟨(some 14), .mov, [.t 1], none⟩,
     ⟨(some 15), .iaddrS 2, [.t 13, .t 14], none⟩,
     ⟨(some 16), .load 2 true, [.t 15], none⟩,
     ⟨(some 6), .alloc [(.int .i64 0), (.int .i64 0)], [], none⟩,
     ⟨none, .store 2, [.t 6, .t 16], none⟩])
   (.seq (.seq (.draw [0, 1, 0, 4, 15, 31, 0, 64, 0, 256, 960, 1984, 4095] [⟨(some 17), .faddr 7, [.t 2], none⟩,
     ⟨(some 18), .load 1 false, [.t 17], none⟩,
     ⟨(some 19), .iaddrA 2 1, [.t 6, .c (.int .i64 0)], none⟩,
     ⟨(some 20), .load 1 false, [.t 19], none⟩,
     ⟨(some 21), .iaddrS 1, [.t 18, .t 20], none⟩,
     ⟨(some 22), .load 1 false, [.t 21], none⟩,
     ⟨(some 23), .faddr 7, [.t 2], none⟩,
     ⟨(some 24), .load 1 false, [.t 23], none⟩,
     ⟨(some 25), .iaddrA 2 1, [.t 6, .c (.int .i64 1)], none⟩,
     ⟨(some 26), .load 1 false, [.t 25], none⟩,
     ⟨(some 27), .iaddrS 1, [.t 24, .t 26], none⟩,
     ⟨(some 28), .load 1 false, [.t 27], none⟩,
     ⟨(some 29), .call 84, [.t 22, .t 28], none⟩])
   (.block 0 (.range (.t 29) [30, 31] (.seq (.reg [⟨(some 7), .alloc [(.int .i64 0), (.int .i64 0)], [], none⟩,
     ⟨none, .store 2, [.t 7, .t 30], none⟩])
   (.reg [⟨(some 8), .alloc [(.int .i64 0), (.int .i64 0)], [], none⟩,
     ⟨none, .store 2, [.t 8, .t 31], none⟩])) (.block 1 (.draw [0, 0, 2, 0, 0, 30, 63] [⟨(some 32), .load 1 false, [.t 5], none⟩,
     ⟨(some 33), .faddr 0, [.t 2], none⟩,
     ⟨(some 34), .load 6 true, [.t 33], none⟩,
     ⟨(some 35), .load 2 true, [.t 7], none⟩,
     ⟨(some 36), .load 2 true, [.t 8], none⟩,
     ⟨(some 37), .call 52, [.t 34, .t 35, .t 36], none⟩,
     ⟨none, .raw 1 146 0, [.t 32, .t 37, .c (.bool true)], none⟩])))))
   (.seq (.reg [⟨(some 9), .mov, [.c .nils], none⟩])
   (.seq (.seq (.reg [⟨(some 38), .load 1 false, [.t 5], none⟩,
     ⟨(some 39), .raw 2 146 0, [.t 38], none⟩])
   (.block 2 (.loop (.seq (.reg [⟨(some 40), .raw 3 0 0, [.t 39], none⟩,
     ⟨(some 41), .extract 0, [.t 40], none⟩])
   (.seq (.cond (.t 41) .skip (.exit 2))
   (.block 3 (.seq (.reg [⟨(some 42), .raw 4 0 0, [.t 39], none⟩,
     ⟨(some 43), .extract 0, [.t 42], none⟩,
     ⟨(some 10), .alloc [(.int .i64 0), (.int .i64 0)], [], none⟩,
     ⟨none, .store 2, [.t 10, .t 43], none⟩])
   (.reg [⟨(some 44), .mov, [.t 9], none⟩,
     ⟨(some 45), .load 2 true, [.t 10], none⟩,
     ⟨(some 46), .mkslice 2 36, [.t 45], none⟩,
     ⟨(some 47), .append 2 16 36, [.t 44, .t 46], none⟩,
     ⟨(some 9), .mov, [.t 47], none⟩]))))))))
   (.seq (.reg [⟨(some 48), .mov, [.t 9], none⟩,
     ⟨(some 49), .call 85, [.t 48, .c (.func (.func 86) [] [])], none⟩])
   (.seq (.reg [⟨(some 50), .mov, [.t 9], none⟩,
     ⟨(some 4), .mov, [.t 50], none⟩])
   .ret))))))))
theorem chk.bin_laid_hits : chkF Tryd.prog 55 = some (51, ir.bin_laid_hits, [.tmp 4]) := by kernel_rfl

/-- (paravane/bin.laid).count -/
abbrev F.bin_laid_count : Nat := 56
def ir.bin_laid_count : IC :=
 (.seq (.reg [⟨(some 2), .box, [.t 0], none⟩,
     ⟨(some 4), .mov, [.c .nils], none⟩])
   (.seq (.reg [⟨(some 10), .faddr 0, [.t 2], none⟩,
     ⟨(some 11), .faddr 3, [.t 10], none⟩,
     ⟨(some 12), .load 1 false, [.t 11], none⟩,
     ⟨(some 13), .faddr 0, [.t 2], none⟩,
     ⟨(some 14), .faddr 4, [.t 13], none⟩,
     ⟨(some 15), .load 1 false, [.t 14], none⟩,
     ⟨(some 16), .bin .mul, [.t 12, .t 15], none⟩,
     ⟨(some 17), .mkbox 1 24 [.nils], [.t 16, .t 16], none⟩,
     ⟨(some 5), .mov, [.t 17], none⟩])
   (.seq (.seq (.reg [⟨(some 18), .mov, [.t 5], none⟩,
     ⟨(some 19), .len false, [.t 18], none⟩,
     ⟨(some 20), .mov, [.c (.int .i64 0)], none⟩])
   (.block 0 (.loop (.seq (.reg [⟨(some 21), .bin .lss, [.t 20, .t 19], none⟩])
   (.seq (.cond (.t 21) .skip (.exit 0))
   (.seq (.block 1 (.seq (.reg [⟨(some 22), .mov, [.t 20], none⟩,
     ⟨(some 6), .mov, [.t 22], none⟩])
   (.reg [⟨(some 23), .mov, [.t 5], none⟩,
     ⟨(some 24), .mov, [.t 6], none⟩,
     ⟨(some 25), .faddr 0, [.t 2], none⟩,
     ⟨(some 26), .faddr 5, [.t 25], none⟩,
     ⟨(some 27), .load 1 false, [.t 26], none⟩,
     ⟨(some 28), .len false, [.t 27], none⟩,
     ⟨(some 29), .mkbox 1 8 [(.int .i64 0)], [.t 28, .t 28], none⟩,
     ⟨(some 30), .iaddrS 1, [.t 23, .t 24], none⟩,
     ⟨none, .store 1, [.t 30, .t 29], none⟩])))
   (.reg [⟨(some 31), .bin .add, [.t 20, .c (.int .i64 1)], none⟩,
     ⟨(some 20), .mov, [.t 31], none⟩])))))))
   (.seq (.seq (.reg [⟨(some 32), .faddr 6, [.t 2], none⟩,
     ⟨(some 33), .load 1 false, [.t 32], none⟩,
     ⟨(some 34), .len false, [.t 33], none⟩,
     ⟨(some 35), .mov, [.c (.int .i64 0)], none⟩])
   (.block 2 (.loop (.seq (.reg [⟨(some 36), .bin .lss, [.t 35, .t 34], none⟩])
   (.seq (.cond (.t 36) .skip (.exit 2))
   (.seq (.block 3 (.seq (.reg [⟨(some 37), .mov, [.t 35], none⟩,
     ⟨(some 7), .mov, [.t 37], none⟩])
   (.seq (.reg [⟨(some 38), .mov, [.t 1], none⟩,
     ⟨(some 39), .mov, [.t 7], none⟩,
     ⟨(some 40), .callv, [.t 38, .t 39], none⟩,
     ⟨(some 41), .len false, [.t 40], none⟩,
     ⟨(some 42), .mov, [.c (.int .i64 0)], none⟩])
   (.block 4 (.loop (.seq (.reg [⟨(some 43), .bin .lss, [.t 42, .t 41], none⟩])
   (.seq (.cond (.t 43) .skip (.exit 4))
   (.seq (.block 5 (.seq (.reg [⟨(some 44), .iaddrS 2, [.t 40, .t 42], none⟩,
     ⟨(some 45), .load 2 true, [.t 44], none⟩,
     ⟨(some 9), .alloc [(.int .i64 0), (.int .i64 0)], [], none⟩,
     ⟨none, .store 2, [.t 9, .t 45], none⟩])
   (.seq (.reg [⟨(some 46), .load 2 true, [.t 9], none⟩,
     ⟨(some 47), .load 2 true, [.c (.rptr 0 0)], none⟩,
     ⟨(some 48), .eqs true [0, 0], [.t 46, .t 47], none⟩])
   (.cond (.t 48) (.draw [0, 0, 2, 7, 15, 0, 32, 127, 255, 511, 1023, 2047] [⟨(some 49), .mov, [.t 5], none⟩,
     ⟨(some 50), .faddr 0, [.t 9], none⟩,
     ⟨(some 51), .load 1 false, [.t 50], none⟩,
     ⟨(some 52), .iaddrS 1, [.t 49, .t 51], none⟩,
     ⟨(some 53), .load 1 false, [.t 52], none⟩,
     ⟨(some 54), .faddr 1, [.t 9], none⟩,
     ⟨(some 55), .load 1 false, [.t 54], none⟩,
     ⟨(some 56), .iaddrS 1, [.t 53, .t 55], none⟩,
     ⟨(some 57), .load 1 false, [.t 56], none⟩,
     ⟨(some 58), .bin .add, [.t 57, .c (.int .i64 1)], none⟩,
     ⟨(some 59), .iaddrS 1, [.t 53, .t 55], none⟩,
     ⟨none, .store 1, [.t 59, .t 58], none⟩]) .skip))))
   (.reg [⟨(some 60), .bin .add, [.t 42, .c (.int .i64 1)], none⟩,
     ⟨(some 42), .mov, [.t 60], none⟩])))))))))
   (.reg [⟨(some 61), .bin .add, [.t 35, .c (.int .i64 1)], none⟩,
     ⟨(some 35), .mov, [.t 61], none⟩])))))))
   (.seq (.reg [⟨(some 62), .mov, [.t 5], none⟩,
     ⟨(some 4), .mov, [.t 62], none⟩])
   .ret)))))
theorem chk.bin_laid_count : chkF Tryd.prog 56 = some (63, ir.bin_laid_count, [.tmp 4]) := by kernel_rfl

/-- paravane/bin.Bound$1 -/
abbrev F.bin_Bound_1 : Nat := 57
def ir.bin_Bound_1 : IC :=
 (.scope (.seq (.seq (.reg [⟨(some 15), .load 1 false, [.t 2], none⟩,
     ⟨(some 16), .un .not, [.t 15], none⟩,
     ⟨(some 17), .mov, [.t 16], none⟩,
     ⟨(some 18), .load 1 false, [.t 3], (some (17, false))⟩,
     ⟨(some 19), .load 1 false, [.t 4], (some (17, false))⟩,
     ⟨(some 20), .len false, [.t 19], (some (17, false))⟩,
     ⟨(some 21), .bin .geq, [.t 18, .t 20], (some (17, false))⟩,
     ⟨(some 22), .pick, [.t 17, .c (.bool true), .t 21], none⟩])
   (.cond (.t 22) (.seq (.reg [⟨none, .store 1, [.t 2, .c (.bool false)], none⟩])
   .ret) .skip))
   (.seq (.reg [⟨(some 23), .load 1 false, [.t 4], none⟩,
     ⟨(some 24), .load 1 false, [.t 3], none⟩,
     ⟨(some 25), .iaddrS 2, [.t 23, .t 24], none⟩,
     ⟨(some 26), .load 2 true, [.t 25], none⟩,
     ⟨(some 11), .alloc [(.int .i64 0), .nils], [], none⟩,
     ⟨none, .store 2, [.t 11, .t 26], none⟩])
   (.seq (.reg [⟨(some 27), .load 1 false, [.t 3], none⟩,
     ⟨(some 28), .bin .add, [.t 27, .c (.int .i64 1)], none⟩,
     ⟨none, .store 1, [.t 3, .t 28], none⟩])
   (.seq (.seq (.reg [⟨(some 29), .faddr 0, [.t 11], none⟩,
     ⟨(some 30), .load 1 false, [.t 29], none⟩,
     ⟨(some 31), .bin .neq, [.t 30, .c (.int .i64 (-1))], none⟩])
   (.cond (.t 31) (.seq (.seq (.reg [⟨(some 32), .faddr 0, [.t 11], none⟩,
     ⟨(some 33), .load 1 false, [.t 32], none⟩,
     ⟨(some 34), .faddr 1, [.t 5], none⟩,
     ⟨(some 35), .load 1 false, [.t 34], none⟩,
     ⟨(some 36), .len false, [.t 35], none⟩,
     ⟨(some 37), .bin .sub, [.t 36, .c (.int .i64 1)], none⟩,
     ⟨(some 38), .call 47, [.t 33, .c (.int .i64 0), .t 37], none⟩,
     ⟨(some 39), .mov, [.t 38], none⟩,
     ⟨(some 40), .mov, [.t 1], (some (39, true))⟩,
     ⟨(some 41), .faddr 0, [.t 11], (some (39, true))⟩,
     ⟨(some 42), .load 1 false, [.t 41], (some (39, true))⟩,
     ⟨(some 43), .bin .shr, [.t 40, .t 42], (some (39, true))⟩,
     ⟨(some 44), .bin .rem, [.t 43, .c (.int .i64 2)], (some (39, true))⟩,
     ⟨(some 45), .bin .eql, [.t 44, .c (.int .i64 0)], (some (39, true))⟩,
     ⟨(some 46), .pick, [.t 39, .t 45, .c (.bool false)], none⟩,
     ⟨(some 47), .mov, [.t 46], none⟩,
     ⟨(some 48), .faddr 1, [.t 11], (some (47, true))⟩,
     ⟨(some 49), .load 1 false, [.t 48], (some (47, true))⟩,
     ⟨(some 50), .len false, [.t 49], (some (47, true))⟩,
     ⟨(some 51), .bin .eql, [.t 50, .c (.int .i64 0)], (some (47, true))⟩,
     ⟨(some 52), .pick, [.t 47, .t 51, .c (.bool false)], none⟩,
     ⟨none, .store 1, [.t 2, .t 52], none⟩])
   (.seq (.reg [⟨(some 53), .load 1 false, [.t 2], none⟩])
   (.cond (.t 53) (.seq (.draw [0, 0, 0, 4, 12, 30, 0, 0, 128, 384, 960, 2047] [⟨(some 54), .load 1 false, [.t 6], none⟩,
     ⟨(some 55), .mov, [.t 0], none⟩,
     ⟨(some 56), .faddr 0, [.t 11], none⟩,
     ⟨(some 57), .load 1 false, [.t 56], none⟩,
     ⟨(some 58), .bin .shl, [.c (.int .i64 1), .t 57], none⟩,
     ⟨(some 59), .bin .or, [.t 55, .t 58], none⟩,
     ⟨(some 60), .mov, [.t 1], none⟩,
     ⟨(some 61), .faddr 0, [.t 11], none⟩,
     ⟨(some 62), .load 1 false, [.t 61], none⟩,
     ⟨(some 63), .bin .shl, [.c (.int .i64 1), .t 62], none⟩,
     ⟨(some 64), .bin .or, [.t 60, .t 63], none⟩,
     ⟨(some 65), .callv, [.t 54, .t 59, .t 64], none⟩])
   (.draw [0, 0, 0, 0, 8, 24, 60, 127] [⟨(some 66), .load 1 false, [.t 6], none⟩,
     ⟨(some 67), .mov, [.t 0], none⟩,
     ⟨(some 68), .mov, [.t 1], none⟩,
     ⟨(some 69), .faddr 0, [.t 11], none⟩,
     ⟨(some 70), .load 1 false, [.t 69], none⟩,
     ⟨(some 71), .bin .shl, [.c (.int .i64 1), .t 70], none⟩,
     ⟨(some 72), .bin .or, [.t 68, .t 71], none⟩,
     ⟨(some 73), .callv, [.t 66, .t 67, .t 72], none⟩])) .skip)))
   .ret) .skip))
   (.seq (.reg [⟨(some 74), .faddr 1, [.t 11], none⟩,
     ⟨(some 75), .load 1 false, [.t 74], none⟩,
     ⟨(some 76), .len false, [.t 75], none⟩,
     ⟨(some 77), .faddr 0, [.t 5], none⟩,
     ⟨(some 78), .load 1 false, [.t 77], none⟩,
     ⟨(some 79), .len false, [.t 78], none⟩,
     ⟨(some 80), .bin .eql, [.t 76, .t 79], none⟩,
     ⟨none, .store 1, [.t 2, .t 80], none⟩])
   (.seq (.label 0)
   (.seq (.seq (.reg [⟨(some 81), .faddr 1, [.t 11], none⟩,
     ⟨(some 82), .load 1 false, [.t 81], none⟩,
     ⟨(some 83), .len false, [.t 82], none⟩,
     ⟨(some 84), .mov, [.c (.int .i64 0)], none⟩])
   (.block 0 (.loop (.seq (.reg [⟨(some 85), .bin .lss, [.t 84, .t 83], none⟩])
   (.seq (.cond (.t 85) .skip (.exit 0))
   (.seq (.block 1 (.seq (.reg [⟨(some 86), .iaddrS 1, [.t 82, .t 84], none⟩,
     ⟨(some 87), .load 1 false, [.t 86], none⟩,
     ⟨(some 13), .mov, [.t 87], none⟩])
   (.seq (.reg [⟨(some 88), .load 1 false, [.t 2], none⟩,
     ⟨(some 89), .mov, [.t 88], none⟩,
     ⟨(some 90), .mov, [.t 13], (some (89, true))⟩,
     ⟨(some 91), .call 47, [.t 90, .c (.int .i64 0), .c (.int .i64 1000000)], (some (89, true))⟩,
     ⟨(some 92), .pick, [.t 89, .t 91, .c (.bool false)], none⟩,
     ⟨none, .store 1, [.t 2, .t 92], none⟩])
   (.seq (.reg [⟨(some 93), .load 1 false, [.t 2], none⟩,
     ⟨(some 94), .un .not, [.t 93], none⟩])
   (.cond (.t 94) (.exit 0) .skip)))))
   (.reg [⟨(some 95), .bin .add, [.t 84, .c (.int .i64 1)], none⟩,
     ⟨(some 84), .mov, [.t 95], none⟩])))))))
   (.seq (.reg [⟨(some 96), .load 1 false, [.t 2], none⟩])
   (.cond (.t 96) (.seq (.reg [⟨(some 97), .load 2 true, [.t 5], none⟩,
     ⟨(some 98), .faddr 1, [.t 11], none⟩,
     ⟨(some 99), .load 1 false, [.t 98], none⟩,
     ⟨(some 100), .mov, [.t 0], none⟩,
     ⟨(some 101), .mov, [.t 1], none⟩,
     ⟨(some 102), .call 58, [.t 97, .t 99, .t 100, .t 101], none⟩,
     ⟨(some 14), .mov, [.t 102], none⟩])
   (.seq (.reg [⟨(some 103), .load 1 false, [.t 7], none⟩,
     ⟨(some 104), .un .not, [.t 103], none⟩,
     ⟨(some 105), .mov, [.t 104], none⟩,
     ⟨(some 106), .mov, [.t 14], (some (105, false))⟩,
     ⟨(some 107), .load 1 false, [.t 8], (some (105, false))⟩,
     ⟨(some 108), .bin .lss, [.t 106, .t 107], (some (105, false))⟩,
     ⟨(some 109), .pick, [.t 105, .c (.bool true), .t 108], none⟩])
   (.cond (.t 109) (.reg [⟨(some 110), .mov, [.t 14], none⟩,
     ⟨none, .store 1, [.t 8, .t 110], none⟩,
     ⟨none, .store 1, [.t 7, .c (.bool true)], none⟩]) .skip))) .skip))))))))))
theorem chk.bin_Bound_1 : chkF Tryd.prog 57 = some (111, ir.bin_Bound_1, []) := by kernel_rfl

/-- paravane/bin.leaf -/
abbrev F.bin_leaf : Nat := 58
def ir.bin_leaf : IC :=
 (.seq (.reg [⟨(some 4), .box, [.t 0], none⟩,
     ⟨(some 8), .mov, [.c (.int .i64 0)], none⟩])
   (.seq (.reg [⟨(some 18), .load 2 true, [.t 4], none⟩,
     ⟨(some 19), .mov, [.t 2], none⟩,
     ⟨(some 20), .call 87, [.t 18, .t 19], none⟩,
     ⟨(some 9), .mov, [.t 20], none⟩])
   (.seq (.reg [⟨(some 21), .load 2 true, [.t 4], none⟩,
     ⟨(some 22), .mov, [.t 2], none⟩,
     ⟨(some 23), .call 66, [.t 21, .t 22], none⟩,
     ⟨(some 10), .mov, [.t 23], none⟩])
   (.seq (.seq (.reg [⟨(some 24), .mov, [.t 1], none⟩,
     ⟨(some 25), .len false, [.t 24], none⟩,
     ⟨(some 26), .mov, [.c (.int .i64 0)], none⟩])
   (.block 0 (.loop (.seq (.reg [⟨(some 27), .bin .lss, [.t 26, .t 25], none⟩])
   (.seq (.cond (.t 27) .skip (.exit 0))
   (.seq (.block 1 (.seq (.reg [⟨(some 28), .mov, [.t 26], none⟩,
     ⟨(some 29), .iaddrS 1, [.t 24, .t 26], none⟩,
     ⟨(some 30), .load 1 false, [.t 29], none⟩,
     ⟨(some 11), .mov, [.t 28], none⟩,
     ⟨(some 12), .mov, [.t 30], none⟩])
   (.reg [⟨(some 31), .mov, [.t 10], none⟩,
     ⟨(some 32), .mov, [.t 12], none⟩,
     ⟨(some 33), .mov, [.t 9], none⟩,
     ⟨(some 34), .mov, [.t 11], none⟩,
     ⟨(some 35), .iaddrS 1, [.t 33, .t 34], none⟩,
     ⟨(some 36), .load 1 false, [.t 35], none⟩,
     ⟨(some 37), .bin .mul, [.t 32, .t 36], none⟩,
     ⟨(some 38), .bin .add, [.t 31, .t 37], none⟩,
     ⟨(some 10), .mov, [.t 38], none⟩])))
   (.reg [⟨(some 39), .bin .add, [.t 26, .c (.int .i64 1)], none⟩,
     ⟨(some 26), .mov, [.t 39], none⟩])))))))
   (.seq (.seq (.reg [⟨(some 40), .faddr 1, [.t 4], none⟩,
     ⟨(some 41), .load 1 false, [.t 40], none⟩,
     ⟨(some 42), .len false, [.t 41], none⟩,
     ⟨(some 43), .mov, [.c (.int .i64 0)], none⟩])
   (.block 2 (.loop (.seq (.reg [⟨(some 44), .bin .lss, [.t 43, .t 42], none⟩])
   (.seq (.cond (.t 44) .skip (.exit 2))
   (.seq (.block 3 (.seq (.reg [⟨(some 45), .mov, [.t 43], none⟩,
     ⟨(some 46), .iaddrS 2, [.t 41, .t 43], none⟩,
     ⟨(some 47), .load 2 true, [.t 46], none⟩,
     ⟨(some 14), .alloc [(.int .i64 0), .nils], [], none⟩,
     ⟨(some 13), .mov, [.t 45], none⟩,
     ⟨none, .store 2, [.t 14, .t 47], none⟩])
   (.seq (.seq (.reg [⟨(some 48), .mov, [.t 3], none⟩,
     ⟨(some 49), .mov, [.t 13], none⟩,
     ⟨(some 50), .bin .shr, [.t 48, .t 49], none⟩,
     ⟨(some 51), .bin .rem, [.t 50, .c (.int .i64 2)], none⟩,
     ⟨(some 52), .bin .eql, [.t 51, .c (.int .i64 1)], none⟩])
   (.cond (.t 52) (.exit 3) .skip))
   (.seq (.reg [⟨(some 53), .faddr 0, [.t 14], none⟩,
     ⟨(some 54), .load 1 false, [.t 53], none⟩,
     ⟨(some 55), .un .neg, [.t 54], none⟩,
     ⟨(some 15), .mov, [.t 55], none⟩])
   (.seq (.seq (.reg [⟨(some 56), .faddr 1, [.t 14], none⟩,
     ⟨(some 57), .load 1 false, [.t 56], none⟩,
     ⟨(some 58), .len false, [.t 57], none⟩,
     ⟨(some 59), .mov, [.c (.int .i64 0)], none⟩])
   (.block 4 (.loop (.seq (.reg [⟨(some 60), .bin .lss, [.t 59, .t 58], none⟩])
   (.seq (.cond (.t 60) .skip (.exit 4))
   (.seq (.block 5 (.seq (.reg [⟨(some 61), .mov, [.t 59], none⟩,
     ⟨(some 62), .iaddrS 1, [.t 57, .t 59], none⟩,
     ⟨(some 63), .load 1 false, [.t 62], none⟩,
     ⟨(some 16), .mov, [.t 61], none⟩,
     ⟨(some 17), .mov, [.t 63], none⟩])
   (.draw [0, 0, 0, 6, 14, 0, 0, 0, 192, 448, 992, 2046, 4095, 8191] [⟨(some 64), .mov, [.t 15], none⟩,
     ⟨(some 65), .mov, [.t 1], none⟩,
     ⟨(some 66), .mov, [.t 16], none⟩,
     ⟨(some 67), .iaddrS 1, [.t 65, .t 66], none⟩,
     ⟨(some 68), .load 1 false, [.t 67], none⟩,
     ⟨(some 69), .mov, [.t 17], none⟩,
     ⟨(some 70), .mov, [.t 9], none⟩,
     ⟨(some 71), .mov, [.t 16], none⟩,
     ⟨(some 72), .iaddrS 1, [.t 70, .t 71], none⟩,
     ⟨(some 73), .load 1 false, [.t 72], none⟩,
     ⟨(some 74), .minmax false, [.t 69, .t 73], none⟩,
     ⟨(some 75), .bin .mul, [.t 68, .t 74], none⟩,
     ⟨(some 76), .bin .add, [.t 64, .t 75], none⟩,
     ⟨(some 15), .mov, [.t 76], none⟩])))
   (.reg [⟨(some 77), .bin .add, [.t 59, .c (.int .i64 1)], none⟩,
     ⟨(some 59), .mov, [.t 77], none⟩])))))))
   (.reg [⟨(some 78), .mov, [.t 10], none⟩,
     ⟨(some 79), .mov, [.t 15], none⟩,
     ⟨(some 80), .minmax true, [.c (.int .i64 0), .t 79], none⟩,
     ⟨(some 81), .bin .sub, [.t 78, .t 80], none⟩,
     ⟨(some 10), .mov, [.t 81], none⟩]))))))
   (.reg [⟨(some 82), .bin .add, [.t 43, .c (.int .i64 1)], none⟩,
     ⟨(some 43), .mov, [.t 82], none⟩])))))))
   (.seq (.reg [⟨(some 83), .mov, [.t 10], none⟩,
     ⟨(some 8), .mov, [.t 83], none⟩])
   .ret))))))
theorem chk.bin_leaf : chkF Tryd.prog 58 = some (84, ir.bin_leaf, [.tmp 8]) := by kernel_rfl

/-- paravane/bin.covers -/
abbrev F.bin_covers : Nat := 60
def ir.bin_covers : IC :=
 (.seq (.reg [⟨(some 2), .box, [.t 0], none⟩,
     ⟨(some 4), .mov, [.c (.bool false)], none⟩])
   (.seq (.reg [⟨(some 5), .load 2 true, [.t 2], none⟩,
     ⟨(some 6), .mov, [.t 1], none⟩,
     ⟨(some 7), .call 87, [.t 5, .t 6], none⟩,
     ⟨(some 8), .call 88, [.t 7, .c (.func (.func 89) [] [])], none⟩,
     ⟨(some 9), .bin .eql, [.t 8, .c (.int .i64 0)], none⟩,
     ⟨(some 4), .mov, [.t 9], none⟩])
   .ret))
theorem chk.bin_covers : chkF Tryd.prog 60 = some (10, ir.bin_covers, [.tmp 4]) := by kernel_rfl

/-- paravane/bin.CheckInfill$1 -/
abbrev F.bin_CheckInfill_1 : Nat := 63
def ir.bin_CheckInfill_1 : IC :=
 (.seq (.reg [⟨(some 2), .mov, [.c (.bool false)], none⟩])
   (.seq (.reg [⟨(some 3), .mov, [.t 0], none⟩,
     ⟨(some 4), .call 47, [.t 3, .c (.int .i64 0), .c (.int .i64 100)], none⟩,
     ⟨(some 5), .un .not, [.t 4], none⟩,
     ⟨(some 2), .mov, [.t 5], none⟩])
   .ret))
theorem chk.bin_CheckInfill_1 : chkF Tryd.prog 63 = some (6, ir.bin_CheckInfill_1, [.tmp 2]) := by kernel_rfl

/-- paravane/bin.best -/
abbrev F.bin_best : Nat := 64
def ir.bin_best : IC :=
 (.seq (.reg [⟨(some 2), .box, [.t 0], none⟩,
     ⟨(some 4), .mov, [.c (.int .i64 0)], none⟩,
     ⟨(some 5), .mov, [.c (.bool false)], none⟩])
   (.seq (.reg [⟨(some 6), .alloc [(.int .i64 0), (.int .i64 0), (.int .i64 0), (.int .i64 0), (.int .i64 0), (.int .i64 0), (.int .i64 0), (.int .i64 0), (.int .i64 0), (.int .i64 0), (.int .i64 0), (.int .i64 0), (.int .i64 0), (.int .i64 0), (.int .i64 0), (.int .i64 0), (.int .i64 0), (.int .i64 0), (.int .i64 0), (.int .i64 0), (.int .i64 0), (.int .i64 0), (.int .i64 0), (.int .i64 0), (.int .i64 0), (.int .i64 0), (.int .i64 0), (.int .i64 0), (.int .i64 0), (.int .i64 0), (.int .i64 0), (.int .i64 0), (.int .i64 0), (.int .i64 0), (.int .i64 0), (.int .i64 0), (.int .i64 0), (.int .i64 0), (.int .i64 0), (.int .i64 0), (.int .i64 0), (.int .i64 0), (.int .i64 0), (.int .i64 0), (.int .i64 0), (.int .i64 0), (.int .i64 0), (.int .i64 0), (.int .i64 0), (.int .i64 0), (.int .i64 0), (.int .i64 0), (.int .i64 0), (.int .i64 0), (.int .i64 0), (.int .i64 0), (.int .i64 0), (.int .i64 0), (.int .i64 0), (.int .i64 0), (.int .i64 0), (.int .i64 0), (.int .i64 0), (.int .i64 0), (.int .i64 0), (.int .i64 0), (.int .i64 0), (.int .i64 0), (.int .i64 0), (.int .i64 0), (.int .i64 0), (.int .i64 0), (.int .i64 0), (.int .i64 0), (.int .i64 0), (.int .i64 0), (.int .i64 0), (.int .i64 0), (.int .i64 0), (.int .i64 0), (.int .i64 0), (.int .i64 0), (.int .i64 0), (.int .i64 0), (.int .i64 0), (.int .i64 0), (.int .i64 0), (.int .i64 0), (.int .i64 0), (.int .i64 0), (.int .i64 0), (.int .i64 0), (.int .i64 0), (.int .i64 0), (.int .i64 0), (.int .i64 0), (.int .i64 0), (.int .i64 0), (.int .i64 0), (.int .i64 0), (.int .i64 0), (.int .i64 0), (.int .i64 0), (.int .i64 0), (.int .i64 0), (.int .i64 0), (.int .i64 0), (.int .i64 0), (.int .i64 0), (.int .i64 0), (.int .i64 0), (.int .i64 0), (.int .i64 0), (.int .i64 0), (.int .i64 0), (.int .i64 0), (.int .i64 0), (.int .i64 0), (.int .i64 0), (.int .i64 0), (.int .i64 0), (.int .i64 0), (.int .i64 0), (.int .i64 0), (.int .i64 0), (.int .i64 0), (.int .i64 0), (.int .i64 0), (.int .i64 0), (.int .i64 0), (.int .i64 0), (.int .i64 0), (.int .i64 0), (.int .i64 0), (.int .i64 0), (.int .i64 0), (.int .i64 0), (.int .i64 0), (.int .i64 0), (.int .i64 0), (.int .i64 0), (.int .i64 0), (.int .i64 0), (.int .i64 0), (.int .i64 0), (.int .i64 0), (.int .i64 0), (.int .i64 0), (.int .i64 0), (.int .i64 0), (.int .i64 0), (.int .i64 0), (.int .i64 0), (.int .i64 0), (.int .i64 0), (.int .i64 0), (.int .i64 0), (.int .i64 0), (.int .i64 0), (.int .i64 0), (.int .i64 0), (.int .i64 0), (.int .i64 0), (.int .i64 0), (.int .i64 0), (.int .i64 0), (.int .i64 0), (.int .i64 0), (.int .i64 0), (.int .i64 0), (.int .i64 0), (.int .i64 0), (.int .i64 0), (.int .i64 0), (.int .i64 0), (.int .i64 0), (.int .i64 0), (.int .i64 0), (.int .i64 0), (.int .i64 0), (.int .i64 0), (.int .i64 0), (.int .i64 0), (.int .i64 0), (.int .i64 0), (.int .i64 0), (.int .i64 0), (.int .i64 0), (.int .i64 0), (.int .i64 0), (.int .i64 0), (.int .i64 0), (.int .i64 0), (.int .i64 0), (.int .i64 0), (.int .i64 0), (.int .i64 0), (.int .i64 0), (.int .i64 0), (.int .i64 0), (.int .i64 0), (.int .i64 0), (.int .i64 0), (.int .i64 0), (.int .i64 0), (.int .i64 0), (.int .i64 0), (.int .i64 0), (.int .i64 0), (.int .i64 0), (.int .i64 0), (.int .i64 0), (.int .i64 0), (.int .i64 0), (.int .i64 0), (.int .i64 0), (.int .i64 0), (.int .i64 0), (.int .i64 0), (.int .i64 0), (.int .i64 0), (.int .i64 0), (.int .i64 0), (.int .i64 0), (.int .i64 0), (.int .i64 0), (.int .i64 0), (.int .i64 0), (.int .i64 0), (.int .i64 0), (.int .i64 0), (.int .i64 0), (.int .i64 0), (.int .i64 0), (.int .i64 0), (.int .i64 0), (.int .i64 0), (.int .i64 0), (.int .i64 0), (.int .i64 0), (.int .i64 0), (.int .i64 0), (.int .i64 0), (.int .i64 0), (.int .i64 0), (.int .i64 0), (.int .i64 0), (.int .i64 0), (.int .i64 0), (.int .i64 0), (.int .i64 0), (.int .i64 0), (.int .i64 0), (.int .i64 0), (.int .i64 0), (.int .i64 0), (.int .i64 0), (.int .i64 0), (.int .i64 0), (.int .i64 0), (.int .i64 0), (.int .i64 0), (.int .i64 0), (.int .i64 0), (.int .i64 0), (.int .i64 0), (.int .i64 0), (.int .i64 0), (.int .i64 0), (.int .i64 0), (.int .i64 0), (.int .i64 0), (.int .i64 0), (.int .i64 0), (.int .i64 0), (.int .i64 0), (.int .i64 0), (.int .i64 0), (.int .i64 0), (.int .i64 0), (.int .i64 0), (.int .i64 0), (.int .i64 0), (.int .i64 0), (.int .i64 0), (.int .i64 0), (.int .i64 0), (.int .i64 0), (.int .i64 0), (.int .i64 0), (.int .i64 0), (.int .i64 0), (.int .i64 0), (.int .i64 0), (.int .i64 0), (.int .i64 0), (.int .i64 0), (.int .i64 0), (.int .i64 0), (.int .i64 0), (.int .i64 0), (.int .i64 0), (.int .i64 0), (.int .i64 0), (.int .i64 0), (.int .i64 0), (.int .i64 0), (.int .i64 0), (.int .i64 0), (.int .i64 0), (.int .i64 0), (.int .i64 0), (.int .i64 0), (.int .i64 0), (.int .i64 0), (.int .i64 0), (.int .i64 0), (.int .i64 0), (.int .i64 0), (.int .i64 0), (.int .i64 0), (.int .i64 0), (.int .i64 0), (.int .i64 0), (.int .i64 0), (.int .i64 0), (.int .i64 0), (.int .i64 0), (.int .i64 0), (.int .i64 0), (.int .i64 0), (.int .i64 0), (.int .i64 0), (.int .i64 0), (.int .i64 0), (.int .i64 0), (.int .i64 0), (.int .i64 0), (.int .i64 0), (.int .i64 0), (.int .i64 0), (.int .i64 0), (.int .i64 0), (.int .i64 0), (.int .i64 0), (.int .i64 0), (.int .i64 0), (.int .i64 0), (.int .i64 0), (.int .i64 0), (.int .i64 0), (.int .i64 0), (.int .i64 0), (.int .i64 0), (.int .i64 0), (.int .i64 0), (.int .i64 0), (.int .i64 0), (.int .i64 0), (.int .i64 0), (.int .i64 0), (.int .i64 0), (.int .i64 0), (.int .i64 0), (.int .i64 0), (.int .i64 0), (.int .i64 0), (.int .i64 0), (.int .i64 0), (.int .i64 0), (.int .i64 0), (.int .i64 0), (.int .i64 0), (.int .i64 0), (.int .i64 0), (.int .i64 0), (.int .i64 0), (.int .i64 0), (.int .i64 0), (.int .i64 0), (.int .i64 0), (.int .i64 0), (.int .i64 0), (.int .i64 0), (.int .i64 0), (.int .i64 0), (.int .i64 0), (.int .i64 0), (.int .i64 0), (.int .i64 0), (.int .i64 0), (.int .i64 0), (.int .i64 0), (.int .i64 0), (.int .i64 0), (.int .i64 0), (.int .i64 0), (.int .i64 0), (.int .i64 0), (.int .i64 0), (.int .i64 0), (.int .i64 0), (.int .i64 0), (.int .i64 0), (.int .i64 0), (.int .i64 0), (.int .i64 0), (.int .i64 0), (.int .i64 0), (.int .i64 0), (.int .i64 0), (.int .i64 0), (.int .i64 0), (.int .i64 0), (.int .i64 0), (.int .i64 0), (.int .i64 0), (.int .i64 0), (.int .i64 0), (.int .i64 0), (.int .i64 0), (.int .i64 0), (.int .i64 0), (.int .i64 0), (.int .i64 0), (.int .i64 0), (.int .i64 0), (.int .i64 0), (.int .i64 0), (.int .i64 0), (.int .i64 0), (.int .i64 0), (.int .i64 0), (.int .i64 0), (.int .i64 0), (.int .i64 0), (.int .i64 0), (.int .i64 0), (.int .i64 0), (.int .i64 0), (.int .i64 0), (.int .i64 0), (.int .i64 0), (.int .i64 0), (.int .i64 0), (.int .i64 0), (.int .i64 0), (.int .i64 0), (.int .i64 0), (.int .i64 0), (.int .i64 0), (.int .i64 0), (.int .i64 0), (.int .i64 0), (.int .i64 0), (.int .i64 0), (.int .i64 0), (.int .i64 0), (.int .i64 0), (.int .i64 0), (.int .i64 0), (.int .i64 0), (.int .i64 0), (.int .i64 0), (.int .i64 0), (.int .i64 0), (.int .i64 0), (.int .i64 0), (.int .i64 0), (.int .i64 0), (.int .i64 0), (.int .i64 0), (.int .i64 0), (.int .i64 0), (.int .i64 0), (.int .i64 0), (.int .i64 0), (.int .i64 0), (.int .i64 0), (.int .i64 0), (.int .i64 0), (.int .i64 0), (.int .i64 0), (.int .i64 0), (.int .i64 0), (.int .i64 0), (.int .i64 0), (.int .i64 0), (.int .i64 0), (.int .i64 0), (.int .i64 0), (.int .i64 0), (.int .i64 0), (.int .i64 0), (.int .i64 0), (.int .i64 0), (.int .i64 0), (.int .i64 0), (.int .i64 0), (.int .i64 0), (.int .i64 0), (.int .i64 0), (.int .i64 0), (.int .i64 0), (.int .i64 0), (.int .i64 0), (.int .i64 0), (.int .i64 0), (.int .i64 0), (.int .i64 0), (.int .i64 0), (.int .i64 0), (.int .i64 0), (.int .i64 0), (.int .i64 0), (.int .i64 0), (.int .i64 0), (.int .i64 0), (.int .i64 0), (.int .i64 0), (.int .i64 0), (.int .i64 0), (.int .i64 0), (.int .i64 0), (.int .i64 0), (.int .i64 0), (.int .i64 0), (.int .i64 0), (.int .i64 0), (.int .i64 0), (.int .i64 0), (.int .i64 0), (.int .i64 0), (.int .i64 0), (.int .i64 0), (.int .i64 0), (.int .i64 0), (.int .i64 0), (.int .i64 0), (.int .i64 0), (.int .i64 0), (.int .i64 0), (.int .i64 0), (.int .i64 0), (.int .i64 0), (.int .i64 0), (.int .i64 0), (.int .i64 0), (.int .i64 0), (.int .i64 0), (.int .i64 0), (.int .i64 0), (.int .i64 0), (.int .i64 0), (.int .i64 0), (.int .i64 0), (.int .i64 0), (.int .i64 0), (.int .i64 0), (.int .i64 0), (.int .i64 0), (.int .i64 0), (.int .i64 0), (.int .i64 0), (.int .i64 0), (.int .i64 0), (.int .i64 0), (.int .i64 0), (.int .i64 0), (.int .i64 0), (.int .i64 0), (.int .i64 0), (.int .i64 0), (.int .i64 0), (.int .i64 0), (.int .i64 0), (.int .i64 0), (.int .i64 0), (.int .i64 0), (.int .i64 0), (.int .i64 0), (.int .i64 0), (.int .i64 0), (.int .i64 0), (.int .i64 0), (.int .i64 0), (.int .i64 0), (.int .i64 0), (.int .i64 0), (.int .i64 0), (.int .i64 0), (.int .i64 0), (.int .i64 0), (.int .i64 0), (.int .i64 0), (.int .i64 0), (.int .i64 0), (.int .i64 0), (.int .i64 0), (.int .i64 0), (.int .i64 0), (.int .i64 0), (.int .i64 0), (.int .i64 0), (.int .i64 0), (.int .i64 0), (.int .i64 0), (.int .i64 0), (.int .i64 0), (.int .i64 0), (.int .i64 0), (.int .i64 0), (.int .i64 0), (.int .i64 0), (.int .i64 0), (.int .i64 0), (.int .i64 0), (.int .i64 0), (.int .i64 0), (.int .i64 0), (.int .i64 0), (.int .i64 0), (.int .i64 0), (.int .i64 0), (.int .i64 0), (.int .i64 0), (.int .i64 0), (.int .i64 0), (.int .i64 0), (.int .i64 0), (.int .i64 0), (.int .i64 0), (.int .i64 0), (.int .i64 0), (.int .i64 0), (.int .i64 0), (.int .i64 0), (.int .i64 0), (.int .i64 0), (.int .i64 0), (.int .i64 0), (.int .i64 0), (.int .i64 0), (.int .i64 0), (.int .i64 0), (.int .i64 0), (.int .i64 0), (.int .i64 0), (.int .i64 0), (.int .i64 0), (.int .i64 0), (.int .i64 0), (.int .i64 0), (.int .i64 0), (.int .i64 0), (.int .i64 0), (.int .i64 0), (.int .i64 0), (.int .i64 0), (.int .i64 0), (.int .i64 0), (.int .i64 0), (.int .i64 0), (.int .i64 0), (.int .i64 0), (.int .i64 0), (.int .i64 0), (.int .i64 0), (.int .i64 0), (.int .i64 0), (.int .i64 0), (.int .i64 0), (.int .i64 0), (.int .i64 0), (.int .i64 0), (.int .i64 0), (.int .i64 0), (.int .i64 0), (.int .i64 0), (.int .i64 0), (.int .i64 0), (.int .i64 0), (.int .i64 0), (.int .i64 0), (.int .i64 0), (.int .i64 0), (.int .i64 0), (.int .i64 0), (.int .i64 0), (.int .i64 0), (.int .i64 0), (.int .i64 0), (.int .i64 0), (.int .i64 0), (.int .i64 0), (.int .i64 0), (.int .i64 0), (.int .i64 0), (.int .i64 0), (.int .i64 0), (.int .i64 0), (.int .i64 0), (.int .i64 0), (.int .i64 0), (.int .i64 0), (.int .i64 0), (.int .i64 0), (.int .i64 0), (.int .i64 0), (.int .i64 0), (.int .i64 0), (.int .i64 0), (.int .i64 0), (.int .i64 0), (.int .i64 0), (.int .i64 0), (.int .i64 0), (.int .i64 0), (.int .i64 0), (.int .i64 0), (.int .i64 0), (.int .i64 0), (.int .i64 0), (.int .i64 0), (.int .i64 0), (.int .i64 0), (.int .i64 0), (.int .i64 0), (.int .i64 0), (.int .i64 0), (.int .i64 0), (.int .i64 0), (.int .i64 0), (.int .i64 0), (.int .i64 0), (.int .i64 0), (.int .i64 0), (.int .i64 0), (.int .i64 0), (.int .i64 0), (.int .i64 0), (.int .i64 0), (.int .i64 0), (.int .i64 0), (.int .i64 0), (.int .i64 0), (.int .i64 0), (.int .i64 0), (.int .i64 0), (.int .i64 0), (.int .i64 0), (.int .i64 0), (.int .i64 0), (.int .i64 0), (.int .i64 0), (.int .i64 0), (.int .i64 0), (.int .i64 0), (.int .i64 0), (.int .i64 0), (.int .i64 0), (.int .i64 0), (.int .i64 0), (.int .i64 0), (.int .i64 0), (.int .i64 0), (.int .i64 0), (.int .i64 0), (.int .i64 0), (.int .i64 0), (.int .i64 0), (.int .i64 0), (.int .i64 0), (.int .i64 0), (.int .i64 0), (.int .i64 0), (.int .i64 0), (.int .i64 0), (.int .i64 0), (.int .i64 0), (.int .i64 0), (.int .i64 0), (.int .i64 0), (.int .i64 0), (.int .i64 0), (.int .i64 0), (.int .i64 0), (.int .i64 0), (.int .i64 0), (.int .i64 0), (.int .i64 0), (.int .i64 0), (.int .i64 0), (.int .i64 0), (.int .i64 0), (.int .i64 0), (.int .i64 0), (.int .i64 0), (.int .i64 0), (.int .i64 0), (.int .i64 0), (.int .i64 0), (.int .i64 0), (.int .i64 0), (.int .i64 0), (.int .i64 0), (.int .i64 0), (.int .i64 0), (.int .i64 0), (.int .i64 0), (.int .i64 0), (.int .i64 0), (.int .i64 0), (.int .i64 0), (.int .i64 0), (.int .i64 0), (.int .i64 0), (.int .i64 0), (.int .i64 0), (.int .i64 0), (.int .i64 0), (.int .i64 0), (.int .i64 0), (.int .i64 0), (.int .i64 0), (.int .i64 0), (.int .i64 0), (.int .i64 0), (.int .i64 0), (.int .i64 0), (.int .i64 0), (.int .i64 0), (.int .i64 0), (.int .i64 0), (.int .i64 0), (.int .i64 0), (.int .i64 0), (.int .i64 0), (.int .i64 0), (.int .i64 0), (.int .i64 0), (.int .i64 0), (.int .i64 0), (.int .i64 0), (.int .i64 0), (.int .i64 0), (.int .i64 0), (.int .i64 0), (.int .i64 0), (.int .i64 0), (.int .i64 0), (.int .i64 0), (.int .i64 0), (.int .i64 0), (.int .i64 0), (.int .i64 0), (.int .i64 0), (.int .i64 0), (.int .i64 0), (.int .i64 0), (.int .i64 0), (.int .i64 0), (.int .i64 0), (.int .i64 0), (.int .i64 0), (.int .i64 0), (.int .i64 0), (.int .i64 0), (.int .i64 0), (.int .i64 0), (.int .i64 0), (.int .i64 0), (.int .i64 0), (.int .i64 0), (.int .i64 0), (.int .i64 0), (.int .i64 0), (.int .i64 0), (.int .i64 0), (.int .i64 0), (.int .i64 0), (.int .i64 0), (.int .i64 0), (.int .i64 0), (.int .i64 0), (.int .i64 0), (.int .i64 0), (.int .i64 0), (.int .i64 0), (.int .i64 0), (.int .i64 0), (.int .i64 0), (.int .i64 0), (.int .i64 0), (.int .i64 0), (.int .i64 0), (.int .i64 0), (.int .i64 0), (.int .i64 0), (.int .i64 0), (.int .i64 0), (.int .i64 0), (.int .i64 0), (.int .i64 0), (.int .i64 0), (.int .i64 0), (.int .i64 0), (.int .i64 0), (.int .i64 0), (.int .i64 0), (.int .i64 0), (.int .i64 0), (.int .i64 0), (.int .i64 0), (.int .i64 0), (.int .i64 0), (.int .i64 0), (.int .i64 0), (.int .i64 0), (.int .i64 0), (.int .i64 0), (.int .i64 0), (.int .i64 0), (.int .i64 0), (.int .i64 0), (.int .i64 0), (.int .i64 0), (.int .i64 0), (.int .i64 0), (.int .i64 0), (.int .i64 0), (.int .i64 0), (.int .i64 0), (.int .i64 0), (.int .i64 0), (.int .i64 0), (.int .i64 0), (.int .i64 0), (.int .i64 0), (.int .i64 0), (.int .i64 0), (.int .i64 0), (.int .i64 0), (.int .i64 0), (.int .i64 0), (.int .i64 0), (.int .i64 0), (.int .i64 0), (.int .i64 0), (.int .i64 0), (.int .i64 0), (.int .i64 0), (.int .i64 0), (.int .i64 0), (.int .i64 0), (.int .i64 0), (.int .i64 0), (.int .i64 0), (.int .i64 0), (.int .i64 0), (.int .i64 0), (.int .i64 0), (.int .i64 0), (.int .i64 0), (.int .i64 0), (.int .i64 0), (.int .i64 0), (.int .i64 0), (.int .i64 0), (.int .i64 0), (.int .i64 0), (.int .i64 0), (.int .i64 0), (.int .i64 0), (.int .i64 0), (.int .i64 0), (.int .i64 0), (.int .i64 0), (.int .i64 0), (.int .i64 0), (.int .i64 0), (.int .i64 0), (.int .i64 0), (.int .i64 0), (.int .i64 0), (.int .i64 0), (.int .i64 0), (.int .i64 0), (.int .i64 0), (.int .i64 0), (.int .i64 0), (.int .i64 0), (.int .i64 0), (.int .i64 0), (.int .i64 0), (.int .i64 0), (.int .i64 0), (.int .i64 0), (.int .i64 0), (.int .i64 0), (.int .i64 0), (.int .i64 0), (.int .i64 0), (.int .i64 0), (.int .i64 0), (.int .i64 0), (.int .i64 0), (.int .i64 0), (.int .i64 0), (.int .i64 0), (.int .i64 0), (.int .i64 0), (.int .i64 0), (.int .i64 0), (.int .i64 0), (.int .i64 0), (.int .i64 0), (.int .i64 0), (.int .i64 0), (.int .i64 0), (.int .i64 0), (.int .i64 0), (.int .i64 0), (.int .i64 0)], [], none⟩])
   (.seq (.reg [⟨(some 7), .mov, [.c (.int .i64 0)], none⟩,
     ⟨(some 8), .mov, [.c (.bool false)], none⟩])
   (.seq (.seq (.reg [⟨(some 12), .faddr 1, [.t 2], none⟩,
     ⟨(some 13), .load 1 false, [.t 12], none⟩,
     ⟨(some 14), .len false, [.t 13], none⟩,
     ⟨(some 15), .bin .shl, [.c (.int .i64 1), .t 14], none⟩,
     ⟨(some 16), .mov, [.c (.int .i64 0)], none⟩])
   (.block 0 (.loop (.seq (.reg [⟨(some 17), .bin .lss, [.t 16, .t 15], none⟩])
   (.seq (.cond (.t 17) .skip (.exit 0))
   (.seq (.block 1 (.seq (.reg [⟨(some 18), .mov, [.t 16], none⟩,
     ⟨(some 9), .mov, [.t 18], none⟩])
   (.seq (.seq (.reg [⟨(some 19), .mov, [.t 9], none⟩,
     ⟨(some 20), .mov, [.t 1], none⟩,
     ⟨(some 21), .bin .and, [.t 19, .t 20], none⟩,
     ⟨(some 22), .bin .neq, [.t 21, .c (.int .i64 0)], none⟩,
     ⟨(some 23), .mov, [.t 22], none⟩,
     ⟨(some 24), .load 2 true, [.t 2], (some (23, false))⟩,
     ⟨(some 25), .mov, [.t 9], (some (23, false))⟩,
     ⟨(some 26), .call 60, [.t 24, .t 25], (some (23, false))⟩,
     ⟨(some 27), .un .not, [.t 26], (some (23, false))⟩,
     ⟨(some 28), .pick, [.t 23, .c (.bool true), .t 27], none⟩])
   (.cond (.t 28) (.exit 1) .skip))
   (.seq (.reg [⟨(some 29), .mov, [.t 9], none⟩,
     ⟨(some 30), .load 2 true, [.t 2], none⟩,
     ⟨(some 31), .mov, [.t 9], none⟩,
     ⟨(some 32), .call 66, [.t 30, .t 31], none⟩,
     ⟨(some 33), .iaddrA 1024 1, [.t 6, .t 29], none⟩,
     ⟨none, .store 1, [.t 33, .t 32], none⟩])
   (.seq (.seq (.reg [⟨(some 34), .mov, [.t 8], none⟩,
     ⟨(some 35), .un .not, [.t 34], none⟩])
   (.cond (.t 35) (.seq (.reg [⟨(some 36), .mov, [.t 9], none⟩,
     ⟨(some 7), .mov, [.t 36], none⟩,
     ⟨(some 8), .mov, [.c (.bool true)], none⟩])
   (.exit 1)) .skip))
   (.seq (.reg [⟨(some 37), .mov, [.t 9], none⟩,
     ⟨(some 38), .call 65, [.t 37], none⟩,
     ⟨(some 39), .mov, [.t 7], none⟩,
     ⟨(some 40), .call 65, [.t 39], none⟩,
     ⟨(some 10), .mov, [.t 38], none⟩,
     ⟨(some 11), .mov, [.t 40], none⟩])
   (.block 2 (.seq (.draw [0, 1, 3, 0, 8, 24, 63, 127] [⟨(some 42), .mov, [.t 9], none⟩,
     ⟨(some 43), .iaddrA 1024 1, [.t 6, .t 42], none⟩,
     ⟨(some 44), .load 1 false, [.t 43], none⟩,
     ⟨(some 45), .mov, [.t 7], none⟩,
     ⟨(some 46), .iaddrA 1024 1, [.t 6, .t 45], none⟩,
     ⟨(some 47), .load 1 false, [.t 46], none⟩,
     ⟨(some 48), .bin .neq, [.t 44, .t 47], none⟩,
     ⟨(some 41), .mov, [.t 48], none⟩])
   (.cond (.t 41) (.seq (.draw [0, 1, 3, 0, 8, 24, 63] [⟨(some 49), .mov, [.t 9], none⟩,
     ⟨(some 50), .iaddrA 1024 1, [.t 6, .t 49], none⟩,
     ⟨(some 51), .load 1 false, [.t 50], none⟩,
     ⟨(some 52), .mov, [.t 7], none⟩,
     ⟨(some 53), .iaddrA 1024 1, [.t 6, .t 52], none⟩,
     ⟨(some 54), .load 1 false, [.t 53], none⟩,
     ⟨(some 55), .bin .lss, [.t 51, .t 54], none⟩])
   (.cond (.t 55) (.reg [⟨(some 56), .mov, [.t 9], none⟩,
     ⟨(some 7), .mov, [.t 56], none⟩]) .skip)) (.seq (.reg [⟨(some 58), .mov, [.t 10], none⟩,
     ⟨(some 59), .len false, [.t 58], none⟩,
     ⟨(some 60), .mov, [.t 11], none⟩,
     ⟨(some 61), .len false, [.t 60], none⟩,
     ⟨(some 62), .bin .neq, [.t 59, .t 61], none⟩,
     ⟨(some 57), .mov, [.t 62], none⟩])
   (.cond (.t 57) (.seq (.reg [⟨(some 63), .mov, [.t 10], none⟩,
     ⟨(some 64), .len false, [.t 63], none⟩,
     ⟨(some 65), .mov, [.t 11], none⟩,
     ⟨(some 66), .len false, [.t 65], none⟩,
     ⟨(some 67), .bin .lss, [.t 64, .t 66], none⟩])
   (.cond (.t 67) (.reg [⟨(some 68), .mov, [.t 9], none⟩,
     ⟨(some 7), .mov, [.t 68], none⟩]) .skip)) (.seq (.reg [⟨(some 70), .mov, [.t 10], none⟩,
     ⟨(some 71), .mov, [.t 11], none⟩,
     ⟨(some 72), .call 91, [.t 70, .t 71], none⟩,
     ⟨(some 73), .bin .lss, [.t 72, .c (.int .i64 0)], none⟩,
     ⟨(some 69), .mov, [.t 73], none⟩])
   (.cond (.t 69) (.reg [⟨(some 74), .mov, [.t 9], none⟩,
     ⟨(some 7), .mov, [.t 74], none⟩]) .skip)))))))))))))
   (.reg [⟨(some 75), .bin .add, [.t 16, .c (.int .i64 1)], none⟩,
     ⟨(some 16), .mov, [.t 75], none⟩])))))))
   (.seq (.reg [⟨(some 76), .mov, [.t 7], none⟩,
     ⟨(some 77), .mov, [.t 8], none⟩,
     ⟨(some 4), .mov, [.t 76], none⟩,
     ⟨(some 5), .mov, [.t 77], none⟩])
   .ret)))))
theorem chk.bin_best : chkF Tryd.prog 64 = some (78, ir.bin_best, [.tmp 4, .tmp 5]) := by kernel_rfl

/-- paravane/bin.choice -/
abbrev F.bin_choice : Nat := 65
def ir.bin_choice : IC :=
 (.seq (.reg [⟨(some 2), .mov, [.c .nils], none⟩])
   (.seq (.reg [⟨(some 3), .mov, [.c .nils], none⟩])
   (.seq (.seq (.reg [⟨(some 5), .mov, [.c (.int .i64 0)], none⟩])
   (.block 0 (.loop (.seq (.reg [⟨(some 6), .bin .lss, [.t 5, .c (.int .i64 10)], none⟩])
   (.seq (.cond (.t 6) .skip (.exit 0))
   (.seq (.block 1 (.seq (.reg [⟨(some 7), .mov, [.t 5], none⟩,
     ⟨(some 4), .mov, [.t 7], none⟩])
   (.seq (.reg [⟨(some 8), .mov, [.t 0], none⟩,
     ⟨(some 9), .mov, [.t 4], none⟩,
     ⟨(some 10), .bin .shr, [.t 8, .t 9], none⟩,
     ⟨(some 11), .bin .rem, [.t 10, .c (.int .i64 2)], none⟩,
     ⟨(some 12), .bin .eql, [.t 11, .c (.int .i64 1)], none⟩])
   (.cond (.t 12) (.reg [⟨(some 13), .mov, [.t 3], none⟩,
     ⟨(some 14), .mov, [.t 4], none⟩,
     ⟨(some 15), .mkslice 1 3, [.t 14], none⟩,
     ⟨(some 16), .append 1 8 3, [.t 13, .t 15], none⟩,
     ⟨(some 3), .mov, [.t 16], none⟩]) .skip))))
   (.reg [⟨(some 17), .bin .add, [.t 5, .c (.int .i64 1)], none⟩,
     ⟨(some 5), .mov, [.t 17], none⟩])))))))
   (.seq (.reg [⟨(some 18), .mov, [.t 3], none⟩,
     ⟨(some 2), .mov, [.t 18], none⟩])
   .ret))))
theorem chk.bin_choice : chkF Tryd.prog 65 = some (19, ir.bin_choice, [.tmp 2]) := by kernel_rfl

/-- paravane/bin.cost -/
abbrev F.bin_cost : Nat := 66
def ir.bin_cost : IC :=
 (.seq (.reg [⟨(some 2), .box, [.t 0], none⟩,
     ⟨(some 4), .mov, [.c (.int .i64 0)], none⟩])
   (.seq (.reg [⟨(some 5), .mov, [.t 1], none⟩,
     ⟨(some 6), .call 65, [.t 5], none⟩,
     ⟨(some 7), .mkfunc (.func 92) 0, [.t 2], none⟩,
     ⟨(some 8), .call 88, [.t 6, .t 7], none⟩,
     ⟨(some 4), .mov, [.t 8], none⟩])
   .ret))
theorem chk.bin_cost : chkF Tryd.prog 66 = some (9, ir.bin_cost, [.tmp 4]) := by kernel_rfl

/-- paravane/paravanelaw07.spot -/
abbrev F.law07_spot : Nat := 69
def ir.law07_spot : IC :=
 (.seq (.reg [⟨(some 4), .alloc [(.int .i64 0), (.int .i64 0), (.int .i64 0), (.int .i64 0), (.int .i64 0), (.int .i64 0), (.int .i64 0), (.int .i64 0)], [], none⟩])
   (.seq (.reg [⟨(some 5), .mov, [.t 0], none⟩,
     ⟨(some 6), .mov, [.t 0], none⟩,
     ⟨(some 7), .call 34, [.t 5, .t 6], none⟩,
     ⟨(some 8), .mov, [.t 1], none⟩,
     ⟨(some 9), .mov, [.t 1], none⟩,
     ⟨(some 10), .call 34, [.t 8, .t 9], none⟩,
     ⟨(some 11), .mov, [.t 0], none⟩,
     ⟨(some 12), .mov, [.t 1], none⟩,
     ⟨(some 13), .bin .add, [.t 11, .t 12], none⟩,
     ⟨(some 14), .mov, [.t 0], none⟩,
     ⟨(some 15), .mov, [.t 1], none⟩,
     ⟨(some 16), .bin .add, [.t 14, .t 15], none⟩,
     ⟨(some 17), .call 34, [.t 13, .t 16], none⟩,
     ⟨(some 18), .mov, [.t 0], none⟩,
     ⟨(some 19), .mov, [.t 1], none⟩,
     ⟨(some 20), .bin .sub, [.t 18, .t 19], none⟩,
     ⟨(some 21), .mov, [.t 0], none⟩,
     ⟨(some 22), .mov, [.t 1], none⟩,
     ⟨(some 23), .bin .sub, [.t 21, .t 22], none⟩,
     ⟨(some 24), .call 34, [.t 20, .t 23], none⟩,
     ⟨(some 25), .build [(.int .i64 0), (.int .i64 0), (.int .i64 0), (.int .i64 0), (.int .i64 0), (.int .i64 0), (.int .i64 0), (.int .i64 0)] [(0, 2), (2, 2), (4, 2), (6, 2)], [.t 7, .t 10, .t 17, .t 24], none⟩,
     ⟨none, .store 8, [.t 4, .t 25], none⟩])
   .ret))
theorem chk.law07_spot : chkF Tryd.prog 69 = some (26, ir.law07_spot, [.cell 4 87]) := by kernel_rfl

/-- paravane/region.Count -/
abbrev F.region_Count : Nat := 70
def ir.region_Count : IC :=
 (.seq (.reg [⟨(some 1), .box, [.t 0], none⟩,
     ⟨(some 2), .mov, [.c (.int .i64 0)], none⟩,
     ⟨(some 3), .mov, [.c (.int .i64 0)], none⟩])
   (.seq (.seq (.reg [⟨(some 7), .load 8 true, [.t 1], none⟩,
     ⟨(some 8), .call 94, [.t 7], none⟩,
     ⟨(some 4), .mov, [.t 8], none⟩])
   (.seq (.reg [⟨(some 9), .mov, [.t 4], none⟩,
     ⟨(some 10), .bin .neq, [.t 9, .c (.int .i64 0)], none⟩])
   (.cond (.t 10) (.seq (.reg [⟨(some 11), .mov, [.t 4], none⟩,
     ⟨(some 2), .mov, [.c (.int .i64 0)], none⟩,
     ⟨(some 3), .mov, [.t 11], none⟩])
   .ret) .skip)))
   (.seq (.reg [⟨(some 5), .alloc [(.int .i64 0)], [], none⟩,
     ⟨none, .store 1, [.t 5, .c (.int .i64 0)], none⟩])
   (.seq (.seq (.reg [⟨(some 12), .load 8 true, [.t 1], none⟩,
     ⟨(some 13), .call 95, [.t 12], none⟩,
     ⟨(some 14), .call 96, [.t 13], none⟩])
   (.block 0 (.range (.t 14) [15] (.reg [⟨(some 6), .alloc [(.int .i64 0), (.int .i64 0), (.int .i64 0)], [], none⟩,
     ⟨none, .store 3, [.t 6, .t 15], none⟩]) (.block 1 (.reg [⟨(some 16), .load 1 false, [.t 5], none⟩,
     ⟨(some 17), .faddr 2, [.t 6], none⟩,
     ⟨(some 18), .load 1 false, [.t 17], none⟩,
     ⟨(some 19), .faddr 1, [.t 6], none⟩,
     ⟨(some 20), .load 1 false, [.t 19], none⟩,
     ⟨(some 21), .bin .sub, [.t 18, .t 20], none⟩,
     ⟨(some 22), .bin .add, [.t 21, .c (.int .i64 1)], none⟩,
     ⟨(some 23), .bin .add, [.t 16, .t 22], none⟩,
     ⟨none, .store 1, [.t 5, .t 23], none⟩])))))
   (.seq (.reg [⟨(some 24), .load 1 false, [.t 5], none⟩,
     ⟨(some 2), .mov, [.t 24], none⟩,
     ⟨(some 3), .mov, [.c (.int .i64 0)], none⟩])
   .ret)))))
theorem chk.region_Count : chkF Tryd.prog 70 = some (25, ir.region_Count, [.tmp 2, .tmp 3]) := by kernel_rfl

/-- paravane/bin.needed -/
abbrev F.bin_needed : Nat := 71
def ir.bin_needed : IC :=
 (.seq (.reg [⟨(some 2), .box, [.t 0], none⟩,
     ⟨(some 4), .mov, [.c (.bool false)], none⟩])
   (.seq (.reg [⟨(some 5), .mov, [.t 1], none⟩,
     ⟨(some 6), .len false, [.t 5], none⟩,
     ⟨(some 7), .faddr 5, [.t 2], none⟩,
     ⟨(some 8), .load 1 false, [.t 7], none⟩,
     ⟨(some 9), .len false, [.t 8], none⟩,
     ⟨(some 10), .bin .eql, [.t 6, .t 9], none⟩,
     ⟨(some 11), .mov, [.t 10], none⟩,
     ⟨(some 12), .mov, [.t 1], (some (11, true))⟩,
     ⟨(some 13), .call 45, [.t 12, .c (.func (.func 97) [] [])], (some (11, true))⟩,
     ⟨(some 14), .un .not, [.t 13], (some (11, true))⟩,
     ⟨(some 15), .pick, [.t 11, .t 14, .c (.bool false)], none⟩,
     ⟨(some 4), .mov, [.t 15], none⟩])
   .ret))
theorem chk.bin_needed : chkF Tryd.prog 71 = some (16, ir.bin_needed, [.tmp 4]) := by kernel_rfl

/-- (paravane/bin.laid).lacks -/
abbrev F.bin_laid_lacks : Nat := 72
def ir.bin_laid_lacks : IC :=
 (.seq (.reg [⟨(some 2), .box, [.t 0], none⟩,
     ⟨(some 4), .mov, [.c .nils], none⟩])
   (.seq (.reg [⟨(some 5), .mov, [.c .nils], none⟩])
   (.seq (.seq (.reg [⟨(some 10), .load 8 true, [.t 2], none⟩,
     ⟨(some 11), .load 8 true, [.t 2], none⟩,
     ⟨(some 12), .mkfunc (.func 54) 1, [.t 11], none⟩,
     ⟨(some 13), .call 56, [.t 10, .t 12], none⟩,
     ⟨(some 14), .len false, [.t 13], none⟩,
     ⟨(some 15), .mov, [.c (.int .i64 0)], none⟩])
   (.block 0 (.loop (.seq (.reg [⟨(some 16), .bin .lss, [.t 15, .t 14], none⟩])
   (.seq (.cond (.t 16) .skip (.exit 0))
   (.seq (.block 1 (.seq (.reg [⟨(some 17), .mov, [.t 15], none⟩,
     ⟨(some 18), .iaddrS 1, [.t 13, .t 15], none⟩,
     ⟨(some 19), .load 1 false, [.t 18], none⟩,
     ⟨(some 6), .mov, [.t 17], none⟩,
     ⟨(some 7), .mov, [.t 19], none⟩])
   (.seq (.reg [⟨(some 20), .mov, [.t 7], none⟩,
     ⟨(some 21), .len false, [.t 20], none⟩,
     ⟨(some 22), .mov, [.c (.int .i64 0)], none⟩])
   (.block 2 (.loop (.seq (.reg [⟨(some 23), .bin .lss, [.t 22, .t 21], none⟩])
   (.seq (.cond (.t 23) .skip (.exit 2))
   (.seq (.block 3 (.seq (.reg [⟨(some 24), .mov, [.t 22], none⟩,
     ⟨(some 25), .iaddrS 1, [.t 20, .t 22], none⟩,
     ⟨(some 26), .load 1 false, [.t 25], none⟩,
     ⟨(some 8), .mov, [.t 24], none⟩,
     ⟨(some 9), .mov, [.t 26], none⟩])
   (.seq (.reg [⟨(some 27), .mov, [.t 9], none⟩,
     ⟨(some 28), .mov, [.t 1], none⟩,
     ⟨(some 29), .mov, [.t 8], none⟩,
     ⟨(some 30), .iaddrS 1, [.t 28, .t 29], none⟩,
     ⟨(some 31), .load 1 false, [.t 30], none⟩,
     ⟨(some 32), .bin .lss, [.t 27, .t 31], none⟩])
   (.cond (.t 32) (.reg [⟨(some 33), .mov, [.t 5], none⟩,
     ⟨(some 34), .mov, [.t 6], none⟩,
     ⟨(some 35), .mov, [.t 8], none⟩,
     ⟨(some 36), .mov, [.t 1], none⟩,
     ⟨(some 37), .mov, [.t 8], none⟩,
     ⟨(some 38), .iaddrS 1, [.t 36, .t 37], none⟩,
     ⟨(some 39), .load 1 false, [.t 38], none⟩,
     ⟨(some 40), .mov, [.t 9], none⟩,
     ⟨(some 41), .bin .sub, [.t 39, .t 40], none⟩,
     ⟨(some 42), .build [(.int .i64 0), (.int .i64 0), (.int .i64 0)] [(0, 1), (1, 1), (2, 1)], [.t 34, .t 35, .t 41], none⟩,
     ⟨(some 43), .mkslice 3 110, [.t 42], none⟩,
     ⟨(some 44), .append 3 24 110, [.t 33, .t 43], none⟩,
     ⟨(some 5), .mov, [.t 44], none⟩]) .skip))))
   (.reg [⟨(some 45), .bin .add, [.t 22, .c (.int .i64 1)], none⟩,
     ⟨(some 22), .mov, [.t 45], none⟩])))))))))
   (.reg [⟨(some 46), .bin .add, [.t 15, .c (.int .i64 1)], none⟩,
     ⟨(some 15), .mov, [.t 46], none⟩])))))))
   (.seq (.reg [⟨(some 47), .mov, [.t 5], none⟩,
     ⟨(some 4), .mov, [.t 47], none⟩])
   .ret))))
theorem chk.bin_laid_lacks : chkF Tryd.prog 72 = some (48, ir.bin_laid_lacks, [.tmp 4]) := by kernel_rfl

/-- (paravane/bin.laid).sure -/
abbrev F.bin_laid_sure : Nat := 73
def ir.bin_laid_sure : IC :=
 (.seq (.reg [⟨(some 1), .box, [.t 0], none⟩,
     ⟨(some 2), .mov, [.c (.int .i64 0)], none⟩])
   (.seq (.reg [⟨(some 3), .mov, [.c (.int .i64 0)], none⟩])
   (.seq (.seq (.reg [⟨(some 5), .faddr 6, [.t 1], none⟩,
     ⟨(some 6), .load 1 false, [.t 5], none⟩,
     ⟨(some 7), .len false, [.t 6], none⟩,
     ⟨(some 8), .mov, [.c (.int .i64 0)], none⟩])
   (.block 0 (.loop (.seq (.reg [⟨(some 9), .bin .lss, [.t 8, .t 7], none⟩])
   (.seq (.cond (.t 9) .skip (.exit 0))
   (.seq (.block 1 (.seq (.reg [⟨(some 10), .mov, [.t 8], none⟩,
     ⟨(some 4), .mov, [.t 10], none⟩])
   (.reg [⟨(some 11), .mov, [.t 3], none⟩,
     ⟨(some 12), .load 8 true, [.t 1], none⟩,
     ⟨(some 13), .mov, [.t 4], none⟩,
     ⟨(some 14), .call 54, [.t 12, .t 13], none⟩,
     ⟨(some 15), .len false, [.t 14], none⟩,
     ⟨(some 16), .bin .add, [.t 11, .t 15], none⟩,
     ⟨(some 3), .mov, [.t 16], none⟩])))
   (.reg [⟨(some 17), .bin .add, [.t 8, .c (.int .i64 1)], none⟩,
     ⟨(some 8), .mov, [.t 17], none⟩])))))))
   (.seq (.reg [⟨(some 18), .mov, [.t 3], none⟩,
     ⟨(some 2), .mov, [.t 18], none⟩])
   .ret))))
theorem chk.bin_laid_sure : chkF Tryd.prog 73 = some (19, ir.bin_laid_sure, [.tmp 2]) := by kernel_rfl

/-- slices.Clone[[][]paravane/api.Point,[]paravane/api.Point] -/
abbrev F.slices_Clone_api_Point_api_Point : Nat := 74
def ir.slices_Clone_api_Point_api_Point : IC :=
 (.seq (.reg [⟨(some 2), .mov, [.c .nils], none⟩])
   (.seq (.seq (.reg [⟨(some 3), .mov, [.t 0], none⟩,
     ⟨(some 4), .raw 8 0 113, [.t 3, .c .nils], none⟩])
   (.cond (.t 4) (.seq (.reg [⟨(some 2), .mov, [.c .nils], none⟩])
   .ret) .skip))
   (.seq (.reg [⟨(some 5), .mkslice 1 98, [], none⟩,
     ⟨(some 6), .mov, [.t 0], none⟩,
     ⟨(some 7), .append 1 24 98, [.t 5, .t 6], none⟩,
     ⟨(some 2), .mov, [.t 7], none⟩])
   .ret)))
theorem chk.slices_Clone_api_Point_api_Point : chkF Tryd.prog 74 = some (8, ir.slices_Clone_api_Point_api_Point, [.tmp 2]) := by kernel_rfl

/-- paravane/bin.lay -/
abbrev F.bin_lay : Nat := 76
def ir.bin_lay : IC :=
 (.seq (.reg [⟨(some 2), .box, [.t 0], none⟩,
     ⟨(some 3), .box, [.t 1], none⟩,
     ⟨(some 4), .alloc [(.int .i64 0), (.int .i64 0), (.int .i64 0), (.int .i64 0), (.int .i64 0), .nils, .nils, .nils], [], none⟩])
   (.seq (.reg [⟨(some 8), .load 6 true, [.t 2], none⟩,
     ⟨(some 9), .faddr 1, [.t 3], none⟩,
     ⟨(some 10), .load 1 false, [.t 9], none⟩,
     ⟨(some 11), .build [(.int .i64 0), (.int .i64 0), (.int .i64 0), (.int .i64 0), (.int .i64 0), .nils, .nils, .nils] [(0, 6), (6, 1)], [.t 8, .t 10], none⟩,
     ⟨(some 5), .alloc [(.int .i64 0), (.int .i64 0), (.int .i64 0), (.int .i64 0), (.int .i64 0), .nils, .nils, .nils], [], none⟩,
     ⟨none, .store 8, [.t 5, .t 11], none⟩])
   (.seq (.seq (.reg [⟨(some 12), .faddr 0, [.t 3], none⟩,
     ⟨(some 13), .load 1 false, [.t 12], none⟩,
     ⟨(some 14), .len false, [.t 13], none⟩,
     ⟨(some 15), .mov, [.c (.int .i64 0)], none⟩])
   (.block 0 (.loop (.seq (.reg [⟨(some 16), .bin .lss, [.t 15, .t 14], none⟩])
   (.seq (.cond (.t 16) .skip (.exit 0))
   (.seq (.block 1 (.seq (.reg [⟨(some 17), .iaddrS 8, [.t 13, .t 15], none⟩,
     ⟨(some 18), .load 8 true, [.t 17], none⟩,
     ⟨(some 7), .alloc [(.int .i64 0), (.int .i64 0), (.int .i64 0), (.int .i64 0), (.int .i64 0), (.int .i64 0), (.int .i64 0), (.int .i64 0)], [], none⟩,
     ⟨none, .store 8, [.t 7, .t 18], none⟩])
   (.draw [0, 1, 0, 4, 12, 31, 63, 127] [⟨(some 19), .faddr 7, [.t 5], none⟩,
     ⟨(some 20), .load 1 false, [.t 19], none⟩,
     ⟨(some 21), .load 8 true, [.t 7], none⟩,
     ⟨(some 22), .call 98, [.t 21], none⟩,
     ⟨(some 23), .mkslice 1 98, [.t 22], none⟩,
     ⟨(some 24), .append 1 24 98, [.t 20, .t 23], none⟩,
     ⟨(some 25), .faddr 7, [.t 5], none⟩,
     ⟨none, .store 1, [.t 25, .t 24], none⟩])))
   (.reg [⟨(some 26), .bin .add, [.t 15, .c (.int .i64 1)], none⟩,
     ⟨(some 15), .mov, [.t 26], none⟩])))))))
   (.seq (.reg [⟨(some 27), .load 8 true, [.t 5], none⟩,
     ⟨none, .store 8, [.t 4, .t 27], none⟩])
   .ret))))
theorem chk.bin_lay : chkF Tryd.prog 76 = some (28, ir.bin_lay, [.cell 4 115]) := by kernel_rfl

/-- slices.IndexFunc[[]int,int] -/
abbrev F.slices_IndexFunc_int_int : Nat := 79
def ir.slices_IndexFunc_int_int : IC :=
 (.seq (.reg [⟨(some 4), .mov, [.c (.int .i64 0)], none⟩])
   (.seq (.seq (.reg [⟨(some 6), .mov, [.t 0], none⟩,
     ⟨(some 7), .len false, [.t 6], none⟩,
     ⟨(some 8), .mov, [.c (.int .i64 0)], none⟩])
   (.block 0 (.loop (.seq (.reg [⟨(some 9), .bin .lss, [.t 8, .t 7], none⟩])
   (.seq (.cond (.t 9) .skip (.exit 0))
   (.seq (.block 1 (.seq (.reg [⟨(some 10), .mov, [.t 8], none⟩,
     ⟨(some 5), .mov, [.t 10], none⟩])
   (.seq (.reg [⟨(some 11), .mov, [.t 1], none⟩,
     ⟨(some 12), .mov, [.t 0], none⟩,
     ⟨(some 13), .mov, [.t 5], none⟩,
     ⟨(some 14), .iaddrS 1, [.t 12, .t 13], none⟩,
     ⟨(some 15), .load 1 false, [.t 14], none⟩,
     ⟨(some 16), .callv, [.t 11, .t 15], none⟩])
   (.cond (.t 16) (.seq (.reg [⟨(some 17), .mov, [.t 5], none⟩,
     ⟨(some 4), .mov, [.t 17], none⟩])
   .ret) .skip))))
   (.reg [⟨(some 18), .bin .add, [.t 8, .c (.int .i64 1)], none⟩,
     ⟨(some 8), .mov, [.t 18], none⟩])))))))
   (.seq (.reg [⟨(some 4), .mov, [.c (.int .i64 (-1))], none⟩])
   .ret)))
theorem chk.slices_IndexFunc_int_int : chkF Tryd.prog 79 = some (19, ir.slices_IndexFunc_int_int, [.tmp 4]) := by kernel_rfl

/-- (paravane/region.limit).into -/
abbrev F.region_limit_into : Nat := 82
def ir.region_limit_into : IC :=
 (.seq (.reg [⟨(some 4), .mov, [.c (.int .i64 0)], none⟩])
   (.seq (.reg [⟨(some 5), .mov, [.t 0], none⟩,
     ⟨(some 6), .un .neg, [.t 5], none⟩,
     ⟨(some 7), .mov, [.t 1], none⟩,
     ⟨(some 8), .mov, [.t 0], none⟩,
     ⟨(some 9), .minmax false, [.t 7, .t 8], none⟩,
     ⟨(some 10), .minmax true, [.t 6, .t 9], none⟩,
     ⟨(some 4), .mov, [.t 10], none⟩])
   .ret))
theorem chk.region_limit_into : chkF Tryd.prog 82 = some (11, ir.region_limit_into, [.tmp 4]) := by kernel_rfl

/-- paravane/bin.floor -/
abbrev F.bin_floor : Nat := 83
def ir.bin_floor : IC :=
 (.seq (.reg [⟨(some 4), .mov, [.c (.int .i64 0)], none⟩])
   (.seq (.reg [⟨(some 6), .mov, [.t 0], none⟩,
     ⟨(some 7), .mov, [.t 1], none⟩,
     ⟨(some 8), .bin .quo, [.t 6, .t 7], none⟩,
     ⟨(some 5), .mov, [.t 8], none⟩])
   (.seq (.seq (.reg [⟨(some 9), .mov, [.t 0], none⟩,
     ⟨(some 10), .mov, [.t 1], none⟩,
     ⟨(some 11), .bin .rem, [.t 9, .t 10], none⟩,
     ⟨(some 12), .bin .lss, [.t 11, .c (.int .i64 0)], none⟩])
   (.cond (.t 12) (.reg [⟨(some 13), .mov, [.t 5], none⟩,
     ⟨(some 14), .bin .sub, [.t 13, .c (.int .i64 1)], none⟩,
     ⟨(some 5), .mov, [.t 14], none⟩]) .skip))
   (.seq (.reg [⟨(some 15), .mov, [.t 5], none⟩,
     ⟨(some 4), .mov, [.t 15], none⟩])
   .ret))))
theorem chk.bin_floor : chkF Tryd.prog 83 = some (16, ir.bin_floor, [.tmp 4]) := by kernel_rfl

/-- paravane/bin.pairs -/
abbrev F.bin_pairs : Nat := 84
def ir.bin_pairs : IC :=
 (.seq (.reg [⟨(some 2), .box, [.t 0], none⟩,
     ⟨(some 3), .box, [.t 1], none⟩,
     ⟨(some 4), .mov, [.c .nilf], none⟩])
   (.seq (.reg [⟨(some 5), .mkfunc (.func 101) 0, [.t 2, .t 3], none⟩,
     ⟨(some 4), .mov, [.t 5], none⟩])
   .ret))
theorem chk.bin_pairs : chkF Tryd.prog 84 = some (6, ir.bin_pairs, [.tmp 4]) := by kernel_rfl

/-- slices.SortFunc[[]paravane/api.Cell,paravane/api.Cell] -/
abbrev F.slices_SortFunc_api_Cell_api_Cell : Nat := 85
def ir.slices_SortFunc_api_Cell_api_Cell : IC :=
 (.seq (.reg [⟨(some 5), .mov, [.t 0], none⟩,
     ⟨(some 6), .len false, [.t 5], none⟩,
     ⟨(some 4), .mov, [.t 6], none⟩])
   (.reg [⟨(some 7), .mov, [.t 0], none⟩,
     ⟨(some 8), .mov, [.t 4], none⟩,
     ⟨(some 9), .mov, [.t 4], none⟩,
     ⟨(some 10), .conv .u64, [.t 9], none⟩,
     ⟨(some 11), .call 103, [.t 10], none⟩,
     ⟨(some 12), .mov, [.t 1], none⟩,
     ⟨(some 13), .call 102, [.t 7, .c (.int .i64 0), .t 8, .t 11, .t 12], none⟩]))
theorem chk.slices_SortFunc_api_Cell_api_Cell : chkF Tryd.prog 85 = some (14, ir.slices_SortFunc_api_Cell_api_Cell, []) := by kernel_rfl

/-- paravane/bin.ordered -/
abbrev F.bin_ordered : Nat := 86
def ir.bin_ordered : IC :=
 (.seq (.reg [⟨(some 2), .box, [.t 0], none⟩,
     ⟨(some 3), .box, [.t 1], none⟩,
     ⟨(some 4), .mov, [.c (.int .i64 0)], none⟩])
   (.seq (.seq (.reg [⟨(some 5), .faddr 0, [.t 2], none⟩,
     ⟨(some 6), .load 1 false, [.t 5], none⟩,
     ⟨(some 7), .faddr 0, [.t 3], none⟩,
     ⟨(some 8), .load 1 false, [.t 7], none⟩,
     ⟨(some 9), .bin .neq, [.t 6, .t 8], none⟩])
   (.cond (.t 9) (.seq (.reg [⟨(some 10), .faddr 0, [.t 2], none⟩,
     ⟨(some 11), .load 1 false, [.t 10], none⟩,
     ⟨(some 12), .faddr 0, [.t 3], none⟩,
     ⟨(some 13), .load 1 false, [.t 12], none⟩,
     ⟨(some 14), .bin .sub, [.t 11, .t 13], none⟩,
     ⟨(some 4), .mov, [.t 14], none⟩])
   .ret) .skip))
   (.seq (.reg [⟨(some 15), .faddr 1, [.t 2], none⟩,
     ⟨(some 16), .load 1 false, [.t 15], none⟩,
     ⟨(some 17), .faddr 1, [.t 3], none⟩,
     ⟨(some 18), .load 1 false, [.t 17], none⟩,
     ⟨(some 19), .bin .sub, [.t 16, .t 18], none⟩,
     ⟨(some 4), .mov, [.t 19], none⟩])
   .ret)))
theorem chk.bin_ordered : chkF Tryd.prog 86 = some (20, ir.bin_ordered, [.tmp 4]) := by kernel_rfl

/-- paravane/bin.rests -/
abbrev F.bin_rests : Nat := 87
def ir.bin_rests : IC :=
 (.seq (.reg [⟨(some 2), .box, [.t 0], none⟩,
     ⟨(some 4), .mov, [.c .nils], none⟩])
   (.seq (.reg [⟨(some 10), .faddr 0, [.t 2], none⟩,
     ⟨(some 11), .load 1 false, [.t 10], none⟩,
     ⟨(some 12), .call 104, [.t 11], none⟩,
     ⟨(some 5), .mov, [.t 12], none⟩])
   (.seq (.seq (.reg [⟨(some 13), .mov, [.t 1], none⟩,
     ⟨(some 14), .call 65, [.t 13], none⟩,
     ⟨(some 15), .len false, [.t 14], none⟩,
     ⟨(some 16), .mov, [.c (.int .i64 0)], none⟩])
   (.block 0 (.loop (.seq (.reg [⟨(some 17), .bin .lss, [.t 16, .t 15], none⟩])
   (.seq (.cond (.t 17) .skip (.exit 0))
   (.seq (.block 1 (.seq (.reg [⟨(some 18), .iaddrS 1, [.t 14, .t 16], none⟩,
     ⟨(some 19), .load 1 false, [.t 18], none⟩,
     ⟨(some 7), .mov, [.t 19], none⟩])
   (.seq (.reg [⟨(some 20), .faddr 1, [.t 2], none⟩,
     ⟨(some 21), .load 1 false, [.t 20], none⟩,
     ⟨(some 22), .mov, [.t 7], none⟩,
     ⟨(some 23), .iaddrS 2, [.t 21, .t 22], none⟩,
     ⟨(some 24), .faddr 1, [.t 23], none⟩,
     ⟨(some 25), .load 1 false, [.t 24], none⟩,
     ⟨(some 26), .len false, [.t 25], none⟩,
     ⟨(some 27), .mov, [.c (.int .i64 0)], none⟩])
   (.block 2 (.loop (.seq (.reg [⟨(some 28), .bin .lss, [.t 27, .t 26], none⟩])
   (.seq (.cond (.t 28) .skip (.exit 2))
   (.seq (.block 3 (.seq (.reg [⟨(some 29), .mov, [.t 27], none⟩,
     ⟨(some 30), .iaddrS 1, [.t 25, .t 27], none⟩,
     ⟨(some 31), .load 1 false, [.t 30], none⟩,
     ⟨(some 8), .mov, [.t 29], none⟩,
     ⟨(some 9), .mov, [.t 31], none⟩])
   (.reg [⟨(some 32), .mov, [.t 5], none⟩,
     ⟨(some 33), .mov, [.t 8], none⟩,
     ⟨(some 34), .mov, [.t 5], none⟩,
     ⟨(some 35), .mov, [.t 8], none⟩,
     ⟨(some 36), .iaddrS 1, [.t 34, .t 35], none⟩,
     ⟨(some 37), .load 1 false, [.t 36], none⟩,
     ⟨(some 38), .mov, [.t 9], none⟩,
     ⟨(some 39), .bin .sub, [.t 37, .t 38], none⟩,
     ⟨(some 40), .minmax true, [.c (.int .i64 0), .t 39], none⟩,
     ⟨(some 41), .iaddrS 1, [.t 32, .t 33], none⟩,
     ⟨none, .store 1, [.t 41, .t 40], none⟩])))
   (.reg [⟨(some 42), .bin .add, [.t 27, .c (.int .i64 1)], none⟩,
     ⟨(some 27), .mov, [.t 42], none⟩])))))))))
   (.reg [⟨(some 43), .bin .add, [.t 16, .c (.int .i64 1)], none⟩,
     ⟨(some 16), .mov, [.t 43], none⟩])))))))
   (.seq (.reg [⟨(some 44), .mov, [.t 5], none⟩,
     ⟨(some 4), .mov, [.t 44], none⟩])
   .ret))))
theorem chk.bin_rests : chkF Tryd.prog 87 = some (45, ir.bin_rests, [.tmp 4]) := by kernel_rfl

/-- paravane/bin.sum[int] -/
abbrev F.bin_sum_int : Nat := 88
def ir.bin_sum_int : IC :=
 (.seq (.reg [⟨(some 4), .mov, [.c (.int .i64 0)], none⟩])
   (.seq (.reg [⟨(some 5), .mov, [.c (.int .i64 0)], none⟩])
   (.seq (.seq (.reg [⟨(some 8), .mov, [.t 0], none⟩,
     ⟨(some 9), .len false, [.t 8], none⟩,
     ⟨(some 10), .mov, [.c (.int .i64 0)], none⟩])
   (.block 0 (.loop (.seq (.reg [⟨(some 11), .bin .lss, [.t 10, .t 9], none⟩])
   (.seq (.cond (.t 11) .skip (.exit 0))
   (.seq (.block 1 (.seq (.reg [⟨(some 12), .iaddrS 1, [.t 8, .t 10], none⟩,
     ⟨(some 13), .load 1 false, [.t 12], none⟩,
     ⟨(some 7), .mov, [.t 13], none⟩])
   (.reg [⟨(some 14), .mov, [.t 5], none⟩,
     ⟨(some 15), .mov, [.t 1], none⟩,
     ⟨(some 16), .mov, [.t 7], none⟩,
     ⟨(some 17), .callv, [.t 15, .t 16], none⟩,
     ⟨(some 18), .bin .add, [.t 14, .t 17], none⟩,
     ⟨(some 5), .mov, [.t 18], none⟩])))
   (.reg [⟨(some 19), .bin .add, [.t 10, .c (.int .i64 1)], none⟩,
     ⟨(some 10), .mov, [.t 19], none⟩])))))))
   (.seq (.reg [⟨(some 20), .mov, [.t 5], none⟩,
     ⟨(some 4), .mov, [.t 20], none⟩])
   .ret))))
theorem chk.bin_sum_int : chkF Tryd.prog 88 = some (21, ir.bin_sum_int, [.tmp 4]) := by kernel_rfl

/-- paravane/bin.covers$1 -/
abbrev F.bin_covers_1 : Nat := 89
def ir.bin_covers_1 : IC :=
 (.seq (.reg [⟨(some 2), .mov, [.c (.int .i64 0)], none⟩])
   (.seq (.reg [⟨(some 3), .mov, [.t 0], none⟩,
     ⟨(some 2), .mov, [.t 3], none⟩])
   .ret))
theorem chk.bin_covers_1 : chkF Tryd.prog 89 = some (4, ir.bin_covers_1, [.tmp 2]) := by kernel_rfl

/-- slices.Compare[[]int,int] -/
abbrev F.slices_Compare_int_int : Nat := 91
def ir.slices_Compare_int_int : IC :=
 (.seq (.reg [⟨(some 4), .mov, [.c (.int .i64 0)], none⟩])
   (.seq (.seq (.reg [⟨(some 9), .mov, [.t 0], none⟩,
     ⟨(some 10), .len false, [.t 9], none⟩,
     ⟨(some 11), .mov, [.c (.int .i64 0)], none⟩])
   (.block 0 (.loop (.seq (.reg [⟨(some 12), .bin .lss, [.t 11, .t 10], none⟩])
   (.seq (.cond (.t 12) .skip (.exit 0))
   (.seq (.block 1 (.seq (.reg [⟨(some 13), .mov, [.t 11], none⟩,
     ⟨(some 14), .iaddrS 1, [.t 9, .t 11], none⟩,
     ⟨(some 15), .load 1 false, [.t 14], none⟩,
     ⟨(some 5), .mov, [.t 13], none⟩,
     ⟨(some 6), .mov, [.t 15], none⟩])
   (.seq (.seq (.reg [⟨(some 16), .mov, [.t 5], none⟩,
     ⟨(some 17), .mov, [.t 1], none⟩,
     ⟨(some 18), .len false, [.t 17], none⟩,
     ⟨(some 19), .bin .geq, [.t 16, .t 18], none⟩])
   (.cond (.t 19) (.seq (.reg [⟨(some 4), .mov, [.c (.int .i64 1)], none⟩])
   .ret) .skip))
   (.seq (.reg [⟨(some 20), .mov, [.t 1], none⟩,
     ⟨(some 21), .mov, [.t 5], none⟩,
     ⟨(some 22), .iaddrS 1, [.t 20, .t 21], none⟩,
     ⟨(some 23), .load 1 false, [.t 22], none⟩,
     ⟨(some 7), .mov, [.t 23], none⟩])
   (.seq (.reg [⟨(some 24), .mov, [.t 6], none⟩,
     ⟨(some 25), .mov, [.t 7], none⟩,
     ⟨(some 26), .call 105, [.t 24, .t 25], none⟩,
     ⟨(some 8), .mov, [.t 26], none⟩])
   (.seq (.reg [⟨(some 27), .mov, [.t 8], none⟩,
     ⟨(some 28), .bin .neq, [.t 27, .c (.int .i64 0)], none⟩])
   (.cond (.t 28) (.seq (.reg [⟨(some 29), .mov, [.t 8], none⟩,
     ⟨(some 4), .mov, [.t 29], none⟩])
   .ret) .skip)))))))
   (.reg [⟨(some 30), .bin .add, [.t 11, .c (.int .i64 1)], none⟩,
     ⟨(some 11), .mov, [.t 30], none⟩])))))))
   (.seq (.seq (.reg [⟨(some 31), .mov, [.t 0], none⟩,
     ⟨(some 32), .len false, [.t 31], none⟩,
     ⟨(some 33), .mov, [.t 1], none⟩,
     ⟨(some 34), .len false, [.t 33], none⟩,
     ⟨(some 35), .bin .lss, [.t 32, .t 34], none⟩])
   (.cond (.t 35) (.seq (.reg [⟨(some 4), .mov, [.c (.int .i64 (-1))], none⟩])
   .ret) .skip))
   (.seq (.reg [⟨(some 4), .mov, [.c (.int .i64 0)], none⟩])
   .ret))))
theorem chk.slices_Compare_int_int : chkF Tryd.prog 91 = some (36, ir.slices_Compare_int_int, [.tmp 4]) := by kernel_rfl

/-- paravane/bin.cost$1 -/
abbrev F.bin_cost_1 : Nat := 92
def ir.bin_cost_1 : IC :=
 (.seq (.reg [⟨(some 3), .mov, [.c (.int .i64 0)], none⟩])
   (.seq (.reg [⟨(some 4), .faddr 1, [.t 1], none⟩,
     ⟨(some 5), .load 1 false, [.t 4], none⟩,
     ⟨(some 6), .mov, [.t 0], none⟩,
     ⟨(some 7), .iaddrS 2, [.t 5, .t 6], none⟩,
     ⟨(some 8), .faddr 0, [.t 7], none⟩,
     ⟨(some 9), .load 1 false, [.t 8], none⟩,
     ⟨(some 3), .mov, [.t 9], none⟩])
   .ret))
theorem chk.bin_cost_1 : chkF Tryd.prog 92 = some (10, ir.bin_cost_1, [.tmp 3]) := by kernel_rfl

/-- paravane/region.Check -/
abbrev F.region_Check : Nat := 94
def ir.region_Check : IC :=
 (.seq (.reg [⟨(some 1), .box, [.t 0], none⟩,
     ⟨(some 2), .mov, [.c (.int .i64 0)], none⟩])
   (.seq (.reg [⟨(some 6), .mkfunc (.func 108) 1, [.c (.int .i64 32768)], none⟩,
     ⟨(some 7), .mkfunc (.func 108) 1, [.c (.int .i64 32768)], none⟩,
     ⟨(some 8), .mkfunc (.func 108) 1, [.c (.int .i64 65536)], none⟩,
     ⟨(some 9), .mkfunc (.func 108) 1, [.c (.int .i64 65536)], none⟩,
     ⟨(some 10), .build [.nilf, .nilf, .nilf, .nilf] [(0, 1), (1, 1), (2, 1), (3, 1)], [.t 6, .t 7, .t 8, .t 9], none⟩,
     ⟨(some 3), .alloc [.nilf, .nilf, .nilf, .nilf], [], none⟩,
     ⟨none, .store 4, [.t 3, .t 10], none⟩])
   (.seq (.seq (.reg [⟨(some 11), .load 8 true, [.t 1], none⟩,
     ⟨(some 12), .call 95, [.t 11], none⟩,
     ⟨(some 13), .mov, [.c (.int .i64 0)], none⟩])
   (.block 0 (.loop (.seq (.reg [⟨(some 14), .bin .lss, [.t 13, .c (.int .i64 4)], none⟩])
   (.seq (.cond (.t 14) .skip (.exit 0))
   (.seq (.block 1 (.seq (.reg [⟨(some 15), .mov, [.t 13], none⟩,
     ⟨(some 16), .idxA 4 2 true, [.t 12, .t 13], none⟩,
     ⟨(some 5), .alloc [(.int .i64 0), (.int .i64 0)], [], none⟩,
     ⟨(some 4), .mov, [.t 15], none⟩,
     ⟨none, .store 2, [.t 5, .t 16], none⟩])
   (.seq (.draw [0, 1, 3, 0, 15, 31] [⟨(some 17), .mov, [.t 4], none⟩,
     ⟨(some 18), .iaddrA 4 1, [.t 3, .t 17], none⟩,
     ⟨(some 19), .load 1 false, [.t 18], none⟩,
     ⟨(some 20), .load 2 true, [.t 5], none⟩,
     ⟨(some 21), .callv, [.t 19, .t 20], none⟩,
     ⟨(some 22), .un .not, [.t 21], none⟩])
   (.cond (.t 22) (.seq (.reg [⟨(some 2), .mov, [.c (.int .i64 11)], none⟩])
   .ret) .skip))))
   (.reg [⟨(some 23), .bin .add, [.t 13, .c (.int .i64 1)], none⟩,
     ⟨(some 13), .mov, [.t 23], none⟩])))))))
   (.seq (.reg [⟨(some 2), .mov, [.c (.int .i64 0)], none⟩])
   .ret))))
theorem chk.region_Check : chkF Tryd.prog 94 = some (24, ir.region_Check, [.tmp 2]) := by kernel_rfl

/-- paravane/region.bounds -/
abbrev F.region_bounds : Nat := 95
def ir.region_bounds : IC :=
 (.seq (.reg [⟨(some 1), .box, [.t 0], none⟩,
     ⟨(some 2), .alloc [(.int .i64 0), (.int .i64 0), (.int .i64 0), (.int .i64 0), (.int .i64 0), (.int .i64 0), (.int .i64 0), (.int .i64 0)], [], none⟩])
   (.seq (.reg [⟨(some 3), .faddr 0, [.t 1], none⟩,
     ⟨(some 4), .load 2 true, [.t 3], none⟩,
     ⟨(some 5), .faddr 2, [.t 1], none⟩,
     ⟨(some 6), .load 2 true, [.t 5], none⟩,
     ⟨(some 7), .faddr 4, [.t 1], none⟩,
     ⟨(some 8), .load 2 true, [.t 7], none⟩,
     ⟨(some 9), .faddr 6, [.t 1], none⟩,
     ⟨(some 10), .load 2 true, [.t 9], none⟩,
     ⟨(some 11), .build [(.int .i64 0), (.int .i64 0), (.int .i64 0), (.int .i64 0), (.int .i64 0), (.int .i64 0), (.int .i64 0), (.int .i64 0)] [(0, 2), (2, 2), (4, 2), (6, 2)], [.t 4, .t 6, .t 8, .t 10], none⟩,
     ⟨none, .store 8, [.t 2, .t 11], none⟩])
   .ret))
theorem chk.region_bounds : chkF Tryd.prog 95 = some (12, ir.region_bounds, [.cell 2 160]) := by kernel_rfl

/-- (paravane/region.four).rows -/
abbrev F.region_four_rows : Nat := 96
def ir.region_four_rows : IC :=
 (.seq (.reg [⟨(some 1), .box, [.t 0], none⟩,
     ⟨(some 2), .mov, [.c .nilf], none⟩])
   (.seq (.reg [⟨(some 3), .mkfunc (.func 109) 0, [.t 1], none⟩,
     ⟨(some 2), .mov, [.t 3], none⟩])
   .ret))
theorem chk.region_four_rows : chkF Tryd.prog 96 = some (4, ir.region_four_rows, [.tmp 2]) := by kernel_rfl

/-- paravane/bin.needed$1 -/
abbrev F.bin_needed_1 : Nat := 97
def ir.bin_needed_1 : IC :=
 (.seq (.reg [⟨(some 2), .mov, [.c (.bool false)], none⟩])
   (.seq (.reg [⟨(some 3), .mov, [.t 0], none⟩,
     ⟨(some 4), .call 47, [.t 3, .c (.int .i64 0), .c (.int .i64 100)], none⟩,
     ⟨(some 5), .un .not, [.t 4], none⟩,
     ⟨(some 2), .mov, [.t 5], none⟩])
   .ret))
theorem chk.bin_needed_1 : chkF Tryd.prog 97 = some (6, ir.bin_needed_1, [.tmp 2]) := by kernel_rfl

/-- paravane/bin.places -/
abbrev F.bin_places : Nat := 98
def ir.bin_places : IC :=
 (.seq (.reg [⟨(some 1), .box, [.t 0], none⟩,
     ⟨(some 2), .mov, [.c .nils], none⟩])
   (.seq (.reg [⟨(some 3), .mov, [.c .nils], none⟩])
   (.seq (.seq (.reg [⟨(some 6), .faddr 0, [.t 1], none⟩,
     ⟨(some 7), .faddr 0, [.t 6], none⟩,
     ⟨(some 8), .load 1 false, [.t 7], none⟩,
     ⟨(some 4), .mov, [.t 8], none⟩])
   (.block 0 (.loop (.seq (.seq (.reg [⟨(some 9), .mov, [.t 4], none⟩,
     ⟨(some 10), .faddr 0, [.t 1], none⟩,
     ⟨(some 11), .faddr 1, [.t 10], none⟩,
     ⟨(some 12), .load 1 false, [.t 11], none⟩,
     ⟨(some 13), .bin .leq, [.t 9, .t 12], none⟩])
   (.cond (.t 13) .skip (.exit 0)))
   (.seq (.block 1 (.seq (.reg [⟨(some 16), .faddr 2, [.t 1], none⟩,
     ⟨(some 17), .faddr 0, [.t 16], none⟩,
     ⟨(some 18), .load 1 false, [.t 17], none⟩,
     ⟨(some 19), .faddr 4, [.t 1], none⟩,
     ⟨(some 20), .faddr 0, [.t 19], none⟩,
     ⟨(some 21), .load 1 false, [.t 20], none⟩,
     ⟨(some 22), .mov, [.t 4], none⟩,
     ⟨(some 23), .bin .sub, [.t 21, .t 22], none⟩,
     ⟨(some 24), .mov, [.t 4], none⟩,
     ⟨(some 25), .faddr 6, [.t 1], none⟩,
     ⟨(some 26), .faddr 1, [.t 25], none⟩,
     ⟨(some 27), .load 1 false, [.t 26], none⟩,
     ⟨(some 28), .bin .sub, [.t 24, .t 27], none⟩,
     ⟨(some 29), .minmax true, [.t 18, .t 23, .t 28], none⟩,
     ⟨(some 5), .mov, [.t 29], none⟩])
   (.block 2 (.loop (.seq (.seq (.reg [⟨(some 30), .mov, [.t 5], none⟩,
     ⟨(some 31), .faddr 2, [.t 1], none⟩,
     ⟨(some 32), .faddr 1, [.t 31], none⟩,
     ⟨(some 33), .load 1 false, [.t 32], none⟩,
     ⟨(some 34), .faddr 4, [.t 1], none⟩,
     ⟨(some 35), .faddr 1, [.t 34], none⟩,
     ⟨(some 36), .load 1 false, [.t 35], none⟩,
     ⟨(some 37), .mov, [.t 4], none⟩,
     ⟨(some 38), .bin .sub, [.t 36, .t 37], none⟩,
     ⟨(some 39), .mov, [.t 4], none⟩,
     ⟨(some 40), .faddr 6, [.t 1], none⟩,
     ⟨(some 41), .faddr 0, [.t 40], none⟩,
     ⟨(some 42), .load 1 false, [.t 41], none⟩,
     ⟨(some 43), .bin .sub, [.t 39, .t 42], none⟩,
     ⟨(some 44), .minmax false, [.t 33, .t 38, .t 43], none⟩,
     ⟨(some 45), .bin .leq, [.t 30, .t 44], none⟩])
   (.cond (.t 45) .skip (.exit 2)))
   (.seq (.block 3 (.reg [⟨(some 48), .mov, [.t 3], none⟩,
     ⟨(some 49), .mov, [.t 4], none⟩,
     ⟨(some 50), .mov, [.t 5], none⟩,
     ⟨(some 51), .build [(.int .i64 0), (.int .i64 0)] [(0, 1), (1, 1)], [.t 49, .t 50], none⟩,
     ⟨(some 52), .mkslice 2 23, [.t 51], none⟩,
     ⟨(some 53), .append 2 16 23, [.t 48, .t 52], none⟩,
     ⟨(some 3), .mov, [.t 53], none⟩]))
   (.reg [⟨(some 46), .mov, [.t 5], none⟩,
     ⟨(some 47), .bin .add, [.t 46, .c (.int .i64 1)], none⟩,
     ⟨(some 5), .mov, [.t 47], none⟩])))))))
   (.reg [⟨(some 14), .mov, [.t 4], none⟩,
     ⟨(some 15), .bin .add, [.t 14, .c (.int .i64 1)], none⟩,
     ⟨(some 4), .mov, [.t 15], none⟩]))))))
   (.seq (.reg [⟨(some 54), .mov, [.t 3], none⟩,
     ⟨(some 2), .mov, [.t 54], none⟩])
   .ret))))
theorem chk.bin_places : chkF Tryd.prog 98 = some (55, ir.bin_places, [.tmp 2]) := by kernel_rfl

/-- paravane/bin.pairs$1 -/
abbrev F.bin_pairs_1 : Nat := 101
def ir.bin_pairs_1 : IC :=
 (.seq (.reg [⟨(some 8), .load 1 false, [.t 1], none⟩,
     ⟨(some 9), .len false, [.t 8], none⟩,
     ⟨(some 10), .mov, [.c (.int .i64 0)], none⟩])
   (.block 0 (.loop (.seq (.reg [⟨(some 11), .bin .lss, [.t 10, .t 9], none⟩])
   (.seq (.cond (.t 11) .skip (.exit 0))
   (.seq (.block 1 (.seq (.reg [⟨(some 12), .iaddrS 2, [.t 8, .t 10], none⟩,
     ⟨(some 13), .load 2 true, [.t 12], none⟩,
     ⟨(some 5), .alloc [(.int .i64 0), (.int .i64 0)], [], none⟩,
     ⟨none, .store 2, [.t 5, .t 13], none⟩])
   (.seq (.reg [⟨(some 14), .load 1 false, [.t 2], none⟩,
     ⟨(some 15), .len false, [.t 14], none⟩,
     ⟨(some 16), .mov, [.c (.int .i64 0)], none⟩])
   (.block 2 (.loop (.seq (.reg [⟨(some 17), .bin .lss, [.t 16, .t 15], none⟩])
   (.seq (.cond (.t 17) .skip (.exit 2))
   (.seq (.block 3 (.seq (.reg [⟨(some 18), .iaddrS 2, [.t 14, .t 16], none⟩,
     ⟨(some 19), .load 2 true, [.t 18], none⟩,
     ⟨(some 7), .alloc [(.int .i64 0), (.int .i64 0)], [], none⟩,
     ⟨none, .store 2, [.t 7, .t 19], none⟩])
   (.seq (.reg [⟨(some 20), .mov, [.t 0], none⟩,
     ⟨(some 21), .load 2 true, [.t 5], none⟩,
     ⟨(some 22), .load 2 true, [.t 7], none⟩,
     ⟨(some 23), .callv, [.t 20, .t 21, .t 22], none⟩,
     ⟨(some 24), .un .not, [.t 23], none⟩])
   (.cond (.t 24) .ret .skip))))
   (.reg [⟨(some 25), .bin .add, [.t 16, .c (.int .i64 1)], none⟩,
     ⟨(some 16), .mov, [.t 25], none⟩])))))))))
   (.reg [⟨(some 26), .bin .add, [.t 10, .c (.int .i64 1)], none⟩,
     ⟨(some 10), .mov, [.t 26], none⟩])))))))
theorem chk.bin_pairs_1 : chkF Tryd.prog 101 = some (27, ir.bin_pairs_1, []) := by kernel_rfl

/-- slices.Clone[[]int,int] -/
abbrev F.slices_Clone_int_int : Nat := 104
def ir.slices_Clone_int_int : IC :=
 (.seq (.reg [⟨(some 2), .mov, [.c .nils], none⟩])
   (.seq (.seq (.reg [⟨(some 3), .mov, [.t 0], none⟩,
     ⟨(some 4), .raw 8 0 48, [.t 3, .c .nils], none⟩])
   (.cond (.t 4) (.seq (.reg [⟨(some 2), .mov, [.c .nils], none⟩])
   .ret) .skip))
   (.seq (.reg [⟨(some 5), .mkslice 1 3, [], none⟩,
     ⟨(some 6), .mov, [.t 0], none⟩,
     ⟨(some 7), .append 1 8 3, [.t 5, .t 6], none⟩,
     ⟨(some 2), .mov, [.t 7], none⟩])
   .ret)))
theorem chk.slices_Clone_int_int : chkF Tryd.prog 104 = some (8, ir.slices_Clone_int_int, [.tmp 2]) := by kernel_rfl

/-- cmp.Compare[int] -/
abbrev F.cmp_Compare_int : Nat := 105
def ir.cmp_Compare_int : IC :=
 (.seq (.reg [⟨(some 4), .mov, [.c (.int .i64 0)], none⟩])
   (.seq (.reg [⟨(some 7), .mov, [.t 0], none⟩,
     ⟨(some 8), .call 122, [.t 7], none⟩,
     ⟨(some 5), .mov, [.t 8], none⟩])
   (.seq (.reg [⟨(some 9), .mov, [.t 1], none⟩,
     ⟨(some 10), .call 122, [.t 9], none⟩,
     ⟨(some 6), .mov, [.t 10], none⟩])
   (.seq (.seq (.reg [⟨(some 11), .mov, [.t 5], none⟩])
   (.cond (.t 11) (.seq (.seq (.reg [⟨(some 12), .mov, [.t 6], none⟩])
   (.cond (.t 12) (.seq (.reg [⟨(some 4), .mov, [.c (.int .i64 0)], none⟩])
   .ret) .skip))
   (.seq (.reg [⟨(some 4), .mov, [.c (.int .i64 (-1))], none⟩])
   .ret)) .skip))
   (.seq (.seq (.reg [⟨(some 13), .mov, [.t 6], none⟩])
   (.cond (.t 13) (.seq (.reg [⟨(some 4), .mov, [.c (.int .i64 1)], none⟩])
   .ret) .skip))
   (.seq (.seq (.reg [⟨(some 14), .mov, [.t 0], none⟩,
     ⟨(some 15), .mov, [.t 1], none⟩,
     ⟨(some 16), .bin .lss, [.t 14, .t 15], none⟩])
   (.cond (.t 16) (.seq (.reg [⟨(some 4), .mov, [.c (.int .i64 (-1))], none⟩])
   .ret) .skip))
   (.seq (.seq (.reg [⟨(some 17), .mov, [.t 0], none⟩,
     ⟨(some 18), .mov, [.t 1], none⟩,
     ⟨(some 19), .bin .gtr, [.t 17, .t 18], none⟩])
   (.cond (.t 19) (.seq (.reg [⟨(some 4), .mov, [.c (.int .i64 1)], none⟩])
   .ret) .skip))
   (.seq (.reg [⟨(some 4), .mov, [.c (.int .i64 0)], none⟩])
   .ret))))))))
theorem chk.cmp_Compare_int : chkF Tryd.prog 105 = some (20, ir.cmp_Compare_int, [.tmp 4]) := by kernel_rfl

/-- (paravane/region.limit).fits -/
abbrev F.region_limit_fits : Nat := 108
def ir.region_limit_fits : IC :=
 (.seq (.reg [⟨(some 3), .box, [.t 1], none⟩,
     ⟨(some 4), .mov, [.c (.bool false)], none⟩])
   (.seq (.reg [⟨(some 5), .faddr 0, [.t 3], none⟩,
     ⟨(some 6), .load 1 false, [.t 5], none⟩,
     ⟨(some 7), .mov, [.t 0], none⟩,
     ⟨(some 8), .un .neg, [.t 7], none⟩,
     ⟨(some 9), .bin .geq, [.t 6, .t 8], none⟩,
     ⟨(some 10), .mov, [.t 9], none⟩,
     ⟨(some 11), .faddr 0, [.t 3], (some (10, true))⟩,
     ⟨(some 12), .load 1 false, [.t 11], (some (10, true))⟩,
     ⟨(some 13), .faddr 1, [.t 3], (some (10, true))⟩,
     ⟨(some 14), .load 1 false, [.t 13], (some (10, true))⟩,
     ⟨(some 15), .bin .leq, [.t 12, .t 14], (some (10, true))⟩,
     ⟨(some 16), .pick, [.t 10, .t 15, .c (.bool false)], none⟩,
     ⟨(some 17), .mov, [.t 16], none⟩,
     ⟨(some 18), .faddr 1, [.t 3], (some (17, true))⟩,
     ⟨(some 19), .load 1 false, [.t 18], (some (17, true))⟩,
     ⟨(some 20), .mov, [.t 0], (some (17, true))⟩,
     ⟨(some 21), .bin .leq, [.t 19, .t 20], (some (17, true))⟩,
     ⟨(some 22), .pick, [.t 17, .t 21, .c (.bool false)], none⟩,
     ⟨(some 4), .mov, [.t 22], none⟩])
   .ret))
theorem chk.region_limit_fits : chkF Tryd.prog 108 = some (23, ir.region_limit_fits, [.tmp 4]) := by kernel_rfl

/-- (paravane/region.four).rows$1 -/
abbrev F.region_four_rows_1 : Nat := 109
def ir.region_four_rows_1 : IC :=
 (.seq (.reg [⟨(some 5), .iaddrA 4 2, [.t 1, .c (.int .i64 0)], none⟩,
     ⟨(some 6), .faddr 0, [.t 5], none⟩,
     ⟨(some 7), .load 1 false, [.t 6], none⟩,
     ⟨(some 3), .mov, [.t 7], none⟩])
   (.block 0 (.loop (.seq (.seq (.reg [⟨(some 8), .mov, [.t 3], none⟩,
     ⟨(some 9), .iaddrA 4 2, [.t 1, .c (.int .i64 0)], none⟩,
     ⟨(some 10), .faddr 1, [.t 9], none⟩,
     ⟨(some 11), .load 1 false, [.t 10], none⟩,
     ⟨(some 12), .bin .leq, [.t 8, .t 11], none⟩])
   (.cond (.t 12) .skip (.exit 0)))
   (.seq (.block 1 (.seq (.reg [⟨(some 15), .mov, [.t 3], none⟩,
     ⟨(some 16), .iaddrA 4 2, [.t 1, .c (.int .i64 1)], none⟩,
     ⟨(some 17), .faddr 0, [.t 16], none⟩,
     ⟨(some 18), .load 1 false, [.t 17], none⟩,
     ⟨(some 19), .iaddrA 4 2, [.t 1, .c (.int .i64 2)], none⟩,
     ⟨(some 20), .faddr 0, [.t 19], none⟩,
     ⟨(some 21), .load 1 false, [.t 20], none⟩,
     ⟨(some 22), .mov, [.t 3], none⟩,
     ⟨(some 23), .bin .sub, [.t 21, .t 22], none⟩,
     ⟨(some 24), .mov, [.t 3], none⟩,
     ⟨(some 25), .iaddrA 4 2, [.t 1, .c (.int .i64 3)], none⟩,
     ⟨(some 26), .faddr 1, [.t 25], none⟩,
     ⟨(some 27), .load 1 false, [.t 26], none⟩,
     ⟨(some 28), .bin .sub, [.t 24, .t 27], none⟩,
     ⟨(some 29), .minmax true, [.t 18, .t 23, .t 28], none⟩,
     ⟨(some 30), .iaddrA 4 2, [.t 1, .c (.int .i64 1)], none⟩,
     ⟨(some 31), .faddr 1, [.t 30], none⟩,
     ⟨(some 32), .load 1 false, [.t 31], none⟩,
     ⟨(some 33), .iaddrA 4 2, [.t 1, .c (.int .i64 2)], none⟩,
     ⟨(some 34), .faddr 1, [.t 33], none⟩,
     ⟨(some 35), .load 1 false, [.t 34], none⟩,
     ⟨(some 36), .mov, [.t 3], none⟩,
     ⟨(some 37), .bin .sub, [.t 35, .t 36], none⟩,
     ⟨(some 38), .mov, [.t 3], none⟩,
     ⟨(some 39), .iaddrA 4 2, [.t 1, .c (.int .i64 3)], none⟩,
     ⟨(some 40), .faddr 0, [.t 39], none⟩,
     ⟨(some 41), .load 1 false, [.t 40], none⟩,
     ⟨(some 42), .bin .sub, [.t 38, .t 41], none⟩,
     ⟨(some 43), .minmax false, [.t 32, .t 37, .t 42], none⟩,
     ⟨(some 44), .build [(.int .i64 0), (.int .i64 0), (.int .i64 0)] [(0, 1), (1, 1), (2, 1)], [.t 15, .t 29, .t 43], none⟩,
     ⟨(some 4), .alloc [(.int .i64 0), (.int .i64 0), (.int .i64 0)], [], none⟩,
     ⟨none, .store 3, [.t 4, .t 44], none⟩])
   (.seq (.reg [⟨(some 45), .faddr 1, [.t 4], none⟩,
     ⟨(some 46), .load 1 false, [.t 45], none⟩,
     ⟨(some 47), .faddr 2, [.t 4], none⟩,
     ⟨(some 48), .load 1 false, [.t 47], none⟩,
     ⟨(some 49), .bin .leq, [.t 46, .t 48], none⟩,
     ⟨(some 50), .mov, [.t 49], none⟩,
     ⟨(some 51), .mov, [.t 0], (some (50, true))⟩,
     ⟨(some 52), .load 3 true, [.t 4], (some (50, true))⟩,
     ⟨(some 53), .callv, [.t 51, .t 52], (some (50, true))⟩,
     ⟨(some 54), .un .not, [.t 53], (some (50, true))⟩,
     ⟨(some 55), .pick, [.t 50, .t 54, .c (.bool false)], none⟩])
   (.cond (.t 55) .ret .skip))))
   (.reg [⟨(some 13), .mov, [.t 3], none⟩,
     ⟨(some 14), .bin .add, [.t 13, .c (.int .i64 1)], none⟩,
     ⟨(some 3), .mov, [.t 14], none⟩]))))))
theorem chk.region_four_rows_1 : chkF Tryd.prog 109 = some (56, ir.region_four_rows_1, []) := by kernel_rfl

/-- paravane/region.done -/
abbrev F.region_done : Nat := 110
def ir.region_done : IC :=
 (.seq (.reg [⟨(some 2), .box, [.t 0], none⟩,
     ⟨(some 4), .alloc [(.int .i64 0), (.int .i64 0), (.int .i64 0), (.int .i64 0), (.int .i64 0), (.int .i64 0), (.int .i64 0), (.int .i64 0)], [], none⟩,
     ⟨(some 5), .mov, [.c (.int .i64 0)], none⟩])
   (.seq (.seq (.reg [⟨(some 6), .mov, [.t 1], none⟩,
     ⟨(some 7), .bin .neq, [.t 6, .c (.int .i64 0)], none⟩])
   (.cond (.t 7) (.seq (.reg [⟨(some 8), .build [(.int .i64 0), (.int .i64 0), (.int .i64 0), (.int .i64 0), (.int .i64 0), (.int .i64 0), (.int .i64 0), (.int .i64 0)] [], [], none⟩,
     ⟨(some 9), .mov, [.t 1], none⟩,
     ⟨none, .store 8, [.t 4, .t 8], none⟩,
     ⟨(some 5), .mov, [.t 9], none⟩])
   .ret) .skip))
   (.seq (.reg [⟨(some 10), .load 8 true, [.t 2], none⟩,
     ⟨(some 11), .call 123, [.t 10], none⟩,
     ⟨none, .store 8, [.t 4, .t 11], none⟩,
     ⟨(some 5), .mov, [.c (.int .i64 0)], none⟩])
   .ret)))
theorem chk.region_done : chkF Tryd.prog 110 = some (12, ir.region_done, [.cell 4 87, .tmp 5]) := by kernel_rfl

/-- (paravane/region.four).tight -/
abbrev F.region_four_tight : Nat := 111
def ir.region_four_tight : IC :=
 (.seq (.reg [⟨(some 1), .box, [.t 0], none⟩,
     ⟨(some 2), .alloc [(.int .i64 0), (.int .i64 0), (.int .i64 0), (.int .i64 0), (.int .i64 0), (.int .i64 0), (.int .i64 0), (.int .i64 0)], [], none⟩,
     ⟨(some 3), .mov, [.c (.int .i64 0)], none⟩])
   (.seq (.reg [⟨(some 7), .load 8 true, [.t 1], none⟩,
     ⟨(some 8), .call 125, [.t 7], none⟩,
     ⟨(some 9), .mkslice 1 194, [.t 8], none⟩,
     ⟨(some 10), .call 124, [.t 9], none⟩,
     ⟨(some 6), .mov, [.t 10], none⟩,
     ⟨(some 11), .extract 0, [.t 6], none⟩,
     ⟨(some 12), .extract 1, [.t 6], none⟩,
     ⟨(some 4), .alloc [(.int .i64 0), (.int .i64 0), (.int .i64 0), (.int .i64 0), (.int .i64 0), (.int .i64 0), (.int .i64 0), (.int .i64 0)], [], none⟩,
     ⟨none, .store 8, [.t 4, .t 11], none⟩,
     ⟨(some 5), .mov, [.t 12], none⟩])
   (.seq (.seq (.reg [⟨(some 13), .mov, [.t 5], none⟩,
     ⟨(some 14), .un .not, [.t 13], none⟩])
   (.cond (.t 14) (.seq (.reg [⟨(some 15), .build [(.int .i64 0), (.int .i64 0), (.int .i64 0), (.int .i64 0), (.int .i64 0), (.int .i64 0), (.int .i64 0), (.int .i64 0)] [], [], none⟩,
     ⟨none, .store 8, [.t 2, .t 15], none⟩,
     ⟨(some 3), .mov, [.c (.int .i64 4)], none⟩])
   .ret) .skip))
   (.seq (.reg [⟨(some 16), .load 8 true, [.t 4], none⟩,
     ⟨none, .store 8, [.t 2, .t 16], none⟩,
     ⟨(some 3), .mov, [.c (.int .i64 0)], none⟩])
   .ret))))
theorem chk.region_four_tight : chkF Tryd.prog 111 = some (17, ir.region_four_tight, [.cell 2 160, .tmp 3]) := by kernel_rfl

/-- cmp.isNaN[int] -/
abbrev F.cmp_isNaN_int : Nat := 122
def ir.cmp_isNaN_int : IC :=
 (.seq (.reg [⟨(some 2), .mov, [.c (.bool false)], none⟩])
   (.seq (.reg [⟨(some 3), .mov, [.t 0], none⟩,
     ⟨(some 4), .mov, [.t 0], none⟩,
     ⟨(some 5), .bin .neq, [.t 3, .t 4], none⟩,
     ⟨(some 2), .mov, [.t 5], none⟩])
   .ret))
theorem chk.cmp_isNaN_int : chkF Tryd.prog 122 = some (6, ir.cmp_isNaN_int, [.tmp 2]) := by kernel_rfl

/-- (paravane/region.four).region -/
abbrev F.region_four_region : Nat := 123
def ir.region_four_region : IC :=
 (.seq (.reg [⟨(some 1), .box, [.t 0], none⟩,
     ⟨(some 2), .alloc [(.int .i64 0), (.int .i64 0), (.int .i64 0), (.int .i64 0), (.int .i64 0), (.int .i64 0), (.int .i64 0), (.int .i64 0)], [], none⟩])
   (.seq (.reg [⟨(some 3), .iaddrA 4 2, [.t 1, .c (.int .i64 0)], none⟩,
     ⟨(some 4), .load 2 true, [.t 3], none⟩,
     ⟨(some 5), .iaddrA 4 2, [.t 1, .c (.int .i64 1)], none⟩,
     ⟨(some 6), .load 2 true, [.t 5], none⟩,
     ⟨(some 7), .iaddrA 4 2, [.t 1, .c (.int .i64 2)], none⟩,
     ⟨(some 8), .load 2 true, [.t 7], none⟩,
     ⟨(some 9), .iaddrA 4 2, [.t 1, .c (.int .i64 3)], none⟩,
     ⟨(some 10), .load 2 true, [.t 9], none⟩,
     ⟨(some 11), .build [(.int .i64 0), (.int .i64 0), (.int .i64 0), (.int .i64 0), (.int .i64 0), (.int .i64 0), (.int .i64 0), (.int .i64 0)] [(0, 2), (2, 2), (4, 2), (6, 2)], [.t 4, .t 6, .t 8, .t 10], none⟩,
     ⟨none, .store 8, [.t 2, .t 11], none⟩])
   .ret))
theorem chk.region_four_region : chkF Tryd.prog 123 = some (12, ir.region_four_region, [.cell 2 87]) := by kernel_rfl

/-- paravane/region.hull -/
abbrev F.region_hull : Nat := 124
def ir.region_hull : IC :=
 (.seq (.reg [⟨(some 2), .alloc [(.int .i64 0), (.int .i64 0), (.int .i64 0), (.int .i64 0), (.int .i64 0), (.int .i64 0), (.int .i64 0), (.int .i64 0)], [], none⟩,
     ⟨(some 3), .alloc [(.bool false)], [], none⟩])
   (.seq (.seq (.reg [⟨(some 7), .mov, [.t 0], none⟩,
     ⟨(some 8), .len false, [.t 7], none⟩,
     ⟨(some 9), .mov, [.c (.int .i64 0)], none⟩])
   (.block 0 (.loop (.seq (.reg [⟨(some 10), .bin .lss, [.t 9, .t 8], none⟩])
   (.seq (.cond (.t 10) .skip (.exit 0))
   (.seq (.block 1 (.seq (.reg [⟨(some 11), .iaddrS 1, [.t 7, .t 9], none⟩,
     ⟨(some 12), .load 1 false, [.t 11], none⟩,
     ⟨(some 5), .mov, [.t 12], none⟩])
   (.seq (.reg [⟨(some 13), .mov, [.t 5], none⟩])
   (.block 2 (.range (.t 13) [14] (.reg [⟨(some 6), .alloc [(.int .i64 0), (.int .i64 0)], [], none⟩,
     ⟨none, .store 2, [.t 6, .t 14], none⟩]) (.block 3 (.seq (.seq (.reg [⟨(some 15), .load 1 false, [.t 3], none⟩,
     ⟨(some 16), .un .not, [.t 15], none⟩])
   (.cond (.t 16) (.reg [⟨(some 17), .load 2 true, [.t 6], none⟩,
     ⟨(some 18), .call 131, [.t 17], none⟩,
     ⟨none, .store 8, [.t 2, .t 18], none⟩,
     ⟨none, .store 1, [.t 3, .c (.bool true)], none⟩]) .skip))
   (.draw [0, 0, 2, 7, 15] [⟨(some 19), .load 8 true, [.t 2], none⟩,
     ⟨(some 20), .load 2 true, [.t 6], none⟩,
     ⟨(some 21), .call 131, [.t 20], none⟩,
     ⟨(some 22), .call 132, [.t 19, .t 21, .c (.func (.func 133) [] [])], none⟩,
     ⟨none, .store 8, [.t 2, .t 22], none⟩]))))))))
   (.reg [⟨(some 23), .bin .add, [.t 9, .c (.int .i64 1)], none⟩,
     ⟨(some 9), .mov, [.t 23], none⟩])))))))
   (.seq (.draw [0, 0, 1, 7] [⟨(some 24), .load 8 true, [.t 2], none⟩,
     ⟨(some 25), .load 1 false, [.t 3], none⟩,
     ⟨none, .store 8, [.t 2, .t 24], none⟩,
     ⟨none, .store 1, [.t 3, .t 25], none⟩])
   .ret)))
theorem chk.region_hull : chkF Tryd.prog 124 = some (26, ir.region_hull, [.cell 2 160, .cell 3 4]) := by kernel_rfl

/-- (paravane/region.four).ends -/
abbrev F.region_four_ends : Nat := 125
def ir.region_four_ends : IC :=
 (.seq (.reg [⟨(some 1), .box, [.t 0], none⟩,
     ⟨(some 2), .mov, [.c .nilf], none⟩])
   (.seq (.reg [⟨(some 3), .mkfunc (.func 134) 0, [.t 1], none⟩,
     ⟨(some 2), .mov, [.t 3], none⟩])
   .ret))
theorem chk.region_four_ends : chkF Tryd.prog 125 = some (4, ir.region_four_ends, [.tmp 2]) := by kernel_rfl

/-- paravane/region.of -/
abbrev F.region_of : Nat := 131
def ir.region_of : IC :=
 (.seq (.reg [⟨(some 1), .box, [.t 0], none⟩,
     ⟨(some 2), .alloc [(.int .i64 0), (.int .i64 0), (.int .i64 0), (.int .i64 0), (.int .i64 0), (.int .i64 0), (.int .i64 0), (.int .i64 0)], [], none⟩])
   (.seq (.reg [⟨(some 3), .alloc [(.int .i64 0), (.int .i64 0), (.int .i64 0), (.int .i64 0), (.int .i64 0), (.int .i64 0), (.int .i64 0), (.int .i64 0)], [], none⟩])
   (.seq (.seq (.reg [⟨(some 6), .faddr 0, [.t 1], none⟩,
     ⟨(some 7), .load 1 false, [.t 6], none⟩,
     ⟨(some 8), .faddr 1, [.t 1], none⟩,
     ⟨(some 9), .load 1 false, [.t 8], none⟩,
     ⟨(some 10), .faddr 0, [.t 1], none⟩,
     ⟨(some 11), .load 1 false, [.t 10], none⟩,
     ⟨(some 12), .faddr 1, [.t 1], none⟩,
     ⟨(some 13), .load 1 false, [.t 12], none⟩,
     ⟨(some 14), .bin .add, [.t 11, .t 13], none⟩,
     ⟨(some 15), .faddr 0, [.t 1], none⟩,
     ⟨(some 16), .load 1 false, [.t 15], none⟩,
     ⟨(some 17), .faddr 1, [.t 1], none⟩,
     ⟨(some 18), .load 1 false, [.t 17], none⟩,
     ⟨(some 19), .bin .sub, [.t 16, .t 18], none⟩,
     ⟨(some 20), .build [(.int .i64 0), (.int .i64 0), (.int .i64 0), (.int .i64 0)] [(0, 1), (1, 1), (2, 1), (3, 1)], [.t 7, .t 9, .t 14, .t 19], none⟩,
     ⟨(some 21), .mov, [.c (.int .i64 0)], none⟩])
   (.block 0 (.loop (.seq (.reg [⟨(some 22), .bin .lss, [.t 21, .c (.int .i64 4)], none⟩])
   (.seq (.cond (.t 22) .skip (.exit 0))
   (.seq (.block 1 (.seq (.reg [⟨(some 23), .mov, [.t 21], none⟩,
     ⟨(some 24), .idxA 4 1 false, [.t 20, .t 21], none⟩,
     ⟨(some 4), .mov, [.t 23], none⟩,
     ⟨(some 5), .mov, [.t 24], none⟩])
   (.reg [⟨(some 25), .mov, [.t 4], none⟩,
     ⟨(some 26), .mov, [.t 5], none⟩,
     ⟨(some 27), .mov, [.t 5], none⟩,
     ⟨(some 28), .build [(.int .i64 0), (.int .i64 0)] [(0, 1), (1, 1)], [.t 26, .t 27], none⟩,
     ⟨(some 29), .iaddrA 4 2, [.t 3, .t 25], none⟩,
     ⟨none, .store 2, [.t 29, .t 28], none⟩])))
   (.reg [⟨(some 30), .bin .add, [.t 21, .c (.int .i64 1)], none⟩,
     ⟨(some 21), .mov, [.t 30], none⟩])))))))
   (.seq (.reg [⟨(some 31), .load 8 true, [.t 3], none⟩,
     ⟨none, .store 8, [.t 2, .t 31], none⟩])
   .ret))))
theorem chk.region_of : chkF Tryd.prog 131 = some (32, ir.region_of, [.cell 2 160]) := by kernel_rfl

/-- (paravane/region.four).combined -/
abbrev F.region_four_combined : Nat := 132
def ir.region_four_combined : IC :=
 (.seq (.reg [⟨(some 3), .box, [.t 0], none⟩,
     ⟨(some 4), .box, [.t 1], none⟩,
     ⟨(some 6), .alloc [(.int .i64 0), (.int .i64 0), (.int .i64 0), (.int .i64 0), (.int .i64 0), (.int .i64 0), (.int .i64 0), (.int .i64 0)], [], none⟩])
   (.seq (.seq (.reg [⟨(some 8), .mov, [.c (.int .i64 0)], none⟩])
   (.block 0 (.loop (.seq (.reg [⟨(some 9), .bin .lss, [.t 8, .c (.int .i64 4)], none⟩])
   (.seq (.cond (.t 9) .skip (.exit 0))
   (.seq (.block 1 (.seq (.reg [⟨(some 10), .mov, [.t 8], none⟩,
     ⟨(some 7), .mov, [.t 10], none⟩])
   (.draw [0, 0, 0, 4, 12, 0, 32, 96, 254, 511, 1023] [⟨(some 11), .mov, [.t 7], none⟩,
     ⟨(some 12), .mov, [.t 2], none⟩,
     ⟨(some 13), .mov, [.t 7], none⟩,
     ⟨(some 14), .iaddrA 4 2, [.t 3, .t 13], none⟩,
     ⟨(some 15), .load 2 true, [.t 14], none⟩,
     ⟨(some 16), .mov, [.t 7], none⟩,
     ⟨(some 17), .iaddrA 4 2, [.t 4, .t 16], none⟩,
     ⟨(some 18), .load 2 true, [.t 17], none⟩,
     ⟨(some 19), .callv, [.t 12, .t 15, .t 18], none⟩,
     ⟨(some 20), .iaddrA 4 2, [.t 3, .t 11], none⟩,
     ⟨none, .store 2, [.t 20, .t 19], none⟩])))
   (.reg [⟨(some 21), .bin .add, [.t 8, .c (.int .i64 1)], none⟩,
     ⟨(some 8), .mov, [.t 21], none⟩])))))))
   (.seq (.reg [⟨(some 22), .load 8 true, [.t 3], none⟩,
     ⟨none, .store 8, [.t 6, .t 22], none⟩])
   .ret)))
theorem chk.region_four_combined : chkF Tryd.prog 132 = some (23, ir.region_four_combined, [.cell 6 160]) := by kernel_rfl

/-- paravane/region.span -/
abbrev F.region_span : Nat := 133
def ir.region_span : IC :=
 (.seq (.reg [⟨(some 2), .box, [.t 0], none⟩,
     ⟨(some 3), .box, [.t 1], none⟩,
     ⟨(some 4), .alloc [(.int .i64 0), (.int .i64 0)], [], none⟩])
   (.seq (.reg [⟨(some 5), .faddr 0, [.t 2], none⟩,
     ⟨(some 6), .load 1 false, [.t 5], none⟩,
     ⟨(some 7), .faddr 0, [.t 3], none⟩,
     ⟨(some 8), .load 1 false, [.t 7], none⟩,
     ⟨(some 9), .minmax false, [.t 6, .t 8], none⟩,
     ⟨(some 10), .faddr 1, [.t 2], none⟩,
     ⟨(some 11), .load 1 false, [.t 10], none⟩,
     ⟨(some 12), .faddr 1, [.t 3], none⟩,
     ⟨(some 13), .load 1 false, [.t 12], none⟩,
     ⟨(some 14), .minmax true, [.t 11, .t 13], none⟩,
     ⟨(some 15), .build [(.int .i64 0), (.int .i64 0)] [(0, 1), (1, 1)], [.t 9, .t 14], none⟩,
     ⟨none, .store 2, [.t 4, .t 15], none⟩])
   .ret))
theorem chk.region_span : chkF Tryd.prog 133 = some (16, ir.region_span, [.cell 4 82]) := by kernel_rfl

/-- (paravane/region.four).ends$1 -/
abbrev F.region_four_ends_1 : Nat := 134
def ir.region_four_ends_1 : IC :=
 (.seq (.reg [⟨(some 2), .box, [.t 0], none⟩])
   (.seq (.reg [⟨(some 6), .load 8 true, [.t 1], none⟩,
     ⟨(some 7), .call 96, [.t 6], none⟩])
   (.block 0 (.range (.t 7) [8] (.reg [⟨(some 3), .alloc [(.int .i64 0), (.int .i64 0), (.int .i64 0)], [], none⟩,
     ⟨none, .store 3, [.t 3, .t 8], none⟩]) (.block 1 (.seq (.draw [0, 1, 0, 4, 15, 0, 32, 0, 128, 480, 0, 0, 3103, 8191] [⟨(some 9), .faddr 0, [.t 3], none⟩,
     ⟨(some 10), .load 1 false, [.t 9], none⟩,
     ⟨(some 11), .faddr 1, [.t 3], none⟩,
     ⟨(some 12), .load 1 false, [.t 11], none⟩,
     ⟨(some 13), .build [(.int .i64 0), (.int .i64 0)] [(0, 1), (1, 1)], [.t 10, .t 12], none⟩,
     ⟨(some 14), .faddr 0, [.t 3], none⟩,
     ⟨(some 15), .load 1 false, [.t 14], none⟩,
     ⟨(some 16), .faddr 2, [.t 3], none⟩,
     ⟨(some 17), .load 1 false, [.t 16], none⟩,
     ⟨(some 18), .build [(.int .i64 0), (.int .i64 0)] [(0, 1), (1, 1)], [.t 15, .t 17], none⟩,
     ⟨(some 4), .alloc [(.int .i64 0), (.int .i64 0)], [], none⟩,
     ⟨(some 5), .alloc [(.int .i64 0), (.int .i64 0)], [], none⟩,
     ⟨none, .store 2, [.t 4, .t 13], none⟩,
     ⟨none, .store 2, [.t 5, .t 18], none⟩])
   (.seq (.reg [⟨(some 19), .load 1 false, [.t 2], none⟩,
     ⟨(some 20), .load 2 true, [.t 4], none⟩,
     ⟨(some 21), .callv, [.t 19, .t 20], none⟩,
     ⟨(some 22), .un .not, [.t 21], none⟩,
     ⟨(some 23), .mov, [.t 22], none⟩,
     ⟨(some 24), .load 2 true, [.t 4], (some (23, false))⟩,
     ⟨(some 25), .load 2 true, [.t 5], (some (23, false))⟩,
     ⟨(some 26), .eqs true [0, 0], [.t 24, .t 25], (some (23, false))⟩,
     ⟨(some 27), .mov, [.t 26], (some (23, false))⟩,
     ⟨(some 28), .load 1 false, [.t 2], (some (27, true))⟩,
     ⟨(some 29), .load 2 true, [.t 5], (some (27, true))⟩,
     ⟨(some 30), .callv, [.t 28, .t 29], (some (27, true))⟩,
     ⟨(some 31), .un .not, [.t 30], (some (27, true))⟩,
     ⟨(some 32), .pick, [.t 27, .t 31, .c (.bool false)], (some (23, false))⟩,
     ⟨(some 33), .pick, [.t 23, .c (.bool true), .t 32], none⟩])
   (.cond (.t 33) .ret .skip))))))))
theorem chk.region_four_ends_1 : chkF Tryd.prog 134 = some (34, ir.region_four_ends_1, []) := by kernel_rfl

end Go.Proofs.YtffoiccokigjcaaDoor

/-! Contracts for the laws on bins: plain things. -/
set_option linter.unusedVariables false
set_option linter.unusedSimpArgs false
set_option maxRecDepth 20000
set_option maxHeartbeats 1000000
namespace Go.Proofs.YtffoiccokigjcaaDoor
open Go.Am

abbrev I (n : Int) : V := .int .i64 n

def btw (n lo hi : Int) : Bool := decide (n ≥ lo) && decide (n ≤ hi)

theorem w64 {n : Int} (h1 : -9223372036854775808 ≤ n) (h2 : n < 9223372036854775808) : IntKind.wrap .i64 n = n := by
  have e : ∀ m : Int, m = n % 18446744073709551616 → (if (true && decide (m ≥ 9223372036854775808)) = true then m - 18446744073709551616 else m) = n := by
    intro m hm
    by_cases h : m ≥ 9223372036854775808
    · simp only [h, decide_true, Bool.and_self, if_true]; omega
    · simp only [h, decide_false, Bool.and_false, Bool.false_eq_true, if_false]; omega
  exact e _ rfl

theorem VLe.i {k : IntKind} {a b : Int} (h : a = b) : VLe (.int k a) (.int k b) := h ▸ .refl _

abbrev w (n : Int) : Int := IntKind.wrap .i64 n

@[simp] theorem wr1 : IntKind.i64.wrap 1 = 1 := by decide
@[simp] theorem wr2 : IntKind.i64.wrap 2 = 2 := by decide
@[simp] theorem wr3 : IntKind.i64.wrap 3 = 3 := by decide

theorem btw_iff (n lo hi : Int) : btw n lo hi = true ↔ lo ≤ n ∧ n ≤ hi := by
  simp only [btw, Bool.and_eq_true, decide_eq_true_eq, ge_iff_le]

theorem sq_lt {a b : Int} (ha : 0 ≤ a) (hb : 0 ≤ b) (h : a * a < b * b) : a < b := by
  rcases Int.lt_or_le a b with h1 | h1
  · exact h1
  · have := Int.mul_le_mul h1 h1 hb ha; omega

def eB (b : Int × Int) : V := .agg [I b.1, I b.2]
def sB (l : List (Int × Int)) : V := .slice 0 2 (l.map eB)
theorem getD_map {α : Type} {e : α → V} {l : List α} {k : Nat} (h : k < l.length) : (l.map e).getD (Int.toNat (k : Int)) nothing = e l[k] := by
  simp [h]

/-- The first index at which p holds. -/
def firstI {α : Type} (p : α → Bool) : List α → Nat → Int
  | [], _ => -1
  | x :: l, k => if p x then k else firstI p l (k + 1)

theorem firstI_nn {α : Type} (p : α → Bool) : ∀ (l : List α) (k : Nat), decide (firstI p l k ≥ 0) = l.any p
  | [], k => by simp [firstI]
  | x :: l, k => by
    simp only [firstI, List.any_cons]
    by_cases h : p x = true
    · simp [h]
    · simp only [h, if_false, Bool.false_eq_true]
      rw [firstI_nn p l (k + 1)]
      simp [h]

theorem firstI_drop {α : Type} (p : α → Bool) (l : List α) {k : Nat} (h : k < l.length) : firstI p (l.drop k) k = if p l[k] then (k : Int) else firstI p (l.drop (k + 1)) (k + 1) := by
  rw [List.drop_eq_getElem_cons h]; rfl

theorem ite_max (a b : Int) : (if b > a then b else a) = max a b := by split <;> omega
theorem ite_min (a b : Int) : (if b < a then b else a) = min a b := by split <;> omega

/-- Captured data that stand for themselves. -/
structure Plain (us : List V) : Prop where
  d : ∀ b, toDs b us = some (us, [])
  r : ∀ B R, us.all (refsOk B R 5) = true

theorem refs_plain {us : List V} (h : Plain us) {fn : Fn} {B : Nat → Bool} {R : Nat → Option (Nat × Nat × Nat)} : refsOk B R 6 (.func fn [] us) = true := by
  show (([] : List V).all (refsOk B R 5) && us.all (refsOk B R 5)) = true
  rw [h.r]; rfl

theorem take_ext {α : Type} {l l' : List α} {k : Nat} (hk : k < l.length) (hk' : k < l'.length) (h : l.take k = l'.take k) (e : l[k] = l'[k]) : l.take (k + 1) = l'.take (k + 1) := by
  rw [List.take_add_one, List.take_add_one, h, List.getElem?_eq_getElem hk, List.getElem?_eq_getElem hk', e]
def intsV (l : List Int) : V := .slice 0 1 (l.map I)

theorem flat_ints (l : List Int) : (l.map I).flatMap cells = l.map I := by
  induction l with
  | nil => rfl
  | cons a l ih => rw [List.map_cons, List.flatMap_cons, ih]; rfl

theorem ints_isD (l : List Int) : (l.map I).all isD = true := by
  rw [List.all_eq_true]
  intro x hx
  obtain ⟨n, _, rfl⟩ := List.mem_map.1 hx
  rfl

theorem ints_refs (l : List Int) (B : Nat → Bool) (R : Nat → Option (Nat × Nat × Nat)) : (l.map I).all (refsOk B R 6) = true := by
  rw [List.all_eq_true]
  intro x hx
  obtain ⟨n, _, rfl⟩ := List.mem_map.1 hx
  rfl

theorem okI {k : Nat} {l : List Int} {env : List (Nat × V)} {bx : List (Nat × Box)} {rw : List (Nat × Nat × Nat × Nat)} (h : okRefs env ((k, ⟨[], false⟩) :: bx) rw = true) : okRefs env ((k, ⟨l.map I, false⟩) :: bx) rw = true := by
  have e : hasKey ((k, (⟨l.map I, false⟩ : Box)) :: bx) = hasKey ((k, (⟨[], false⟩ : Box)) :: bx) := rfl
  unfold okRefs at h ⊢
  rw [e]
  rw [Bool.and_eq_true] at h ⊢
  refine ⟨h.1, ?_⟩
  have h2 := h.2
  rw [List.all_cons, Bool.and_eq_true] at h2 ⊢
  exact ⟨ints_refs _ _ _, h2.2⟩

theorem holds_ints (l : List Int) : Holds (l.map I) 0 1 l.length (l.map I) := by
  refine ⟨by omega, by simp, fun x hx => ?_, ?_, fun x hx => ?_⟩
  · obtain ⟨c, _, rfl⟩ := List.mem_map.1 hx; rfl
  · rw [List.drop_zero, List.take_of_length_le (by simp), flat_ints]
  · obtain ⟨c, _, rfl⟩ := List.mem_map.1 hx; rfl

theorem c_within (n lo hi : Int) : C Tryd.prog F.bin_within [I n, I lo, I hi] (.bool (btw n lo hi)) := by
  refine C_of mixed chk.bin_within (by simp) fun S ok => ?_
  refine Tr.seqR rfl (by simp) (Tr.seqR rfl (by simp) (Tr.retQ rfl rfl ?_ trivial))
  simp [packR, btw]

theorem c_between (n lo hi : Int) : C Tryd.prog F.ref00_Between [I n, I lo, I hi] (.bool (btw n lo hi)) := by
  refine C_of mixed chk.ref00_Between (by simp) fun S ok => ?_
  refine Tr.seqR rfl (by simp) (Tr.seqR rfl (by simp) (Tr.retQ rfl rfl ?_ trivial))
  simp [packR, btw]

theorem c_indexI {l : List Int} {p : Int → Bool} {f : FuncId} (hl : l.length ≤ 9223372036854775807) (hp : ∀ b ∈ l, C Tryd.prog f [I b] (.bool (p b))) :
    C Tryd.prog F.slices_IndexFunc_int_int [intsV l, .func (.func f) [] []] (I (firstI p l 0)) := by
  refine C_of mixed chk.slices_IndexFunc_int_int (by simp) fun S ok => ?_
  refine Tr.seqR rfl (by simp) ?_
  refine Tr.seq (Tr.seqR rfl (by simp) (Tr.block ?_))
  refine Tr.loop (fun k s => (k ≤ l.length ∧ firstI p l 0 = firstI p (l.drop k) k) ∧ s = { env := [(0, intsV l), (1, .func (.func f) [] []), (7, I l.length), (8, I k)], bx := [], rw := [], log := [], stp := false }) (fun k => l.length - k) 0
    (Wk.le (.cons rfl (.refl _) (.cons rfl (.refl _) (.cons rfl (VLe.i (by simp)) (.cons rfl (.refl _) .nil)))) .nil .nil rfl rfl) ⟨⟨by omega, by simp⟩, rfl⟩ ?_
  rintro k s ⟨⟨hk, hf⟩, rfl⟩
  refine Tr.seqR rfl (by simp) (Tr.seqI rfl (fun h1 => ?_) (fun h1 => ?_))
  · have h1 : k < l.length := by simpa using h1
    refine Tr.skipT (Tr.seq (Tr.block (Tr.seqR rfl (by simp) (Tr.seqC rfl ?_ ?_))))
    · rw [getD_map h1]; simp [cells]; omega
    · rw [getD_map h1]
      refine Steps.callv rfl rfl (hp l[k] (List.getElem_mem h1)) (Steps.fin rfl (by simp) ?_)
      refine Tr.cond rfl rfl (fun h2 => ?_) (fun h2 => ?_)
      · refine Tr.seqR rfl (by simp) (Tr.ret ?_)
        refine ⟨trivial, _, _, _, resVs_ok rfl, rfl, ?_⟩
        rw [hf, firstI_drop p l h1, if_pos h2]; rfl
      · refine Tr.skip (Tr.regR rfl (by simp) ?_)
        refine ⟨k + 1, _, ?_, ⟨⟨by omega, ?_⟩, rfl⟩, by omega⟩
        · exact Wk.le (.cons rfl (.refl _) (.cons rfl (.refl _) (.cons rfl (.refl _) (.cons rfl (VLe.i (w64 (by omega) (by omega))) .nil)))) .nil .nil rfl rfl
        · rw [hf, firstI_drop p l h1, if_neg (by simp [h2])]
  · have h1 : k = l.length := by simp at h1; omega
    subst h1
    refine Tr.exit (Tr.seqR rfl (by simp) (Tr.retQ rfl rfl ?_ trivial))
    rw [hf, List.drop_length]; rfl

theorem c_containsI {l : List Int} {p : Int → Bool} {f : FuncId} (hl : l.length ≤ 9223372036854775807) (hp : ∀ b ∈ l, C Tryd.prog f [I b] (.bool (p b))) :
    C Tryd.prog F.slices_ContainsFunc_int_int [intsV l, .func (.func f) [] []] (.bool (l.any p)) := by
  refine C_of mixed chk.slices_ContainsFunc_int_int (by simp) fun S ok => ?_
  refine Tr.seqR rfl (by simp) ?_
  refine Tr.seqC rfl (by simp) (Steps.call rfl rfl (c_indexI hl hp) (Steps.fin rfl (by simp) (Tr.retQ rfl rfl ?_ trivial)))
  rw [← firstI_nn p l 0]; rfl

attribute [local simp] cells scalar mkv splice under2 under dem dem1

theorem c_Alike (l l' : List Int) (hl : l.length ≤ 9223372036854775807) : C Tryd.prog F.ref00_Alike [intsV l, intsV l'] (.bool (decide (l = l'))) := by
  refine C_of mixed chk.ref00_Alike (by simp) fun S ok => ?_
  refine Tr.seqR rfl (by simp) (Tr.seq (Tr.seqR rfl (by simp) ?_))
  refine Tr.cond rfl rfl (fun h1 => Tr.seqR rfl (by simp) (Tr.retX rfl rfl rfl ?_ trivial)) (fun h1 => Tr.skip ?_)
  · have h1 : (((l.map I).length : Int) != ((l'.map I).length : Int)) = true := h1
    simp only [packR, V.bool.injEq]
    rw [decide_eq_false]
    rintro rfl
    simp at h1
  · have h1 : (((l.map I).length : Int) != ((l'.map I).length : Int)) = false := h1
    have hll : l.length = l'.length := by simp at h1; omega
    refine Tr.seq (Tr.seqR rfl (by simp) (Tr.block ?_))
    refine Tr.loop (fun k st => (k ≤ l.length ∧ l.take k = l'.take k) ∧ st = { env := [(0, intsV l), (1, intsV l'), (5, I k)], bx := [], rw := [], log := [], stp := false }) (fun k => l.length - k) 0
      (Wk.le (.cons rfl (.refl _) (.cons rfl (.refl _) (.cons rfl (.refl _) .nil))) .nil .nil rfl rfl) ⟨⟨by omega, by simp⟩, rfl⟩ ?_
    rintro k st ⟨⟨hk, he⟩, rfl⟩
    refine Tr.seq (Tr.seqR rfl (by simp) (Tr.cond rfl rfl (fun h3 => ?_) (fun h3 => ?_)))
    · have h3 : k < l.length := by simpa using h3
      have h4 : k < l'.length := by omega
      refine Tr.skip (Tr.seq (Tr.block (Tr.seq (Tr.drawK (TraceK.runN 3 rfl (by simp; omega) ?_)))))
      rw [getD_map h3]
      refine TraceK.runN 4 rfl (by simp; omega) ?_
      rw [getD_map h4]
      refine TraceK.run rfl (by simp) (.done ⟨by kernel_rfl, by kernel_rfl, ?_⟩)
      refine Tr.cond rfl rfl (fun h5 => Tr.seqR rfl (by simp) (Tr.retX rfl rfl rfl ?_ trivial)) (fun h5 => Tr.skip (Tr.regR rfl (by simp) ?_))
      · have h5 : (l[k] != l'[k]) = true := h5
        simp only [packR, V.bool.injEq]
        rw [decide_eq_false]
        rintro rfl
        simp at h5
      · have h5 : (l[k] != l'[k]) = false := h5
        have h5 : l[k] = l'[k] := by simpa using h5
        exact ⟨k + 1, _, Wk.le (.cons rfl (.refl _) (.cons rfl (.refl _) (.cons rfl (VLe.i (w64 (by omega) (by omega))) .nil))) .nil .nil rfl rfl, ⟨⟨h3, take_ext h3 h4 he h5⟩, rfl⟩, by omega⟩
    · have h3 : k = l.length := by simp at h3; omega
      subst h3
      refine Tr.exit (Tr.seqR rfl (by simp) (Tr.retX rfl rfl rfl ?_ trivial))
      rw [List.take_length, hll, List.take_length] at he
      simp [packR, he]

end Go.Proofs.YtffoiccokigjcaaDoor
