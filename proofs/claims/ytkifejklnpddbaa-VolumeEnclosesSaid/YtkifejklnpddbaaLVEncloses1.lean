/-
  Parts of the proof, 1: the abstract machine, the compiled code, contracts of the functions, plain laws.
-/
import Derived.Test.YtkifejklnpddbaaZ5


/-! The code of further functions, compiled. -/
set_option maxRecDepth 100000
namespace Go.Proofs.Ytkifejklnpddbaa
open Go.Am
/-- paravane/paravanelaw10.VolumeNames -/
abbrev F.law10_VolumeNames : Nat := 4
def ir.law10_VolumeNames : IC :=
 (.seq (.reg [⟨(some 4), .box, [.t 1], none⟩,
     ⟨(some 5), .box, [.t 2], none⟩,
     ⟨(some 6), .mov, [.c (.bool false)], none⟩])
   (.seq (.reg [⟨(some 12), .mov, [.t 0], none⟩,
     ⟨(some 13), .load 3 true, [.t 4], none⟩,
     ⟨(some 14), .iaddrA 2 1, [.t 5, .c (.int .i64 0)], none⟩,
     ⟨(some 15), .load 1 false, [.t 14], none⟩,
     ⟨(some 16), .iaddrA 2 1, [.t 5, .c (.int .i64 1)], none⟩,
     ⟨(some 17), .load 1 false, [.t 16], none⟩,
     ⟨(some 18), .call 31, [.t 12, .t 13, .t 15, .t 17], none⟩,
     ⟨(some 11), .mov, [.t 18], none⟩,
     ⟨(some 19), .extract 0, [.t 11], none⟩,
     ⟨(some 20), .extract 1, [.t 11], none⟩,
     ⟨(some 7), .alloc [(.int .i64 0), (.int .i64 0), (.int .i64 0), .nils, (.int .i64 0), (.int .i64 0)], [], none⟩,
     ⟨none, .store 6, [.t 7, .t 19], none⟩,
     ⟨(some 8), .mov, [.t 20], none⟩])
   (.seq (.reg [⟨(some 22), .mov, [.t 0], none⟩,
     ⟨(some 23), .load 3 true, [.t 4], none⟩,
     ⟨(some 24), .iaddrA 2 1, [.t 5, .c (.int .i64 0)], none⟩,
     ⟨(some 25), .load 1 false, [.t 24], none⟩,
     ⟨(some 26), .iaddrA 2 1, [.t 5, .c (.int .i64 1)], none⟩,
     ⟨(some 27), .load 1 false, [.t 26], none⟩,
     ⟨(some 28), .call 32, [.t 22, .t 23, .t 25, .t 27], none⟩,
     ⟨(some 21), .mov, [.t 28], none⟩,
     ⟨(some 29), .extract 0, [.t 21], none⟩,
     ⟨(some 30), .extract 1, [.t 21], none⟩,
     ⟨(some 9), .alloc [(.int .i64 0), (.int .i64 0), (.int .i64 0), .nils, (.int .i64 0), (.int .i64 0)], [], none⟩,
     ⟨none, .store 6, [.t 9, .t 29], none⟩,
     ⟨(some 10), .mov, [.t 30], none⟩])
   (.seq (.reg [⟨(some 31), .load 6 true, [.t 7], none⟩,
     ⟨(some 32), .load 6 true, [.t 9], none⟩,
     ⟨(some 33), .call 33, [.t 31, .t 32], none⟩,
     ⟨(some 34), .mov, [.t 33], none⟩,
     ⟨(some 35), .mov, [.t 8], (some (34, true))⟩,
     ⟨(some 36), .mov, [.t 10], (some (34, true))⟩,
     ⟨(some 37), .bin .eql, [.t 35, .t 36], (some (34, true))⟩,
     ⟨(some 38), .pick, [.t 34, .t 37, .c (.bool false)], none⟩,
     ⟨(some 39), .mov, [.t 38], none⟩,
     ⟨(some 40), .call 30, [], (some (39, true))⟩,
     ⟨(some 41), .pick, [.t 39, .t 40, .c (.bool false)], none⟩,
     ⟨(some 6), .mov, [.t 41], none⟩])
   .ret))))
theorem chk.law10_VolumeNames : chkF Try.prog 4 = some (42, ir.law10_VolumeNames, [.tmp 6]) := by kernel_rfl

/-- paravane/paravanelaw10.VolumeEncloses -/
abbrev F.law10_VolumeEncloses : Nat := 5
def ir.law10_VolumeEncloses : IC :=
 (.seq (.reg [⟨(some 3), .box, [.t 1], none⟩,
     ⟨(some 4), .mov, [.c (.bool false)], none⟩])
   (.seq (.reg [⟨(some 10), .mov, [.t 0], none⟩,
     ⟨(some 11), .faddr 0, [.t 3], none⟩,
     ⟨(some 12), .load 3 true, [.t 11], none⟩,
     ⟨(some 13), .faddr 3, [.t 3], none⟩,
     ⟨(some 14), .load 3 true, [.t 13], none⟩,
     ⟨(some 15), .faddr 6, [.t 3], none⟩,
     ⟨(some 16), .load 1 false, [.t 15], none⟩,
     ⟨(some 17), .faddr 7, [.t 3], none⟩,
     ⟨(some 18), .load 2 true, [.t 17], none⟩,
     ⟨(some 19), .call 34, [.t 10, .t 12, .t 14, .t 16, .t 18], none⟩,
     ⟨(some 9), .mov, [.t 19], none⟩,
     ⟨(some 20), .extract 0, [.t 9], none⟩,
     ⟨(some 21), .extract 1, [.t 9], none⟩,
     ⟨(some 5), .alloc [(.int .i64 0), (.int .i64 0), (.int .i64 0), (.int .i64 0), (.int .i64 0), (.int .i64 0), .nils], [], none⟩,
     ⟨none, .store 7, [.t 5, .t 20], none⟩,
     ⟨(some 6), .mov, [.t 21], none⟩])
   (.seq (.reg [⟨(some 23), .mov, [.t 0], none⟩,
     ⟨(some 24), .faddr 0, [.t 3], none⟩,
     ⟨(some 25), .load 3 true, [.t 24], none⟩,
     ⟨(some 26), .faddr 3, [.t 3], none⟩,
     ⟨(some 27), .load 3 true, [.t 26], none⟩,
     ⟨(some 28), .faddr 6, [.t 3], none⟩,
     ⟨(some 29), .load 1 false, [.t 28], none⟩,
     ⟨(some 30), .faddr 7, [.t 3], none⟩,
     ⟨(some 31), .load 2 true, [.t 30], none⟩,
     ⟨(some 32), .call 35, [.t 23, .t 25, .t 27, .t 29, .t 31], none⟩,
     ⟨(some 22), .mov, [.t 32], none⟩,
     ⟨(some 33), .extract 0, [.t 22], none⟩,
     ⟨(some 34), .extract 1, [.t 22], none⟩,
     ⟨(some 7), .alloc [(.int .i64 0), (.int .i64 0), (.int .i64 0), (.int .i64 0), (.int .i64 0), (.int .i64 0), .nils], [], none⟩,
     ⟨none, .store 7, [.t 7, .t 33], none⟩,
     ⟨(some 8), .mov, [.t 34], none⟩])
   (.seq (.reg [⟨(some 35), .load 7 true, [.t 5], none⟩,
     ⟨(some 36), .load 7 true, [.t 7], none⟩,
     ⟨(some 37), .call 36, [.t 35, .t 36], none⟩,
     ⟨(some 38), .mov, [.t 37], none⟩,
     ⟨(some 39), .mov, [.t 6], (some (38, true))⟩,
     ⟨(some 40), .mov, [.t 8], (some (38, true))⟩,
     ⟨(some 41), .bin .eql, [.t 39, .t 40], (some (38, true))⟩,
     ⟨(some 42), .pick, [.t 38, .t 41, .c (.bool false)], none⟩,
     ⟨(some 43), .mov, [.t 42], none⟩,
     ⟨(some 44), .call 30, [], (some (43, true))⟩,
     ⟨(some 45), .pick, [.t 43, .t 44, .c (.bool false)], none⟩,
     ⟨(some 4), .mov, [.t 45], none⟩])
   .ret))))
theorem chk.law10_VolumeEncloses : chkF Try.prog 5 = some (46, ir.law10_VolumeEncloses, [.tmp 4]) := by kernel_rfl

end Go.Proofs.Ytkifejklnpddbaa

/-! The laws VolumeNames and VolumeEncloses, as contracts. -/
set_option linter.unusedVariables false
set_option linter.unusedSimpArgs false
set_option maxRecDepth 20000
namespace Go.Proofs.Ytkifejklnpddbaa
open Go.Am
attribute [local simp] cells scalar mkv splice under2 under dem dem1 boxC cellC volC intsV eB

theorem nameS_form (l : List Echo) (x y z aper slow : Int) : ∃ (a b c : Int) (s : Int × Int) (r : List (Int × Int)) (e : Int), r.length ≤ 32 ∧
    nameS l x y z aper slow = .tuple [.agg [I a, I b, I c, .slice 0 2 (r.map eB), I s.1, I s.2], I e] := by
  unfold nameS nameR
  split
  · rename_i h1
    have h2 := echoesOk_len h1
    split
    · refine ⟨x, y, z, valueB ⟨l, aper, (slow, slow)⟩ x y z, namedL ⟨l, aper, (slow, slow)⟩ x y z, 0, ?_, rfl⟩
      unfold namedL
      exact Nat.le_trans (List.length_filterMap_le _ _) (Nat.le_trans nears_len h2)
    · exact ⟨0, 0, 0, (0, 0), [], 102, by simp, rfl⟩
  · exact ⟨0, 0, 0, (0, 0), [], 100, by simp, rfl⟩

theorem boxS_form (l : List Echo) (b : Bx) (aper : Int) (slow : Int × Int) (of : Int × Int × Int → Int × Int) : ∃ (c : Bx) (r : List (Int × Int)) (e : Int), r.length ≤ 4096 ∧
    boxR (.slice 0 2 []) l b aper slow of = .tuple [.agg [I c.x, I c.y, I c.z, I c.a, I c.b, I c.c, .slice 0 2 (r.map eB)], I e] := by
  unfold boxR
  split
  · split
    · unfold imageR
      split
      · rename_i h1
        refine ⟨b, (boxCells b).map of, 0, ?_, ?_⟩
        · rw [List.length_map]; exact boxCells_len (boxOk_spec h1).1
        · rw [List.map_map]; rfl
      · exact ⟨⟨0, 0, 0, 0, 0, 0⟩, [], 102, by simp, rfl⟩
    · exact ⟨⟨0, 0, 0, 0, 0, 0⟩, [], 102, by simp, rfl⟩
  · exact ⟨⟨0, 0, 0, 0, 0, 0⟩, [], 100, by simp, rfl⟩

theorem c_VolumeNames {l : List Echo} (hl : sane l) (x y z aper slow : Int) : C Try.prog F.law10_VolumeNames [sE l, .agg (cellC x y z), .agg [I aper, I slow]] (.bool true) := by
  refine C_of mixed chk.law10_VolumeNames (by simp) fun S ok => ?_
  obtain ⟨a, b, c, s, r, e, hr, hN⟩ := nameS_form l x y z aper slow
  refine Tr.seqR rfl (by simp) ?_
  refine Tr.seqC rfl (by simp) (Steps.call rfl rfl (hN ▸ c_NameS hl x y z aper slow) (Steps.fin rfl (by simp) ?_))
  refine Tr.seqC rfl (by simp) (Steps.call rfl rfl (hN ▸ c_Name10 hl x y z aper slow) (Steps.fin rfl (by simp) ?_))
  refine Tr.seqC rfl (by simp) (Steps.call rfl rfl (c_SameNamed a b c a b c s s r r (by omega)) (Steps.run rfl (by simp) ?_))
  refine Steps.gcall rfl rfl rfl rfl (by simp) (fun _ => c_works) (Steps.fin rfl (by simp) (Tr.retX rfl rfl rfl ?_ trivial))
  simp [packR]

theorem c_VolumeEncloses {l : List Echo} (hl : sane l) (b : Bx) (aper : Int) (slow : Int × Int) : C Try.prog F.law10_VolumeEncloses [sE l, .agg [I b.x, I b.y, I b.z, I b.a, I b.b, I b.c, I aper, I slow.1, I slow.2]] (.bool true) := by
  refine C_of mixed chk.law10_VolumeEncloses (by simp) fun S ok => ?_
  obtain ⟨c, r, e, hr, hN⟩ := boxS_form l b aper slow (encOf l aper slow)
  have k1 := c_Enclose hl b aper slow
  have k2 := c_Enclose10 hl b aper slow
  unfold encS at k1 k2
  rw [hN] at k1 k2
  refine Tr.seqR rfl (by simp) ?_
  refine Tr.seqC rfl (by simp) (Steps.call rfl rfl k1 (Steps.fin rfl (by simp) ?_))
  refine Tr.seqC rfl (by simp) (Steps.call rfl rfl k2 (Steps.fin rfl (by simp) ?_))
  refine Tr.seqC rfl (by simp) (Steps.call rfl rfl (c_SameImage c c r r (by omega)) (Steps.run rfl (by simp) ?_))
  refine Steps.gcall rfl rfl rfl rfl (by simp) (fun _ => c_works) (Steps.fin rfl (by simp) (Tr.retX rfl rfl rfl ?_ trivial))
  simp [packR]

end Go.Proofs.Ytkifejklnpddbaa
