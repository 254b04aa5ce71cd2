/- Written by a program of this session for this claim: Lean functions that tell what Go functions of the program return, each with a proof of that over the program's text; no condition beyond those that each theorem states. -/
import Derived.Test.YtmofipnpnepfaaaPMatrixIdentityx0
namespace Go.Proofs.Ytmofipnpnepfaaa.PMatrixIdentity
open Go.RowKit Go.Proofs.YtmofipnpnepfaaaW.PrintWords Go.Proofs.YtmofipnpnepfaaaW.PrintLast Go.Proofs.YtmofipnpnepfaaaW.PrintMore
attribute [local go_sem] max2_int min2_int max_two min_two max_three min_three max_four min_four   -- for this text's walks alone
set_option linter.unusedVariables false
set_option linter.unusedSimpArgs false

/-! ### matrix_Transpose: function 26 -/
def matrix_Transpose.f (a0_0 : Int) (a0_1 : Int) (a0_2 : Int) (a0_3 : Int) (a0_4 : Int) (a0_5 : Int) (a0_6 : Int) (a0_7 : Int) (a0_8 : Int) (a0_9 : Int) (a0_10 : Int) (a0_11 : Int) (a0_12 : Int) (a0_13 : Int) (a0_14 : Int) (a0_15 : Int) : Option (Int × Int × Int × Int × Int × Int × Int × Int × Int × Int × Int × Int × Int × Int × Int × Int) := some (a0_0, a0_4, a0_8, a0_12, a0_1, a0_5, a0_9, a0_13, a0_2, a0_6, a0_10, a0_14, a0_3, a0_7, a0_11, a0_15)
set_option maxHeartbeats 8000000 in
set_option maxRecDepth 100000 in
theorem matrix_Transpose.calls (a0_0 : Int) (a0_1 : Int) (a0_2 : Int) (a0_3 : Int) (a0_4 : Int) (a0_5 : Int) (a0_6 : Int) (a0_7 : Int) (a0_8 : Int) (a0_9 : Int) (a0_10 : Int) (a0_11 : Int) (a0_12 : Int) (a0_13 : Int) (a0_14 : Int) (a0_15 : Int) (r1 : Int) (r2 : Int) (r3 : Int) (r4 : Int) (r5 : Int) (r6 : Int) (r7 : Int) (r8 : Int) (r9 : Int) (r10 : Int) (r11 : Int) (r12 : Int) (r13 : Int) (r14 : Int) (r15 : Int) (r16 : Int) (w : World) (h : matrix_Transpose.f a0_0 a0_1 a0_2 a0_3 a0_4 a0_5 a0_6 a0_7 a0_8 a0_9 a0_10 a0_11 a0_12 a0_13 a0_14 a0_15 = some (r1, r2, r3, r4, r5, r6, r7, r8, r9, r10, r11, r12, r13, r14, r15, r16)) :
    Calls Try.prog 26 #[.agg #[.int .i64 a0_0, .int .i64 a0_1, .int .i64 a0_2, .int .i64 a0_3, .int .i64 a0_4, .int .i64 a0_5, .int .i64 a0_6, .int .i64 a0_7, .int .i64 a0_8, .int .i64 a0_9, .int .i64 a0_10, .int .i64 a0_11, .int .i64 a0_12, .int .i64 a0_13, .int .i64 a0_14, .int .i64 a0_15]] w fun e w' => e = .returned (.agg #[.int .i64 r1, .int .i64 r2, .int .i64 r3, .int .i64 r4, .int .i64 r5, .int .i64 r6, .int .i64 r7, .int .i64 r8, .int .i64 r9, .int .i64 r10, .int .i64 r11, .int .i64 r12, .int .i64 r13, .int .i64 r14, .int .i64 r15, .int .i64 r16]) ∧ Below w.heap.size w w' := by
  unfold matrix_Transpose.f at h
  simp only [Option.some.injEq, Prod.mk.injEq] at h
  obtain ⟨rfl, rfl, rfl, rfl, rfl, rfl, rfl, rfl, rfl, rfl, rfl, rfl, rfl, rfl, rfl, rfl⟩ := h
  have hu23 := Try.underlying23
  go_enter Try.func26, Try.ntmps26
  go_wp2
  generalize hg2 : w.heap.size + 1 + 1 = g2
  generalize hg1 : w.heap.size + 1 = g1
  have l1 : w.heap.size < g1 := by omega
  have l2 : g1 < g2 := by omega
  refine wp_loop_rounds 17 ?_
  refine Mat.gen_ (Pr := fun W => W.heap[w.heap.size]? = some (.cells #[.int .i64 a0_0, .int .i64 a0_1, .int .i64 a0_2, .int .i64 a0_3, .int .i64 a0_4, .int .i64 a0_5, .int .i64 a0_6, .int .i64 a0_7, .int .i64 a0_8, .int .i64 a0_9, .int .i64 a0_10, .int .i64 a0_11, .int .i64 a0_12, .int .i64 a0_13, .int .i64 a0_14, .int .i64 a0_15] 23 (0, 0)) ∧ W.heap[g1]? = some (.cells #[.int .i64 0, .int .i64 0, .int .i64 0, .int .i64 0, .int .i64 0, .int .i64 0, .int .i64 0, .int .i64 0, .int .i64 0, .int .i64 0, .int .i64 0, .int .i64 0, .int .i64 0, .int .i64 0, .int .i64 0, .int .i64 0] 23 (0, 0)) ∧ W.heap[g2]? = some (.cells #[.int .i64 0, .int .i64 0, .int .i64 0, .int .i64 0, .int .i64 0, .int .i64 0, .int .i64 0, .int .i64 0, .int .i64 0, .int .i64 0, .int .i64 0, .int .i64 0, .int .i64 0, .int .i64 0, .int .i64 0, .int .i64 0] 23 (0, 0)) ∧ Below w.heap.size w W) (G := fun W => Code.rounds Try.prog _ _ _ _ W) ⟨blk_alloc (blk_alloc (MapKept.heap_alloc w _).1 _) _, blk_alloc (by rw [← hg1]; have := (MapKept.heap_alloc (w.alloc (.cells #[.int .i64 a0_0, .int .i64 a0_1, .int .i64 a0_2, .int .i64 a0_3, .int .i64 a0_4, .int .i64 a0_5, .int .i64 a0_6, .int .i64 a0_7, .int .i64 a0_8, .int .i64 a0_9, .int .i64 a0_10, .int .i64 a0_11, .int .i64 a0_12, .int .i64 a0_13, .int .i64 a0_14, .int .i64 a0_15] 23)) (.cells #[.int .i64 0, .int .i64 0, .int .i64 0, .int .i64 0, .int .i64 0, .int .i64 0, .int .i64 0, .int .i64 0, .int .i64 0, .int .i64 0, .int .i64 0, .int .i64 0, .int .i64 0, .int .i64 0, .int .i64 0, .int .i64 0] 23)).1; simpa using this) _, (by rw [← hg2]; have := (MapKept.heap_alloc ((w.alloc (.cells #[.int .i64 a0_0, .int .i64 a0_1, .int .i64 a0_2, .int .i64 a0_3, .int .i64 a0_4, .int .i64 a0_5, .int .i64 a0_6, .int .i64 a0_7, .int .i64 a0_8, .int .i64 a0_9, .int .i64 a0_10, .int .i64 a0_11, .int .i64 a0_12, .int .i64 a0_13, .int .i64 a0_14, .int .i64 a0_15] 23)).alloc (.cells #[.int .i64 0, .int .i64 0, .int .i64 0, .int .i64 0, .int .i64 0, .int .i64 0, .int .i64 0, .int .i64 0, .int .i64 0, .int .i64 0, .int .i64 0, .int .i64 0, .int .i64 0, .int .i64 0, .int .i64 0, .int .i64 0] 23)) (.cells #[.int .i64 0, .int .i64 0, .int .i64 0, .int .i64 0, .int .i64 0, .int .i64 0, .int .i64 0, .int .i64 0, .int .i64 0, .int .i64 0, .int .i64 0, .int .i64 0, .int .i64 0, .int .i64 0, .int .i64 0, .int .i64 0] 23)).1; simpa using this), below_alloc (below_alloc ((Below.refl w.heap.size w).alloc (Nat.le_refl _) _) _) _⟩ ?_
  rintro W1 ⟨hA, hR, hO, hB⟩
  as_aux_lemma =>
  rw [rounds_succ]
  have cm : W1.cell? ⟨w.heap.size, 0, none⟩ = some (.int .i64 a0_0) := (blk_cell hA 0).trans rfl
  have co : W1.cell? ⟨g2, 0, none⟩ = some (.int .i64 0) := (blk_cell hO 0).trans rfl
  have fo : W1.frozen? ⟨g2, 0, none⟩ = false := blk_frozen hO 0
  go_wp2
  refine Mat.gen_ (Pr := fun W => W.heap[w.heap.size]? = some (.cells #[.int .i64 a0_0, .int .i64 a0_1, .int .i64 a0_2, .int .i64 a0_3, .int .i64 a0_4, .int .i64 a0_5, .int .i64 a0_6, .int .i64 a0_7, .int .i64 a0_8, .int .i64 a0_9, .int .i64 a0_10, .int .i64 a0_11, .int .i64 a0_12, .int .i64 a0_13, .int .i64 a0_14, .int .i64 a0_15] 23 (0, 0)) ∧ W.heap[g1]? = some (.cells #[.int .i64 0, .int .i64 0, .int .i64 0, .int .i64 0, .int .i64 0, .int .i64 0, .int .i64 0, .int .i64 0, .int .i64 0, .int .i64 0, .int .i64 0, .int .i64 0, .int .i64 0, .int .i64 0, .int .i64 0, .int .i64 0] 23 (0, 0)) ∧ W.heap[g2]? = some (.cells #[.int .i64 a0_0, .int .i64 0, .int .i64 0, .int .i64 0, .int .i64 0, .int .i64 0, .int .i64 0, .int .i64 0, .int .i64 0, .int .i64 0, .int .i64 0, .int .i64 0, .int .i64 0, .int .i64 0, .int .i64 0, .int .i64 0] 23 (0, 0)) ∧ Below w.heap.size w W) (G := fun W => Code.rounds Try.prog _ _ _ _ W) ⟨blk_far hA (show w.heap.size ≠ g2 by omega) _, blk_far hR (show g1 ≠ g2 by omega) _, blk_put (cs := #[.int .i64 0, .int .i64 0, .int .i64 0, .int .i64 0, .int .i64 0, .int .i64 0, .int .i64 0, .int .i64 0, .int .i64 0, .int .i64 0, .int .i64 0, .int .i64 0, .int .i64 0, .int .i64 0, .int .i64 0, .int .i64 0]) hO 0 _ rfl, below_set hB (show w.heap.size ≤ g2 by omega)⟩ ?_
  clear hA hR hO hB cm co fo
  rintro W2 ⟨hA, hR, hO, hB⟩
  as_aux_lemma =>
  rw [rounds_succ]
  have cm : W2.cell? ⟨w.heap.size, 4, none⟩ = some (.int .i64 a0_4) := (blk_cell hA 4).trans rfl
  have co : W2.cell? ⟨g2, 1, none⟩ = some (.int .i64 0) := (blk_cell hO 1).trans rfl
  have fo : W2.frozen? ⟨g2, 1, none⟩ = false := blk_frozen hO 1
  go_wp2
  refine Mat.gen_ (Pr := fun W => W.heap[w.heap.size]? = some (.cells #[.int .i64 a0_0, .int .i64 a0_1, .int .i64 a0_2, .int .i64 a0_3, .int .i64 a0_4, .int .i64 a0_5, .int .i64 a0_6, .int .i64 a0_7, .int .i64 a0_8, .int .i64 a0_9, .int .i64 a0_10, .int .i64 a0_11, .int .i64 a0_12, .int .i64 a0_13, .int .i64 a0_14, .int .i64 a0_15] 23 (0, 0)) ∧ W.heap[g1]? = some (.cells #[.int .i64 0, .int .i64 0, .int .i64 0, .int .i64 0, .int .i64 0, .int .i64 0, .int .i64 0, .int .i64 0, .int .i64 0, .int .i64 0, .int .i64 0, .int .i64 0, .int .i64 0, .int .i64 0, .int .i64 0, .int .i64 0] 23 (0, 0)) ∧ W.heap[g2]? = some (.cells #[.int .i64 a0_0, .int .i64 a0_4, .int .i64 0, .int .i64 0, .int .i64 0, .int .i64 0, .int .i64 0, .int .i64 0, .int .i64 0, .int .i64 0, .int .i64 0, .int .i64 0, .int .i64 0, .int .i64 0, .int .i64 0, .int .i64 0] 23 (0, 0)) ∧ Below w.heap.size w W) (G := fun W => Code.rounds Try.prog _ _ _ _ W) ⟨blk_far hA (show w.heap.size ≠ g2 by omega) _, blk_far hR (show g1 ≠ g2 by omega) _, blk_put (cs := #[.int .i64 a0_0, .int .i64 0, .int .i64 0, .int .i64 0, .int .i64 0, .int .i64 0, .int .i64 0, .int .i64 0, .int .i64 0, .int .i64 0, .int .i64 0, .int .i64 0, .int .i64 0, .int .i64 0, .int .i64 0, .int .i64 0]) hO 1 _ rfl, below_set hB (show w.heap.size ≤ g2 by omega)⟩ ?_
  clear hA hR hO hB cm co fo
  rintro W3 ⟨hA, hR, hO, hB⟩
  as_aux_lemma =>
  rw [rounds_succ]
  have cm : W3.cell? ⟨w.heap.size, 8, none⟩ = some (.int .i64 a0_8) := (blk_cell hA 8).trans rfl
  have co : W3.cell? ⟨g2, 2, none⟩ = some (.int .i64 0) := (blk_cell hO 2).trans rfl
  have fo : W3.frozen? ⟨g2, 2, none⟩ = false := blk_frozen hO 2
  go_wp2
  refine Mat.gen_ (Pr := fun W => W.heap[w.heap.size]? = some (.cells #[.int .i64 a0_0, .int .i64 a0_1, .int .i64 a0_2, .int .i64 a0_3, .int .i64 a0_4, .int .i64 a0_5, .int .i64 a0_6, .int .i64 a0_7, .int .i64 a0_8, .int .i64 a0_9, .int .i64 a0_10, .int .i64 a0_11, .int .i64 a0_12, .int .i64 a0_13, .int .i64 a0_14, .int .i64 a0_15] 23 (0, 0)) ∧ W.heap[g1]? = some (.cells #[.int .i64 0, .int .i64 0, .int .i64 0, .int .i64 0, .int .i64 0, .int .i64 0, .int .i64 0, .int .i64 0, .int .i64 0, .int .i64 0, .int .i64 0, .int .i64 0, .int .i64 0, .int .i64 0, .int .i64 0, .int .i64 0] 23 (0, 0)) ∧ W.heap[g2]? = some (.cells #[.int .i64 a0_0, .int .i64 a0_4, .int .i64 a0_8, .int .i64 0, .int .i64 0, .int .i64 0, .int .i64 0, .int .i64 0, .int .i64 0, .int .i64 0, .int .i64 0, .int .i64 0, .int .i64 0, .int .i64 0, .int .i64 0, .int .i64 0] 23 (0, 0)) ∧ Below w.heap.size w W) (G := fun W => Code.rounds Try.prog _ _ _ _ W) ⟨blk_far hA (show w.heap.size ≠ g2 by omega) _, blk_far hR (show g1 ≠ g2 by omega) _, blk_put (cs := #[.int .i64 a0_0, .int .i64 a0_4, .int .i64 0, .int .i64 0, .int .i64 0, .int .i64 0, .int .i64 0, .int .i64 0, .int .i64 0, .int .i64 0, .int .i64 0, .int .i64 0, .int .i64 0, .int .i64 0, .int .i64 0, .int .i64 0]) hO 2 _ rfl, below_set hB (show w.heap.size ≤ g2 by omega)⟩ ?_
  clear hA hR hO hB cm co fo
  rintro W4 ⟨hA, hR, hO, hB⟩
  as_aux_lemma =>
  rw [rounds_succ]
  have cm : W4.cell? ⟨w.heap.size, 12, none⟩ = some (.int .i64 a0_12) := (blk_cell hA 12).trans rfl
  have co : W4.cell? ⟨g2, 3, none⟩ = some (.int .i64 0) := (blk_cell hO 3).trans rfl
  have fo : W4.frozen? ⟨g2, 3, none⟩ = false := blk_frozen hO 3
  go_wp2
  refine Mat.gen_ (Pr := fun W => W.heap[w.heap.size]? = some (.cells #[.int .i64 a0_0, .int .i64 a0_1, .int .i64 a0_2, .int .i64 a0_3, .int .i64 a0_4, .int .i64 a0_5, .int .i64 a0_6, .int .i64 a0_7, .int .i64 a0_8, .int .i64 a0_9, .int .i64 a0_10, .int .i64 a0_11, .int .i64 a0_12, .int .i64 a0_13, .int .i64 a0_14, .int .i64 a0_15] 23 (0, 0)) ∧ W.heap[g1]? = some (.cells #[.int .i64 0, .int .i64 0, .int .i64 0, .int .i64 0, .int .i64 0, .int .i64 0, .int .i64 0, .int .i64 0, .int .i64 0, .int .i64 0, .int .i64 0, .int .i64 0, .int .i64 0, .int .i64 0, .int .i64 0, .int .i64 0] 23 (0, 0)) ∧ W.heap[g2]? = some (.cells #[.int .i64 a0_0, .int .i64 a0_4, .int .i64 a0_8, .int .i64 a0_12, .int .i64 0, .int .i64 0, .int .i64 0, .int .i64 0, .int .i64 0, .int .i64 0, .int .i64 0, .int .i64 0, .int .i64 0, .int .i64 0, .int .i64 0, .int .i64 0] 23 (0, 0)) ∧ Below w.heap.size w W) (G := fun W => Code.rounds Try.prog _ _ _ _ W) ⟨blk_far hA (show w.heap.size ≠ g2 by omega) _, blk_far hR (show g1 ≠ g2 by omega) _, blk_put (cs := #[.int .i64 a0_0, .int .i64 a0_4, .int .i64 a0_8, .int .i64 0, .int .i64 0, .int .i64 0, .int .i64 0, .int .i64 0, .int .i64 0, .int .i64 0, .int .i64 0, .int .i64 0, .int .i64 0, .int .i64 0, .int .i64 0, .int .i64 0]) hO 3 _ rfl, below_set hB (show w.heap.size ≤ g2 by omega)⟩ ?_
  clear hA hR hO hB cm co fo
  rintro W5 ⟨hA, hR, hO, hB⟩
  as_aux_lemma =>
  rw [rounds_succ]
  have cm : W5.cell? ⟨w.heap.size, 1, none⟩ = some (.int .i64 a0_1) := (blk_cell hA 1).trans rfl
  have co : W5.cell? ⟨g2, 4, none⟩ = some (.int .i64 0) := (blk_cell hO 4).trans rfl
  have fo : W5.frozen? ⟨g2, 4, none⟩ = false := blk_frozen hO 4
  go_wp2
  refine Mat.gen_ (Pr := fun W => W.heap[w.heap.size]? = some (.cells #[.int .i64 a0_0, .int .i64 a0_1, .int .i64 a0_2, .int .i64 a0_3, .int .i64 a0_4, .int .i64 a0_5, .int .i64 a0_6, .int .i64 a0_7, .int .i64 a0_8, .int .i64 a0_9, .int .i64 a0_10, .int .i64 a0_11, .int .i64 a0_12, .int .i64 a0_13, .int .i64 a0_14, .int .i64 a0_15] 23 (0, 0)) ∧ W.heap[g1]? = some (.cells #[.int .i64 0, .int .i64 0, .int .i64 0, .int .i64 0, .int .i64 0, .int .i64 0, .int .i64 0, .int .i64 0, .int .i64 0, .int .i64 0, .int .i64 0, .int .i64 0, .int .i64 0, .int .i64 0, .int .i64 0, .int .i64 0] 23 (0, 0)) ∧ W.heap[g2]? = some (.cells #[.int .i64 a0_0, .int .i64 a0_4, .int .i64 a0_8, .int .i64 a0_12, .int .i64 a0_1, .int .i64 0, .int .i64 0, .int .i64 0, .int .i64 0, .int .i64 0, .int .i64 0, .int .i64 0, .int .i64 0, .int .i64 0, .int .i64 0, .int .i64 0] 23 (0, 0)) ∧ Below w.heap.size w W) (G := fun W => Code.rounds Try.prog _ _ _ _ W) ⟨blk_far hA (show w.heap.size ≠ g2 by omega) _, blk_far hR (show g1 ≠ g2 by omega) _, blk_put (cs := #[.int .i64 a0_0, .int .i64 a0_4, .int .i64 a0_8, .int .i64 a0_12, .int .i64 0, .int .i64 0, .int .i64 0, .int .i64 0, .int .i64 0, .int .i64 0, .int .i64 0, .int .i64 0, .int .i64 0, .int .i64 0, .int .i64 0, .int .i64 0]) hO 4 _ rfl, below_set hB (show w.heap.size ≤ g2 by omega)⟩ ?_
  clear hA hR hO hB cm co fo
  rintro W6 ⟨hA, hR, hO, hB⟩
  as_aux_lemma =>
  rw [rounds_succ]
  have cm : W6.cell? ⟨w.heap.size, 5, none⟩ = some (.int .i64 a0_5) := (blk_cell hA 5).trans rfl
  have co : W6.cell? ⟨g2, 5, none⟩ = some (.int .i64 0) := (blk_cell hO 5).trans rfl
  have fo : W6.frozen? ⟨g2, 5, none⟩ = false := blk_frozen hO 5
  go_wp2
  refine Mat.gen_ (Pr := fun W => W.heap[w.heap.size]? = some (.cells #[.int .i64 a0_0, .int .i64 a0_1, .int .i64 a0_2, .int .i64 a0_3, .int .i64 a0_4, .int .i64 a0_5, .int .i64 a0_6, .int .i64 a0_7, .int .i64 a0_8, .int .i64 a0_9, .int .i64 a0_10, .int .i64 a0_11, .int .i64 a0_12, .int .i64 a0_13, .int .i64 a0_14, .int .i64 a0_15] 23 (0, 0)) ∧ W.heap[g1]? = some (.cells #[.int .i64 0, .int .i64 0, .int .i64 0, .int .i64 0, .int .i64 0, .int .i64 0, .int .i64 0, .int .i64 0, .int .i64 0, .int .i64 0, .int .i64 0, .int .i64 0, .int .i64 0, .int .i64 0, .int .i64 0, .int .i64 0] 23 (0, 0)) ∧ W.heap[g2]? = some (.cells #[.int .i64 a0_0, .int .i64 a0_4, .int .i64 a0_8, .int .i64 a0_12, .int .i64 a0_1, .int .i64 a0_5, .int .i64 0, .int .i64 0, .int .i64 0, .int .i64 0, .int .i64 0, .int .i64 0, .int .i64 0, .int .i64 0, .int .i64 0, .int .i64 0] 23 (0, 0)) ∧ Below w.heap.size w W) (G := fun W => Code.rounds Try.prog _ _ _ _ W) ⟨blk_far hA (show w.heap.size ≠ g2 by omega) _, blk_far hR (show g1 ≠ g2 by omega) _, blk_put (cs := #[.int .i64 a0_0, .int .i64 a0_4, .int .i64 a0_8, .int .i64 a0_12, .int .i64 a0_1, .int .i64 0, .int .i64 0, .int .i64 0, .int .i64 0, .int .i64 0, .int .i64 0, .int .i64 0, .int .i64 0, .int .i64 0, .int .i64 0, .int .i64 0]) hO 5 _ rfl, below_set hB (show w.heap.size ≤ g2 by omega)⟩ ?_
  clear hA hR hO hB cm co fo
  rintro W7 ⟨hA, hR, hO, hB⟩
  as_aux_lemma =>
  rw [rounds_succ]
  have cm : W7.cell? ⟨w.heap.size, 9, none⟩ = some (.int .i64 a0_9) := (blk_cell hA 9).trans rfl
  have co : W7.cell? ⟨g2, 6, none⟩ = some (.int .i64 0) := (blk_cell hO 6).trans rfl
  have fo : W7.frozen? ⟨g2, 6, none⟩ = false := blk_frozen hO 6
  go_wp2
  refine Mat.gen_ (Pr := fun W => W.heap[w.heap.size]? = some (.cells #[.int .i64 a0_0, .int .i64 a0_1, .int .i64 a0_2, .int .i64 a0_3, .int .i64 a0_4, .int .i64 a0_5, .int .i64 a0_6, .int .i64 a0_7, .int .i64 a0_8, .int .i64 a0_9, .int .i64 a0_10, .int .i64 a0_11, .int .i64 a0_12, .int .i64 a0_13, .int .i64 a0_14, .int .i64 a0_15] 23 (0, 0)) ∧ W.heap[g1]? = some (.cells #[.int .i64 0, .int .i64 0, .int .i64 0, .int .i64 0, .int .i64 0, .int .i64 0, .int .i64 0, .int .i64 0, .int .i64 0, .int .i64 0, .int .i64 0, .int .i64 0, .int .i64 0, .int .i64 0, .int .i64 0, .int .i64 0] 23 (0, 0)) ∧ W.heap[g2]? = some (.cells #[.int .i64 a0_0, .int .i64 a0_4, .int .i64 a0_8, .int .i64 a0_12, .int .i64 a0_1, .int .i64 a0_5, .int .i64 a0_9, .int .i64 0, .int .i64 0, .int .i64 0, .int .i64 0, .int .i64 0, .int .i64 0, .int .i64 0, .int .i64 0, .int .i64 0] 23 (0, 0)) ∧ Below w.heap.size w W) (G := fun W => Code.rounds Try.prog _ _ _ _ W) ⟨blk_far hA (show w.heap.size ≠ g2 by omega) _, blk_far hR (show g1 ≠ g2 by omega) _, blk_put (cs := #[.int .i64 a0_0, .int .i64 a0_4, .int .i64 a0_8, .int .i64 a0_12, .int .i64 a0_1, .int .i64 a0_5, .int .i64 0, .int .i64 0, .int .i64 0, .int .i64 0, .int .i64 0, .int .i64 0, .int .i64 0, .int .i64 0, .int .i64 0, .int .i64 0]) hO 6 _ rfl, below_set hB (show w.heap.size ≤ g2 by omega)⟩ ?_
  clear hA hR hO hB cm co fo
  rintro W8 ⟨hA, hR, hO, hB⟩
  as_aux_lemma =>
  rw [rounds_succ]
  have cm : W8.cell? ⟨w.heap.size, 13, none⟩ = some (.int .i64 a0_13) := (blk_cell hA 13).trans rfl
  have co : W8.cell? ⟨g2, 7, none⟩ = some (.int .i64 0) := (blk_cell hO 7).trans rfl
  have fo : W8.frozen? ⟨g2, 7, none⟩ = false := blk_frozen hO 7
  go_wp2
  refine Mat.gen_ (Pr := fun W => W.heap[w.heap.size]? = some (.cells #[.int .i64 a0_0, .int .i64 a0_1, .int .i64 a0_2, .int .i64 a0_3, .int .i64 a0_4, .int .i64 a0_5, .int .i64 a0_6, .int .i64 a0_7, .int .i64 a0_8, .int .i64 a0_9, .int .i64 a0_10, .int .i64 a0_11, .int .i64 a0_12, .int .i64 a0_13, .int .i64 a0_14, .int .i64 a0_15] 23 (0, 0)) ∧ W.heap[g1]? = some (.cells #[.int .i64 0, .int .i64 0, .int .i64 0, .int .i64 0, .int .i64 0, .int .i64 0, .int .i64 0, .int .i64 0, .int .i64 0, .int .i64 0, .int .i64 0, .int .i64 0, .int .i64 0, .int .i64 0, .int .i64 0, .int .i64 0] 23 (0, 0)) ∧ W.heap[g2]? = some (.cells #[.int .i64 a0_0, .int .i64 a0_4, .int .i64 a0_8, .int .i64 a0_12, .int .i64 a0_1, .int .i64 a0_5, .int .i64 a0_9, .int .i64 a0_13, .int .i64 0, .int .i64 0, .int .i64 0, .int .i64 0, .int .i64 0, .int .i64 0, .int .i64 0, .int .i64 0] 23 (0, 0)) ∧ Below w.heap.size w W) (G := fun W => Code.rounds Try.prog _ _ _ _ W) ⟨blk_far hA (show w.heap.size ≠ g2 by omega) _, blk_far hR (show g1 ≠ g2 by omega) _, blk_put (cs := #[.int .i64 a0_0, .int .i64 a0_4, .int .i64 a0_8, .int .i64 a0_12, .int .i64 a0_1, .int .i64 a0_5, .int .i64 a0_9, .int .i64 0, .int .i64 0, .int .i64 0, .int .i64 0, .int .i64 0, .int .i64 0, .int .i64 0, .int .i64 0, .int .i64 0]) hO 7 _ rfl, below_set hB (show w.heap.size ≤ g2 by omega)⟩ ?_
  clear hA hR hO hB cm co fo
  rintro W9 ⟨hA, hR, hO, hB⟩
  as_aux_lemma =>
  rw [rounds_succ]
  have cm : W9.cell? ⟨w.heap.size, 2, none⟩ = some (.int .i64 a0_2) := (blk_cell hA 2).trans rfl
  have co : W9.cell? ⟨g2, 8, none⟩ = some (.int .i64 0) := (blk_cell hO 8).trans rfl
  have fo : W9.frozen? ⟨g2, 8, none⟩ = false := blk_frozen hO 8
  go_wp2
  refine Mat.gen_ (Pr := fun W => W.heap[w.heap.size]? = some (.cells #[.int .i64 a0_0, .int .i64 a0_1, .int .i64 a0_2, .int .i64 a0_3, .int .i64 a0_4, .int .i64 a0_5, .int .i64 a0_6, .int .i64 a0_7, .int .i64 a0_8, .int .i64 a0_9, .int .i64 a0_10, .int .i64 a0_11, .int .i64 a0_12, .int .i64 a0_13, .int .i64 a0_14, .int .i64 a0_15] 23 (0, 0)) ∧ W.heap[g1]? = some (.cells #[.int .i64 0, .int .i64 0, .int .i64 0, .int .i64 0, .int .i64 0, .int .i64 0, .int .i64 0, .int .i64 0, .int .i64 0, .int .i64 0, .int .i64 0, .int .i64 0, .int .i64 0, .int .i64 0, .int .i64 0, .int .i64 0] 23 (0, 0)) ∧ W.heap[g2]? = some (.cells #[.int .i64 a0_0, .int .i64 a0_4, .int .i64 a0_8, .int .i64 a0_12, .int .i64 a0_1, .int .i64 a0_5, .int .i64 a0_9, .int .i64 a0_13, .int .i64 a0_2, .int .i64 0, .int .i64 0, .int .i64 0, .int .i64 0, .int .i64 0, .int .i64 0, .int .i64 0] 23 (0, 0)) ∧ Below w.heap.size w W) (G := fun W => Code.rounds Try.prog _ _ _ _ W) ⟨blk_far hA (show w.heap.size ≠ g2 by omega) _, blk_far hR (show g1 ≠ g2 by omega) _, blk_put (cs := #[.int .i64 a0_0, .int .i64 a0_4, .int .i64 a0_8, .int .i64 a0_12, .int .i64 a0_1, .int .i64 a0_5, .int .i64 a0_9, .int .i64 a0_13, .int .i64 0, .int .i64 0, .int .i64 0, .int .i64 0, .int .i64 0, .int .i64 0, .int .i64 0, .int .i64 0]) hO 8 _ rfl, below_set hB (show w.heap.size ≤ g2 by omega)⟩ ?_
  clear hA hR hO hB cm co fo
  rintro W10 ⟨hA, hR, hO, hB⟩
  as_aux_lemma =>
  rw [rounds_succ]
  have cm : W10.cell? ⟨w.heap.size, 6, none⟩ = some (.int .i64 a0_6) := (blk_cell hA 6).trans rfl
  have co : W10.cell? ⟨g2, 9, none⟩ = some (.int .i64 0) := (blk_cell hO 9).trans rfl
  have fo : W10.frozen? ⟨g2, 9, none⟩ = false := blk_frozen hO 9
  go_wp2
  refine Mat.gen_ (Pr := fun W => W.heap[w.heap.size]? = some (.cells #[.int .i64 a0_0, .int .i64 a0_1, .int .i64 a0_2, .int .i64 a0_3, .int .i64 a0_4, .int .i64 a0_5, .int .i64 a0_6, .int .i64 a0_7, .int .i64 a0_8, .int .i64 a0_9, .int .i64 a0_10, .int .i64 a0_11, .int .i64 a0_12, .int .i64 a0_13, .int .i64 a0_14, .int .i64 a0_15] 23 (0, 0)) ∧ W.heap[g1]? = some (.cells #[.int .i64 0, .int .i64 0, .int .i64 0, .int .i64 0, .int .i64 0, .int .i64 0, .int .i64 0, .int .i64 0, .int .i64 0, .int .i64 0, .int .i64 0, .int .i64 0, .int .i64 0, .int .i64 0, .int .i64 0, .int .i64 0] 23 (0, 0)) ∧ W.heap[g2]? = some (.cells #[.int .i64 a0_0, .int .i64 a0_4, .int .i64 a0_8, .int .i64 a0_12, .int .i64 a0_1, .int .i64 a0_5, .int .i64 a0_9, .int .i64 a0_13, .int .i64 a0_2, .int .i64 a0_6, .int .i64 0, .int .i64 0, .int .i64 0, .int .i64 0, .int .i64 0, .int .i64 0] 23 (0, 0)) ∧ Below w.heap.size w W) (G := fun W => Code.rounds Try.prog _ _ _ _ W) ⟨blk_far hA (show w.heap.size ≠ g2 by omega) _, blk_far hR (show g1 ≠ g2 by omega) _, blk_put (cs := #[.int .i64 a0_0, .int .i64 a0_4, .int .i64 a0_8, .int .i64 a0_12, .int .i64 a0_1, .int .i64 a0_5, .int .i64 a0_9, .int .i64 a0_13, .int .i64 a0_2, .int .i64 0, .int .i64 0, .int .i64 0, .int .i64 0, .int .i64 0, .int .i64 0, .int .i64 0]) hO 9 _ rfl, below_set hB (show w.heap.size ≤ g2 by omega)⟩ ?_
  clear hA hR hO hB cm co fo
  rintro W11 ⟨hA, hR, hO, hB⟩
  as_aux_lemma =>
  rw [rounds_succ]
  have cm : W11.cell? ⟨w.heap.size, 10, none⟩ = some (.int .i64 a0_10) := (blk_cell hA 10).trans rfl
  have co : W11.cell? ⟨g2, 10, none⟩ = some (.int .i64 0) := (blk_cell hO 10).trans rfl
  have fo : W11.frozen? ⟨g2, 10, none⟩ = false := blk_frozen hO 10
  go_wp2
  refine Mat.gen_ (Pr := fun W => W.heap[w.heap.size]? = some (.cells #[.int .i64 a0_0, .int .i64 a0_1, .int .i64 a0_2, .int .i64 a0_3, .int .i64 a0_4, .int .i64 a0_5, .int .i64 a0_6, .int .i64 a0_7, .int .i64 a0_8, .int .i64 a0_9, .int .i64 a0_10, .int .i64 a0_11, .int .i64 a0_12, .int .i64 a0_13, .int .i64 a0_14, .int .i64 a0_15] 23 (0, 0)) ∧ W.heap[g1]? = some (.cells #[.int .i64 0, .int .i64 0, .int .i64 0, .int .i64 0, .int .i64 0, .int .i64 0, .int .i64 0, .int .i64 0, .int .i64 0, .int .i64 0, .int .i64 0, .int .i64 0, .int .i64 0, .int .i64 0, .int .i64 0, .int .i64 0] 23 (0, 0)) ∧ W.heap[g2]? = some (.cells #[.int .i64 a0_0, .int .i64 a0_4, .int .i64 a0_8, .int .i64 a0_12, .int .i64 a0_1, .int .i64 a0_5, .int .i64 a0_9, .int .i64 a0_13, .int .i64 a0_2, .int .i64 a0_6, .int .i64 a0_10, .int .i64 0, .int .i64 0, .int .i64 0, .int .i64 0, .int .i64 0] 23 (0, 0)) ∧ Below w.heap.size w W) (G := fun W => Code.rounds Try.prog _ _ _ _ W) ⟨blk_far hA (show w.heap.size ≠ g2 by omega) _, blk_far hR (show g1 ≠ g2 by omega) _, blk_put (cs := #[.int .i64 a0_0, .int .i64 a0_4, .int .i64 a0_8, .int .i64 a0_12, .int .i64 a0_1, .int .i64 a0_5, .int .i64 a0_9, .int .i64 a0_13, .int .i64 a0_2, .int .i64 a0_6, .int .i64 0, .int .i64 0, .int .i64 0, .int .i64 0, .int .i64 0, .int .i64 0]) hO 10 _ rfl, below_set hB (show w.heap.size ≤ g2 by omega)⟩ ?_
  clear hA hR hO hB cm co fo
  rintro W12 ⟨hA, hR, hO, hB⟩
  as_aux_lemma =>
  rw [rounds_succ]
  have cm : W12.cell? ⟨w.heap.size, 14, none⟩ = some (.int .i64 a0_14) := (blk_cell hA 14).trans rfl
  have co : W12.cell? ⟨g2, 11, none⟩ = some (.int .i64 0) := (blk_cell hO 11).trans rfl
  have fo : W12.frozen? ⟨g2, 11, none⟩ = false := blk_frozen hO 11
  go_wp2
  refine Mat.gen_ (Pr := fun W => W.heap[w.heap.size]? = some (.cells #[.int .i64 a0_0, .int .i64 a0_1, .int .i64 a0_2, .int .i64 a0_3, .int .i64 a0_4, .int .i64 a0_5, .int .i64 a0_6, .int .i64 a0_7, .int .i64 a0_8, .int .i64 a0_9, .int .i64 a0_10, .int .i64 a0_11, .int .i64 a0_12, .int .i64 a0_13, .int .i64 a0_14, .int .i64 a0_15] 23 (0, 0)) ∧ W.heap[g1]? = some (.cells #[.int .i64 0, .int .i64 0, .int .i64 0, .int .i64 0, .int .i64 0, .int .i64 0, .int .i64 0, .int .i64 0, .int .i64 0, .int .i64 0, .int .i64 0, .int .i64 0, .int .i64 0, .int .i64 0, .int .i64 0, .int .i64 0] 23 (0, 0)) ∧ W.heap[g2]? = some (.cells #[.int .i64 a0_0, .int .i64 a0_4, .int .i64 a0_8, .int .i64 a0_12, .int .i64 a0_1, .int .i64 a0_5, .int .i64 a0_9, .int .i64 a0_13, .int .i64 a0_2, .int .i64 a0_6, .int .i64 a0_10, .int .i64 a0_14, .int .i64 0, .int .i64 0, .int .i64 0, .int .i64 0] 23 (0, 0)) ∧ Below w.heap.size w W) (G := fun W => Code.rounds Try.prog _ _ _ _ W) ⟨blk_far hA (show w.heap.size ≠ g2 by omega) _, blk_far hR (show g1 ≠ g2 by omega) _, blk_put (cs := #[.int .i64 a0_0, .int .i64 a0_4, .int .i64 a0_8, .int .i64 a0_12, .int .i64 a0_1, .int .i64 a0_5, .int .i64 a0_9, .int .i64 a0_13, .int .i64 a0_2, .int .i64 a0_6, .int .i64 a0_10, .int .i64 0, .int .i64 0, .int .i64 0, .int .i64 0, .int .i64 0]) hO 11 _ rfl, below_set hB (show w.heap.size ≤ g2 by omega)⟩ ?_
  clear hA hR hO hB cm co fo
  rintro W13 ⟨hA, hR, hO, hB⟩
  as_aux_lemma =>
  rw [rounds_succ]
  have cm : W13.cell? ⟨w.heap.size, 3, none⟩ = some (.int .i64 a0_3) := (blk_cell hA 3).trans rfl
  have co : W13.cell? ⟨g2, 12, none⟩ = some (.int .i64 0) := (blk_cell hO 12).trans rfl
  have fo : W13.frozen? ⟨g2, 12, none⟩ = false := blk_frozen hO 12
  go_wp2
  refine Mat.gen_ (Pr := fun W => W.heap[w.heap.size]? = some (.cells #[.int .i64 a0_0, .int .i64 a0_1, .int .i64 a0_2, .int .i64 a0_3, .int .i64 a0_4, .int .i64 a0_5, .int .i64 a0_6, .int .i64 a0_7, .int .i64 a0_8, .int .i64 a0_9, .int .i64 a0_10, .int .i64 a0_11, .int .i64 a0_12, .int .i64 a0_13, .int .i64 a0_14, .int .i64 a0_15] 23 (0, 0)) ∧ W.heap[g1]? = some (.cells #[.int .i64 0, .int .i64 0, .int .i64 0, .int .i64 0, .int .i64 0, .int .i64 0, .int .i64 0, .int .i64 0, .int .i64 0, .int .i64 0, .int .i64 0, .int .i64 0, .int .i64 0, .int .i64 0, .int .i64 0, .int .i64 0] 23 (0, 0)) ∧ W.heap[g2]? = some (.cells #[.int .i64 a0_0, .int .i64 a0_4, .int .i64 a0_8, .int .i64 a0_12, .int .i64 a0_1, .int .i64 a0_5, .int .i64 a0_9, .int .i64 a0_13, .int .i64 a0_2, .int .i64 a0_6, .int .i64 a0_10, .int .i64 a0_14, .int .i64 a0_3, .int .i64 0, .int .i64 0, .int .i64 0] 23 (0, 0)) ∧ Below w.heap.size w W) (G := fun W => Code.rounds Try.prog _ _ _ _ W) ⟨blk_far hA (show w.heap.size ≠ g2 by omega) _, blk_far hR (show g1 ≠ g2 by omega) _, blk_put (cs := #[.int .i64 a0_0, .int .i64 a0_4, .int .i64 a0_8, .int .i64 a0_12, .int .i64 a0_1, .int .i64 a0_5, .int .i64 a0_9, .int .i64 a0_13, .int .i64 a0_2, .int .i64 a0_6, .int .i64 a0_10, .int .i64 a0_14, .int .i64 0, .int .i64 0, .int .i64 0, .int .i64 0]) hO 12 _ rfl, below_set hB (show w.heap.size ≤ g2 by omega)⟩ ?_
  clear hA hR hO hB cm co fo
  rintro W14 ⟨hA, hR, hO, hB⟩
  as_aux_lemma =>
  rw [rounds_succ]
  have cm : W14.cell? ⟨w.heap.size, 7, none⟩ = some (.int .i64 a0_7) := (blk_cell hA 7).trans rfl
  have co : W14.cell? ⟨g2, 13, none⟩ = some (.int .i64 0) := (blk_cell hO 13).trans rfl
  have fo : W14.frozen? ⟨g2, 13, none⟩ = false := blk_frozen hO 13
  go_wp2
  refine Mat.gen_ (Pr := fun W => W.heap[w.heap.size]? = some (.cells #[.int .i64 a0_0, .int .i64 a0_1, .int .i64 a0_2, .int .i64 a0_3, .int .i64 a0_4, .int .i64 a0_5, .int .i64 a0_6, .int .i64 a0_7, .int .i64 a0_8, .int .i64 a0_9, .int .i64 a0_10, .int .i64 a0_11, .int .i64 a0_12, .int .i64 a0_13, .int .i64 a0_14, .int .i64 a0_15] 23 (0, 0)) ∧ W.heap[g1]? = some (.cells #[.int .i64 0, .int .i64 0, .int .i64 0, .int .i64 0, .int .i64 0, .int .i64 0, .int .i64 0, .int .i64 0, .int .i64 0, .int .i64 0, .int .i64 0, .int .i64 0, .int .i64 0, .int .i64 0, .int .i64 0, .int .i64 0] 23 (0, 0)) ∧ W.heap[g2]? = some (.cells #[.int .i64 a0_0, .int .i64 a0_4, .int .i64 a0_8, .int .i64 a0_12, .int .i64 a0_1, .int .i64 a0_5, .int .i64 a0_9, .int .i64 a0_13, .int .i64 a0_2, .int .i64 a0_6, .int .i64 a0_10, .int .i64 a0_14, .int .i64 a0_3, .int .i64 a0_7, .int .i64 0, .int .i64 0] 23 (0, 0)) ∧ Below w.heap.size w W) (G := fun W => Code.rounds Try.prog _ _ _ _ W) ⟨blk_far hA (show w.heap.size ≠ g2 by omega) _, blk_far hR (show g1 ≠ g2 by omega) _, blk_put (cs := #[.int .i64 a0_0, .int .i64 a0_4, .int .i64 a0_8, .int .i64 a0_12, .int .i64 a0_1, .int .i64 a0_5, .int .i64 a0_9, .int .i64 a0_13, .int .i64 a0_2, .int .i64 a0_6, .int .i64 a0_10, .int .i64 a0_14, .int .i64 a0_3, .int .i64 0, .int .i64 0, .int .i64 0]) hO 13 _ rfl, below_set hB (show w.heap.size ≤ g2 by omega)⟩ ?_
  clear hA hR hO hB cm co fo
  rintro W15 ⟨hA, hR, hO, hB⟩
  as_aux_lemma =>
  rw [rounds_succ]
  have cm : W15.cell? ⟨w.heap.size, 11, none⟩ = some (.int .i64 a0_11) := (blk_cell hA 11).trans rfl
  have co : W15.cell? ⟨g2, 14, none⟩ = some (.int .i64 0) := (blk_cell hO 14).trans rfl
  have fo : W15.frozen? ⟨g2, 14, none⟩ = false := blk_frozen hO 14
  go_wp2
  refine Mat.gen_ (Pr := fun W => W.heap[w.heap.size]? = some (.cells #[.int .i64 a0_0, .int .i64 a0_1, .int .i64 a0_2, .int .i64 a0_3, .int .i64 a0_4, .int .i64 a0_5, .int .i64 a0_6, .int .i64 a0_7, .int .i64 a0_8, .int .i64 a0_9, .int .i64 a0_10, .int .i64 a0_11, .int .i64 a0_12, .int .i64 a0_13, .int .i64 a0_14, .int .i64 a0_15] 23 (0, 0)) ∧ W.heap[g1]? = some (.cells #[.int .i64 0, .int .i64 0, .int .i64 0, .int .i64 0, .int .i64 0, .int .i64 0, .int .i64 0, .int .i64 0, .int .i64 0, .int .i64 0, .int .i64 0, .int .i64 0, .int .i64 0, .int .i64 0, .int .i64 0, .int .i64 0] 23 (0, 0)) ∧ W.heap[g2]? = some (.cells #[.int .i64 a0_0, .int .i64 a0_4, .int .i64 a0_8, .int .i64 a0_12, .int .i64 a0_1, .int .i64 a0_5, .int .i64 a0_9, .int .i64 a0_13, .int .i64 a0_2, .int .i64 a0_6, .int .i64 a0_10, .int .i64 a0_14, .int .i64 a0_3, .int .i64 a0_7, .int .i64 a0_11, .int .i64 0] 23 (0, 0)) ∧ Below w.heap.size w W) (G := fun W => Code.rounds Try.prog _ _ _ _ W) ⟨blk_far hA (show w.heap.size ≠ g2 by omega) _, blk_far hR (show g1 ≠ g2 by omega) _, blk_put (cs := #[.int .i64 a0_0, .int .i64 a0_4, .int .i64 a0_8, .int .i64 a0_12, .int .i64 a0_1, .int .i64 a0_5, .int .i64 a0_9, .int .i64 a0_13, .int .i64 a0_2, .int .i64 a0_6, .int .i64 a0_10, .int .i64 a0_14, .int .i64 a0_3, .int .i64 a0_7, .int .i64 0, .int .i64 0]) hO 14 _ rfl, below_set hB (show w.heap.size ≤ g2 by omega)⟩ ?_
  clear hA hR hO hB cm co fo
  rintro W16 ⟨hA, hR, hO, hB⟩
  as_aux_lemma =>
  rw [rounds_succ]
  have cm : W16.cell? ⟨w.heap.size, 15, none⟩ = some (.int .i64 a0_15) := (blk_cell hA 15).trans rfl
  have co : W16.cell? ⟨g2, 15, none⟩ = some (.int .i64 0) := (blk_cell hO 15).trans rfl
  have fo : W16.frozen? ⟨g2, 15, none⟩ = false := blk_frozen hO 15
  go_wp2
  refine Mat.gen_ (Pr := fun W => W.heap[w.heap.size]? = some (.cells #[.int .i64 a0_0, .int .i64 a0_1, .int .i64 a0_2, .int .i64 a0_3, .int .i64 a0_4, .int .i64 a0_5, .int .i64 a0_6, .int .i64 a0_7, .int .i64 a0_8, .int .i64 a0_9, .int .i64 a0_10, .int .i64 a0_11, .int .i64 a0_12, .int .i64 a0_13, .int .i64 a0_14, .int .i64 a0_15] 23 (0, 0)) ∧ W.heap[g1]? = some (.cells #[.int .i64 0, .int .i64 0, .int .i64 0, .int .i64 0, .int .i64 0, .int .i64 0, .int .i64 0, .int .i64 0, .int .i64 0, .int .i64 0, .int .i64 0, .int .i64 0, .int .i64 0, .int .i64 0, .int .i64 0, .int .i64 0] 23 (0, 0)) ∧ W.heap[g2]? = some (.cells #[.int .i64 a0_0, .int .i64 a0_4, .int .i64 a0_8, .int .i64 a0_12, .int .i64 a0_1, .int .i64 a0_5, .int .i64 a0_9, .int .i64 a0_13, .int .i64 a0_2, .int .i64 a0_6, .int .i64 a0_10, .int .i64 a0_14, .int .i64 a0_3, .int .i64 a0_7, .int .i64 a0_11, .int .i64 a0_15] 23 (0, 0)) ∧ Below w.heap.size w W) (G := fun W => Code.rounds Try.prog _ _ _ _ W) ⟨blk_far hA (show w.heap.size ≠ g2 by omega) _, blk_far hR (show g1 ≠ g2 by omega) _, blk_put (cs := #[.int .i64 a0_0, .int .i64 a0_4, .int .i64 a0_8, .int .i64 a0_12, .int .i64 a0_1, .int .i64 a0_5, .int .i64 a0_9, .int .i64 a0_13, .int .i64 a0_2, .int .i64 a0_6, .int .i64 a0_10, .int .i64 a0_14, .int .i64 a0_3, .int .i64 a0_7, .int .i64 a0_11, .int .i64 0]) hO 15 _ rfl, below_set hB (show w.heap.size ≤ g2 by omega)⟩ ?_
  clear hA hR hO hB cm co fo
  rintro W17 ⟨hA, hR, hO, hB⟩
  as_aux_lemma =>
  rw [rounds_succ]
  go_upto_region 7 with (fail)
  refine Mat.copy_region 23 3 2 19 _ g2 g1 #[.int .i64 a0_0, .int .i64 a0_4, .int .i64 a0_8, .int .i64 a0_12, .int .i64 a0_1, .int .i64 a0_5, .int .i64 a0_9, .int .i64 a0_13, .int .i64 a0_2, .int .i64 a0_6, .int .i64 a0_10, .int .i64 a0_14, .int .i64 a0_3, .int .i64 a0_7, .int .i64 a0_11, .int .i64 a0_15] #[.int .i64 0, .int .i64 0, .int .i64 0, .int .i64 0, .int .i64 0, .int .i64 0, .int .i64 0, .int .i64 0, .int .i64 0, .int .i64 0, .int .i64 0, .int .i64 0, .int .i64 0, .int .i64 0, .int .i64 0, .int .i64 0] rfl rfl rfl rfl hO hR rfl (by kernel_rfl) hu23 rfl (by kernel_rfl) rfl rfl rfl ?_
  have hF := Mat.blk_stored (cs := #[.int .i64 a0_0, .int .i64 a0_4, .int .i64 a0_8, .int .i64 a0_12, .int .i64 a0_1, .int .i64 a0_5, .int .i64 a0_9, .int .i64 a0_13, .int .i64 a0_2, .int .i64 a0_6, .int .i64 a0_10, .int .i64 a0_14, .int .i64 a0_3, .int .i64 a0_7, .int .i64 a0_11, .int .i64 a0_15]) hR rfl
  have hC := Mat.below_stored (g := g1) (Nat.le_of_lt l1) (#[.int .i64 a0_0, .int .i64 a0_4, .int .i64 a0_8, .int .i64 a0_12, .int .i64 a0_1, .int .i64 a0_5, .int .i64 a0_9, .int .i64 a0_13, .int .i64 a0_2, .int .i64 a0_6, .int .i64 a0_10, .int .i64 a0_14, .int .i64 a0_3, .int .i64 a0_7, .int .i64 a0_11, .int .i64 a0_15]).toList 0 _ hB
  generalize W17.setCells g1 0 (#[.int .i64 a0_0, .int .i64 a0_4, .int .i64 a0_8, .int .i64 a0_12, .int .i64 a0_1, .int .i64 a0_5, .int .i64 a0_9, .int .i64 a0_13, .int .i64 a0_2, .int .i64 a0_6, .int .i64 a0_10, .int .i64 a0_14, .int .i64 a0_3, .int .i64 a0_7, .int .i64 a0_11, .int .i64 a0_15]).toList = W18 at hF hC ⊢
  go_wp2
  exact bodyPost_ret (results_cell_row rfl _ _ g1 23 #[.int .i64 a0_0, .int .i64 a0_4, .int .i64 a0_8, .int .i64 a0_12, .int .i64 a0_1, .int .i64 a0_5, .int .i64 a0_9, .int .i64 a0_13, .int .i64 a0_2, .int .i64 a0_6, .int .i64 a0_10, .int .i64 a0_14, .int .i64 a0_3, .int .i64 a0_7, .int .i64 a0_11, .int .i64 a0_15] (0, 0) _ rfl hF hu23 rfl (by kernel_rfl)) rfl ⟨rfl, hC⟩

end Go.Proofs.Ytmofipnpnepfaaa.PMatrixIdentity
