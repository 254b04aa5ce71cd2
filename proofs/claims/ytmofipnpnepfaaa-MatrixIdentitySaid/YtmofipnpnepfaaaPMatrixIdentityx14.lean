/- Written by a program of this session for this claim: Lean functions that tell what Go functions of the program return, each with a proof of that over the program's text; no condition beyond those that each theorem states. -/
import Derived.Test.YtmofipnpnepfaaaPMatrixIdentityx0
import Derived.Test.YtmofipnpnepfaaaPMatrixIdentityx10
namespace Go.Proofs.Ytmofipnpnepfaaa.PMatrixIdentity
open Go.RowKit Go.Proofs.YtmofipnpnepfaaaW.PrintWords Go.Proofs.YtmofipnpnepfaaaW.PrintLast Go.Proofs.YtmofipnpnepfaaaW.PrintMore
attribute [local go_sem] max2_int min2_int max_two min_two max_three min_three max_four min_four   -- for this text's walks alone
set_option linter.unusedVariables false
set_option linter.unusedSimpArgs false

/-! ### frustumlaw04_limitedMatrix: function 28 -/
def frustumlaw04_limitedMatrix.f (a0_0 : Int) (a0_1 : Int) (a0_2 : Int) (a0_3 : Int) (a0_4 : Int) (a0_5 : Int) (a0_6 : Int) (a0_7 : Int) (a0_8 : Int) (a0_9 : Int) (a0_10 : Int) (a0_11 : Int) (a0_12 : Int) (a0_13 : Int) (a0_14 : Int) (a0_15 : Int) : Option (Int × Int × Int × Int × Int × Int × Int × Int × Int × Int × Int × Int × Int × Int × Int × Int) := (frustumlaw04_limited.f a0_0).bind fun t0 => ((frustumlaw04_limited.f a0_1).bind fun t1 => ((frustumlaw04_limited.f a0_2).bind fun t2 => ((frustumlaw04_limited.f a0_3).bind fun t3 => ((frustumlaw04_limited.f a0_4).bind fun t4 => ((frustumlaw04_limited.f a0_5).bind fun t5 => ((frustumlaw04_limited.f a0_6).bind fun t6 => ((frustumlaw04_limited.f a0_7).bind fun t7 => ((frustumlaw04_limited.f a0_8).bind fun t8 => ((frustumlaw04_limited.f a0_9).bind fun t9 => ((frustumlaw04_limited.f a0_10).bind fun t10 => ((frustumlaw04_limited.f a0_11).bind fun t11 => ((frustumlaw04_limited.f a0_12).bind fun t12 => ((frustumlaw04_limited.f a0_13).bind fun t13 => ((frustumlaw04_limited.f a0_14).bind fun t14 => ((frustumlaw04_limited.f a0_15).bind fun t15 => (some (t0, t1, t2, t3, t4, t5, t6, t7, t8, t9, t10, t11, t12, t13, t14, t15)))))))))))))))))
set_option maxHeartbeats 8000000 in
set_option maxRecDepth 100000 in
theorem frustumlaw04_limitedMatrix.calls (a0_0 : Int) (a0_1 : Int) (a0_2 : Int) (a0_3 : Int) (a0_4 : Int) (a0_5 : Int) (a0_6 : Int) (a0_7 : Int) (a0_8 : Int) (a0_9 : Int) (a0_10 : Int) (a0_11 : Int) (a0_12 : Int) (a0_13 : Int) (a0_14 : Int) (a0_15 : Int) (r1 : Int) (r2 : Int) (r3 : Int) (r4 : Int) (r5 : Int) (r6 : Int) (r7 : Int) (r8 : Int) (r9 : Int) (r10 : Int) (r11 : Int) (r12 : Int) (r13 : Int) (r14 : Int) (r15 : Int) (r16 : Int) (w : World) (h : frustumlaw04_limitedMatrix.f a0_0 a0_1 a0_2 a0_3 a0_4 a0_5 a0_6 a0_7 a0_8 a0_9 a0_10 a0_11 a0_12 a0_13 a0_14 a0_15 = some (r1, r2, r3, r4, r5, r6, r7, r8, r9, r10, r11, r12, r13, r14, r15, r16)) :
    Calls Try.prog 28 #[.agg #[.int .i64 a0_0, .int .i64 a0_1, .int .i64 a0_2, .int .i64 a0_3, .int .i64 a0_4, .int .i64 a0_5, .int .i64 a0_6, .int .i64 a0_7, .int .i64 a0_8, .int .i64 a0_9, .int .i64 a0_10, .int .i64 a0_11, .int .i64 a0_12, .int .i64 a0_13, .int .i64 a0_14, .int .i64 a0_15]] w fun e w' => e = .returned (.agg #[.int .i64 r1, .int .i64 r2, .int .i64 r3, .int .i64 r4, .int .i64 r5, .int .i64 r6, .int .i64 r7, .int .i64 r8, .int .i64 r9, .int .i64 r10, .int .i64 r11, .int .i64 r12, .int .i64 r13, .int .i64 r14, .int .i64 r15, .int .i64 r16]) ∧ Below w.heap.size w w' := by
  have hu23 := Try.underlying23
  have H := h
  clear h
  unfold frustumlaw04_limitedMatrix.f at H
  replace H := Option.bind_eq_some_iff.mp H
  obtain ⟨t0, D0, H⟩ := H
  replace D0 := Aside0.mk D0
  replace H := Option.bind_eq_some_iff.mp H
  obtain ⟨t1, D1, H⟩ := H
  replace D1 := Aside0.mk D1
  replace H := Option.bind_eq_some_iff.mp H
  obtain ⟨t2, D2, H⟩ := H
  replace D2 := Aside0.mk D2
  replace H := Option.bind_eq_some_iff.mp H
  obtain ⟨t3, D3, H⟩ := H
  replace D3 := Aside0.mk D3
  replace H := Option.bind_eq_some_iff.mp H
  obtain ⟨t4, D4, H⟩ := H
  replace D4 := Aside0.mk D4
  replace H := Option.bind_eq_some_iff.mp H
  obtain ⟨t5, D5, H⟩ := H
  replace D5 := Aside0.mk D5
  replace H := Option.bind_eq_some_iff.mp H
  obtain ⟨t6, D6, H⟩ := H
  replace D6 := Aside0.mk D6
  replace H := Option.bind_eq_some_iff.mp H
  obtain ⟨t7, D7, H⟩ := H
  replace D7 := Aside0.mk D7
  replace H := Option.bind_eq_some_iff.mp H
  obtain ⟨t8, D8, H⟩ := H
  replace D8 := Aside0.mk D8
  replace H := Option.bind_eq_some_iff.mp H
  obtain ⟨t9, D9, H⟩ := H
  replace D9 := Aside0.mk D9
  replace H := Option.bind_eq_some_iff.mp H
  obtain ⟨t10, D10, H⟩ := H
  replace D10 := Aside0.mk D10
  replace H := Option.bind_eq_some_iff.mp H
  obtain ⟨t11, D11, H⟩ := H
  replace D11 := Aside0.mk D11
  replace H := Option.bind_eq_some_iff.mp H
  obtain ⟨t12, D12, H⟩ := H
  replace D12 := Aside0.mk D12
  replace H := Option.bind_eq_some_iff.mp H
  obtain ⟨t13, D13, H⟩ := H
  replace D13 := Aside0.mk D13
  replace H := Option.bind_eq_some_iff.mp H
  obtain ⟨t14, D14, H⟩ := H
  replace D14 := Aside0.mk D14
  replace H := Option.bind_eq_some_iff.mp H
  obtain ⟨t15, D15, H⟩ := H
  replace D15 := Aside0.mk D15
  simp only [Option.some.injEq, Prod.mk.injEq] at H
  obtain ⟨rfl, rfl, rfl, rfl, rfl, rfl, rfl, rfl, rfl, rfl, rfl, rfl, rfl, rfl, rfl, rfl⟩ := H
  go_enter Try.func28, Try.ntmps28
  go_wp2
  generalize hg1 : w.heap.size + 1 = g1
  have l1 : w.heap.size < g1 := by omega
  refine wp_loop_rounds 17 ?_
  refine Mat.gen_ (Pr := fun W => W.heap[w.heap.size]? = some (.cells #[.int .i64 a0_0, .int .i64 a0_1, .int .i64 a0_2, .int .i64 a0_3, .int .i64 a0_4, .int .i64 a0_5, .int .i64 a0_6, .int .i64 a0_7, .int .i64 a0_8, .int .i64 a0_9, .int .i64 a0_10, .int .i64 a0_11, .int .i64 a0_12, .int .i64 a0_13, .int .i64 a0_14, .int .i64 a0_15] 23 (0, 0)) ∧ W.heap[g1]? = some (.cells #[.int .i64 0, .int .i64 0, .int .i64 0, .int .i64 0, .int .i64 0, .int .i64 0, .int .i64 0, .int .i64 0, .int .i64 0, .int .i64 0, .int .i64 0, .int .i64 0, .int .i64 0, .int .i64 0, .int .i64 0, .int .i64 0] 23 (0, 0)) ∧ Below w.heap.size w W) (G := fun W => Code.rounds Try.prog _ _ _ _ W) ⟨blk_alloc (MapKept.heap_alloc w _).1 _, (by rw [← hg1]; have := (MapKept.heap_alloc (w.alloc (.cells #[.int .i64 a0_0, .int .i64 a0_1, .int .i64 a0_2, .int .i64 a0_3, .int .i64 a0_4, .int .i64 a0_5, .int .i64 a0_6, .int .i64 a0_7, .int .i64 a0_8, .int .i64 a0_9, .int .i64 a0_10, .int .i64 a0_11, .int .i64 a0_12, .int .i64 a0_13, .int .i64 a0_14, .int .i64 a0_15] 23)) (.cells #[.int .i64 0, .int .i64 0, .int .i64 0, .int .i64 0, .int .i64 0, .int .i64 0, .int .i64 0, .int .i64 0, .int .i64 0, .int .i64 0, .int .i64 0, .int .i64 0, .int .i64 0, .int .i64 0, .int .i64 0, .int .i64 0] 23)).1; simpa using this), below_alloc ((Below.refl w.heap.size w).alloc (Nat.le_refl _) _) _⟩ ?_
  clear hg1
  rintro W1 ⟨hA, hR, hB⟩
  as_aux_lemma =>
  rw [rounds_succ]
  have cm : W1.cell? ⟨w.heap.size, 0, none⟩ = some (.int .i64 a0_0) := (blk_cell hA 0).trans rfl
  go_wp2_with (first | (go_at_call 30; (with_reducible refine (frustumlaw04_limited.calls a0_0 t0 _ D0.out).mono ?_); rintro e V ⟨rfl, hb2⟩; have qA := (hb2.block _ (blk_lt hA)).trans hA; have qR := (hb2.block _ (blk_lt hR)).trans hR; have qB := below_step hB hb2; have co : V.cell? ⟨w.heap.size, 0, none⟩ = some (.int .i64 a0_0) := (blk_cell qA 0).trans rfl; have fo : V.frozen? ⟨w.heap.size, 0, none⟩ = false := blk_frozen qA 0))
  refine Mat.gen_ (Pr := fun W => W.heap[w.heap.size]? = some (.cells #[.int .i64 t0, .int .i64 a0_1, .int .i64 a0_2, .int .i64 a0_3, .int .i64 a0_4, .int .i64 a0_5, .int .i64 a0_6, .int .i64 a0_7, .int .i64 a0_8, .int .i64 a0_9, .int .i64 a0_10, .int .i64 a0_11, .int .i64 a0_12, .int .i64 a0_13, .int .i64 a0_14, .int .i64 a0_15] 23 (0, 0)) ∧ W.heap[g1]? = some (.cells #[.int .i64 0, .int .i64 0, .int .i64 0, .int .i64 0, .int .i64 0, .int .i64 0, .int .i64 0, .int .i64 0, .int .i64 0, .int .i64 0, .int .i64 0, .int .i64 0, .int .i64 0, .int .i64 0, .int .i64 0, .int .i64 0] 23 (0, 0)) ∧ Below w.heap.size w W) (G := fun W => Code.rounds Try.prog _ _ _ _ W) ⟨blk_put (cs := #[.int .i64 a0_0, .int .i64 a0_1, .int .i64 a0_2, .int .i64 a0_3, .int .i64 a0_4, .int .i64 a0_5, .int .i64 a0_6, .int .i64 a0_7, .int .i64 a0_8, .int .i64 a0_9, .int .i64 a0_10, .int .i64 a0_11, .int .i64 a0_12, .int .i64 a0_13, .int .i64 a0_14, .int .i64 a0_15]) qA 0 _ rfl, blk_far qR (show g1 ≠ w.heap.size by omega) _, below_set qB (Nat.le_refl _)⟩ ?_
  clear hA hR hB qA qR qB hb2 co fo cm
  rintro W2 ⟨hA, hR, hB⟩
  as_aux_lemma =>
  rw [rounds_succ]
  have cm : W2.cell? ⟨w.heap.size, 1, none⟩ = some (.int .i64 a0_1) := (blk_cell hA 1).trans rfl
  go_wp2_with (first | (go_at_call 30; (with_reducible refine (frustumlaw04_limited.calls a0_1 t1 _ D1.out).mono ?_); rintro e V ⟨rfl, hb2⟩; have qA := (hb2.block _ (blk_lt hA)).trans hA; have qR := (hb2.block _ (blk_lt hR)).trans hR; have qB := below_step hB hb2; have co : V.cell? ⟨w.heap.size, 1, none⟩ = some (.int .i64 a0_1) := (blk_cell qA 1).trans rfl; have fo : V.frozen? ⟨w.heap.size, 1, none⟩ = false := blk_frozen qA 1))
  refine Mat.gen_ (Pr := fun W => W.heap[w.heap.size]? = some (.cells #[.int .i64 t0, .int .i64 t1, .int .i64 a0_2, .int .i64 a0_3, .int .i64 a0_4, .int .i64 a0_5, .int .i64 a0_6, .int .i64 a0_7, .int .i64 a0_8, .int .i64 a0_9, .int .i64 a0_10, .int .i64 a0_11, .int .i64 a0_12, .int .i64 a0_13, .int .i64 a0_14, .int .i64 a0_15] 23 (0, 0)) ∧ W.heap[g1]? = some (.cells #[.int .i64 0, .int .i64 0, .int .i64 0, .int .i64 0, .int .i64 0, .int .i64 0, .int .i64 0, .int .i64 0, .int .i64 0, .int .i64 0, .int .i64 0, .int .i64 0, .int .i64 0, .int .i64 0, .int .i64 0, .int .i64 0] 23 (0, 0)) ∧ Below w.heap.size w W) (G := fun W => Code.rounds Try.prog _ _ _ _ W) ⟨blk_put (cs := #[.int .i64 t0, .int .i64 a0_1, .int .i64 a0_2, .int .i64 a0_3, .int .i64 a0_4, .int .i64 a0_5, .int .i64 a0_6, .int .i64 a0_7, .int .i64 a0_8, .int .i64 a0_9, .int .i64 a0_10, .int .i64 a0_11, .int .i64 a0_12, .int .i64 a0_13, .int .i64 a0_14, .int .i64 a0_15]) qA 1 _ rfl, blk_far qR (show g1 ≠ w.heap.size by omega) _, below_set qB (Nat.le_refl _)⟩ ?_
  clear hA hR hB qA qR qB hb2 co fo cm
  rintro W3 ⟨hA, hR, hB⟩
  as_aux_lemma =>
  rw [rounds_succ]
  have cm : W3.cell? ⟨w.heap.size, 2, none⟩ = some (.int .i64 a0_2) := (blk_cell hA 2).trans rfl
  go_wp2_with (first | (go_at_call 30; (with_reducible refine (frustumlaw04_limited.calls a0_2 t2 _ D2.out).mono ?_); rintro e V ⟨rfl, hb2⟩; have qA := (hb2.block _ (blk_lt hA)).trans hA; have qR := (hb2.block _ (blk_lt hR)).trans hR; have qB := below_step hB hb2; have co : V.cell? ⟨w.heap.size, 2, none⟩ = some (.int .i64 a0_2) := (blk_cell qA 2).trans rfl; have fo : V.frozen? ⟨w.heap.size, 2, none⟩ = false := blk_frozen qA 2))
  refine Mat.gen_ (Pr := fun W => W.heap[w.heap.size]? = some (.cells #[.int .i64 t0, .int .i64 t1, .int .i64 t2, .int .i64 a0_3, .int .i64 a0_4, .int .i64 a0_5, .int .i64 a0_6, .int .i64 a0_7, .int .i64 a0_8, .int .i64 a0_9, .int .i64 a0_10, .int .i64 a0_11, .int .i64 a0_12, .int .i64 a0_13, .int .i64 a0_14, .int .i64 a0_15] 23 (0, 0)) ∧ W.heap[g1]? = some (.cells #[.int .i64 0, .int .i64 0, .int .i64 0, .int .i64 0, .int .i64 0, .int .i64 0, .int .i64 0, .int .i64 0, .int .i64 0, .int .i64 0, .int .i64 0, .int .i64 0, .int .i64 0, .int .i64 0, .int .i64 0, .int .i64 0] 23 (0, 0)) ∧ Below w.heap.size w W) (G := fun W => Code.rounds Try.prog _ _ _ _ W) ⟨blk_put (cs := #[.int .i64 t0, .int .i64 t1, .int .i64 a0_2, .int .i64 a0_3, .int .i64 a0_4, .int .i64 a0_5, .int .i64 a0_6, .int .i64 a0_7, .int .i64 a0_8, .int .i64 a0_9, .int .i64 a0_10, .int .i64 a0_11, .int .i64 a0_12, .int .i64 a0_13, .int .i64 a0_14, .int .i64 a0_15]) qA 2 _ rfl, blk_far qR (show g1 ≠ w.heap.size by omega) _, below_set qB (Nat.le_refl _)⟩ ?_
  clear hA hR hB qA qR qB hb2 co fo cm
  rintro W4 ⟨hA, hR, hB⟩
  as_aux_lemma =>
  rw [rounds_succ]
  have cm : W4.cell? ⟨w.heap.size, 3, none⟩ = some (.int .i64 a0_3) := (blk_cell hA 3).trans rfl
  go_wp2_with (first | (go_at_call 30; (with_reducible refine (frustumlaw04_limited.calls a0_3 t3 _ D3.out).mono ?_); rintro e V ⟨rfl, hb2⟩; have qA := (hb2.block _ (blk_lt hA)).trans hA; have qR := (hb2.block _ (blk_lt hR)).trans hR; have qB := below_step hB hb2; have co : V.cell? ⟨w.heap.size, 3, none⟩ = some (.int .i64 a0_3) := (blk_cell qA 3).trans rfl; have fo : V.frozen? ⟨w.heap.size, 3, none⟩ = false := blk_frozen qA 3))
  refine Mat.gen_ (Pr := fun W => W.heap[w.heap.size]? = some (.cells #[.int .i64 t0, .int .i64 t1, .int .i64 t2, .int .i64 t3, .int .i64 a0_4, .int .i64 a0_5, .int .i64 a0_6, .int .i64 a0_7, .int .i64 a0_8, .int .i64 a0_9, .int .i64 a0_10, .int .i64 a0_11, .int .i64 a0_12, .int .i64 a0_13, .int .i64 a0_14, .int .i64 a0_15] 23 (0, 0)) ∧ W.heap[g1]? = some (.cells #[.int .i64 0, .int .i64 0, .int .i64 0, .int .i64 0, .int .i64 0, .int .i64 0, .int .i64 0, .int .i64 0, .int .i64 0, .int .i64 0, .int .i64 0, .int .i64 0, .int .i64 0, .int .i64 0, .int .i64 0, .int .i64 0] 23 (0, 0)) ∧ Below w.heap.size w W) (G := fun W => Code.rounds Try.prog _ _ _ _ W) ⟨blk_put (cs := #[.int .i64 t0, .int .i64 t1, .int .i64 t2, .int .i64 a0_3, .int .i64 a0_4, .int .i64 a0_5, .int .i64 a0_6, .int .i64 a0_7, .int .i64 a0_8, .int .i64 a0_9, .int .i64 a0_10, .int .i64 a0_11, .int .i64 a0_12, .int .i64 a0_13, .int .i64 a0_14, .int .i64 a0_15]) qA 3 _ rfl, blk_far qR (show g1 ≠ w.heap.size by omega) _, below_set qB (Nat.le_refl _)⟩ ?_
  clear hA hR hB qA qR qB hb2 co fo cm
  rintro W5 ⟨hA, hR, hB⟩
  as_aux_lemma =>
  rw [rounds_succ]
  have cm : W5.cell? ⟨w.heap.size, 4, none⟩ = some (.int .i64 a0_4) := (blk_cell hA 4).trans rfl
  go_wp2_with (first | (go_at_call 30; (with_reducible refine (frustumlaw04_limited.calls a0_4 t4 _ D4.out).mono ?_); rintro e V ⟨rfl, hb2⟩; have qA := (hb2.block _ (blk_lt hA)).trans hA; have qR := (hb2.block _ (blk_lt hR)).trans hR; have qB := below_step hB hb2; have co : V.cell? ⟨w.heap.size, 4, none⟩ = some (.int .i64 a0_4) := (blk_cell qA 4).trans rfl; have fo : V.frozen? ⟨w.heap.size, 4, none⟩ = false := blk_frozen qA 4))
  refine Mat.gen_ (Pr := fun W => W.heap[w.heap.size]? = some (.cells #[.int .i64 t0, .int .i64 t1, .int .i64 t2, .int .i64 t3, .int .i64 t4, .int .i64 a0_5, .int .i64 a0_6, .int .i64 a0_7, .int .i64 a0_8, .int .i64 a0_9, .int .i64 a0_10, .int .i64 a0_11, .int .i64 a0_12, .int .i64 a0_13, .int .i64 a0_14, .int .i64 a0_15] 23 (0, 0)) ∧ W.heap[g1]? = some (.cells #[.int .i64 0, .int .i64 0, .int .i64 0, .int .i64 0, .int .i64 0, .int .i64 0, .int .i64 0, .int .i64 0, .int .i64 0, .int .i64 0, .int .i64 0, .int .i64 0, .int .i64 0, .int .i64 0, .int .i64 0, .int .i64 0] 23 (0, 0)) ∧ Below w.heap.size w W) (G := fun W => Code.rounds Try.prog _ _ _ _ W) ⟨blk_put (cs := #[.int .i64 t0, .int .i64 t1, .int .i64 t2, .int .i64 t3, .int .i64 a0_4, .int .i64 a0_5, .int .i64 a0_6, .int .i64 a0_7, .int .i64 a0_8, .int .i64 a0_9, .int .i64 a0_10, .int .i64 a0_11, .int .i64 a0_12, .int .i64 a0_13, .int .i64 a0_14, .int .i64 a0_15]) qA 4 _ rfl, blk_far qR (show g1 ≠ w.heap.size by omega) _, below_set qB (Nat.le_refl _)⟩ ?_
  clear hA hR hB qA qR qB hb2 co fo cm
  rintro W6 ⟨hA, hR, hB⟩
  as_aux_lemma =>
  rw [rounds_succ]
  have cm : W6.cell? ⟨w.heap.size, 5, none⟩ = some (.int .i64 a0_5) := (blk_cell hA 5).trans rfl
  go_wp2_with (first | (go_at_call 30; (with_reducible refine (frustumlaw04_limited.calls a0_5 t5 _ D5.out).mono ?_); rintro e V ⟨rfl, hb2⟩; have qA := (hb2.block _ (blk_lt hA)).trans hA; have qR := (hb2.block _ (blk_lt hR)).trans hR; have qB := below_step hB hb2; have co : V.cell? ⟨w.heap.size, 5, none⟩ = some (.int .i64 a0_5) := (blk_cell qA 5).trans rfl; have fo : V.frozen? ⟨w.heap.size, 5, none⟩ = false := blk_frozen qA 5))
  refine Mat.gen_ (Pr := fun W => W.heap[w.heap.size]? = some (.cells #[.int .i64 t0, .int .i64 t1, .int .i64 t2, .int .i64 t3, .int .i64 t4, .int .i64 t5, .int .i64 a0_6, .int .i64 a0_7, .int .i64 a0_8, .int .i64 a0_9, .int .i64 a0_10, .int .i64 a0_11, .int .i64 a0_12, .int .i64 a0_13, .int .i64 a0_14, .int .i64 a0_15] 23 (0, 0)) ∧ W.heap[g1]? = some (.cells #[.int .i64 0, .int .i64 0, .int .i64 0, .int .i64 0, .int .i64 0, .int .i64 0, .int .i64 0, .int .i64 0, .int .i64 0, .int .i64 0, .int .i64 0, .int .i64 0, .int .i64 0, .int .i64 0, .int .i64 0, .int .i64 0] 23 (0, 0)) ∧ Below w.heap.size w W) (G := fun W => Code.rounds Try.prog _ _ _ _ W) ⟨blk_put (cs := #[.int .i64 t0, .int .i64 t1, .int .i64 t2, .int .i64 t3, .int .i64 t4, .int .i64 a0_5, .int .i64 a0_6, .int .i64 a0_7, .int .i64 a0_8, .int .i64 a0_9, .int .i64 a0_10, .int .i64 a0_11, .int .i64 a0_12, .int .i64 a0_13, .int .i64 a0_14, .int .i64 a0_15]) qA 5 _ rfl, blk_far qR (show g1 ≠ w.heap.size by omega) _, below_set qB (Nat.le_refl _)⟩ ?_
  clear hA hR hB qA qR qB hb2 co fo cm
  rintro W7 ⟨hA, hR, hB⟩
  as_aux_lemma =>
  rw [rounds_succ]
  have cm : W7.cell? ⟨w.heap.size, 6, none⟩ = some (.int .i64 a0_6) := (blk_cell hA 6).trans rfl
  go_wp2_with (first | (go_at_call 30; (with_reducible refine (frustumlaw04_limited.calls a0_6 t6 _ D6.out).mono ?_); rintro e V ⟨rfl, hb2⟩; have qA := (hb2.block _ (blk_lt hA)).trans hA; have qR := (hb2.block _ (blk_lt hR)).trans hR; have qB := below_step hB hb2; have co : V.cell? ⟨w.heap.size, 6, none⟩ = some (.int .i64 a0_6) := (blk_cell qA 6).trans rfl; have fo : V.frozen? ⟨w.heap.size, 6, none⟩ = false := blk_frozen qA 6))
  refine Mat.gen_ (Pr := fun W => W.heap[w.heap.size]? = some (.cells #[.int .i64 t0, .int .i64 t1, .int .i64 t2, .int .i64 t3, .int .i64 t4, .int .i64 t5, .int .i64 t6, .int .i64 a0_7, .int .i64 a0_8, .int .i64 a0_9, .int .i64 a0_10, .int .i64 a0_11, .int .i64 a0_12, .int .i64 a0_13, .int .i64 a0_14, .int .i64 a0_15] 23 (0, 0)) ∧ W.heap[g1]? = some (.cells #[.int .i64 0, .int .i64 0, .int .i64 0, .int .i64 0, .int .i64 0, .int .i64 0, .int .i64 0, .int .i64 0, .int .i64 0, .int .i64 0, .int .i64 0, .int .i64 0, .int .i64 0, .int .i64 0, .int .i64 0, .int .i64 0] 23 (0, 0)) ∧ Below w.heap.size w W) (G := fun W => Code.rounds Try.prog _ _ _ _ W) ⟨blk_put (cs := #[.int .i64 t0, .int .i64 t1, .int .i64 t2, .int .i64 t3, .int .i64 t4, .int .i64 t5, .int .i64 a0_6, .int .i64 a0_7, .int .i64 a0_8, .int .i64 a0_9, .int .i64 a0_10, .int .i64 a0_11, .int .i64 a0_12, .int .i64 a0_13, .int .i64 a0_14, .int .i64 a0_15]) qA 6 _ rfl, blk_far qR (show g1 ≠ w.heap.size by omega) _, below_set qB (Nat.le_refl _)⟩ ?_
  clear hA hR hB qA qR qB hb2 co fo cm
  rintro W8 ⟨hA, hR, hB⟩
  as_aux_lemma =>
  rw [rounds_succ]
  have cm : W8.cell? ⟨w.heap.size, 7, none⟩ = some (.int .i64 a0_7) := (blk_cell hA 7).trans rfl
  go_wp2_with (first | (go_at_call 30; (with_reducible refine (frustumlaw04_limited.calls a0_7 t7 _ D7.out).mono ?_); rintro e V ⟨rfl, hb2⟩; have qA := (hb2.block _ (blk_lt hA)).trans hA; have qR := (hb2.block _ (blk_lt hR)).trans hR; have qB := below_step hB hb2; have co : V.cell? ⟨w.heap.size, 7, none⟩ = some (.int .i64 a0_7) := (blk_cell qA 7).trans rfl; have fo : V.frozen? ⟨w.heap.size, 7, none⟩ = false := blk_frozen qA 7))
  refine Mat.gen_ (Pr := fun W => W.heap[w.heap.size]? = some (.cells #[.int .i64 t0, .int .i64 t1, .int .i64 t2, .int .i64 t3, .int .i64 t4, .int .i64 t5, .int .i64 t6, .int .i64 t7, .int .i64 a0_8, .int .i64 a0_9, .int .i64 a0_10, .int .i64 a0_11, .int .i64 a0_12, .int .i64 a0_13, .int .i64 a0_14, .int .i64 a0_15] 23 (0, 0)) ∧ W.heap[g1]? = some (.cells #[.int .i64 0, .int .i64 0, .int .i64 0, .int .i64 0, .int .i64 0, .int .i64 0, .int .i64 0, .int .i64 0, .int .i64 0, .int .i64 0, .int .i64 0, .int .i64 0, .int .i64 0, .int .i64 0, .int .i64 0, .int .i64 0] 23 (0, 0)) ∧ Below w.heap.size w W) (G := fun W => Code.rounds Try.prog _ _ _ _ W) ⟨blk_put (cs := #[.int .i64 t0, .int .i64 t1, .int .i64 t2, .int .i64 t3, .int .i64 t4, .int .i64 t5, .int .i64 t6, .int .i64 a0_7, .int .i64 a0_8, .int .i64 a0_9, .int .i64 a0_10, .int .i64 a0_11, .int .i64 a0_12, .int .i64 a0_13, .int .i64 a0_14, .int .i64 a0_15]) qA 7 _ rfl, blk_far qR (show g1 ≠ w.heap.size by omega) _, below_set qB (Nat.le_refl _)⟩ ?_
  clear hA hR hB qA qR qB hb2 co fo cm
  rintro W9 ⟨hA, hR, hB⟩
  as_aux_lemma =>
  rw [rounds_succ]
  have cm : W9.cell? ⟨w.heap.size, 8, none⟩ = some (.int .i64 a0_8) := (blk_cell hA 8).trans rfl
  go_wp2_with (first | (go_at_call 30; (with_reducible refine (frustumlaw04_limited.calls a0_8 t8 _ D8.out).mono ?_); rintro e V ⟨rfl, hb2⟩; have qA := (hb2.block _ (blk_lt hA)).trans hA; have qR := (hb2.block _ (blk_lt hR)).trans hR; have qB := below_step hB hb2; have co : V.cell? ⟨w.heap.size, 8, none⟩ = some (.int .i64 a0_8) := (blk_cell qA 8).trans rfl; have fo : V.frozen? ⟨w.heap.size, 8, none⟩ = false := blk_frozen qA 8))
  refine Mat.gen_ (Pr := fun W => W.heap[w.heap.size]? = some (.cells #[.int .i64 t0, .int .i64 t1, .int .i64 t2, .int .i64 t3, .int .i64 t4, .int .i64 t5, .int .i64 t6, .int .i64 t7, .int .i64 t8, .int .i64 a0_9, .int .i64 a0_10, .int .i64 a0_11, .int .i64 a0_12, .int .i64 a0_13, .int .i64 a0_14, .int .i64 a0_15] 23 (0, 0)) ∧ W.heap[g1]? = some (.cells #[.int .i64 0, .int .i64 0, .int .i64 0, .int .i64 0, .int .i64 0, .int .i64 0, .int .i64 0, .int .i64 0, .int .i64 0, .int .i64 0, .int .i64 0, .int .i64 0, .int .i64 0, .int .i64 0, .int .i64 0, .int .i64 0] 23 (0, 0)) ∧ Below w.heap.size w W) (G := fun W => Code.rounds Try.prog _ _ _ _ W) ⟨blk_put (cs := #[.int .i64 t0, .int .i64 t1, .int .i64 t2, .int .i64 t3, .int .i64 t4, .int .i64 t5, .int .i64 t6, .int .i64 t7, .int .i64 a0_8, .int .i64 a0_9, .int .i64 a0_10, .int .i64 a0_11, .int .i64 a0_12, .int .i64 a0_13, .int .i64 a0_14, .int .i64 a0_15]) qA 8 _ rfl, blk_far qR (show g1 ≠ w.heap.size by omega) _, below_set qB (Nat.le_refl _)⟩ ?_
  clear hA hR hB qA qR qB hb2 co fo cm
  rintro W10 ⟨hA, hR, hB⟩
  as_aux_lemma =>
  rw [rounds_succ]
  have cm : W10.cell? ⟨w.heap.size, 9, none⟩ = some (.int .i64 a0_9) := (blk_cell hA 9).trans rfl
  go_wp2_with (first | (go_at_call 30; (with_reducible refine (frustumlaw04_limited.calls a0_9 t9 _ D9.out).mono ?_); rintro e V ⟨rfl, hb2⟩; have qA := (hb2.block _ (blk_lt hA)).trans hA; have qR := (hb2.block _ (blk_lt hR)).trans hR; have qB := below_step hB hb2; have co : V.cell? ⟨w.heap.size, 9, none⟩ = some (.int .i64 a0_9) := (blk_cell qA 9).trans rfl; have fo : V.frozen? ⟨w.heap.size, 9, none⟩ = false := blk_frozen qA 9))
  refine Mat.gen_ (Pr := fun W => W.heap[w.heap.size]? = some (.cells #[.int .i64 t0, .int .i64 t1, .int .i64 t2, .int .i64 t3, .int .i64 t4, .int .i64 t5, .int .i64 t6, .int .i64 t7, .int .i64 t8, .int .i64 t9, .int .i64 a0_10, .int .i64 a0_11, .int .i64 a0_12, .int .i64 a0_13, .int .i64 a0_14, .int .i64 a0_15] 23 (0, 0)) ∧ W.heap[g1]? = some (.cells #[.int .i64 0, .int .i64 0, .int .i64 0, .int .i64 0, .int .i64 0, .int .i64 0, .int .i64 0, .int .i64 0, .int .i64 0, .int .i64 0, .int .i64 0, .int .i64 0, .int .i64 0, .int .i64 0, .int .i64 0, .int .i64 0] 23 (0, 0)) ∧ Below w.heap.size w W) (G := fun W => Code.rounds Try.prog _ _ _ _ W) ⟨blk_put (cs := #[.int .i64 t0, .int .i64 t1, .int .i64 t2, .int .i64 t3, .int .i64 t4, .int .i64 t5, .int .i64 t6, .int .i64 t7, .int .i64 t8, .int .i64 a0_9, .int .i64 a0_10, .int .i64 a0_11, .int .i64 a0_12, .int .i64 a0_13, .int .i64 a0_14, .int .i64 a0_15]) qA 9 _ rfl, blk_far qR (show g1 ≠ w.heap.size by omega) _, below_set qB (Nat.le_refl _)⟩ ?_
  clear hA hR hB qA qR qB hb2 co fo cm
  rintro W11 ⟨hA, hR, hB⟩
  as_aux_lemma =>
  rw [rounds_succ]
  have cm : W11.cell? ⟨w.heap.size, 10, none⟩ = some (.int .i64 a0_10) := (blk_cell hA 10).trans rfl
  go_wp2_with (first | (go_at_call 30; (with_reducible refine (frustumlaw04_limited.calls a0_10 t10 _ D10.out).mono ?_); rintro e V ⟨rfl, hb2⟩; have qA := (hb2.block _ (blk_lt hA)).trans hA; have qR := (hb2.block _ (blk_lt hR)).trans hR; have qB := below_step hB hb2; have co : V.cell? ⟨w.heap.size, 10, none⟩ = some (.int .i64 a0_10) := (blk_cell qA 10).trans rfl; have fo : V.frozen? ⟨w.heap.size, 10, none⟩ = false := blk_frozen qA 10))
  refine Mat.gen_ (Pr := fun W => W.heap[w.heap.size]? = some (.cells #[.int .i64 t0, .int .i64 t1, .int .i64 t2, .int .i64 t3, .int .i64 t4, .int .i64 t5, .int .i64 t6, .int .i64 t7, .int .i64 t8, .int .i64 t9, .int .i64 t10, .int .i64 a0_11, .int .i64 a0_12, .int .i64 a0_13, .int .i64 a0_14, .int .i64 a0_15] 23 (0, 0)) ∧ W.heap[g1]? = some (.cells #[.int .i64 0, .int .i64 0, .int .i64 0, .int .i64 0, .int .i64 0, .int .i64 0, .int .i64 0, .int .i64 0, .int .i64 0, .int .i64 0, .int .i64 0, .int .i64 0, .int .i64 0, .int .i64 0, .int .i64 0, .int .i64 0] 23 (0, 0)) ∧ Below w.heap.size w W) (G := fun W => Code.rounds Try.prog _ _ _ _ W) ⟨blk_put (cs := #[.int .i64 t0, .int .i64 t1, .int .i64 t2, .int .i64 t3, .int .i64 t4, .int .i64 t5, .int .i64 t6, .int .i64 t7, .int .i64 t8, .int .i64 t9, .int .i64 a0_10, .int .i64 a0_11, .int .i64 a0_12, .int .i64 a0_13, .int .i64 a0_14, .int .i64 a0_15]) qA 10 _ rfl, blk_far qR (show g1 ≠ w.heap.size by omega) _, below_set qB (Nat.le_refl _)⟩ ?_
  clear hA hR hB qA qR qB hb2 co fo cm
  rintro W12 ⟨hA, hR, hB⟩
  as_aux_lemma =>
  rw [rounds_succ]
  have cm : W12.cell? ⟨w.heap.size, 11, none⟩ = some (.int .i64 a0_11) := (blk_cell hA 11).trans rfl
  go_wp2_with (first | (go_at_call 30; (with_reducible refine (frustumlaw04_limited.calls a0_11 t11 _ D11.out).mono ?_); rintro e V ⟨rfl, hb2⟩; have qA := (hb2.block _ (blk_lt hA)).trans hA; have qR := (hb2.block _ (blk_lt hR)).trans hR; have qB := below_step hB hb2; have co : V.cell? ⟨w.heap.size, 11, none⟩ = some (.int .i64 a0_11) := (blk_cell qA 11).trans rfl; have fo : V.frozen? ⟨w.heap.size, 11, none⟩ = false := blk_frozen qA 11))
  refine Mat.gen_ (Pr := fun W => W.heap[w.heap.size]? = some (.cells #[.int .i64 t0, .int .i64 t1, .int .i64 t2, .int .i64 t3, .int .i64 t4, .int .i64 t5, .int .i64 t6, .int .i64 t7, .int .i64 t8, .int .i64 t9, .int .i64 t10, .int .i64 t11, .int .i64 a0_12, .int .i64 a0_13, .int .i64 a0_14, .int .i64 a0_15] 23 (0, 0)) ∧ W.heap[g1]? = some (.cells #[.int .i64 0, .int .i64 0, .int .i64 0, .int .i64 0, .int .i64 0, .int .i64 0, .int .i64 0, .int .i64 0, .int .i64 0, .int .i64 0, .int .i64 0, .int .i64 0, .int .i64 0, .int .i64 0, .int .i64 0, .int .i64 0] 23 (0, 0)) ∧ Below w.heap.size w W) (G := fun W => Code.rounds Try.prog _ _ _ _ W) ⟨blk_put (cs := #[.int .i64 t0, .int .i64 t1, .int .i64 t2, .int .i64 t3, .int .i64 t4, .int .i64 t5, .int .i64 t6, .int .i64 t7, .int .i64 t8, .int .i64 t9, .int .i64 t10, .int .i64 a0_11, .int .i64 a0_12, .int .i64 a0_13, .int .i64 a0_14, .int .i64 a0_15]) qA 11 _ rfl, blk_far qR (show g1 ≠ w.heap.size by omega) _, below_set qB (Nat.le_refl _)⟩ ?_
  clear hA hR hB qA qR qB hb2 co fo cm
  rintro W13 ⟨hA, hR, hB⟩
  as_aux_lemma =>
  rw [rounds_succ]
  have cm : W13.cell? ⟨w.heap.size, 12, none⟩ = some (.int .i64 a0_12) := (blk_cell hA 12).trans rfl
  go_wp2_with (first | (go_at_call 30; (with_reducible refine (frustumlaw04_limited.calls a0_12 t12 _ D12.out).mono ?_); rintro e V ⟨rfl, hb2⟩; have qA := (hb2.block _ (blk_lt hA)).trans hA; have qR := (hb2.block _ (blk_lt hR)).trans hR; have qB := below_step hB hb2; have co : V.cell? ⟨w.heap.size, 12, none⟩ = some (.int .i64 a0_12) := (blk_cell qA 12).trans rfl; have fo : V.frozen? ⟨w.heap.size, 12, none⟩ = false := blk_frozen qA 12))
  refine Mat.gen_ (Pr := fun W => W.heap[w.heap.size]? = some (.cells #[.int .i64 t0, .int .i64 t1, .int .i64 t2, .int .i64 t3, .int .i64 t4, .int .i64 t5, .int .i64 t6, .int .i64 t7, .int .i64 t8, .int .i64 t9, .int .i64 t10, .int .i64 t11, .int .i64 t12, .int .i64 a0_13, .int .i64 a0_14, .int .i64 a0_15] 23 (0, 0)) ∧ W.heap[g1]? = some (.cells #[.int .i64 0, .int .i64 0, .int .i64 0, .int .i64 0, .int .i64 0, .int .i64 0, .int .i64 0, .int .i64 0, .int .i64 0, .int .i64 0, .int .i64 0, .int .i64 0, .int .i64 0, .int .i64 0, .int .i64 0, .int .i64 0] 23 (0, 0)) ∧ Below w.heap.size w W) (G := fun W => Code.rounds Try.prog _ _ _ _ W) ⟨blk_put (cs := #[.int .i64 t0, .int .i64 t1, .int .i64 t2, .int .i64 t3, .int .i64 t4, .int .i64 t5, .int .i64 t6, .int .i64 t7, .int .i64 t8, .int .i64 t9, .int .i64 t10, .int .i64 t11, .int .i64 a0_12, .int .i64 a0_13, .int .i64 a0_14, .int .i64 a0_15]) qA 12 _ rfl, blk_far qR (show g1 ≠ w.heap.size by omega) _, below_set qB (Nat.le_refl _)⟩ ?_
  clear hA hR hB qA qR qB hb2 co fo cm
  rintro W14 ⟨hA, hR, hB⟩
  as_aux_lemma =>
  rw [rounds_succ]
  have cm : W14.cell? ⟨w.heap.size, 13, none⟩ = some (.int .i64 a0_13) := (blk_cell hA 13).trans rfl
  go_wp2_with (first | (go_at_call 30; (with_reducible refine (frustumlaw04_limited.calls a0_13 t13 _ D13.out).mono ?_); rintro e V ⟨rfl, hb2⟩; have qA := (hb2.block _ (blk_lt hA)).trans hA; have qR := (hb2.block _ (blk_lt hR)).trans hR; have qB := below_step hB hb2; have co : V.cell? ⟨w.heap.size, 13, none⟩ = some (.int .i64 a0_13) := (blk_cell qA 13).trans rfl; have fo : V.frozen? ⟨w.heap.size, 13, none⟩ = false := blk_frozen qA 13))
  refine Mat.gen_ (Pr := fun W => W.heap[w.heap.size]? = some (.cells #[.int .i64 t0, .int .i64 t1, .int .i64 t2, .int .i64 t3, .int .i64 t4, .int .i64 t5, .int .i64 t6, .int .i64 t7, .int .i64 t8, .int .i64 t9, .int .i64 t10, .int .i64 t11, .int .i64 t12, .int .i64 t13, .int .i64 a0_14, .int .i64 a0_15] 23 (0, 0)) ∧ W.heap[g1]? = some (.cells #[.int .i64 0, .int .i64 0, .int .i64 0, .int .i64 0, .int .i64 0, .int .i64 0, .int .i64 0, .int .i64 0, .int .i64 0, .int .i64 0, .int .i64 0, .int .i64 0, .int .i64 0, .int .i64 0, .int .i64 0, .int .i64 0] 23 (0, 0)) ∧ Below w.heap.size w W) (G := fun W => Code.rounds Try.prog _ _ _ _ W) ⟨blk_put (cs := #[.int .i64 t0, .int .i64 t1, .int .i64 t2, .int .i64 t3, .int .i64 t4, .int .i64 t5, .int .i64 t6, .int .i64 t7, .int .i64 t8, .int .i64 t9, .int .i64 t10, .int .i64 t11, .int .i64 t12, .int .i64 a0_13, .int .i64 a0_14, .int .i64 a0_15]) qA 13 _ rfl, blk_far qR (show g1 ≠ w.heap.size by omega) _, below_set qB (Nat.le_refl _)⟩ ?_
  clear hA hR hB qA qR qB hb2 co fo cm
  rintro W15 ⟨hA, hR, hB⟩
  as_aux_lemma =>
  rw [rounds_succ]
  have cm : W15.cell? ⟨w.heap.size, 14, none⟩ = some (.int .i64 a0_14) := (blk_cell hA 14).trans rfl
  go_wp2_with (first | (go_at_call 30; (with_reducible refine (frustumlaw04_limited.calls a0_14 t14 _ D14.out).mono ?_); rintro e V ⟨rfl, hb2⟩; have qA := (hb2.block _ (blk_lt hA)).trans hA; have qR := (hb2.block _ (blk_lt hR)).trans hR; have qB := below_step hB hb2; have co : V.cell? ⟨w.heap.size, 14, none⟩ = some (.int .i64 a0_14) := (blk_cell qA 14).trans rfl; have fo : V.frozen? ⟨w.heap.size, 14, none⟩ = false := blk_frozen qA 14))
  refine Mat.gen_ (Pr := fun W => W.heap[w.heap.size]? = some (.cells #[.int .i64 t0, .int .i64 t1, .int .i64 t2, .int .i64 t3, .int .i64 t4, .int .i64 t5, .int .i64 t6, .int .i64 t7, .int .i64 t8, .int .i64 t9, .int .i64 t10, .int .i64 t11, .int .i64 t12, .int .i64 t13, .int .i64 t14, .int .i64 a0_15] 23 (0, 0)) ∧ W.heap[g1]? = some (.cells #[.int .i64 0, .int .i64 0, .int .i64 0, .int .i64 0, .int .i64 0, .int .i64 0, .int .i64 0, .int .i64 0, .int .i64 0, .int .i64 0, .int .i64 0, .int .i64 0, .int .i64 0, .int .i64 0, .int .i64 0, .int .i64 0] 23 (0, 0)) ∧ Below w.heap.size w W) (G := fun W => Code.rounds Try.prog _ _ _ _ W) ⟨blk_put (cs := #[.int .i64 t0, .int .i64 t1, .int .i64 t2, .int .i64 t3, .int .i64 t4, .int .i64 t5, .int .i64 t6, .int .i64 t7, .int .i64 t8, .int .i64 t9, .int .i64 t10, .int .i64 t11, .int .i64 t12, .int .i64 t13, .int .i64 a0_14, .int .i64 a0_15]) qA 14 _ rfl, blk_far qR (show g1 ≠ w.heap.size by omega) _, below_set qB (Nat.le_refl _)⟩ ?_
  clear hA hR hB qA qR qB hb2 co fo cm
  rintro W16 ⟨hA, hR, hB⟩
  as_aux_lemma =>
  rw [rounds_succ]
  have cm : W16.cell? ⟨w.heap.size, 15, none⟩ = some (.int .i64 a0_15) := (blk_cell hA 15).trans rfl
  go_wp2_with (first | (go_at_call 30; (with_reducible refine (frustumlaw04_limited.calls a0_15 t15 _ D15.out).mono ?_); rintro e V ⟨rfl, hb2⟩; have qA := (hb2.block _ (blk_lt hA)).trans hA; have qR := (hb2.block _ (blk_lt hR)).trans hR; have qB := below_step hB hb2; have co : V.cell? ⟨w.heap.size, 15, none⟩ = some (.int .i64 a0_15) := (blk_cell qA 15).trans rfl; have fo : V.frozen? ⟨w.heap.size, 15, none⟩ = false := blk_frozen qA 15))
  refine Mat.gen_ (Pr := fun W => W.heap[w.heap.size]? = some (.cells #[.int .i64 t0, .int .i64 t1, .int .i64 t2, .int .i64 t3, .int .i64 t4, .int .i64 t5, .int .i64 t6, .int .i64 t7, .int .i64 t8, .int .i64 t9, .int .i64 t10, .int .i64 t11, .int .i64 t12, .int .i64 t13, .int .i64 t14, .int .i64 t15] 23 (0, 0)) ∧ W.heap[g1]? = some (.cells #[.int .i64 0, .int .i64 0, .int .i64 0, .int .i64 0, .int .i64 0, .int .i64 0, .int .i64 0, .int .i64 0, .int .i64 0, .int .i64 0, .int .i64 0, .int .i64 0, .int .i64 0, .int .i64 0, .int .i64 0, .int .i64 0] 23 (0, 0)) ∧ Below w.heap.size w W) (G := fun W => Code.rounds Try.prog _ _ _ _ W) ⟨blk_put (cs := #[.int .i64 t0, .int .i64 t1, .int .i64 t2, .int .i64 t3, .int .i64 t4, .int .i64 t5, .int .i64 t6, .int .i64 t7, .int .i64 t8, .int .i64 t9, .int .i64 t10, .int .i64 t11, .int .i64 t12, .int .i64 t13, .int .i64 t14, .int .i64 a0_15]) qA 15 _ rfl, blk_far qR (show g1 ≠ w.heap.size by omega) _, below_set qB (Nat.le_refl _)⟩ ?_
  clear hA hR hB qA qR qB hb2 co fo cm
  rintro W17 ⟨hA, hR, hB⟩
  as_aux_lemma =>
  rw [rounds_succ]
  go_upto_region 5 with (fail)
  refine Mat.copy_region 23 1 2 14 _ w.heap.size g1 #[.int .i64 t0, .int .i64 t1, .int .i64 t2, .int .i64 t3, .int .i64 t4, .int .i64 t5, .int .i64 t6, .int .i64 t7, .int .i64 t8, .int .i64 t9, .int .i64 t10, .int .i64 t11, .int .i64 t12, .int .i64 t13, .int .i64 t14, .int .i64 t15] #[.int .i64 0, .int .i64 0, .int .i64 0, .int .i64 0, .int .i64 0, .int .i64 0, .int .i64 0, .int .i64 0, .int .i64 0, .int .i64 0, .int .i64 0, .int .i64 0, .int .i64 0, .int .i64 0, .int .i64 0, .int .i64 0] rfl rfl rfl rfl hA hR rfl (by kernel_rfl) hu23 rfl (by kernel_rfl) rfl rfl rfl ?_
  have hF := Mat.blk_stored (cs := #[.int .i64 t0, .int .i64 t1, .int .i64 t2, .int .i64 t3, .int .i64 t4, .int .i64 t5, .int .i64 t6, .int .i64 t7, .int .i64 t8, .int .i64 t9, .int .i64 t10, .int .i64 t11, .int .i64 t12, .int .i64 t13, .int .i64 t14, .int .i64 t15]) hR rfl
  have hC := Mat.below_stored (g := g1) (Nat.le_of_lt l1) (#[.int .i64 t0, .int .i64 t1, .int .i64 t2, .int .i64 t3, .int .i64 t4, .int .i64 t5, .int .i64 t6, .int .i64 t7, .int .i64 t8, .int .i64 t9, .int .i64 t10, .int .i64 t11, .int .i64 t12, .int .i64 t13, .int .i64 t14, .int .i64 t15]).toList 0 _ hB
  generalize W17.setCells g1 0 (#[.int .i64 t0, .int .i64 t1, .int .i64 t2, .int .i64 t3, .int .i64 t4, .int .i64 t5, .int .i64 t6, .int .i64 t7, .int .i64 t8, .int .i64 t9, .int .i64 t10, .int .i64 t11, .int .i64 t12, .int .i64 t13, .int .i64 t14, .int .i64 t15]).toList = W18 at hF hC ⊢
  go_wp2
  exact bodyPost_ret (results_cell_row rfl _ _ g1 23 #[.int .i64 t0, .int .i64 t1, .int .i64 t2, .int .i64 t3, .int .i64 t4, .int .i64 t5, .int .i64 t6, .int .i64 t7, .int .i64 t8, .int .i64 t9, .int .i64 t10, .int .i64 t11, .int .i64 t12, .int .i64 t13, .int .i64 t14, .int .i64 t15] (0, 0) _ rfl hF hu23 rfl (by kernel_rfl)) rfl ⟨rfl, hC⟩

end Go.Proofs.Ytmofipnpnepfaaa.PMatrixIdentity
