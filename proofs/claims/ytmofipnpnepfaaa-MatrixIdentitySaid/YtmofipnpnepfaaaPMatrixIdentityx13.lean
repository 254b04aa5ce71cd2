/- Written by a program of this session for this claim: Lean functions that tell what Go functions of the program return, each with a proof of that over the program's text; no condition beyond those that each theorem states. -/
import Derived.Test.YtmofipnpnepfaaaPMatrixIdentityx0
import Derived.Test.YtmofipnpnepfaaaPMatrixIdentityx5
import Derived.Test.YtmofipnpnepfaaaPMatrixIdentityx8
import Derived.Test.YtmofipnpnepfaaaPMatrixIdentityx12
namespace Go.Proofs.Ytmofipnpnepfaaa.PMatrixIdentity
open Go.RowKit Go.Proofs.YtmofipnpnepfaaaW.PrintWords Go.Proofs.YtmofipnpnepfaaaW.PrintLast Go.Proofs.YtmofipnpnepfaaaW.PrintMore
attribute [local go_sem] max2_int min2_int max_two min_two max_three min_three max_four min_four   -- for this text's walks alone
set_option linter.unusedVariables false
set_option linter.unusedSimpArgs false

/-! ### matrix_Mul: function 24 -/
def matrix_Mul.f (k : Nat) (a0 : Int) (a1 : Int) (a2 : Int) (a3 : Int) (a4 : Int) (a5 : Int) (a6 : Int) (a7 : Int) (a8 : Int) (a9 : Int) (aa : Int) (ab : Int) (ac : Int) (ad : Int) (ae : Int) (af : Int) (b0 : Int) (b1 : Int) (b2 : Int) (b3 : Int) (b4 : Int) (b5 : Int) (b6 : Int) (b7 : Int) (b8 : Int) (b9 : Int) (ba : Int) (bb : Int) (bc : Int) (bd : Int) (be : Int) (bf : Int) : Option (Int × Int × Int × Int × Int × Int × Int × Int × Int × Int × Int × Int × Int × Int × Int × Int) := (vec_Dot.f k a0 a1 a2 a3 b0 b4 b8 bc).bind fun t0 => ((vec_Dot.f k a0 a1 a2 a3 b1 b5 b9 bd).bind fun t1 => ((vec_Dot.f k a0 a1 a2 a3 b2 b6 ba be).bind fun t2 => ((vec_Dot.f k a0 a1 a2 a3 b3 b7 bb bf).bind fun t3 => ((vec_Dot.f k a4 a5 a6 a7 b0 b4 b8 bc).bind fun t4 => ((vec_Dot.f k a4 a5 a6 a7 b1 b5 b9 bd).bind fun t5 => ((vec_Dot.f k a4 a5 a6 a7 b2 b6 ba be).bind fun t6 => ((vec_Dot.f k a4 a5 a6 a7 b3 b7 bb bf).bind fun t7 => ((vec_Dot.f k a8 a9 aa ab b0 b4 b8 bc).bind fun t8 => ((vec_Dot.f k a8 a9 aa ab b1 b5 b9 bd).bind fun t9 => ((vec_Dot.f k a8 a9 aa ab b2 b6 ba be).bind fun t10 => ((vec_Dot.f k a8 a9 aa ab b3 b7 bb bf).bind fun t11 => ((vec_Dot.f k ac ad ae af b0 b4 b8 bc).bind fun t12 => ((vec_Dot.f k ac ad ae af b1 b5 b9 bd).bind fun t13 => ((vec_Dot.f k ac ad ae af b2 b6 ba be).bind fun t14 => ((vec_Dot.f k ac ad ae af b3 b7 bb bf).bind fun t15 => (some (t0, t1, t2, t3, t4, t5, t6, t7, t8, t9, t10, t11, t12, t13, t14, t15)))))))))))))))))
def matrix_Mul.T : Bool × List (List Nat × List Nat) := (true, [([], []), ([], []), ([], []), ([2], [2]), ([1, 3], [1, 3]), ([], []), ([], []), ([6], [6]), ([5, 7, 4], [5, 7]), ([4, 8, 8], [4, 8]), ([0, 0, 1, 2, 3, 4, 5, 6, 7, 8, 9], [0]), ([10, 9, 9, 0, 1, 2, 3, 4, 5, 6, 7, 8, 9], [9, 10])])
theorem matrix_Mul.tab : rtab .any (opsOf Try.f24 6) = matrix_Mul.T := by kernel_rfl
set_option maxHeartbeats 8000000 in
set_option maxRecDepth 100000 in
theorem matrix_Mul.calls (k : Nat) (a0 : Int) (a1 : Int) (a2 : Int) (a3 : Int) (a4 : Int) (a5 : Int) (a6 : Int) (a7 : Int) (a8 : Int) (a9 : Int) (aa : Int) (ab : Int) (ac : Int) (ad : Int) (ae : Int) (af : Int) (b0 : Int) (b1 : Int) (b2 : Int) (b3 : Int) (b4 : Int) (b5 : Int) (b6 : Int) (b7 : Int) (b8 : Int) (b9 : Int) (ba : Int) (bb : Int) (bc : Int) (bd : Int) (be : Int) (bf : Int) (r1 : Int) (r2 : Int) (r3 : Int) (r4 : Int) (r5 : Int) (r6 : Int) (r7 : Int) (r8 : Int) (r9 : Int) (r10 : Int) (r11 : Int) (r12 : Int) (r13 : Int) (r14 : Int) (r15 : Int) (r16 : Int) (w : World) (h : matrix_Mul.f k a0 a1 a2 a3 a4 a5 a6 a7 a8 a9 aa ab ac ad ae af b0 b1 b2 b3 b4 b5 b6 b7 b8 b9 ba bb bc bd be bf = some (r1, r2, r3, r4, r5, r6, r7, r8, r9, r10, r11, r12, r13, r14, r15, r16)) :
    Calls Try.prog 24 #[.agg #[.int .i64 a0, .int .i64 a1, .int .i64 a2, .int .i64 a3, .int .i64 a4, .int .i64 a5, .int .i64 a6, .int .i64 a7, .int .i64 a8, .int .i64 a9, .int .i64 aa, .int .i64 ab, .int .i64 ac, .int .i64 ad, .int .i64 ae, .int .i64 af], .agg #[.int .i64 b0, .int .i64 b1, .int .i64 b2, .int .i64 b3, .int .i64 b4, .int .i64 b5, .int .i64 b6, .int .i64 b7, .int .i64 b8, .int .i64 b9, .int .i64 ba, .int .i64 bb, .int .i64 bc, .int .i64 bd, .int .i64 be, .int .i64 bf]] w fun e w' => e = .returned (.agg #[.int .i64 r1, .int .i64 r2, .int .i64 r3, .int .i64 r4, .int .i64 r5, .int .i64 r6, .int .i64 r7, .int .i64 r8, .int .i64 r9, .int .i64 r10, .int .i64 r11, .int .i64 r12, .int .i64 r13, .int .i64 r14, .int .i64 r15, .int .i64 r16]) ∧ Below w.heap.size w w' := by
  have hu23 := Try.underlying23
  have H := h
  clear h
  unfold matrix_Mul.f at H
  replace H := Option.bind_eq_some_iff.mp H
  obtain ⟨t0, D0, H⟩ := H
  replace D0 := Aside0.mk D0
  replace H := Option.bind_eq_some_iff.mp H
  obtain ⟨t1, D1, H⟩ := H
  replace D1 := Aside0.mk D1
  replace H := Option.bind_eq_some_iff.mp H
  obtain ⟨t2, D2, H⟩ := H
  replace D2 := Aside0.mk D2
  replace H := Option.bind_eq_some_iff.mp H
  obtain ⟨t3, D3, H⟩ := H
  replace D3 := Aside0.mk D3
  replace H := Option.bind_eq_some_iff.mp H
  obtain ⟨t4, D4, H⟩ := H
  replace D4 := Aside0.mk D4
  replace H := Option.bind_eq_some_iff.mp H
  obtain ⟨t5, D5, H⟩ := H
  replace D5 := Aside0.mk D5
  replace H := Option.bind_eq_some_iff.mp H
  obtain ⟨t6, D6, H⟩ := H
  replace D6 := Aside0.mk D6
  replace H := Option.bind_eq_some_iff.mp H
  obtain ⟨t7, D7, H⟩ := H
  replace D7 := Aside0.mk D7
  replace H := Option.bind_eq_some_iff.mp H
  obtain ⟨t8, D8, H⟩ := H
  replace D8 := Aside0.mk D8
  replace H := Option.bind_eq_some_iff.mp H
  obtain ⟨t9, D9, H⟩ := H
  replace D9 := Aside0.mk D9
  replace H := Option.bind_eq_some_iff.mp H
  obtain ⟨t10, D10, H⟩ := H
  replace D10 := Aside0.mk D10
  replace H := Option.bind_eq_some_iff.mp H
  obtain ⟨t11, D11, H⟩ := H
  replace D11 := Aside0.mk D11
  replace H := Option.bind_eq_some_iff.mp H
  obtain ⟨t12, D12, H⟩ := H
  replace D12 := Aside0.mk D12
  replace H := Option.bind_eq_some_iff.mp H
  obtain ⟨t13, D13, H⟩ := H
  replace D13 := Aside0.mk D13
  replace H := Option.bind_eq_some_iff.mp H
  obtain ⟨t14, D14, H⟩ := H
  replace D14 := Aside0.mk D14
  replace H := Option.bind_eq_some_iff.mp H
  obtain ⟨t15, D15, H⟩ := H
  replace D15 := Aside0.mk D15
  simp only [Option.some.injEq, Prod.mk.injEq] at H
  obtain ⟨rfl, rfl, rfl, rfl, rfl, rfl, rfl, rfl, rfl, rfl, rfl, rfl, rfl, rfl, rfl, rfl⟩ := H
  go_enter Try.func24, Try.ntmps24
  go_upto_region 1 with (fail)
  generalize hg2 : w.heap.size + 1 + 1 = g2
  generalize hg1 : w.heap.size + 1 = g1
  have l1 : w.heap.size < g1 := by omega
  have l2 : g1 < g2 := by omega
  refine Mat.gen_ (Pr := fun W => W.heap[w.heap.size]? = some (.cells #[.int .i64 a0, .int .i64 a1, .int .i64 a2, .int .i64 a3, .int .i64 a4, .int .i64 a5, .int .i64 a6, .int .i64 a7, .int .i64 a8, .int .i64 a9, .int .i64 aa, .int .i64 ab, .int .i64 ac, .int .i64 ad, .int .i64 ae, .int .i64 af] 23 (0, 0)) ∧ W.heap[g1]? = some (.cells #[.int .i64 b0, .int .i64 b1, .int .i64 b2, .int .i64 b3, .int .i64 b4, .int .i64 b5, .int .i64 b6, .int .i64 b7, .int .i64 b8, .int .i64 b9, .int .i64 ba, .int .i64 bb, .int .i64 bc, .int .i64 bd, .int .i64 be, .int .i64 bf] 23 (0, 0)) ∧ W.heap[g2]? = some (.cells #[.int .i64 0, .int .i64 0, .int .i64 0, .int .i64 0, .int .i64 0, .int .i64 0, .int .i64 0, .int .i64 0, .int .i64 0, .int .i64 0, .int .i64 0, .int .i64 0, .int .i64 0, .int .i64 0, .int .i64 0, .int .i64 0] 23 (0, 0)) ∧ Below w.heap.size w W) (G := fun W => Code.wp Try.prog _ _ _ W) ⟨blk_alloc (blk_alloc (MapKept.heap_alloc w _).1 _) _, blk_alloc (by rw [← hg1]; have := (MapKept.heap_alloc (w.alloc (.cells #[.int .i64 a0, .int .i64 a1, .int .i64 a2, .int .i64 a3, .int .i64 a4, .int .i64 a5, .int .i64 a6, .int .i64 a7, .int .i64 a8, .int .i64 a9, .int .i64 aa, .int .i64 ab, .int .i64 ac, .int .i64 ad, .int .i64 ae, .int .i64 af] 23)) (.cells #[.int .i64 b0, .int .i64 b1, .int .i64 b2, .int .i64 b3, .int .i64 b4, .int .i64 b5, .int .i64 b6, .int .i64 b7, .int .i64 b8, .int .i64 b9, .int .i64 ba, .int .i64 bb, .int .i64 bc, .int .i64 bd, .int .i64 be, .int .i64 bf] 23)).1; simpa using this) _, (by rw [← hg2]; have := (MapKept.heap_alloc ((w.alloc (.cells #[.int .i64 a0, .int .i64 a1, .int .i64 a2, .int .i64 a3, .int .i64 a4, .int .i64 a5, .int .i64 a6, .int .i64 a7, .int .i64 a8, .int .i64 a9, .int .i64 aa, .int .i64 ab, .int .i64 ac, .int .i64 ad, .int .i64 ae, .int .i64 af] 23)).alloc (.cells #[.int .i64 b0, .int .i64 b1, .int .i64 b2, .int .i64 b3, .int .i64 b4, .int .i64 b5, .int .i64 b6, .int .i64 b7, .int .i64 b8, .int .i64 b9, .int .i64 ba, .int .i64 bb, .int .i64 bc, .int .i64 bd, .int .i64 be, .int .i64 bf] 23)) (.cells #[.int .i64 0, .int .i64 0, .int .i64 0, .int .i64 0, .int .i64 0, .int .i64 0, .int .i64 0, .int .i64 0, .int .i64 0, .int .i64 0, .int .i64 0, .int .i64 0, .int .i64 0, .int .i64 0, .int .i64 0, .int .i64 0] 23)).1; simpa using this), below_alloc (below_alloc ((Below.refl w.heap.size w).alloc (Nat.le_refl _) _) _) _⟩ ?_
  clear hg1 hg2
  rintro W1 ⟨hA, hX, hR, hB⟩
  as_aux_lemma =>
  have cx0 : W1.cell? ⟨g1, 0, none⟩ = some (.int .i64 b0) := (blk_cell hX 0).trans rfl
  have cx1 : W1.cell? ⟨g1, 1, none⟩ = some (.int .i64 b1) := (blk_cell hX 1).trans rfl
  have cx2 : W1.cell? ⟨g1, 2, none⟩ = some (.int .i64 b2) := (blk_cell hX 2).trans rfl
  have cx3 : W1.cell? ⟨g1, 3, none⟩ = some (.int .i64 b3) := (blk_cell hX 3).trans rfl
  have cx4 : W1.cell? ⟨g1, 4, none⟩ = some (.int .i64 b4) := (blk_cell hX 4).trans rfl
  have cx5 : W1.cell? ⟨g1, 5, none⟩ = some (.int .i64 b5) := (blk_cell hX 5).trans rfl
  have cx6 : W1.cell? ⟨g1, 6, none⟩ = some (.int .i64 b6) := (blk_cell hX 6).trans rfl
  have cx7 : W1.cell? ⟨g1, 7, none⟩ = some (.int .i64 b7) := (blk_cell hX 7).trans rfl
  have cx8 : W1.cell? ⟨g1, 8, none⟩ = some (.int .i64 b8) := (blk_cell hX 8).trans rfl
  have cx9 : W1.cell? ⟨g1, 9, none⟩ = some (.int .i64 b9) := (blk_cell hX 9).trans rfl
  have cx10 : W1.cell? ⟨g1, 10, none⟩ = some (.int .i64 ba) := (blk_cell hX 10).trans rfl
  have cx11 : W1.cell? ⟨g1, 11, none⟩ = some (.int .i64 bb) := (blk_cell hX 11).trans rfl
  have cx12 : W1.cell? ⟨g1, 12, none⟩ = some (.int .i64 bc) := (blk_cell hX 12).trans rfl
  have cx13 : W1.cell? ⟨g1, 13, none⟩ = some (.int .i64 bd) := (blk_cell hX 13).trans rfl
  have cx14 : W1.cell? ⟨g1, 14, none⟩ = some (.int .i64 be) := (blk_cell hX 14).trans rfl
  have cx15 : W1.cell? ⟨g1, 15, none⟩ = some (.int .i64 bf) := (blk_cell hX 15).trans rfl
  go_upto_region 2 with (first | (go_at_call 26; (with_reducible refine (matrix_Transpose.calls b0 b1 b2 b3 b4 b5 b6 b7 b8 b9 ba bb bc bd be bf b0 b4 b8 bc b1 b5 b9 bd b2 b6 ba be b3 b7 bb bf _ rfl).mono ?_); rintro e V1 ⟨rfl, hb2⟩; have qA := (hb2.block _ (blk_lt hA)).trans hA; have qX := (hb2.block _ (blk_lt hX)).trans hX; have qR := (hb2.block _ (blk_lt hR)).trans hR; have qB := below_step hB hb2; have g7 : (V1.alloc (.cells #[.int .i64 0, .int .i64 0, .int .i64 0, .int .i64 0, .int .i64 0, .int .i64 0, .int .i64 0, .int .i64 0, .int .i64 0, .int .i64 0, .int .i64 0, .int .i64 0, .int .i64 0, .int .i64 0, .int .i64 0, .int .i64 0] 23)).heap[V1.heap.size]? = some (.cells #[.int .i64 0, .int .i64 0, .int .i64 0, .int .i64 0, .int .i64 0, .int .i64 0, .int .i64 0, .int .i64 0, .int .i64 0, .int .i64 0, .int .i64 0, .int .i64 0, .int .i64 0, .int .i64 0, .int .i64 0, .int .i64 0] 23 (0, 0)) := (MapKept.heap_alloc V1 _).1; have cz0 : (V1.alloc (.cells #[.int .i64 0, .int .i64 0, .int .i64 0, .int .i64 0, .int .i64 0, .int .i64 0, .int .i64 0, .int .i64 0, .int .i64 0, .int .i64 0, .int .i64 0, .int .i64 0, .int .i64 0, .int .i64 0, .int .i64 0, .int .i64 0] 23)).cell? ⟨V1.heap.size, 0, none⟩ = some (.int .i64 0) := (blk_cell g7 0).trans rfl; have cz1 : (V1.alloc (.cells #[.int .i64 0, .int .i64 0, .int .i64 0, .int .i64 0, .int .i64 0, .int .i64 0, .int .i64 0, .int .i64 0, .int .i64 0, .int .i64 0, .int .i64 0, .int .i64 0, .int .i64 0, .int .i64 0, .int .i64 0, .int .i64 0] 23)).cell? ⟨V1.heap.size, 1, none⟩ = some (.int .i64 0) := (blk_cell g7 1).trans rfl; have cz2 : (V1.alloc (.cells #[.int .i64 0, .int .i64 0, .int .i64 0, .int .i64 0, .int .i64 0, .int .i64 0, .int .i64 0, .int .i64 0, .int .i64 0, .int .i64 0, .int .i64 0, .int .i64 0, .int .i64 0, .int .i64 0, .int .i64 0, .int .i64 0] 23)).cell? ⟨V1.heap.size, 2, none⟩ = some (.int .i64 0) := (blk_cell g7 2).trans rfl; have cz3 : (V1.alloc (.cells #[.int .i64 0, .int .i64 0, .int .i64 0, .int .i64 0, .int .i64 0, .int .i64 0, .int .i64 0, .int .i64 0, .int .i64 0, .int .i64 0, .int .i64 0, .int .i64 0, .int .i64 0, .int .i64 0, .int .i64 0, .int .i64 0] 23)).cell? ⟨V1.heap.size, 3, none⟩ = some (.int .i64 0) := (blk_cell g7 3).trans rfl; have cz4 : (V1.alloc (.cells #[.int .i64 0, .int .i64 0, .int .i64 0, .int .i64 0, .int .i64 0, .int .i64 0, .int .i64 0, .int .i64 0, .int .i64 0, .int .i64 0, .int .i64 0, .int .i64 0, .int .i64 0, .int .i64 0, .int .i64 0, .int .i64 0] 23)).cell? ⟨V1.heap.size, 4, none⟩ = some (.int .i64 0) := (blk_cell g7 4).trans rfl; have cz5 : (V1.alloc (.cells #[.int .i64 0, .int .i64 0, .int .i64 0, .int .i64 0, .int .i64 0, .int .i64 0, .int .i64 0, .int .i64 0, .int .i64 0, .int .i64 0, .int .i64 0, .int .i64 0, .int .i64 0, .int .i64 0, .int .i64 0, .int .i64 0] 23)).cell? ⟨V1.heap.size, 5, none⟩ = some (.int .i64 0) := (blk_cell g7 5).trans rfl; have cz6 : (V1.alloc (.cells #[.int .i64 0, .int .i64 0, .int .i64 0, .int .i64 0, .int .i64 0, .int .i64 0, .int .i64 0, .int .i64 0, .int .i64 0, .int .i64 0, .int .i64 0, .int .i64 0, .int .i64 0, .int .i64 0, .int .i64 0, .int .i64 0] 23)).cell? ⟨V1.heap.size, 6, none⟩ = some (.int .i64 0) := (blk_cell g7 6).trans rfl; have cz7 : (V1.alloc (.cells #[.int .i64 0, .int .i64 0, .int .i64 0, .int .i64 0, .int .i64 0, .int .i64 0, .int .i64 0, .int .i64 0, .int .i64 0, .int .i64 0, .int .i64 0, .int .i64 0, .int .i64 0, .int .i64 0, .int .i64 0, .int .i64 0] 23)).cell? ⟨V1.heap.size, 7, none⟩ = some (.int .i64 0) := (blk_cell g7 7).trans rfl; have cz8 : (V1.alloc (.cells #[.int .i64 0, .int .i64 0, .int .i64 0, .int .i64 0, .int .i64 0, .int .i64 0, .int .i64 0, .int .i64 0, .int .i64 0, .int .i64 0, .int .i64 0, .int .i64 0, .int .i64 0, .int .i64 0, .int .i64 0, .int .i64 0] 23)).cell? ⟨V1.heap.size, 8, none⟩ = some (.int .i64 0) := (blk_cell g7 8).trans rfl; have cz9 : (V1.alloc (.cells #[.int .i64 0, .int .i64 0, .int .i64 0, .int .i64 0, .int .i64 0, .int .i64 0, .int .i64 0, .int .i64 0, .int .i64 0, .int .i64 0, .int .i64 0, .int .i64 0, .int .i64 0, .int .i64 0, .int .i64 0, .int .i64 0] 23)).cell? ⟨V1.heap.size, 9, none⟩ = some (.int .i64 0) := (blk_cell g7 9).trans rfl; have cz10 : (V1.alloc (.cells #[.int .i64 0, .int .i64 0, .int .i64 0, .int .i64 0, .int .i64 0, .int .i64 0, .int .i64 0, .int .i64 0, .int .i64 0, .int .i64 0, .int .i64 0, .int .i64 0, .int .i64 0, .int .i64 0, .int .i64 0, .int .i64 0] 23)).cell? ⟨V1.heap.size, 10, none⟩ = some (.int .i64 0) := (blk_cell g7 10).trans rfl; have cz11 : (V1.alloc (.cells #[.int .i64 0, .int .i64 0, .int .i64 0, .int .i64 0, .int .i64 0, .int .i64 0, .int .i64 0, .int .i64 0, .int .i64 0, .int .i64 0, .int .i64 0, .int .i64 0, .int .i64 0, .int .i64 0, .int .i64 0, .int .i64 0] 23)).cell? ⟨V1.heap.size, 11, none⟩ = some (.int .i64 0) := (blk_cell g7 11).trans rfl; have cz12 : (V1.alloc (.cells #[.int .i64 0, .int .i64 0, .int .i64 0, .int .i64 0, .int .i64 0, .int .i64 0, .int .i64 0, .int .i64 0, .int .i64 0, .int .i64 0, .int .i64 0, .int .i64 0, .int .i64 0, .int .i64 0, .int .i64 0, .int .i64 0] 23)).cell? ⟨V1.heap.size, 12, none⟩ = some (.int .i64 0) := (blk_cell g7 12).trans rfl; have cz13 : (V1.alloc (.cells #[.int .i64 0, .int .i64 0, .int .i64 0, .int .i64 0, .int .i64 0, .int .i64 0, .int .i64 0, .int .i64 0, .int .i64 0, .int .i64 0, .int .i64 0, .int .i64 0, .int .i64 0, .int .i64 0, .int .i64 0, .int .i64 0] 23)).cell? ⟨V1.heap.size, 13, none⟩ = some (.int .i64 0) := (blk_cell g7 13).trans rfl; have cz14 : (V1.alloc (.cells #[.int .i64 0, .int .i64 0, .int .i64 0, .int .i64 0, .int .i64 0, .int .i64 0, .int .i64 0, .int .i64 0, .int .i64 0, .int .i64 0, .int .i64 0, .int .i64 0, .int .i64 0, .int .i64 0, .int .i64 0, .int .i64 0] 23)).cell? ⟨V1.heap.size, 14, none⟩ = some (.int .i64 0) := (blk_cell g7 14).trans rfl; have cz15 : (V1.alloc (.cells #[.int .i64 0, .int .i64 0, .int .i64 0, .int .i64 0, .int .i64 0, .int .i64 0, .int .i64 0, .int .i64 0, .int .i64 0, .int .i64 0, .int .i64 0, .int .i64 0, .int .i64 0, .int .i64 0, .int .i64 0, .int .i64 0] 23)).cell? ⟨V1.heap.size, 15, none⟩ = some (.int .i64 0) := (blk_cell g7 15).trans rfl; have fz0 : (V1.alloc (.cells #[.int .i64 0, .int .i64 0, .int .i64 0, .int .i64 0, .int .i64 0, .int .i64 0, .int .i64 0, .int .i64 0, .int .i64 0, .int .i64 0, .int .i64 0, .int .i64 0, .int .i64 0, .int .i64 0, .int .i64 0, .int .i64 0] 23)).frozen? ⟨V1.heap.size, 0, none⟩ = false := blk_frozen g7 0; have fz1 : (V1.alloc (.cells #[.int .i64 0, .int .i64 0, .int .i64 0, .int .i64 0, .int .i64 0, .int .i64 0, .int .i64 0, .int .i64 0, .int .i64 0, .int .i64 0, .int .i64 0, .int .i64 0, .int .i64 0, .int .i64 0, .int .i64 0, .int .i64 0] 23)).frozen? ⟨V1.heap.size, 1, none⟩ = false := blk_frozen g7 1; have fz2 : (V1.alloc (.cells #[.int .i64 0, .int .i64 0, .int .i64 0, .int .i64 0, .int .i64 0, .int .i64 0, .int .i64 0, .int .i64 0, .int .i64 0, .int .i64 0, .int .i64 0, .int .i64 0, .int .i64 0, .int .i64 0, .int .i64 0, .int .i64 0] 23)).frozen? ⟨V1.heap.size, 2, none⟩ = false := blk_frozen g7 2; have fz3 : (V1.alloc (.cells #[.int .i64 0, .int .i64 0, .int .i64 0, .int .i64 0, .int .i64 0, .int .i64 0, .int .i64 0, .int .i64 0, .int .i64 0, .int .i64 0, .int .i64 0, .int .i64 0, .int .i64 0, .int .i64 0, .int .i64 0, .int .i64 0] 23)).frozen? ⟨V1.heap.size, 3, none⟩ = false := blk_frozen g7 3; have fz4 : (V1.alloc (.cells #[.int .i64 0, .int .i64 0, .int .i64 0, .int .i64 0, .int .i64 0, .int .i64 0, .int .i64 0, .int .i64 0, .int .i64 0, .int .i64 0, .int .i64 0, .int .i64 0, .int .i64 0, .int .i64 0, .int .i64 0, .int .i64 0] 23)).frozen? ⟨V1.heap.size, 4, none⟩ = false := blk_frozen g7 4; have fz5 : (V1.alloc (.cells #[.int .i64 0, .int .i64 0, .int .i64 0, .int .i64 0, .int .i64 0, .int .i64 0, .int .i64 0, .int .i64 0, .int .i64 0, .int .i64 0, .int .i64 0, .int .i64 0, .int .i64 0, .int .i64 0, .int .i64 0, .int .i64 0] 23)).frozen? ⟨V1.heap.size, 5, none⟩ = false := blk_frozen g7 5; have fz6 : (V1.alloc (.cells #[.int .i64 0, .int .i64 0, .int .i64 0, .int .i64 0, .int .i64 0, .int .i64 0, .int .i64 0, .int .i64 0, .int .i64 0, .int .i64 0, .int .i64 0, .int .i64 0, .int .i64 0, .int .i64 0, .int .i64 0, .int .i64 0] 23)).frozen? ⟨V1.heap.size, 6, none⟩ = false := blk_frozen g7 6; have fz7 : (V1.alloc (.cells #[.int .i64 0, .int .i64 0, .int .i64 0, .int .i64 0, .int .i64 0, .int .i64 0, .int .i64 0, .int .i64 0, .int .i64 0, .int .i64 0, .int .i64 0, .int .i64 0, .int .i64 0, .int .i64 0, .int .i64 0, .int .i64 0] 23)).frozen? ⟨V1.heap.size, 7, none⟩ = false := blk_frozen g7 7; have fz8 : (V1.alloc (.cells #[.int .i64 0, .int .i64 0, .int .i64 0, .int .i64 0, .int .i64 0, .int .i64 0, .int .i64 0, .int .i64 0, .int .i64 0, .int .i64 0, .int .i64 0, .int .i64 0, .int .i64 0, .int .i64 0, .int .i64 0, .int .i64 0] 23)).frozen? ⟨V1.heap.size, 8, none⟩ = false := blk_frozen g7 8; have fz9 : (V1.alloc (.cells #[.int .i64 0, .int .i64 0, .int .i64 0, .int .i64 0, .int .i64 0, .int .i64 0, .int .i64 0, .int .i64 0, .int .i64 0, .int .i64 0, .int .i64 0, .int .i64 0, .int .i64 0, .int .i64 0, .int .i64 0, .int .i64 0] 23)).frozen? ⟨V1.heap.size, 9, none⟩ = false := blk_frozen g7 9; have fz10 : (V1.alloc (.cells #[.int .i64 0, .int .i64 0, .int .i64 0, .int .i64 0, .int .i64 0, .int .i64 0, .int .i64 0, .int .i64 0, .int .i64 0, .int .i64 0, .int .i64 0, .int .i64 0, .int .i64 0, .int .i64 0, .int .i64 0, .int .i64 0] 23)).frozen? ⟨V1.heap.size, 10, none⟩ = false := blk_frozen g7 10; have fz11 : (V1.alloc (.cells #[.int .i64 0, .int .i64 0, .int .i64 0, .int .i64 0, .int .i64 0, .int .i64 0, .int .i64 0, .int .i64 0, .int .i64 0, .int .i64 0, .int .i64 0, .int .i64 0, .int .i64 0, .int .i64 0, .int .i64 0, .int .i64 0] 23)).frozen? ⟨V1.heap.size, 11, none⟩ = false := blk_frozen g7 11; have fz12 : (V1.alloc (.cells #[.int .i64 0, .int .i64 0, .int .i64 0, .int .i64 0, .int .i64 0, .int .i64 0, .int .i64 0, .int .i64 0, .int .i64 0, .int .i64 0, .int .i64 0, .int .i64 0, .int .i64 0, .int .i64 0, .int .i64 0, .int .i64 0] 23)).frozen? ⟨V1.heap.size, 12, none⟩ = false := blk_frozen g7 12; have fz13 : (V1.alloc (.cells #[.int .i64 0, .int .i64 0, .int .i64 0, .int .i64 0, .int .i64 0, .int .i64 0, .int .i64 0, .int .i64 0, .int .i64 0, .int .i64 0, .int .i64 0, .int .i64 0, .int .i64 0, .int .i64 0, .int .i64 0, .int .i64 0] 23)).frozen? ⟨V1.heap.size, 13, none⟩ = false := blk_frozen g7 13; have fz14 : (V1.alloc (.cells #[.int .i64 0, .int .i64 0, .int .i64 0, .int .i64 0, .int .i64 0, .int .i64 0, .int .i64 0, .int .i64 0, .int .i64 0, .int .i64 0, .int .i64 0, .int .i64 0, .int .i64 0, .int .i64 0, .int .i64 0, .int .i64 0] 23)).frozen? ⟨V1.heap.size, 14, none⟩ = false := blk_frozen g7 14; have fz15 : (V1.alloc (.cells #[.int .i64 0, .int .i64 0, .int .i64 0, .int .i64 0, .int .i64 0, .int .i64 0, .int .i64 0, .int .i64 0, .int .i64 0, .int .i64 0, .int .i64 0, .int .i64 0, .int .i64 0, .int .i64 0, .int .i64 0, .int .i64 0] 23)).frozen? ⟨V1.heap.size, 15, none⟩ = false := blk_frozen g7 15))
  refine Mat.gen_ (Pr := fun W => W.heap[w.heap.size]? = some (.cells #[.int .i64 a0, .int .i64 a1, .int .i64 a2, .int .i64 a3, .int .i64 a4, .int .i64 a5, .int .i64 a6, .int .i64 a7, .int .i64 a8, .int .i64 a9, .int .i64 aa, .int .i64 ab, .int .i64 ac, .int .i64 ad, .int .i64 ae, .int .i64 af] 23 (0, 0)) ∧ W.heap[g2]? = some (.cells #[.int .i64 0, .int .i64 0, .int .i64 0, .int .i64 0, .int .i64 0, .int .i64 0, .int .i64 0, .int .i64 0, .int .i64 0, .int .i64 0, .int .i64 0, .int .i64 0, .int .i64 0, .int .i64 0, .int .i64 0, .int .i64 0] 23 (0, 0)) ∧ W.heap[V1.heap.size]? = some (.cells #[.int .i64 b0, .int .i64 b4, .int .i64 b8, .int .i64 bc, .int .i64 b1, .int .i64 b5, .int .i64 b9, .int .i64 bd, .int .i64 b2, .int .i64 b6, .int .i64 ba, .int .i64 be, .int .i64 b3, .int .i64 b7, .int .i64 bb, .int .i64 bf] 23 (0, 0)) ∧ Below w.heap.size w W) (G := fun W => Code.wp Try.prog _ _ _ W) ⟨blk_alloc qA _, blk_alloc qR _, (MapKept.heap_alloc V1 _).1, below_alloc qB _⟩ ?_
  have l3 : g2 < V1.heap.size := blk_lt qR
  clear hA hX hR hB qA qX qR qB hb2 g7 cx0 cz0 fz0 cx1 cz1 fz1 cx2 cz2 fz2 cx3 cz3 fz3 cx4 cz4 fz4 cx5 cz5 fz5 cx6 cz6 fz6 cx7 cz7 fz7 cx8 cz8 fz8 cx9 cz9 fz9 cx10 cz10 fz10 cx11 cz11 fz11 cx12 cz12 fz12 cx13 cz13 fz13 cx14 cz14 fz14 cx15 cz15 fz15
  generalize V1.heap.size = g3 at *
  rintro W2 ⟨hA, hR, hT, hB⟩
  as_aux_lemma =>
  go_wp2
  refine wp_loop_rounds 17 ?_
  generalize hg4 : W2.heap.size = g4
  have l4 : g3 < g4 := by rw [← hg4]; exact blk_lt hT
  refine Mat.gen_ (Pr := fun W => W.heap[w.heap.size]? = some (.cells (Mat.A16 a0 a1 a2 a3 a4 a5 a6 a7 a8 a9 aa ab ac ad ae af) 23 (0, 0)) ∧ W.heap[g2]? = some (.cells (Mat.A16 0 0 0 0 0 0 0 0 0 0 0 0 0 0 0 0) 23 (0, 0)) ∧ W.heap[g3]? = some (.cells (Mat.A16 b0 b4 b8 bc b1 b5 b9 bd b2 b6 ba be b3 b7 bb bf) 23 (0, 0)) ∧ W.heap[g4]? = some (.cells (Mat.A16 0 0 0 0 0 0 0 0 0 0 0 0 0 0 0 0) 23 (0, 0)) ∧ Below w.heap.size w W) (G := fun W => Code.rounds Try.prog _ _ _ _ W) ⟨blk_alloc hA _, blk_alloc hR _, blk_alloc hT _, (by rw [← hg4]; exact (MapKept.heap_alloc W2 _).1), below_alloc hB _⟩ ?_
  clear hg4 hA hR hT hB
  rintro U0 ⟨hA, hR, hT, hO, hB⟩
  as_aux_lemma =>
  rw [rounds_succ]
  go_upto_region 6 with (fail)
  replace hA := blk_drew hA
  replace hR := blk_drew hR
  replace hT := blk_drew hT
  replace hO := blk_drew hO
  replace hB := below_drew1 hB
  refine start_ (n := 12) (S := fun w' => w'.heap[w.heap.size]? = some (.cells (Mat.A16 a0 a1 a2 a3 a4 a5 a6 a7 a8 a9 aa ab ac ad ae af) 23 (0, 0)) ∧ w'.heap[g3]? = some (.cells (Mat.A16 b0 b4 b8 bc b1 b5 b9 bd b2 b6 ba be b3 b7 bb bf) 23 (0, 0))) (ds := []) #[false, false, false, false, false, false, false, false, false, false, false, false] (by kernel_rfl) rfl rfl ⟨hA, hT⟩ (fun hHeld => ?_); refine with_tab matrix_Mul.tab (fun HT_ => ?_)
  generalize U0.drew = V0 at hA hR hT hO hB hHeld ⊢
  refine pure_ (i := 0) (N := some 13) (v := ?_) (a' := ?_) Mat.s1 rfl rfl (any_of HT_.out (by kernel_rfl)) (fun _ _ _ h => h) (Or.inl ⟨by rfl, ?_⟩) ?_ ?_
  rotate_left
  · intro w'
    go_simp
    with_reducible rfl
  rotate_left
  · simp only [Act.put, Mat.p1, List.set_cons_zero, List.set_cons_succ]
    rfl
  refine pure_ (i := 2) (N := some 15) (v := ?_) (a' := ?_) Mat.s2 rfl rfl (any_of HT_.out (by kernel_rfl)) (fun _ _ _ h => h) (Or.inl ⟨by rfl, ?_⟩) ?_ ?_
  rotate_left
  · intro w'
    go_simp
    with_reducible rfl
  rotate_left
  · simp only [Act.put, Mat.p1, List.set_cons_zero, List.set_cons_succ]
    rfl
  refine pure_ (i := 3) (N := some 16) (v := .int .i64 0) (a' := ?_) Mat.s3 rfl rfl (any_of HT_.out (by kernel_rfl)) (fun _ _ _ h => h) (Or.inl ⟨by rfl, ?_⟩) ?_ ?_
  · intro w'
    go_simp
    first | done | rfl
  rotate_left
  · simp only [Act.put, Mat.p1, List.set_cons_zero, List.set_cons_succ]
    rfl
  refine pure_ (i := 6) (N := some 19) (v := ?_) (a' := ?_) Mat.s4 rfl rfl (any_of HT_.out (by kernel_rfl)) (fun _ _ _ h => h) (Or.inl ⟨by rfl, ?_⟩) ?_ ?_
  rotate_left
  · intro w'
    go_simp
    with_reducible rfl
  rotate_left
  · simp only [Act.put, Mat.p1, List.set_cons_zero, List.set_cons_succ]
    rfl
  refine pure_ (i := 7) (N := some 20) (v := .int .i64 0) (a' := ?_) Mat.s5 rfl rfl (any_of HT_.out (by kernel_rfl)) (fun _ _ _ h => h) (Or.inl ⟨by rfl, ?_⟩) ?_ ?_
  · intro w'
    go_simp
    first | done | rfl
  rotate_left
  · simp only [Act.put, Mat.p1, List.set_cons_zero, List.set_cons_succ]
    rfl
  refine take_ (i := 1) (N := some 14) (v := .agg (Mat.A16 a0 a1 a2 a3 a4 a5 a6 a7 a8 a9 aa ab ac ad ae af)) (a' := ?_) Mat.s6 rfl rfl (take_of HT_.out (by kernel_rfl)) (fun _ _ _ h => h) (yieldsIf_load_mid (by rfl) 23 (.tmp 2) rfl w.heap.size 0 (by rfl) (Mat.A16 a0 a1 a2 a3 a4 a5 a6 a7 a8 a9 aa ab ac ad ae af).toList _ (fun _ h => Mat.range_blk h.1) hu23 rfl (by kernel_rfl)) hHeld ?_ ?_
  rotate_left
  · simp only [Act.put, Mat.p1, List.set_cons_zero, List.set_cons_succ]
    rfl
  refine take_ (i := 5) (N := some 18) (v := .agg (Mat.A16 b0 b4 b8 bc b1 b5 b9 bd b2 b6 ba be b3 b7 bb bf)) (a' := ?_) Mat.s7 rfl rfl (take_of HT_.out (by kernel_rfl)) (fun _ _ _ h => h) (yieldsIf_load_mid (by rfl) 23 (.tmp 5) rfl g3 0 (by rfl) (Mat.A16 b0 b4 b8 bc b1 b5 b9 bd b2 b6 ba be b3 b7 bb bf).toList _ (fun _ h => Mat.range_blk h.2) hu23 rfl (by kernel_rfl)) hHeld ?_ ?_
  rotate_left
  · simp only [Act.put, Mat.p1, List.set_cons_zero, List.set_cons_succ]
    rfl
  refine one_ (i := 4) (N := some 17) Mat.s8 rfl rfl (one_of HT_.out (by kernel_rfl)) (by decide) (fun K hK => ?_)
  refine goes_ Try.func21 (by kernel_rfl) rfl #[.agg (Mat.A16 a0 a1 a2 a3 a4 a5 a6 a7 a8 a9 aa ab ac ad ae af), .int .i64 0] (by rfl) rfl rfl (by simp only [List.map_toArray, List.map_cons, List.map_nil]; rfl) ?_
  refine (matrix_Row.calls a0 a1 a2 a3 a4 a5 a6 a7 a8 a9 aa ab ac ad ae af 0 a0 a1 a2 a3 _ rfl).mono ?_
  rintro e V1 ⟨rfl, hb⟩
  refine ⟨_, rfl, ?_⟩
  replace hA := Mat.bb hb hA
  replace hR := Mat.bb hb hR
  replace hT := Mat.bb hb hT
  replace hO := Mat.bb hb hO
  replace hB := below_step hB hb
  clear hb
  refine hK.out _ _ ⟨hA, hT⟩ (fun hHeld => ?_)
  clear hK K
  refine norm_ (a' := ?_) ?_ ?_
  rotate_left
  · show Act.put _ (some 17) _ = _
    simp only [Act.put, Mat.p1, List.set_cons_zero, List.set_cons_succ]
    rfl
  refine one_ (i := 8) (N := some 21) Mat.s9 rfl rfl (one_of HT_.out (by kernel_rfl)) (by decide) (fun K hK => ?_)
  refine goes_ Try.func21 (by kernel_rfl) rfl #[.agg (Mat.A16 b0 b4 b8 bc b1 b5 b9 bd b2 b6 ba be b3 b7 bb bf), .int .i64 0] (by rfl) rfl rfl (by simp only [List.map_toArray, List.map_cons, List.map_nil]; rfl) ?_
  refine (matrix_Row.calls b0 b4 b8 bc b1 b5 b9 bd b2 b6 ba be b3 b7 bb bf 0 b0 b4 b8 bc _ rfl).mono ?_
  rintro e V2 ⟨rfl, hb⟩
  refine ⟨_, rfl, ?_⟩
  replace hA := Mat.bb hb hA
  replace hR := Mat.bb hb hR
  replace hT := Mat.bb hb hT
  replace hO := Mat.bb hb hO
  replace hB := below_step hB hb
  clear hb
  refine hK.out _ _ ⟨hA, hT⟩ (fun hHeld => ?_)
  clear hK K
  refine norm_ (a' := ?_) ?_ ?_
  rotate_left
  · show Act.put _ (some 21) _ = _
    simp only [Act.put, Mat.p1, List.set_cons_zero, List.set_cons_succ]
    rfl
  refine one_ (i := 9) (N := some 22) Mat.s10 rfl rfl (one_of HT_.out (by kernel_rfl)) (by decide) (fun K hK => ?_)
  refine goes_ Try.func37 (by kernel_rfl) rfl #[.agg #[.int .i64 a0, .int .i64 a1, .int .i64 a2, .int .i64 a3], .agg #[.int .i64 b0, .int .i64 b4, .int .i64 b8, .int .i64 bc]] (by rfl) rfl rfl (by simp only [List.map_toArray, List.map_cons, List.map_nil]; rfl) ?_
  refine (vec_Dot.calls k a0 a1 a2 a3 b0 b4 b8 bc t0 _ D0.out).mono ?_
  rintro e V3 ⟨rfl, hb⟩
  refine ⟨_, rfl, ?_⟩
  replace hA := Mat.bb hb hA
  replace hR := Mat.bb hb hR
  replace hT := Mat.bb hb hT
  replace hO := Mat.bb hb hO
  replace hB := below_step hB hb
  clear hb
  refine hK.out _ _ ⟨hA, hT⟩ (fun hHeld => ?_)
  clear hK K
  refine norm_ (a' := ?_) ?_ ?_
  rotate_left
  · show Act.put _ (some 22) _ = _
    simp only [Act.put, Mat.p1, List.set_cons_zero, List.set_cons_succ]
    rfl
  refine pure_ (i := 10) (N := some 23) (v := ?_) (a' := ?_) Mat.s11 rfl rfl (any_of HT_.out (by kernel_rfl)) (fun _ _ _ h => h) (Or.inl ⟨by rfl, ?_⟩) ?_ ?_
  rotate_left
  · intro w'
    go_simp
    with_reducible rfl
  rotate_left
  · simp only [Act.put, Mat.p1, List.set_cons_zero, List.set_cons_succ]
    rfl
  refine one_ (i := 11) (N := none) Mat.s12 rfl rfl (one_of HT_.out (by kernel_rfl)) (by decide) (fun K hK => ?_)
  have co : V3.cell? ⟨g4, 0, none⟩ = some (.int .i64 0) := (blk_cell hO 0).trans rfl
  have fo : V3.frozen? ⟨g4, 0, none⟩ = false := blk_frozen hO 0
  refine skip_ (w1 := ?_) (by rfl) rfl ?_ ?_
  rotate_left
  · go_simp
    rfl
  replace hA := blk_far (p := ⟨g4, 0, none⟩) hA (show w.heap.size ≠ g4 by omega) (.int .i64 t0)
  replace hR := blk_far (p := ⟨g4, 0, none⟩) hR (show g2 ≠ g4 by omega) (.int .i64 t0)
  replace hT := blk_far (p := ⟨g4, 0, none⟩) hT (show g3 ≠ g4 by omega) (.int .i64 t0)
  replace hO := blk_put (cs := (Mat.A16 0 0 0 0 0 0 0 0 0 0 0 0 0 0 0 0)) (cs' := (Mat.A16 t0 0 0 0 0 0 0 0 0 0 0 0 0 0 0 0)) hO 0 (.int .i64 t0) rfl
  replace hB : Below w.heap.size w (V3.setCell ⟨g4, 0, none⟩ (.int .i64 t0)) := below_set hB (show w.heap.size ≤ g4 by omega)
  refine hK.out _ _ ⟨hA, hT⟩ (fun hHeld => ?_)
  clear hK K
  refine done_ (done_of HT_.out (by kernel_rfl)) ?_
  clear HT_ co fo
  go_wp2
  refine Mat.gen_ (Pr := fun W => W.heap[w.heap.size]? = some (.cells (Mat.A16 a0 a1 a2 a3 a4 a5 a6 a7 a8 a9 aa ab ac ad ae af) 23 (0, 0)) ∧ W.heap[g2]? = some (.cells (Mat.A16 0 0 0 0 0 0 0 0 0 0 0 0 0 0 0 0) 23 (0, 0)) ∧ W.heap[g3]? = some (.cells (Mat.A16 b0 b4 b8 bc b1 b5 b9 bd b2 b6 ba be b3 b7 bb bf) 23 (0, 0)) ∧ W.heap[g4]? = some (.cells (Mat.A16 t0 0 0 0 0 0 0 0 0 0 0 0 0 0 0 0) 23 (0, 0)) ∧ Below w.heap.size w W) (G := fun W => Code.rounds Try.prog _ _ _ _ W) ⟨hA, hR, hT, hO, hB⟩ ?_
  clear hA hR hT hO hB hHeld
  rintro U1 ⟨hA, hR, hT, hO, hB⟩
  as_aux_lemma =>
  rw [rounds_succ]
  go_upto_region 6 with (fail)
  replace hA := blk_drew hA
  replace hR := blk_drew hR
  replace hT := blk_drew hT
  replace hO := blk_drew hO
  replace hB := below_drew1 hB
  refine start_ (n := 12) (S := fun w' => w'.heap[w.heap.size]? = some (.cells (Mat.A16 a0 a1 a2 a3 a4 a5 a6 a7 a8 a9 aa ab ac ad ae af) 23 (0, 0)) ∧ w'.heap[g3]? = some (.cells (Mat.A16 b0 b4 b8 bc b1 b5 b9 bd b2 b6 ba be b3 b7 bb bf) 23 (0, 0))) (ds := []) #[false, false, false, false, false, false, false, false, false, false, false, false] (by kernel_rfl) rfl rfl ⟨hA, hT⟩ (fun hHeld => ?_); refine with_tab matrix_Mul.tab (fun HT_ => ?_)
  generalize U1.drew = V0 at hA hR hT hO hB hHeld ⊢
  refine pure_ (i := 0) (N := some 13) (v := ?_) (a' := ?_) Mat.s1 rfl rfl (any_of HT_.out (by kernel_rfl)) (fun _ _ _ h => h) (Or.inl ⟨by rfl, ?_⟩) ?_ ?_
  rotate_left
  · intro w'
    go_simp
    with_reducible rfl
  rotate_left
  · simp only [Act.put, Mat.p1, List.set_cons_zero, List.set_cons_succ]
    rfl
  refine pure_ (i := 2) (N := some 15) (v := ?_) (a' := ?_) Mat.s2 rfl rfl (any_of HT_.out (by kernel_rfl)) (fun _ _ _ h => h) (Or.inl ⟨by rfl, ?_⟩) ?_ ?_
  rotate_left
  · intro w'
    go_simp
    with_reducible rfl
  rotate_left
  · simp only [Act.put, Mat.p1, List.set_cons_zero, List.set_cons_succ]
    rfl
  refine pure_ (i := 3) (N := some 16) (v := .int .i64 0) (a' := ?_) Mat.s3 rfl rfl (any_of HT_.out (by kernel_rfl)) (fun _ _ _ h => h) (Or.inl ⟨by rfl, ?_⟩) ?_ ?_
  · intro w'
    go_simp
    first | done | rfl
  rotate_left
  · simp only [Act.put, Mat.p1, List.set_cons_zero, List.set_cons_succ]
    rfl
  refine pure_ (i := 6) (N := some 19) (v := ?_) (a' := ?_) Mat.s4 rfl rfl (any_of HT_.out (by kernel_rfl)) (fun _ _ _ h => h) (Or.inl ⟨by rfl, ?_⟩) ?_ ?_
  rotate_left
  · intro w'
    go_simp
    with_reducible rfl
  rotate_left
  · simp only [Act.put, Mat.p1, List.set_cons_zero, List.set_cons_succ]
    rfl
  refine pure_ (i := 7) (N := some 20) (v := .int .i64 1) (a' := ?_) Mat.s5 rfl rfl (any_of HT_.out (by kernel_rfl)) (fun _ _ _ h => h) (Or.inl ⟨by rfl, ?_⟩) ?_ ?_
  · intro w'
    go_simp
    first | done | rfl
  rotate_left
  · simp only [Act.put, Mat.p1, List.set_cons_zero, List.set_cons_succ]
    rfl
  refine take_ (i := 1) (N := some 14) (v := .agg (Mat.A16 a0 a1 a2 a3 a4 a5 a6 a7 a8 a9 aa ab ac ad ae af)) (a' := ?_) Mat.s6 rfl rfl (take_of HT_.out (by kernel_rfl)) (fun _ _ _ h => h) (yieldsIf_load_mid (by rfl) 23 (.tmp 2) rfl w.heap.size 0 (by rfl) (Mat.A16 a0 a1 a2 a3 a4 a5 a6 a7 a8 a9 aa ab ac ad ae af).toList _ (fun _ h => Mat.range_blk h.1) hu23 rfl (by kernel_rfl)) hHeld ?_ ?_
  rotate_left
  · simp only [Act.put, Mat.p1, List.set_cons_zero, List.set_cons_succ]
    rfl
  refine take_ (i := 5) (N := some 18) (v := .agg (Mat.A16 b0 b4 b8 bc b1 b5 b9 bd b2 b6 ba be b3 b7 bb bf)) (a' := ?_) Mat.s7 rfl rfl (take_of HT_.out (by kernel_rfl)) (fun _ _ _ h => h) (yieldsIf_load_mid (by rfl) 23 (.tmp 5) rfl g3 0 (by rfl) (Mat.A16 b0 b4 b8 bc b1 b5 b9 bd b2 b6 ba be b3 b7 bb bf).toList _ (fun _ h => Mat.range_blk h.2) hu23 rfl (by kernel_rfl)) hHeld ?_ ?_
  rotate_left
  · simp only [Act.put, Mat.p1, List.set_cons_zero, List.set_cons_succ]
    rfl
  refine one_ (i := 4) (N := some 17) Mat.s8 rfl rfl (one_of HT_.out (by kernel_rfl)) (by decide) (fun K hK => ?_)
  refine goes_ Try.func21 (by kernel_rfl) rfl #[.agg (Mat.A16 a0 a1 a2 a3 a4 a5 a6 a7 a8 a9 aa ab ac ad ae af), .int .i64 0] (by rfl) rfl rfl (by simp only [List.map_toArray, List.map_cons, List.map_nil]; rfl) ?_
  refine (matrix_Row.calls a0 a1 a2 a3 a4 a5 a6 a7 a8 a9 aa ab ac ad ae af 0 a0 a1 a2 a3 _ rfl).mono ?_
  rintro e V1 ⟨rfl, hb⟩
  refine ⟨_, rfl, ?_⟩
  replace hA := Mat.bb hb hA
  replace hR := Mat.bb hb hR
  replace hT := Mat.bb hb hT
  replace hO := Mat.bb hb hO
  replace hB := below_step hB hb
  clear hb
  refine hK.out _ _ ⟨hA, hT⟩ (fun hHeld => ?_)
  clear hK K
  refine norm_ (a' := ?_) ?_ ?_
  rotate_left
  · show Act.put _ (some 17) _ = _
    simp only [Act.put, Mat.p1, List.set_cons_zero, List.set_cons_succ]
    rfl
  refine one_ (i := 8) (N := some 21) Mat.s9 rfl rfl (one_of HT_.out (by kernel_rfl)) (by decide) (fun K hK => ?_)
  refine goes_ Try.func21 (by kernel_rfl) rfl #[.agg (Mat.A16 b0 b4 b8 bc b1 b5 b9 bd b2 b6 ba be b3 b7 bb bf), .int .i64 1] (by rfl) rfl rfl (by simp only [List.map_toArray, List.map_cons, List.map_nil]; rfl) ?_
  refine (matrix_Row.calls b0 b4 b8 bc b1 b5 b9 bd b2 b6 ba be b3 b7 bb bf 1 b1 b5 b9 bd _ rfl).mono ?_
  rintro e V2 ⟨rfl, hb⟩
  refine ⟨_, rfl, ?_⟩
  replace hA := Mat.bb hb hA
  replace hR := Mat.bb hb hR
  replace hT := Mat.bb hb hT
  replace hO := Mat.bb hb hO
  replace hB := below_step hB hb
  clear hb
  refine hK.out _ _ ⟨hA, hT⟩ (fun hHeld => ?_)
  clear hK K
  refine norm_ (a' := ?_) ?_ ?_
  rotate_left
  · show Act.put _ (some 21) _ = _
    simp only [Act.put, Mat.p1, List.set_cons_zero, List.set_cons_succ]
    rfl
  refine one_ (i := 9) (N := some 22) Mat.s10 rfl rfl (one_of HT_.out (by kernel_rfl)) (by decide) (fun K hK => ?_)
  refine goes_ Try.func37 (by kernel_rfl) rfl #[.agg #[.int .i64 a0, .int .i64 a1, .int .i64 a2, .int .i64 a3], .agg #[.int .i64 b1, .int .i64 b5, .int .i64 b9, .int .i64 bd]] (by rfl) rfl rfl (by simp only [List.map_toArray, List.map_cons, List.map_nil]; rfl) ?_
  refine (vec_Dot.calls k a0 a1 a2 a3 b1 b5 b9 bd t1 _ D1.out).mono ?_
  rintro e V3 ⟨rfl, hb⟩
  refine ⟨_, rfl, ?_⟩
  replace hA := Mat.bb hb hA
  replace hR := Mat.bb hb hR
  replace hT := Mat.bb hb hT
  replace hO := Mat.bb hb hO
  replace hB := below_step hB hb
  clear hb
  refine hK.out _ _ ⟨hA, hT⟩ (fun hHeld => ?_)
  clear hK K
  refine norm_ (a' := ?_) ?_ ?_
  rotate_left
  · show Act.put _ (some 22) _ = _
    simp only [Act.put, Mat.p1, List.set_cons_zero, List.set_cons_succ]
    rfl
  refine pure_ (i := 10) (N := some 23) (v := ?_) (a' := ?_) Mat.s11 rfl rfl (any_of HT_.out (by kernel_rfl)) (fun _ _ _ h => h) (Or.inl ⟨by rfl, ?_⟩) ?_ ?_
  rotate_left
  · intro w'
    go_simp
    with_reducible rfl
  rotate_left
  · simp only [Act.put, Mat.p1, List.set_cons_zero, List.set_cons_succ]
    rfl
  refine one_ (i := 11) (N := none) Mat.s12 rfl rfl (one_of HT_.out (by kernel_rfl)) (by decide) (fun K hK => ?_)
  have co : V3.cell? ⟨g4, 1, none⟩ = some (.int .i64 0) := (blk_cell hO 1).trans rfl
  have fo : V3.frozen? ⟨g4, 1, none⟩ = false := blk_frozen hO 1
  refine skip_ (w1 := ?_) (by rfl) rfl ?_ ?_
  rotate_left
  · go_simp
    rfl
  replace hA := blk_far (p := ⟨g4, 1, none⟩) hA (show w.heap.size ≠ g4 by omega) (.int .i64 t1)
  replace hR := blk_far (p := ⟨g4, 1, none⟩) hR (show g2 ≠ g4 by omega) (.int .i64 t1)
  replace hT := blk_far (p := ⟨g4, 1, none⟩) hT (show g3 ≠ g4 by omega) (.int .i64 t1)
  replace hO := blk_put (cs := (Mat.A16 t0 0 0 0 0 0 0 0 0 0 0 0 0 0 0 0)) (cs' := (Mat.A16 t0 t1 0 0 0 0 0 0 0 0 0 0 0 0 0 0)) hO 1 (.int .i64 t1) rfl
  replace hB : Below w.heap.size w (V3.setCell ⟨g4, 1, none⟩ (.int .i64 t1)) := below_set hB (show w.heap.size ≤ g4 by omega)
  refine hK.out _ _ ⟨hA, hT⟩ (fun hHeld => ?_)
  clear hK K
  refine done_ (done_of HT_.out (by kernel_rfl)) ?_
  clear HT_ co fo
  go_wp2
  refine Mat.gen_ (Pr := fun W => W.heap[w.heap.size]? = some (.cells (Mat.A16 a0 a1 a2 a3 a4 a5 a6 a7 a8 a9 aa ab ac ad ae af) 23 (0, 0)) ∧ W.heap[g2]? = some (.cells (Mat.A16 0 0 0 0 0 0 0 0 0 0 0 0 0 0 0 0) 23 (0, 0)) ∧ W.heap[g3]? = some (.cells (Mat.A16 b0 b4 b8 bc b1 b5 b9 bd b2 b6 ba be b3 b7 bb bf) 23 (0, 0)) ∧ W.heap[g4]? = some (.cells (Mat.A16 t0 t1 0 0 0 0 0 0 0 0 0 0 0 0 0 0) 23 (0, 0)) ∧ Below w.heap.size w W) (G := fun W => Code.rounds Try.prog _ _ _ _ W) ⟨hA, hR, hT, hO, hB⟩ ?_
  clear hA hR hT hO hB hHeld
  rintro U2 ⟨hA, hR, hT, hO, hB⟩
  as_aux_lemma =>
  rw [rounds_succ]
  go_upto_region 6 with (fail)
  replace hA := blk_drew hA
  replace hR := blk_drew hR
  replace hT := blk_drew hT
  replace hO := blk_drew hO
  replace hB := below_drew1 hB
  refine start_ (n := 12) (S := fun w' => w'.heap[w.heap.size]? = some (.cells (Mat.A16 a0 a1 a2 a3 a4 a5 a6 a7 a8 a9 aa ab ac ad ae af) 23 (0, 0)) ∧ w'.heap[g3]? = some (.cells (Mat.A16 b0 b4 b8 bc b1 b5 b9 bd b2 b6 ba be b3 b7 bb bf) 23 (0, 0))) (ds := []) #[false, false, false, false, false, false, false, false, false, false, false, false] (by kernel_rfl) rfl rfl ⟨hA, hT⟩ (fun hHeld => ?_); refine with_tab matrix_Mul.tab (fun HT_ => ?_)
  generalize U2.drew = V0 at hA hR hT hO hB hHeld ⊢
  refine pure_ (i := 0) (N := some 13) (v := ?_) (a' := ?_) Mat.s1 rfl rfl (any_of HT_.out (by kernel_rfl)) (fun _ _ _ h => h) (Or.inl ⟨by rfl, ?_⟩) ?_ ?_
  rotate_left
  · intro w'
    go_simp
    with_reducible rfl
  rotate_left
  · simp only [Act.put, Mat.p1, List.set_cons_zero, List.set_cons_succ]
    rfl
  refine pure_ (i := 2) (N := some 15) (v := ?_) (a' := ?_) Mat.s2 rfl rfl (any_of HT_.out (by kernel_rfl)) (fun _ _ _ h => h) (Or.inl ⟨by rfl, ?_⟩) ?_ ?_
  rotate_left
  · intro w'
    go_simp
    with_reducible rfl
  rotate_left
  · simp only [Act.put, Mat.p1, List.set_cons_zero, List.set_cons_succ]
    rfl
  refine pure_ (i := 3) (N := some 16) (v := .int .i64 0) (a' := ?_) Mat.s3 rfl rfl (any_of HT_.out (by kernel_rfl)) (fun _ _ _ h => h) (Or.inl ⟨by rfl, ?_⟩) ?_ ?_
  · intro w'
    go_simp
    first | done | rfl
  rotate_left
  · simp only [Act.put, Mat.p1, List.set_cons_zero, List.set_cons_succ]
    rfl
  refine pure_ (i := 6) (N := some 19) (v := ?_) (a' := ?_) Mat.s4 rfl rfl (any_of HT_.out (by kernel_rfl)) (fun _ _ _ h => h) (Or.inl ⟨by rfl, ?_⟩) ?_ ?_
  rotate_left
  · intro w'
    go_simp
    with_reducible rfl
  rotate_left
  · simp only [Act.put, Mat.p1, List.set_cons_zero, List.set_cons_succ]
    rfl
  refine pure_ (i := 7) (N := some 20) (v := .int .i64 2) (a' := ?_) Mat.s5 rfl rfl (any_of HT_.out (by kernel_rfl)) (fun _ _ _ h => h) (Or.inl ⟨by rfl, ?_⟩) ?_ ?_
  · intro w'
    go_simp
    first | done | rfl
  rotate_left
  · simp only [Act.put, Mat.p1, List.set_cons_zero, List.set_cons_succ]
    rfl
  refine take_ (i := 1) (N := some 14) (v := .agg (Mat.A16 a0 a1 a2 a3 a4 a5 a6 a7 a8 a9 aa ab ac ad ae af)) (a' := ?_) Mat.s6 rfl rfl (take_of HT_.out (by kernel_rfl)) (fun _ _ _ h => h) (yieldsIf_load_mid (by rfl) 23 (.tmp 2) rfl w.heap.size 0 (by rfl) (Mat.A16 a0 a1 a2 a3 a4 a5 a6 a7 a8 a9 aa ab ac ad ae af).toList _ (fun _ h => Mat.range_blk h.1) hu23 rfl (by kernel_rfl)) hHeld ?_ ?_
  rotate_left
  · simp only [Act.put, Mat.p1, List.set_cons_zero, List.set_cons_succ]
    rfl
  refine take_ (i := 5) (N := some 18) (v := .agg (Mat.A16 b0 b4 b8 bc b1 b5 b9 bd b2 b6 ba be b3 b7 bb bf)) (a' := ?_) Mat.s7 rfl rfl (take_of HT_.out (by kernel_rfl)) (fun _ _ _ h => h) (yieldsIf_load_mid (by rfl) 23 (.tmp 5) rfl g3 0 (by rfl) (Mat.A16 b0 b4 b8 bc b1 b5 b9 bd b2 b6 ba be b3 b7 bb bf).toList _ (fun _ h => Mat.range_blk h.2) hu23 rfl (by kernel_rfl)) hHeld ?_ ?_
  rotate_left
  · simp only [Act.put, Mat.p1, List.set_cons_zero, List.set_cons_succ]
    rfl
  refine one_ (i := 4) (N := some 17) Mat.s8 rfl rfl (one_of HT_.out (by kernel_rfl)) (by decide) (fun K hK => ?_)
  refine goes_ Try.func21 (by kernel_rfl) rfl #[.agg (Mat.A16 a0 a1 a2 a3 a4 a5 a6 a7 a8 a9 aa ab ac ad ae af), .int .i64 0] (by rfl) rfl rfl (by simp only [List.map_toArray, List.map_cons, List.map_nil]; rfl) ?_
  refine (matrix_Row.calls a0 a1 a2 a3 a4 a5 a6 a7 a8 a9 aa ab ac ad ae af 0 a0 a1 a2 a3 _ rfl).mono ?_
  rintro e V1 ⟨rfl, hb⟩
  refine ⟨_, rfl, ?_⟩
  replace hA := Mat.bb hb hA
  replace hR := Mat.bb hb hR
  replace hT := Mat.bb hb hT
  replace hO := Mat.bb hb hO
  replace hB := below_step hB hb
  clear hb
  refine hK.out _ _ ⟨hA, hT⟩ (fun hHeld => ?_)
  clear hK K
  refine norm_ (a' := ?_) ?_ ?_
  rotate_left
  · show Act.put _ (some 17) _ = _
    simp only [Act.put, Mat.p1, List.set_cons_zero, List.set_cons_succ]
    rfl
  refine one_ (i := 8) (N := some 21) Mat.s9 rfl rfl (one_of HT_.out (by kernel_rfl)) (by decide) (fun K hK => ?_)
  refine goes_ Try.func21 (by kernel_rfl) rfl #[.agg (Mat.A16 b0 b4 b8 bc b1 b5 b9 bd b2 b6 ba be b3 b7 bb bf), .int .i64 2] (by rfl) rfl rfl (by simp only [List.map_toArray, List.map_cons, List.map_nil]; rfl) ?_
  refine (matrix_Row.calls b0 b4 b8 bc b1 b5 b9 bd b2 b6 ba be b3 b7 bb bf 2 b2 b6 ba be _ rfl).mono ?_
  rintro e V2 ⟨rfl, hb⟩
  refine ⟨_, rfl, ?_⟩
  replace hA := Mat.bb hb hA
  replace hR := Mat.bb hb hR
  replace hT := Mat.bb hb hT
  replace hO := Mat.bb hb hO
  replace hB := below_step hB hb
  clear hb
  refine hK.out _ _ ⟨hA, hT⟩ (fun hHeld => ?_)
  clear hK K
  refine norm_ (a' := ?_) ?_ ?_
  rotate_left
  · show Act.put _ (some 21) _ = _
    simp only [Act.put, Mat.p1, List.set_cons_zero, List.set_cons_succ]
    rfl
  refine one_ (i := 9) (N := some 22) Mat.s10 rfl rfl (one_of HT_.out (by kernel_rfl)) (by decide) (fun K hK => ?_)
  refine goes_ Try.func37 (by kernel_rfl) rfl #[.agg #[.int .i64 a0, .int .i64 a1, .int .i64 a2, .int .i64 a3], .agg #[.int .i64 b2, .int .i64 b6, .int .i64 ba, .int .i64 be]] (by rfl) rfl rfl (by simp only [List.map_toArray, List.map_cons, List.map_nil]; rfl) ?_
  refine (vec_Dot.calls k a0 a1 a2 a3 b2 b6 ba be t2 _ D2.out).mono ?_
  rintro e V3 ⟨rfl, hb⟩
  refine ⟨_, rfl, ?_⟩
  replace hA := Mat.bb hb hA
  replace hR := Mat.bb hb hR
  replace hT := Mat.bb hb hT
  replace hO := Mat.bb hb hO
  replace hB := below_step hB hb
  clear hb
  refine hK.out _ _ ⟨hA, hT⟩ (fun hHeld => ?_)
  clear hK K
  refine norm_ (a' := ?_) ?_ ?_
  rotate_left
  · show Act.put _ (some 22) _ = _
    simp only [Act.put, Mat.p1, List.set_cons_zero, List.set_cons_succ]
    rfl
  refine pure_ (i := 10) (N := some 23) (v := ?_) (a' := ?_) Mat.s11 rfl rfl (any_of HT_.out (by kernel_rfl)) (fun _ _ _ h => h) (Or.inl ⟨by rfl, ?_⟩) ?_ ?_
  rotate_left
  · intro w'
    go_simp
    with_reducible rfl
  rotate_left
  · simp only [Act.put, Mat.p1, List.set_cons_zero, List.set_cons_succ]
    rfl
  refine one_ (i := 11) (N := none) Mat.s12 rfl rfl (one_of HT_.out (by kernel_rfl)) (by decide) (fun K hK => ?_)
  have co : V3.cell? ⟨g4, 2, none⟩ = some (.int .i64 0) := (blk_cell hO 2).trans rfl
  have fo : V3.frozen? ⟨g4, 2, none⟩ = false := blk_frozen hO 2
  refine skip_ (w1 := ?_) (by rfl) rfl ?_ ?_
  rotate_left
  · go_simp
    rfl
  replace hA := blk_far (p := ⟨g4, 2, none⟩) hA (show w.heap.size ≠ g4 by omega) (.int .i64 t2)
  replace hR := blk_far (p := ⟨g4, 2, none⟩) hR (show g2 ≠ g4 by omega) (.int .i64 t2)
  replace hT := blk_far (p := ⟨g4, 2, none⟩) hT (show g3 ≠ g4 by omega) (.int .i64 t2)
  replace hO := blk_put (cs := (Mat.A16 t0 t1 0 0 0 0 0 0 0 0 0 0 0 0 0 0)) (cs' := (Mat.A16 t0 t1 t2 0 0 0 0 0 0 0 0 0 0 0 0 0)) hO 2 (.int .i64 t2) rfl
  replace hB : Below w.heap.size w (V3.setCell ⟨g4, 2, none⟩ (.int .i64 t2)) := below_set hB (show w.heap.size ≤ g4 by omega)
  refine hK.out _ _ ⟨hA, hT⟩ (fun hHeld => ?_)
  clear hK K
  refine done_ (done_of HT_.out (by kernel_rfl)) ?_
  clear HT_ co fo
  go_wp2
  refine Mat.gen_ (Pr := fun W => W.heap[w.heap.size]? = some (.cells (Mat.A16 a0 a1 a2 a3 a4 a5 a6 a7 a8 a9 aa ab ac ad ae af) 23 (0, 0)) ∧ W.heap[g2]? = some (.cells (Mat.A16 0 0 0 0 0 0 0 0 0 0 0 0 0 0 0 0) 23 (0, 0)) ∧ W.heap[g3]? = some (.cells (Mat.A16 b0 b4 b8 bc b1 b5 b9 bd b2 b6 ba be b3 b7 bb bf) 23 (0, 0)) ∧ W.heap[g4]? = some (.cells (Mat.A16 t0 t1 t2 0 0 0 0 0 0 0 0 0 0 0 0 0) 23 (0, 0)) ∧ Below w.heap.size w W) (G := fun W => Code.rounds Try.prog _ _ _ _ W) ⟨hA, hR, hT, hO, hB⟩ ?_
  clear hA hR hT hO hB hHeld
  rintro U3 ⟨hA, hR, hT, hO, hB⟩
  as_aux_lemma =>
  rw [rounds_succ]
  go_upto_region 6 with (fail)
  replace hA := blk_drew hA
  replace hR := blk_drew hR
  replace hT := blk_drew hT
  replace hO := blk_drew hO
  replace hB := below_drew1 hB
  refine start_ (n := 12) (S := fun w' => w'.heap[w.heap.size]? = some (.cells (Mat.A16 a0 a1 a2 a3 a4 a5 a6 a7 a8 a9 aa ab ac ad ae af) 23 (0, 0)) ∧ w'.heap[g3]? = some (.cells (Mat.A16 b0 b4 b8 bc b1 b5 b9 bd b2 b6 ba be b3 b7 bb bf) 23 (0, 0))) (ds := []) #[false, false, false, false, false, false, false, false, false, false, false, false] (by kernel_rfl) rfl rfl ⟨hA, hT⟩ (fun hHeld => ?_); refine with_tab matrix_Mul.tab (fun HT_ => ?_)
  generalize U3.drew = V0 at hA hR hT hO hB hHeld ⊢
  refine pure_ (i := 0) (N := some 13) (v := ?_) (a' := ?_) Mat.s1 rfl rfl (any_of HT_.out (by kernel_rfl)) (fun _ _ _ h => h) (Or.inl ⟨by rfl, ?_⟩) ?_ ?_
  rotate_left
  · intro w'
    go_simp
    with_reducible rfl
  rotate_left
  · simp only [Act.put, Mat.p1, List.set_cons_zero, List.set_cons_succ]
    rfl
  refine pure_ (i := 2) (N := some 15) (v := ?_) (a' := ?_) Mat.s2 rfl rfl (any_of HT_.out (by kernel_rfl)) (fun _ _ _ h => h) (Or.inl ⟨by rfl, ?_⟩) ?_ ?_
  rotate_left
  · intro w'
    go_simp
    with_reducible rfl
  rotate_left
  · simp only [Act.put, Mat.p1, List.set_cons_zero, List.set_cons_succ]
    rfl
  refine pure_ (i := 3) (N := some 16) (v := .int .i64 0) (a' := ?_) Mat.s3 rfl rfl (any_of HT_.out (by kernel_rfl)) (fun _ _ _ h => h) (Or.inl ⟨by rfl, ?_⟩) ?_ ?_
  · intro w'
    go_simp
    first | done | rfl
  rotate_left
  · simp only [Act.put, Mat.p1, List.set_cons_zero, List.set_cons_succ]
    rfl
  refine pure_ (i := 6) (N := some 19) (v := ?_) (a' := ?_) Mat.s4 rfl rfl (any_of HT_.out (by kernel_rfl)) (fun _ _ _ h => h) (Or.inl ⟨by rfl, ?_⟩) ?_ ?_
  rotate_left
  · intro w'
    go_simp
    with_reducible rfl
  rotate_left
  · simp only [Act.put, Mat.p1, List.set_cons_zero, List.set_cons_succ]
    rfl
  refine pure_ (i := 7) (N := some 20) (v := .int .i64 3) (a' := ?_) Mat.s5 rfl rfl (any_of HT_.out (by kernel_rfl)) (fun _ _ _ h => h) (Or.inl ⟨by rfl, ?_⟩) ?_ ?_
  · intro w'
    go_simp
    first | done | rfl
  rotate_left
  · simp only [Act.put, Mat.p1, List.set_cons_zero, List.set_cons_succ]
    rfl
  refine take_ (i := 1) (N := some 14) (v := .agg (Mat.A16 a0 a1 a2 a3 a4 a5 a6 a7 a8 a9 aa ab ac ad ae af)) (a' := ?_) Mat.s6 rfl rfl (take_of HT_.out (by kernel_rfl)) (fun _ _ _ h => h) (yieldsIf_load_mid (by rfl) 23 (.tmp 2) rfl w.heap.size 0 (by rfl) (Mat.A16 a0 a1 a2 a3 a4 a5 a6 a7 a8 a9 aa ab ac ad ae af).toList _ (fun _ h => Mat.range_blk h.1) hu23 rfl (by kernel_rfl)) hHeld ?_ ?_
  rotate_left
  · simp only [Act.put, Mat.p1, List.set_cons_zero, List.set_cons_succ]
    rfl
  refine take_ (i := 5) (N := some 18) (v := .agg (Mat.A16 b0 b4 b8 bc b1 b5 b9 bd b2 b6 ba be b3 b7 bb bf)) (a' := ?_) Mat.s7 rfl rfl (take_of HT_.out (by kernel_rfl)) (fun _ _ _ h => h) (yieldsIf_load_mid (by rfl) 23 (.tmp 5) rfl g3 0 (by rfl) (Mat.A16 b0 b4 b8 bc b1 b5 b9 bd b2 b6 ba be b3 b7 bb bf).toList _ (fun _ h => Mat.range_blk h.2) hu23 rfl (by kernel_rfl)) hHeld ?_ ?_
  rotate_left
  · simp only [Act.put, Mat.p1, List.set_cons_zero, List.set_cons_succ]
    rfl
  refine one_ (i := 4) (N := some 17) Mat.s8 rfl rfl (one_of HT_.out (by kernel_rfl)) (by decide) (fun K hK => ?_)
  refine goes_ Try.func21 (by kernel_rfl) rfl #[.agg (Mat.A16 a0 a1 a2 a3 a4 a5 a6 a7 a8 a9 aa ab ac ad ae af), .int .i64 0] (by rfl) rfl rfl (by simp only [List.map_toArray, List.map_cons, List.map_nil]; rfl) ?_
  refine (matrix_Row.calls a0 a1 a2 a3 a4 a5 a6 a7 a8 a9 aa ab ac ad ae af 0 a0 a1 a2 a3 _ rfl).mono ?_
  rintro e V1 ⟨rfl, hb⟩
  refine ⟨_, rfl, ?_⟩
  replace hA := Mat.bb hb hA
  replace hR := Mat.bb hb hR
  replace hT := Mat.bb hb hT
  replace hO := Mat.bb hb hO
  replace hB := below_step hB hb
  clear hb
  refine hK.out _ _ ⟨hA, hT⟩ (fun hHeld => ?_)
  clear hK K
  refine norm_ (a' := ?_) ?_ ?_
  rotate_left
  · show Act.put _ (some 17) _ = _
    simp only [Act.put, Mat.p1, List.set_cons_zero, List.set_cons_succ]
    rfl
  refine one_ (i := 8) (N := some 21) Mat.s9 rfl rfl (one_of HT_.out (by kernel_rfl)) (by decide) (fun K hK => ?_)
  refine goes_ Try.func21 (by kernel_rfl) rfl #[.agg (Mat.A16 b0 b4 b8 bc b1 b5 b9 bd b2 b6 ba be b3 b7 bb bf), .int .i64 3] (by rfl) rfl rfl (by simp only [List.map_toArray, List.map_cons, List.map_nil]; rfl) ?_
  refine (matrix_Row.calls b0 b4 b8 bc b1 b5 b9 bd b2 b6 ba be b3 b7 bb bf 3 b3 b7 bb bf _ rfl).mono ?_
  rintro e V2 ⟨rfl, hb⟩
  refine ⟨_, rfl, ?_⟩
  replace hA := Mat.bb hb hA
  replace hR := Mat.bb hb hR
  replace hT := Mat.bb hb hT
  replace hO := Mat.bb hb hO
  replace hB := below_step hB hb
  clear hb
  refine hK.out _ _ ⟨hA, hT⟩ (fun hHeld => ?_)
  clear hK K
  refine norm_ (a' := ?_) ?_ ?_
  rotate_left
  · show Act.put _ (some 21) _ = _
    simp only [Act.put, Mat.p1, List.set_cons_zero, List.set_cons_succ]
    rfl
  refine one_ (i := 9) (N := some 22) Mat.s10 rfl rfl (one_of HT_.out (by kernel_rfl)) (by decide) (fun K hK => ?_)
  refine goes_ Try.func37 (by kernel_rfl) rfl #[.agg #[.int .i64 a0, .int .i64 a1, .int .i64 a2, .int .i64 a3], .agg #[.int .i64 b3, .int .i64 b7, .int .i64 bb, .int .i64 bf]] (by rfl) rfl rfl (by simp only [List.map_toArray, List.map_cons, List.map_nil]; rfl) ?_
  refine (vec_Dot.calls k a0 a1 a2 a3 b3 b7 bb bf t3 _ D3.out).mono ?_
  rintro e V3 ⟨rfl, hb⟩
  refine ⟨_, rfl, ?_⟩
  replace hA := Mat.bb hb hA
  replace hR := Mat.bb hb hR
  replace hT := Mat.bb hb hT
  replace hO := Mat.bb hb hO
  replace hB := below_step hB hb
  clear hb
  refine hK.out _ _ ⟨hA, hT⟩ (fun hHeld => ?_)
  clear hK K
  refine norm_ (a' := ?_) ?_ ?_
  rotate_left
  · show Act.put _ (some 22) _ = _
    simp only [Act.put, Mat.p1, List.set_cons_zero, List.set_cons_succ]
    rfl
  refine pure_ (i := 10) (N := some 23) (v := ?_) (a' := ?_) Mat.s11 rfl rfl (any_of HT_.out (by kernel_rfl)) (fun _ _ _ h => h) (Or.inl ⟨by rfl, ?_⟩) ?_ ?_
  rotate_left
  · intro w'
    go_simp
    with_reducible rfl
  rotate_left
  · simp only [Act.put, Mat.p1, List.set_cons_zero, List.set_cons_succ]
    rfl
  refine one_ (i := 11) (N := none) Mat.s12 rfl rfl (one_of HT_.out (by kernel_rfl)) (by decide) (fun K hK => ?_)
  have co : V3.cell? ⟨g4, 3, none⟩ = some (.int .i64 0) := (blk_cell hO 3).trans rfl
  have fo : V3.frozen? ⟨g4, 3, none⟩ = false := blk_frozen hO 3
  refine skip_ (w1 := ?_) (by rfl) rfl ?_ ?_
  rotate_left
  · go_simp
    rfl
  replace hA := blk_far (p := ⟨g4, 3, none⟩) hA (show w.heap.size ≠ g4 by omega) (.int .i64 t3)
  replace hR := blk_far (p := ⟨g4, 3, none⟩) hR (show g2 ≠ g4 by omega) (.int .i64 t3)
  replace hT := blk_far (p := ⟨g4, 3, none⟩) hT (show g3 ≠ g4 by omega) (.int .i64 t3)
  replace hO := blk_put (cs := (Mat.A16 t0 t1 t2 0 0 0 0 0 0 0 0 0 0 0 0 0)) (cs' := (Mat.A16 t0 t1 t2 t3 0 0 0 0 0 0 0 0 0 0 0 0)) hO 3 (.int .i64 t3) rfl
  replace hB : Below w.heap.size w (V3.setCell ⟨g4, 3, none⟩ (.int .i64 t3)) := below_set hB (show w.heap.size ≤ g4 by omega)
  refine hK.out _ _ ⟨hA, hT⟩ (fun hHeld => ?_)
  clear hK K
  refine done_ (done_of HT_.out (by kernel_rfl)) ?_
  clear HT_ co fo
  go_wp2
  refine Mat.gen_ (Pr := fun W => W.heap[w.heap.size]? = some (.cells (Mat.A16 a0 a1 a2 a3 a4 a5 a6 a7 a8 a9 aa ab ac ad ae af) 23 (0, 0)) ∧ W.heap[g2]? = some (.cells (Mat.A16 0 0 0 0 0 0 0 0 0 0 0 0 0 0 0 0) 23 (0, 0)) ∧ W.heap[g3]? = some (.cells (Mat.A16 b0 b4 b8 bc b1 b5 b9 bd b2 b6 ba be b3 b7 bb bf) 23 (0, 0)) ∧ W.heap[g4]? = some (.cells (Mat.A16 t0 t1 t2 t3 0 0 0 0 0 0 0 0 0 0 0 0) 23 (0, 0)) ∧ Below w.heap.size w W) (G := fun W => Code.rounds Try.prog _ _ _ _ W) ⟨hA, hR, hT, hO, hB⟩ ?_
  clear hA hR hT hO hB hHeld
  rintro U4 ⟨hA, hR, hT, hO, hB⟩
  as_aux_lemma =>
  rw [rounds_succ]
  go_upto_region 6 with (fail)
  replace hA := blk_drew hA
  replace hR := blk_drew hR
  replace hT := blk_drew hT
  replace hO := blk_drew hO
  replace hB := below_drew1 hB
  refine start_ (n := 12) (S := fun w' => w'.heap[w.heap.size]? = some (.cells (Mat.A16 a0 a1 a2 a3 a4 a5 a6 a7 a8 a9 aa ab ac ad ae af) 23 (0, 0)) ∧ w'.heap[g3]? = some (.cells (Mat.A16 b0 b4 b8 bc b1 b5 b9 bd b2 b6 ba be b3 b7 bb bf) 23 (0, 0))) (ds := []) #[false, false, false, false, false, false, false, false, false, false, false, false] (by kernel_rfl) rfl rfl ⟨hA, hT⟩ (fun hHeld => ?_); refine with_tab matrix_Mul.tab (fun HT_ => ?_)
  generalize U4.drew = V0 at hA hR hT hO hB hHeld ⊢
  refine pure_ (i := 0) (N := some 13) (v := ?_) (a' := ?_) Mat.s1 rfl rfl (any_of HT_.out (by kernel_rfl)) (fun _ _ _ h => h) (Or.inl ⟨by rfl, ?_⟩) ?_ ?_
  rotate_left
  · intro w'
    go_simp
    with_reducible rfl
  rotate_left
  · simp only [Act.put, Mat.p1, List.set_cons_zero, List.set_cons_succ]
    rfl
  refine pure_ (i := 2) (N := some 15) (v := ?_) (a' := ?_) Mat.s2 rfl rfl (any_of HT_.out (by kernel_rfl)) (fun _ _ _ h => h) (Or.inl ⟨by rfl, ?_⟩) ?_ ?_
  rotate_left
  · intro w'
    go_simp
    with_reducible rfl
  rotate_left
  · simp only [Act.put, Mat.p1, List.set_cons_zero, List.set_cons_succ]
    rfl
  refine pure_ (i := 3) (N := some 16) (v := .int .i64 1) (a' := ?_) Mat.s3 rfl rfl (any_of HT_.out (by kernel_rfl)) (fun _ _ _ h => h) (Or.inl ⟨by rfl, ?_⟩) ?_ ?_
  · intro w'
    go_simp
    first | done | rfl
  rotate_left
  · simp only [Act.put, Mat.p1, List.set_cons_zero, List.set_cons_succ]
    rfl
  refine pure_ (i := 6) (N := some 19) (v := ?_) (a' := ?_) Mat.s4 rfl rfl (any_of HT_.out (by kernel_rfl)) (fun _ _ _ h => h) (Or.inl ⟨by rfl, ?_⟩) ?_ ?_
  rotate_left
  · intro w'
    go_simp
    with_reducible rfl
  rotate_left
  · simp only [Act.put, Mat.p1, List.set_cons_zero, List.set_cons_succ]
    rfl
  refine pure_ (i := 7) (N := some 20) (v := .int .i64 0) (a' := ?_) Mat.s5 rfl rfl (any_of HT_.out (by kernel_rfl)) (fun _ _ _ h => h) (Or.inl ⟨by rfl, ?_⟩) ?_ ?_
  · intro w'
    go_simp
    first | done | rfl
  rotate_left
  · simp only [Act.put, Mat.p1, List.set_cons_zero, List.set_cons_succ]
    rfl
  refine take_ (i := 1) (N := some 14) (v := .agg (Mat.A16 a0 a1 a2 a3 a4 a5 a6 a7 a8 a9 aa ab ac ad ae af)) (a' := ?_) Mat.s6 rfl rfl (take_of HT_.out (by kernel_rfl)) (fun _ _ _ h => h) (yieldsIf_load_mid (by rfl) 23 (.tmp 2) rfl w.heap.size 0 (by rfl) (Mat.A16 a0 a1 a2 a3 a4 a5 a6 a7 a8 a9 aa ab ac ad ae af).toList _ (fun _ h => Mat.range_blk h.1) hu23 rfl (by kernel_rfl)) hHeld ?_ ?_
  rotate_left
  · simp only [Act.put, Mat.p1, List.set_cons_zero, List.set_cons_succ]
    rfl
  refine take_ (i := 5) (N := some 18) (v := .agg (Mat.A16 b0 b4 b8 bc b1 b5 b9 bd b2 b6 ba be b3 b7 bb bf)) (a' := ?_) Mat.s7 rfl rfl (take_of HT_.out (by kernel_rfl)) (fun _ _ _ h => h) (yieldsIf_load_mid (by rfl) 23 (.tmp 5) rfl g3 0 (by rfl) (Mat.A16 b0 b4 b8 bc b1 b5 b9 bd b2 b6 ba be b3 b7 bb bf).toList _ (fun _ h => Mat.range_blk h.2) hu23 rfl (by kernel_rfl)) hHeld ?_ ?_
  rotate_left
  · simp only [Act.put, Mat.p1, List.set_cons_zero, List.set_cons_succ]
    rfl
  refine one_ (i := 4) (N := some 17) Mat.s8 rfl rfl (one_of HT_.out (by kernel_rfl)) (by decide) (fun K hK => ?_)
  refine goes_ Try.func21 (by kernel_rfl) rfl #[.agg (Mat.A16 a0 a1 a2 a3 a4 a5 a6 a7 a8 a9 aa ab ac ad ae af), .int .i64 1] (by rfl) rfl rfl (by simp only [List.map_toArray, List.map_cons, List.map_nil]; rfl) ?_
  refine (matrix_Row.calls a0 a1 a2 a3 a4 a5 a6 a7 a8 a9 aa ab ac ad ae af 1 a4 a5 a6 a7 _ rfl).mono ?_
  rintro e V1 ⟨rfl, hb⟩
  refine ⟨_, rfl, ?_⟩
  replace hA := Mat.bb hb hA
  replace hR := Mat.bb hb hR
  replace hT := Mat.bb hb hT
  replace hO := Mat.bb hb hO
  replace hB := below_step hB hb
  clear hb
  refine hK.out _ _ ⟨hA, hT⟩ (fun hHeld => ?_)
  clear hK K
  refine norm_ (a' := ?_) ?_ ?_
  rotate_left
  · show Act.put _ (some 17) _ = _
    simp only [Act.put, Mat.p1, List.set_cons_zero, List.set_cons_succ]
    rfl
  refine one_ (i := 8) (N := some 21) Mat.s9 rfl rfl (one_of HT_.out (by kernel_rfl)) (by decide) (fun K hK => ?_)
  refine goes_ Try.func21 (by kernel_rfl) rfl #[.agg (Mat.A16 b0 b4 b8 bc b1 b5 b9 bd b2 b6 ba be b3 b7 bb bf), .int .i64 0] (by rfl) rfl rfl (by simp only [List.map_toArray, List.map_cons, List.map_nil]; rfl) ?_
  refine (matrix_Row.calls b0 b4 b8 bc b1 b5 b9 bd b2 b6 ba be b3 b7 bb bf 0 b0 b4 b8 bc _ rfl).mono ?_
  rintro e V2 ⟨rfl, hb⟩
  refine ⟨_, rfl, ?_⟩
  replace hA := Mat.bb hb hA
  replace hR := Mat.bb hb hR
  replace hT := Mat.bb hb hT
  replace hO := Mat.bb hb hO
  replace hB := below_step hB hb
  clear hb
  refine hK.out _ _ ⟨hA, hT⟩ (fun hHeld => ?_)
  clear hK K
  refine norm_ (a' := ?_) ?_ ?_
  rotate_left
  · show Act.put _ (some 21) _ = _
    simp only [Act.put, Mat.p1, List.set_cons_zero, List.set_cons_succ]
    rfl
  refine one_ (i := 9) (N := some 22) Mat.s10 rfl rfl (one_of HT_.out (by kernel_rfl)) (by decide) (fun K hK => ?_)
  refine goes_ Try.func37 (by kernel_rfl) rfl #[.agg #[.int .i64 a4, .int .i64 a5, .int .i64 a6, .int .i64 a7], .agg #[.int .i64 b0, .int .i64 b4, .int .i64 b8, .int .i64 bc]] (by rfl) rfl rfl (by simp only [List.map_toArray, List.map_cons, List.map_nil]; rfl) ?_
  refine (vec_Dot.calls k a4 a5 a6 a7 b0 b4 b8 bc t4 _ D4.out).mono ?_
  rintro e V3 ⟨rfl, hb⟩
  refine ⟨_, rfl, ?_⟩
  replace hA := Mat.bb hb hA
  replace hR := Mat.bb hb hR
  replace hT := Mat.bb hb hT
  replace hO := Mat.bb hb hO
  replace hB := below_step hB hb
  clear hb
  refine hK.out _ _ ⟨hA, hT⟩ (fun hHeld => ?_)
  clear hK K
  refine norm_ (a' := ?_) ?_ ?_
  rotate_left
  · show Act.put _ (some 22) _ = _
    simp only [Act.put, Mat.p1, List.set_cons_zero, List.set_cons_succ]
    rfl
  refine pure_ (i := 10) (N := some 23) (v := ?_) (a' := ?_) Mat.s11 rfl rfl (any_of HT_.out (by kernel_rfl)) (fun _ _ _ h => h) (Or.inl ⟨by rfl, ?_⟩) ?_ ?_
  rotate_left
  · intro w'
    go_simp
    with_reducible rfl
  rotate_left
  · simp only [Act.put, Mat.p1, List.set_cons_zero, List.set_cons_succ]
    rfl
  refine one_ (i := 11) (N := none) Mat.s12 rfl rfl (one_of HT_.out (by kernel_rfl)) (by decide) (fun K hK => ?_)
  have co : V3.cell? ⟨g4, 4, none⟩ = some (.int .i64 0) := (blk_cell hO 4).trans rfl
  have fo : V3.frozen? ⟨g4, 4, none⟩ = false := blk_frozen hO 4
  refine skip_ (w1 := ?_) (by rfl) rfl ?_ ?_
  rotate_left
  · go_simp
    rfl
  replace hA := blk_far (p := ⟨g4, 4, none⟩) hA (show w.heap.size ≠ g4 by omega) (.int .i64 t4)
  replace hR := blk_far (p := ⟨g4, 4, none⟩) hR (show g2 ≠ g4 by omega) (.int .i64 t4)
  replace hT := blk_far (p := ⟨g4, 4, none⟩) hT (show g3 ≠ g4 by omega) (.int .i64 t4)
  replace hO := blk_put (cs := (Mat.A16 t0 t1 t2 t3 0 0 0 0 0 0 0 0 0 0 0 0)) (cs' := (Mat.A16 t0 t1 t2 t3 t4 0 0 0 0 0 0 0 0 0 0 0)) hO 4 (.int .i64 t4) rfl
  replace hB : Below w.heap.size w (V3.setCell ⟨g4, 4, none⟩ (.int .i64 t4)) := below_set hB (show w.heap.size ≤ g4 by omega)
  refine hK.out _ _ ⟨hA, hT⟩ (fun hHeld => ?_)
  clear hK K
  refine done_ (done_of HT_.out (by kernel_rfl)) ?_
  clear HT_ co fo
  go_wp2
  refine Mat.gen_ (Pr := fun W => W.heap[w.heap.size]? = some (.cells (Mat.A16 a0 a1 a2 a3 a4 a5 a6 a7 a8 a9 aa ab ac ad ae af) 23 (0, 0)) ∧ W.heap[g2]? = some (.cells (Mat.A16 0 0 0 0 0 0 0 0 0 0 0 0 0 0 0 0) 23 (0, 0)) ∧ W.heap[g3]? = some (.cells (Mat.A16 b0 b4 b8 bc b1 b5 b9 bd b2 b6 ba be b3 b7 bb bf) 23 (0, 0)) ∧ W.heap[g4]? = some (.cells (Mat.A16 t0 t1 t2 t3 t4 0 0 0 0 0 0 0 0 0 0 0) 23 (0, 0)) ∧ Below w.heap.size w W) (G := fun W => Code.rounds Try.prog _ _ _ _ W) ⟨hA, hR, hT, hO, hB⟩ ?_
  clear hA hR hT hO hB hHeld
  rintro U5 ⟨hA, hR, hT, hO, hB⟩
  as_aux_lemma =>
  rw [rounds_succ]
  go_upto_region 6 with (fail)
  replace hA := blk_drew hA
  replace hR := blk_drew hR
  replace hT := blk_drew hT
  replace hO := blk_drew hO
  replace hB := below_drew1 hB
  refine start_ (n := 12) (S := fun w' => w'.heap[w.heap.size]? = some (.cells (Mat.A16 a0 a1 a2 a3 a4 a5 a6 a7 a8 a9 aa ab ac ad ae af) 23 (0, 0)) ∧ w'.heap[g3]? = some (.cells (Mat.A16 b0 b4 b8 bc b1 b5 b9 bd b2 b6 ba be b3 b7 bb bf) 23 (0, 0))) (ds := []) #[false, false, false, false, false, false, false, false, false, false, false, false] (by kernel_rfl) rfl rfl ⟨hA, hT⟩ (fun hHeld => ?_); refine with_tab matrix_Mul.tab (fun HT_ => ?_)
  generalize U5.drew = V0 at hA hR hT hO hB hHeld ⊢
  refine pure_ (i := 0) (N := some 13) (v := ?_) (a' := ?_) Mat.s1 rfl rfl (any_of HT_.out (by kernel_rfl)) (fun _ _ _ h => h) (Or.inl ⟨by rfl, ?_⟩) ?_ ?_
  rotate_left
  · intro w'
    go_simp
    with_reducible rfl
  rotate_left
  · simp only [Act.put, Mat.p1, List.set_cons_zero, List.set_cons_succ]
    rfl
  refine pure_ (i := 2) (N := some 15) (v := ?_) (a' := ?_) Mat.s2 rfl rfl (any_of HT_.out (by kernel_rfl)) (fun _ _ _ h => h) (Or.inl ⟨by rfl, ?_⟩) ?_ ?_
  rotate_left
  · intro w'
    go_simp
    with_reducible rfl
  rotate_left
  · simp only [Act.put, Mat.p1, List.set_cons_zero, List.set_cons_succ]
    rfl
  refine pure_ (i := 3) (N := some 16) (v := .int .i64 1) (a' := ?_) Mat.s3 rfl rfl (any_of HT_.out (by kernel_rfl)) (fun _ _ _ h => h) (Or.inl ⟨by rfl, ?_⟩) ?_ ?_
  · intro w'
    go_simp
    first | done | rfl
  rotate_left
  · simp only [Act.put, Mat.p1, List.set_cons_zero, List.set_cons_succ]
    rfl
  refine pure_ (i := 6) (N := some 19) (v := ?_) (a' := ?_) Mat.s4 rfl rfl (any_of HT_.out (by kernel_rfl)) (fun _ _ _ h => h) (Or.inl ⟨by rfl, ?_⟩) ?_ ?_
  rotate_left
  · intro w'
    go_simp
    with_reducible rfl
  rotate_left
  · simp only [Act.put, Mat.p1, List.set_cons_zero, List.set_cons_succ]
    rfl
  refine pure_ (i := 7) (N := some 20) (v := .int .i64 1) (a' := ?_) Mat.s5 rfl rfl (any_of HT_.out (by kernel_rfl)) (fun _ _ _ h => h) (Or.inl ⟨by rfl, ?_⟩) ?_ ?_
  · intro w'
    go_simp
    first | done | rfl
  rotate_left
  · simp only [Act.put, Mat.p1, List.set_cons_zero, List.set_cons_succ]
    rfl
  refine take_ (i := 1) (N := some 14) (v := .agg (Mat.A16 a0 a1 a2 a3 a4 a5 a6 a7 a8 a9 aa ab ac ad ae af)) (a' := ?_) Mat.s6 rfl rfl (take_of HT_.out (by kernel_rfl)) (fun _ _ _ h => h) (yieldsIf_load_mid (by rfl) 23 (.tmp 2) rfl w.heap.size 0 (by rfl) (Mat.A16 a0 a1 a2 a3 a4 a5 a6 a7 a8 a9 aa ab ac ad ae af).toList _ (fun _ h => Mat.range_blk h.1) hu23 rfl (by kernel_rfl)) hHeld ?_ ?_
  rotate_left
  · simp only [Act.put, Mat.p1, List.set_cons_zero, List.set_cons_succ]
    rfl
  refine take_ (i := 5) (N := some 18) (v := .agg (Mat.A16 b0 b4 b8 bc b1 b5 b9 bd b2 b6 ba be b3 b7 bb bf)) (a' := ?_) Mat.s7 rfl rfl (take_of HT_.out (by kernel_rfl)) (fun _ _ _ h => h) (yieldsIf_load_mid (by rfl) 23 (.tmp 5) rfl g3 0 (by rfl) (Mat.A16 b0 b4 b8 bc b1 b5 b9 bd b2 b6 ba be b3 b7 bb bf).toList _ (fun _ h => Mat.range_blk h.2) hu23 rfl (by kernel_rfl)) hHeld ?_ ?_
  rotate_left
  · simp only [Act.put, Mat.p1, List.set_cons_zero, List.set_cons_succ]
    rfl
  refine one_ (i := 4) (N := some 17) Mat.s8 rfl rfl (one_of HT_.out (by kernel_rfl)) (by decide) (fun K hK => ?_)
  refine goes_ Try.func21 (by kernel_rfl) rfl #[.agg (Mat.A16 a0 a1 a2 a3 a4 a5 a6 a7 a8 a9 aa ab ac ad ae af), .int .i64 1] (by rfl) rfl rfl (by simp only [List.map_toArray, List.map_cons, List.map_nil]; rfl) ?_
  refine (matrix_Row.calls a0 a1 a2 a3 a4 a5 a6 a7 a8 a9 aa ab ac ad ae af 1 a4 a5 a6 a7 _ rfl).mono ?_
  rintro e V1 ⟨rfl, hb⟩
  refine ⟨_, rfl, ?_⟩
  replace hA := Mat.bb hb hA
  replace hR := Mat.bb hb hR
  replace hT := Mat.bb hb hT
  replace hO := Mat.bb hb hO
  replace hB := below_step hB hb
  clear hb
  refine hK.out _ _ ⟨hA, hT⟩ (fun hHeld => ?_)
  clear hK K
  refine norm_ (a' := ?_) ?_ ?_
  rotate_left
  · show Act.put _ (some 17) _ = _
    simp only [Act.put, Mat.p1, List.set_cons_zero, List.set_cons_succ]
    rfl
  refine one_ (i := 8) (N := some 21) Mat.s9 rfl rfl (one_of HT_.out (by kernel_rfl)) (by decide) (fun K hK => ?_)
  refine goes_ Try.func21 (by kernel_rfl) rfl #[.agg (Mat.A16 b0 b4 b8 bc b1 b5 b9 bd b2 b6 ba be b3 b7 bb bf), .int .i64 1] (by rfl) rfl rfl (by simp only [List.map_toArray, List.map_cons, List.map_nil]; rfl) ?_
  refine (matrix_Row.calls b0 b4 b8 bc b1 b5 b9 bd b2 b6 ba be b3 b7 bb bf 1 b1 b5 b9 bd _ rfl).mono ?_
  rintro e V2 ⟨rfl, hb⟩
  refine ⟨_, rfl, ?_⟩
  replace hA := Mat.bb hb hA
  replace hR := Mat.bb hb hR
  replace hT := Mat.bb hb hT
  replace hO := Mat.bb hb hO
  replace hB := below_step hB hb
  clear hb
  refine hK.out _ _ ⟨hA, hT⟩ (fun hHeld => ?_)
  clear hK K
  refine norm_ (a' := ?_) ?_ ?_
  rotate_left
  · show Act.put _ (some 21) _ = _
    simp only [Act.put, Mat.p1, List.set_cons_zero, List.set_cons_succ]
    rfl
  refine one_ (i := 9) (N := some 22) Mat.s10 rfl rfl (one_of HT_.out (by kernel_rfl)) (by decide) (fun K hK => ?_)
  refine goes_ Try.func37 (by kernel_rfl) rfl #[.agg #[.int .i64 a4, .int .i64 a5, .int .i64 a6, .int .i64 a7], .agg #[.int .i64 b1, .int .i64 b5, .int .i64 b9, .int .i64 bd]] (by rfl) rfl rfl (by simp only [List.map_toArray, List.map_cons, List.map_nil]; rfl) ?_
  refine (vec_Dot.calls k a4 a5 a6 a7 b1 b5 b9 bd t5 _ D5.out).mono ?_
  rintro e V3 ⟨rfl, hb⟩
  refine ⟨_, rfl, ?_⟩
  replace hA := Mat.bb hb hA
  replace hR := Mat.bb hb hR
  replace hT := Mat.bb hb hT
  replace hO := Mat.bb hb hO
  replace hB := below_step hB hb
  clear hb
  refine hK.out _ _ ⟨hA, hT⟩ (fun hHeld => ?_)
  clear hK K
  refine norm_ (a' := ?_) ?_ ?_
  rotate_left
  · show Act.put _ (some 22) _ = _
    simp only [Act.put, Mat.p1, List.set_cons_zero, List.set_cons_succ]
    rfl
  refine pure_ (i := 10) (N := some 23) (v := ?_) (a' := ?_) Mat.s11 rfl rfl (any_of HT_.out (by kernel_rfl)) (fun _ _ _ h => h) (Or.inl ⟨by rfl, ?_⟩) ?_ ?_
  rotate_left
  · intro w'
    go_simp
    with_reducible rfl
  rotate_left
  · simp only [Act.put, Mat.p1, List.set_cons_zero, List.set_cons_succ]
    rfl
  refine one_ (i := 11) (N := none) Mat.s12 rfl rfl (one_of HT_.out (by kernel_rfl)) (by decide) (fun K hK => ?_)
  have co : V3.cell? ⟨g4, 5, none⟩ = some (.int .i64 0) := (blk_cell hO 5).trans rfl
  have fo : V3.frozen? ⟨g4, 5, none⟩ = false := blk_frozen hO 5
  refine skip_ (w1 := ?_) (by rfl) rfl ?_ ?_
  rotate_left
  · go_simp
    rfl
  replace hA := blk_far (p := ⟨g4, 5, none⟩) hA (show w.heap.size ≠ g4 by omega) (.int .i64 t5)
  replace hR := blk_far (p := ⟨g4, 5, none⟩) hR (show g2 ≠ g4 by omega) (.int .i64 t5)
  replace hT := blk_far (p := ⟨g4, 5, none⟩) hT (show g3 ≠ g4 by omega) (.int .i64 t5)
  replace hO := blk_put (cs := (Mat.A16 t0 t1 t2 t3 t4 0 0 0 0 0 0 0 0 0 0 0)) (cs' := (Mat.A16 t0 t1 t2 t3 t4 t5 0 0 0 0 0 0 0 0 0 0)) hO 5 (.int .i64 t5) rfl
  replace hB : Below w.heap.size w (V3.setCell ⟨g4, 5, none⟩ (.int .i64 t5)) := below_set hB (show w.heap.size ≤ g4 by omega)
  refine hK.out _ _ ⟨hA, hT⟩ (fun hHeld => ?_)
  clear hK K
  refine done_ (done_of HT_.out (by kernel_rfl)) ?_
  clear HT_ co fo
  go_wp2
  refine Mat.gen_ (Pr := fun W => W.heap[w.heap.size]? = some (.cells (Mat.A16 a0 a1 a2 a3 a4 a5 a6 a7 a8 a9 aa ab ac ad ae af) 23 (0, 0)) ∧ W.heap[g2]? = some (.cells (Mat.A16 0 0 0 0 0 0 0 0 0 0 0 0 0 0 0 0) 23 (0, 0)) ∧ W.heap[g3]? = some (.cells (Mat.A16 b0 b4 b8 bc b1 b5 b9 bd b2 b6 ba be b3 b7 bb bf) 23 (0, 0)) ∧ W.heap[g4]? = some (.cells (Mat.A16 t0 t1 t2 t3 t4 t5 0 0 0 0 0 0 0 0 0 0) 23 (0, 0)) ∧ Below w.heap.size w W) (G := fun W => Code.rounds Try.prog _ _ _ _ W) ⟨hA, hR, hT, hO, hB⟩ ?_
  clear hA hR hT hO hB hHeld
  rintro U6 ⟨hA, hR, hT, hO, hB⟩
  as_aux_lemma =>
  rw [rounds_succ]
  go_upto_region 6 with (fail)
  replace hA := blk_drew hA
  replace hR := blk_drew hR
  replace hT := blk_drew hT
  replace hO := blk_drew hO
  replace hB := below_drew1 hB
  refine start_ (n := 12) (S := fun w' => w'.heap[w.heap.size]? = some (.cells (Mat.A16 a0 a1 a2 a3 a4 a5 a6 a7 a8 a9 aa ab ac ad ae af) 23 (0, 0)) ∧ w'.heap[g3]? = some (.cells (Mat.A16 b0 b4 b8 bc b1 b5 b9 bd b2 b6 ba be b3 b7 bb bf) 23 (0, 0))) (ds := []) #[false, false, false, false, false, false, false, false, false, false, false, false] (by kernel_rfl) rfl rfl ⟨hA, hT⟩ (fun hHeld => ?_); refine with_tab matrix_Mul.tab (fun HT_ => ?_)
  generalize U6.drew = V0 at hA hR hT hO hB hHeld ⊢
  refine pure_ (i := 0) (N := some 13) (v := ?_) (a' := ?_) Mat.s1 rfl rfl (any_of HT_.out (by kernel_rfl)) (fun _ _ _ h => h) (Or.inl ⟨by rfl, ?_⟩) ?_ ?_
  rotate_left
  · intro w'
    go_simp
    with_reducible rfl
  rotate_left
  · simp only [Act.put, Mat.p1, List.set_cons_zero, List.set_cons_succ]
    rfl
  refine pure_ (i := 2) (N := some 15) (v := ?_) (a' := ?_) Mat.s2 rfl rfl (any_of HT_.out (by kernel_rfl)) (fun _ _ _ h => h) (Or.inl ⟨by rfl, ?_⟩) ?_ ?_
  rotate_left
  · intro w'
    go_simp
    with_reducible rfl
  rotate_left
  · simp only [Act.put, Mat.p1, List.set_cons_zero, List.set_cons_succ]
    rfl
  refine pure_ (i := 3) (N := some 16) (v := .int .i64 1) (a' := ?_) Mat.s3 rfl rfl (any_of HT_.out (by kernel_rfl)) (fun _ _ _ h => h) (Or.inl ⟨by rfl, ?_⟩) ?_ ?_
  · intro w'
    go_simp
    first | done | rfl
  rotate_left
  · simp only [Act.put, Mat.p1, List.set_cons_zero, List.set_cons_succ]
    rfl
  refine pure_ (i := 6) (N := some 19) (v := ?_) (a' := ?_) Mat.s4 rfl rfl (any_of HT_.out (by kernel_rfl)) (fun _ _ _ h => h) (Or.inl ⟨by rfl, ?_⟩) ?_ ?_
  rotate_left
  · intro w'
    go_simp
    with_reducible rfl
  rotate_left
  · simp only [Act.put, Mat.p1, List.set_cons_zero, List.set_cons_succ]
    rfl
  refine pure_ (i := 7) (N := some 20) (v := .int .i64 2) (a' := ?_) Mat.s5 rfl rfl (any_of HT_.out (by kernel_rfl)) (fun _ _ _ h => h) (Or.inl ⟨by rfl, ?_⟩) ?_ ?_
  · intro w'
    go_simp
    first | done | rfl
  rotate_left
  · simp only [Act.put, Mat.p1, List.set_cons_zero, List.set_cons_succ]
    rfl
  refine take_ (i := 1) (N := some 14) (v := .agg (Mat.A16 a0 a1 a2 a3 a4 a5 a6 a7 a8 a9 aa ab ac ad ae af)) (a' := ?_) Mat.s6 rfl rfl (take_of HT_.out (by kernel_rfl)) (fun _ _ _ h => h) (yieldsIf_load_mid (by rfl) 23 (.tmp 2) rfl w.heap.size 0 (by rfl) (Mat.A16 a0 a1 a2 a3 a4 a5 a6 a7 a8 a9 aa ab ac ad ae af).toList _ (fun _ h => Mat.range_blk h.1) hu23 rfl (by kernel_rfl)) hHeld ?_ ?_
  rotate_left
  · simp only [Act.put, Mat.p1, List.set_cons_zero, List.set_cons_succ]
    rfl
  refine take_ (i := 5) (N := some 18) (v := .agg (Mat.A16 b0 b4 b8 bc b1 b5 b9 bd b2 b6 ba be b3 b7 bb bf)) (a' := ?_) Mat.s7 rfl rfl (take_of HT_.out (by kernel_rfl)) (fun _ _ _ h => h) (yieldsIf_load_mid (by rfl) 23 (.tmp 5) rfl g3 0 (by rfl) (Mat.A16 b0 b4 b8 bc b1 b5 b9 bd b2 b6 ba be b3 b7 bb bf).toList _ (fun _ h => Mat.range_blk h.2) hu23 rfl (by kernel_rfl)) hHeld ?_ ?_
  rotate_left
  · simp only [Act.put, Mat.p1, List.set_cons_zero, List.set_cons_succ]
    rfl
  refine one_ (i := 4) (N := some 17) Mat.s8 rfl rfl (one_of HT_.out (by kernel_rfl)) (by decide) (fun K hK => ?_)
  refine goes_ Try.func21 (by kernel_rfl) rfl #[.agg (Mat.A16 a0 a1 a2 a3 a4 a5 a6 a7 a8 a9 aa ab ac ad ae af), .int .i64 1] (by rfl) rfl rfl (by simp only [List.map_toArray, List.map_cons, List.map_nil]; rfl) ?_
  refine (matrix_Row.calls a0 a1 a2 a3 a4 a5 a6 a7 a8 a9 aa ab ac ad ae af 1 a4 a5 a6 a7 _ rfl).mono ?_
  rintro e V1 ⟨rfl, hb⟩
  refine ⟨_, rfl, ?_⟩
  replace hA := Mat.bb hb hA
  replace hR := Mat.bb hb hR
  replace hT := Mat.bb hb hT
  replace hO := Mat.bb hb hO
  replace hB := below_step hB hb
  clear hb
  refine hK.out _ _ ⟨hA, hT⟩ (fun hHeld => ?_)
  clear hK K
  refine norm_ (a' := ?_) ?_ ?_
  rotate_left
  · show Act.put _ (some 17) _ = _
    simp only [Act.put, Mat.p1, List.set_cons_zero, List.set_cons_succ]
    rfl
  refine one_ (i := 8) (N := some 21) Mat.s9 rfl rfl (one_of HT_.out (by kernel_rfl)) (by decide) (fun K hK => ?_)
  refine goes_ Try.func21 (by kernel_rfl) rfl #[.agg (Mat.A16 b0 b4 b8 bc b1 b5 b9 bd b2 b6 ba be b3 b7 bb bf), .int .i64 2] (by rfl) rfl rfl (by simp only [List.map_toArray, List.map_cons, List.map_nil]; rfl) ?_
  refine (matrix_Row.calls b0 b4 b8 bc b1 b5 b9 bd b2 b6 ba be b3 b7 bb bf 2 b2 b6 ba be _ rfl).mono ?_
  rintro e V2 ⟨rfl, hb⟩
  refine ⟨_, rfl, ?_⟩
  replace hA := Mat.bb hb hA
  replace hR := Mat.bb hb hR
  replace hT := Mat.bb hb hT
  replace hO := Mat.bb hb hO
  replace hB := below_step hB hb
  clear hb
  refine hK.out _ _ ⟨hA, hT⟩ (fun hHeld => ?_)
  clear hK K
  refine norm_ (a' := ?_) ?_ ?_
  rotate_left
  · show Act.put _ (some 21) _ = _
    simp only [Act.put, Mat.p1, List.set_cons_zero, List.set_cons_succ]
    rfl
  refine one_ (i := 9) (N := some 22) Mat.s10 rfl rfl (one_of HT_.out (by kernel_rfl)) (by decide) (fun K hK => ?_)
  refine goes_ Try.func37 (by kernel_rfl) rfl #[.agg #[.int .i64 a4, .int .i64 a5, .int .i64 a6, .int .i64 a7], .agg #[.int .i64 b2, .int .i64 b6, .int .i64 ba, .int .i64 be]] (by rfl) rfl rfl (by simp only [List.map_toArray, List.map_cons, List.map_nil]; rfl) ?_
  refine (vec_Dot.calls k a4 a5 a6 a7 b2 b6 ba be t6 _ D6.out).mono ?_
  rintro e V3 ⟨rfl, hb⟩
  refine ⟨_, rfl, ?_⟩
  replace hA := Mat.bb hb hA
  replace hR := Mat.bb hb hR
  replace hT := Mat.bb hb hT
  replace hO := Mat.bb hb hO
  replace hB := below_step hB hb
  clear hb
  refine hK.out _ _ ⟨hA, hT⟩ (fun hHeld => ?_)
  clear hK K
  refine norm_ (a' := ?_) ?_ ?_
  rotate_left
  · show Act.put _ (some 22) _ = _
    simp only [Act.put, Mat.p1, List.set_cons_zero, List.set_cons_succ]
    rfl
  refine pure_ (i := 10) (N := some 23) (v := ?_) (a' := ?_) Mat.s11 rfl rfl (any_of HT_.out (by kernel_rfl)) (fun _ _ _ h => h) (Or.inl ⟨by rfl, ?_⟩) ?_ ?_
  rotate_left
  · intro w'
    go_simp
    with_reducible rfl
  rotate_left
  · simp only [Act.put, Mat.p1, List.set_cons_zero, List.set_cons_succ]
    rfl
  refine one_ (i := 11) (N := none) Mat.s12 rfl rfl (one_of HT_.out (by kernel_rfl)) (by decide) (fun K hK => ?_)
  have co : V3.cell? ⟨g4, 6, none⟩ = some (.int .i64 0) := (blk_cell hO 6).trans rfl
  have fo : V3.frozen? ⟨g4, 6, none⟩ = false := blk_frozen hO 6
  refine skip_ (w1 := ?_) (by rfl) rfl ?_ ?_
  rotate_left
  · go_simp
    rfl
  replace hA := blk_far (p := ⟨g4, 6, none⟩) hA (show w.heap.size ≠ g4 by omega) (.int .i64 t6)
  replace hR := blk_far (p := ⟨g4, 6, none⟩) hR (show g2 ≠ g4 by omega) (.int .i64 t6)
  replace hT := blk_far (p := ⟨g4, 6, none⟩) hT (show g3 ≠ g4 by omega) (.int .i64 t6)
  replace hO := blk_put (cs := (Mat.A16 t0 t1 t2 t3 t4 t5 0 0 0 0 0 0 0 0 0 0)) (cs' := (Mat.A16 t0 t1 t2 t3 t4 t5 t6 0 0 0 0 0 0 0 0 0)) hO 6 (.int .i64 t6) rfl
  replace hB : Below w.heap.size w (V3.setCell ⟨g4, 6, none⟩ (.int .i64 t6)) := below_set hB (show w.heap.size ≤ g4 by omega)
  refine hK.out _ _ ⟨hA, hT⟩ (fun hHeld => ?_)
  clear hK K
  refine done_ (done_of HT_.out (by kernel_rfl)) ?_
  clear HT_ co fo
  go_wp2
  refine Mat.gen_ (Pr := fun W => W.heap[w.heap.size]? = some (.cells (Mat.A16 a0 a1 a2 a3 a4 a5 a6 a7 a8 a9 aa ab ac ad ae af) 23 (0, 0)) ∧ W.heap[g2]? = some (.cells (Mat.A16 0 0 0 0 0 0 0 0 0 0 0 0 0 0 0 0) 23 (0, 0)) ∧ W.heap[g3]? = some (.cells (Mat.A16 b0 b4 b8 bc b1 b5 b9 bd b2 b6 ba be b3 b7 bb bf) 23 (0, 0)) ∧ W.heap[g4]? = some (.cells (Mat.A16 t0 t1 t2 t3 t4 t5 t6 0 0 0 0 0 0 0 0 0) 23 (0, 0)) ∧ Below w.heap.size w W) (G := fun W => Code.rounds Try.prog _ _ _ _ W) ⟨hA, hR, hT, hO, hB⟩ ?_
  clear hA hR hT hO hB hHeld
  rintro U7 ⟨hA, hR, hT, hO, hB⟩
  as_aux_lemma =>
  rw [rounds_succ]
  go_upto_region 6 with (fail)
  replace hA := blk_drew hA
  replace hR := blk_drew hR
  replace hT := blk_drew hT
  replace hO := blk_drew hO
  replace hB := below_drew1 hB
  refine start_ (n := 12) (S := fun w' => w'.heap[w.heap.size]? = some (.cells (Mat.A16 a0 a1 a2 a3 a4 a5 a6 a7 a8 a9 aa ab ac ad ae af) 23 (0, 0)) ∧ w'.heap[g3]? = some (.cells (Mat.A16 b0 b4 b8 bc b1 b5 b9 bd b2 b6 ba be b3 b7 bb bf) 23 (0, 0))) (ds := []) #[false, false, false, false, false, false, false, false, false, false, false, false] (by kernel_rfl) rfl rfl ⟨hA, hT⟩ (fun hHeld => ?_); refine with_tab matrix_Mul.tab (fun HT_ => ?_)
  generalize U7.drew = V0 at hA hR hT hO hB hHeld ⊢
  refine pure_ (i := 0) (N := some 13) (v := ?_) (a' := ?_) Mat.s1 rfl rfl (any_of HT_.out (by kernel_rfl)) (fun _ _ _ h => h) (Or.inl ⟨by rfl, ?_⟩) ?_ ?_
  rotate_left
  · intro w'
    go_simp
    with_reducible rfl
  rotate_left
  · simp only [Act.put, Mat.p1, List.set_cons_zero, List.set_cons_succ]
    rfl
  refine pure_ (i := 2) (N := some 15) (v := ?_) (a' := ?_) Mat.s2 rfl rfl (any_of HT_.out (by kernel_rfl)) (fun _ _ _ h => h) (Or.inl ⟨by rfl, ?_⟩) ?_ ?_
  rotate_left
  · intro w'
    go_simp
    with_reducible rfl
  rotate_left
  · simp only [Act.put, Mat.p1, List.set_cons_zero, List.set_cons_succ]
    rfl
  refine pure_ (i := 3) (N := some 16) (v := .int .i64 1) (a' := ?_) Mat.s3 rfl rfl (any_of HT_.out (by kernel_rfl)) (fun _ _ _ h => h) (Or.inl ⟨by rfl, ?_⟩) ?_ ?_
  · intro w'
    go_simp
    first | done | rfl
  rotate_left
  · simp only [Act.put, Mat.p1, List.set_cons_zero, List.set_cons_succ]
    rfl
  refine pure_ (i := 6) (N := some 19) (v := ?_) (a' := ?_) Mat.s4 rfl rfl (any_of HT_.out (by kernel_rfl)) (fun _ _ _ h => h) (Or.inl ⟨by rfl, ?_⟩) ?_ ?_
  rotate_left
  · intro w'
    go_simp
    with_reducible rfl
  rotate_left
  · simp only [Act.put, Mat.p1, List.set_cons_zero, List.set_cons_succ]
    rfl
  refine pure_ (i := 7) (N := some 20) (v := .int .i64 3) (a' := ?_) Mat.s5 rfl rfl (any_of HT_.out (by kernel_rfl)) (fun _ _ _ h => h) (Or.inl ⟨by rfl, ?_⟩) ?_ ?_
  · intro w'
    go_simp
    first | done | rfl
  rotate_left
  · simp only [Act.put, Mat.p1, List.set_cons_zero, List.set_cons_succ]
    rfl
  refine take_ (i := 1) (N := some 14) (v := .agg (Mat.A16 a0 a1 a2 a3 a4 a5 a6 a7 a8 a9 aa ab ac ad ae af)) (a' := ?_) Mat.s6 rfl rfl (take_of HT_.out (by kernel_rfl)) (fun _ _ _ h => h) (yieldsIf_load_mid (by rfl) 23 (.tmp 2) rfl w.heap.size 0 (by rfl) (Mat.A16 a0 a1 a2 a3 a4 a5 a6 a7 a8 a9 aa ab ac ad ae af).toList _ (fun _ h => Mat.range_blk h.1) hu23 rfl (by kernel_rfl)) hHeld ?_ ?_
  rotate_left
  · simp only [Act.put, Mat.p1, List.set_cons_zero, List.set_cons_succ]
    rfl
  refine take_ (i := 5) (N := some 18) (v := .agg (Mat.A16 b0 b4 b8 bc b1 b5 b9 bd b2 b6 ba be b3 b7 bb bf)) (a' := ?_) Mat.s7 rfl rfl (take_of HT_.out (by kernel_rfl)) (fun _ _ _ h => h) (yieldsIf_load_mid (by rfl) 23 (.tmp 5) rfl g3 0 (by rfl) (Mat.A16 b0 b4 b8 bc b1 b5 b9 bd b2 b6 ba be b3 b7 bb bf).toList _ (fun _ h => Mat.range_blk h.2) hu23 rfl (by kernel_rfl)) hHeld ?_ ?_
  rotate_left
  · simp only [Act.put, Mat.p1, List.set_cons_zero, List.set_cons_succ]
    rfl
  refine one_ (i := 4) (N := some 17) Mat.s8 rfl rfl (one_of HT_.out (by kernel_rfl)) (by decide) (fun K hK => ?_)
  refine goes_ Try.func21 (by kernel_rfl) rfl #[.agg (Mat.A16 a0 a1 a2 a3 a4 a5 a6 a7 a8 a9 aa ab ac ad ae af), .int .i64 1] (by rfl) rfl rfl (by simp only [List.map_toArray, List.map_cons, List.map_nil]; rfl) ?_
  refine (matrix_Row.calls a0 a1 a2 a3 a4 a5 a6 a7 a8 a9 aa ab ac ad ae af 1 a4 a5 a6 a7 _ rfl).mono ?_
  rintro e V1 ⟨rfl, hb⟩
  refine ⟨_, rfl, ?_⟩
  replace hA := Mat.bb hb hA
  replace hR := Mat.bb hb hR
  replace hT := Mat.bb hb hT
  replace hO := Mat.bb hb hO
  replace hB := below_step hB hb
  clear hb
  refine hK.out _ _ ⟨hA, hT⟩ (fun hHeld => ?_)
  clear hK K
  refine norm_ (a' := ?_) ?_ ?_
  rotate_left
  · show Act.put _ (some 17) _ = _
    simp only [Act.put, Mat.p1, List.set_cons_zero, List.set_cons_succ]
    rfl
  refine one_ (i := 8) (N := some 21) Mat.s9 rfl rfl (one_of HT_.out (by kernel_rfl)) (by decide) (fun K hK => ?_)
  refine goes_ Try.func21 (by kernel_rfl) rfl #[.agg (Mat.A16 b0 b4 b8 bc b1 b5 b9 bd b2 b6 ba be b3 b7 bb bf), .int .i64 3] (by rfl) rfl rfl (by simp only [List.map_toArray, List.map_cons, List.map_nil]; rfl) ?_
  refine (matrix_Row.calls b0 b4 b8 bc b1 b5 b9 bd b2 b6 ba be b3 b7 bb bf 3 b3 b7 bb bf _ rfl).mono ?_
  rintro e V2 ⟨rfl, hb⟩
  refine ⟨_, rfl, ?_⟩
  replace hA := Mat.bb hb hA
  replace hR := Mat.bb hb hR
  replace hT := Mat.bb hb hT
  replace hO := Mat.bb hb hO
  replace hB := below_step hB hb
  clear hb
  refine hK.out _ _ ⟨hA, hT⟩ (fun hHeld => ?_)
  clear hK K
  refine norm_ (a' := ?_) ?_ ?_
  rotate_left
  · show Act.put _ (some 21) _ = _
    simp only [Act.put, Mat.p1, List.set_cons_zero, List.set_cons_succ]
    rfl
  refine one_ (i := 9) (N := some 22) Mat.s10 rfl rfl (one_of HT_.out (by kernel_rfl)) (by decide) (fun K hK => ?_)
  refine goes_ Try.func37 (by kernel_rfl) rfl #[.agg #[.int .i64 a4, .int .i64 a5, .int .i64 a6, .int .i64 a7], .agg #[.int .i64 b3, .int .i64 b7, .int .i64 bb, .int .i64 bf]] (by rfl) rfl rfl (by simp only [List.map_toArray, List.map_cons, List.map_nil]; rfl) ?_
  refine (vec_Dot.calls k a4 a5 a6 a7 b3 b7 bb bf t7 _ D7.out).mono ?_
  rintro e V3 ⟨rfl, hb⟩
  refine ⟨_, rfl, ?_⟩
  replace hA := Mat.bb hb hA
  replace hR := Mat.bb hb hR
  replace hT := Mat.bb hb hT
  replace hO := Mat.bb hb hO
  replace hB := below_step hB hb
  clear hb
  refine hK.out _ _ ⟨hA, hT⟩ (fun hHeld => ?_)
  clear hK K
  refine norm_ (a' := ?_) ?_ ?_
  rotate_left
  · show Act.put _ (some 22) _ = _
    simp only [Act.put, Mat.p1, List.set_cons_zero, List.set_cons_succ]
    rfl
  refine pure_ (i := 10) (N := some 23) (v := ?_) (a' := ?_) Mat.s11 rfl rfl (any_of HT_.out (by kernel_rfl)) (fun _ _ _ h => h) (Or.inl ⟨by rfl, ?_⟩) ?_ ?_
  rotate_left
  · intro w'
    go_simp
    with_reducible rfl
  rotate_left
  · simp only [Act.put, Mat.p1, List.set_cons_zero, List.set_cons_succ]
    rfl
  refine one_ (i := 11) (N := none) Mat.s12 rfl rfl (one_of HT_.out (by kernel_rfl)) (by decide) (fun K hK => ?_)
  have co : V3.cell? ⟨g4, 7, none⟩ = some (.int .i64 0) := (blk_cell hO 7).trans rfl
  have fo : V3.frozen? ⟨g4, 7, none⟩ = false := blk_frozen hO 7
  refine skip_ (w1 := ?_) (by rfl) rfl ?_ ?_
  rotate_left
  · go_simp
    rfl
  replace hA := blk_far (p := ⟨g4, 7, none⟩) hA (show w.heap.size ≠ g4 by omega) (.int .i64 t7)
  replace hR := blk_far (p := ⟨g4, 7, none⟩) hR (show g2 ≠ g4 by omega) (.int .i64 t7)
  replace hT := blk_far (p := ⟨g4, 7, none⟩) hT (show g3 ≠ g4 by omega) (.int .i64 t7)
  replace hO := blk_put (cs := (Mat.A16 t0 t1 t2 t3 t4 t5 t6 0 0 0 0 0 0 0 0 0)) (cs' := (Mat.A16 t0 t1 t2 t3 t4 t5 t6 t7 0 0 0 0 0 0 0 0)) hO 7 (.int .i64 t7) rfl
  replace hB : Below w.heap.size w (V3.setCell ⟨g4, 7, none⟩ (.int .i64 t7)) := below_set hB (show w.heap.size ≤ g4 by omega)
  refine hK.out _ _ ⟨hA, hT⟩ (fun hHeld => ?_)
  clear hK K
  refine done_ (done_of HT_.out (by kernel_rfl)) ?_
  clear HT_ co fo
  go_wp2
  refine Mat.gen_ (Pr := fun W => W.heap[w.heap.size]? = some (.cells (Mat.A16 a0 a1 a2 a3 a4 a5 a6 a7 a8 a9 aa ab ac ad ae af) 23 (0, 0)) ∧ W.heap[g2]? = some (.cells (Mat.A16 0 0 0 0 0 0 0 0 0 0 0 0 0 0 0 0) 23 (0, 0)) ∧ W.heap[g3]? = some (.cells (Mat.A16 b0 b4 b8 bc b1 b5 b9 bd b2 b6 ba be b3 b7 bb bf) 23 (0, 0)) ∧ W.heap[g4]? = some (.cells (Mat.A16 t0 t1 t2 t3 t4 t5 t6 t7 0 0 0 0 0 0 0 0) 23 (0, 0)) ∧ Below w.heap.size w W) (G := fun W => Code.rounds Try.prog _ _ _ _ W) ⟨hA, hR, hT, hO, hB⟩ ?_
  clear hA hR hT hO hB hHeld
  rintro U8 ⟨hA, hR, hT, hO, hB⟩
  as_aux_lemma =>
  rw [rounds_succ]
  go_upto_region 6 with (fail)
  replace hA := blk_drew hA
  replace hR := blk_drew hR
  replace hT := blk_drew hT
  replace hO := blk_drew hO
  replace hB := below_drew1 hB
  refine start_ (n := 12) (S := fun w' => w'.heap[w.heap.size]? = some (.cells (Mat.A16 a0 a1 a2 a3 a4 a5 a6 a7 a8 a9 aa ab ac ad ae af) 23 (0, 0)) ∧ w'.heap[g3]? = some (.cells (Mat.A16 b0 b4 b8 bc b1 b5 b9 bd b2 b6 ba be b3 b7 bb bf) 23 (0, 0))) (ds := []) #[false, false, false, false, false, false, false, false, false, false, false, false] (by kernel_rfl) rfl rfl ⟨hA, hT⟩ (fun hHeld => ?_); refine with_tab matrix_Mul.tab (fun HT_ => ?_)
  generalize U8.drew = V0 at hA hR hT hO hB hHeld ⊢
  refine pure_ (i := 0) (N := some 13) (v := ?_) (a' := ?_) Mat.s1 rfl rfl (any_of HT_.out (by kernel_rfl)) (fun _ _ _ h => h) (Or.inl ⟨by rfl, ?_⟩) ?_ ?_
  rotate_left
  · intro w'
    go_simp
    with_reducible rfl
  rotate_left
  · simp only [Act.put, Mat.p1, List.set_cons_zero, List.set_cons_succ]
    rfl
  refine pure_ (i := 2) (N := some 15) (v := ?_) (a' := ?_) Mat.s2 rfl rfl (any_of HT_.out (by kernel_rfl)) (fun _ _ _ h => h) (Or.inl ⟨by rfl, ?_⟩) ?_ ?_
  rotate_left
  · intro w'
    go_simp
    with_reducible rfl
  rotate_left
  · simp only [Act.put, Mat.p1, List.set_cons_zero, List.set_cons_succ]
    rfl
  refine pure_ (i := 3) (N := some 16) (v := .int .i64 2) (a' := ?_) Mat.s3 rfl rfl (any_of HT_.out (by kernel_rfl)) (fun _ _ _ h => h) (Or.inl ⟨by rfl, ?_⟩) ?_ ?_
  · intro w'
    go_simp
    first | done | rfl
  rotate_left
  · simp only [Act.put, Mat.p1, List.set_cons_zero, List.set_cons_succ]
    rfl
  refine pure_ (i := 6) (N := some 19) (v := ?_) (a' := ?_) Mat.s4 rfl rfl (any_of HT_.out (by kernel_rfl)) (fun _ _ _ h => h) (Or.inl ⟨by rfl, ?_⟩) ?_ ?_
  rotate_left
  · intro w'
    go_simp
    with_reducible rfl
  rotate_left
  · simp only [Act.put, Mat.p1, List.set_cons_zero, List.set_cons_succ]
    rfl
  refine pure_ (i := 7) (N := some 20) (v := .int .i64 0) (a' := ?_) Mat.s5 rfl rfl (any_of HT_.out (by kernel_rfl)) (fun _ _ _ h => h) (Or.inl ⟨by rfl, ?_⟩) ?_ ?_
  · intro w'
    go_simp
    first | done | rfl
  rotate_left
  · simp only [Act.put, Mat.p1, List.set_cons_zero, List.set_cons_succ]
    rfl
  refine take_ (i := 1) (N := some 14) (v := .agg (Mat.A16 a0 a1 a2 a3 a4 a5 a6 a7 a8 a9 aa ab ac ad ae af)) (a' := ?_) Mat.s6 rfl rfl (take_of HT_.out (by kernel_rfl)) (fun _ _ _ h => h) (yieldsIf_load_mid (by rfl) 23 (.tmp 2) rfl w.heap.size 0 (by rfl) (Mat.A16 a0 a1 a2 a3 a4 a5 a6 a7 a8 a9 aa ab ac ad ae af).toList _ (fun _ h => Mat.range_blk h.1) hu23 rfl (by kernel_rfl)) hHeld ?_ ?_
  rotate_left
  · simp only [Act.put, Mat.p1, List.set_cons_zero, List.set_cons_succ]
    rfl
  refine take_ (i := 5) (N := some 18) (v := .agg (Mat.A16 b0 b4 b8 bc b1 b5 b9 bd b2 b6 ba be b3 b7 bb bf)) (a' := ?_) Mat.s7 rfl rfl (take_of HT_.out (by kernel_rfl)) (fun _ _ _ h => h) (yieldsIf_load_mid (by rfl) 23 (.tmp 5) rfl g3 0 (by rfl) (Mat.A16 b0 b4 b8 bc b1 b5 b9 bd b2 b6 ba be b3 b7 bb bf).toList _ (fun _ h => Mat.range_blk h.2) hu23 rfl (by kernel_rfl)) hHeld ?_ ?_
  rotate_left
  · simp only [Act.put, Mat.p1, List.set_cons_zero, List.set_cons_succ]
    rfl
  refine one_ (i := 4) (N := some 17) Mat.s8 rfl rfl (one_of HT_.out (by kernel_rfl)) (by decide) (fun K hK => ?_)
  refine goes_ Try.func21 (by kernel_rfl) rfl #[.agg (Mat.A16 a0 a1 a2 a3 a4 a5 a6 a7 a8 a9 aa ab ac ad ae af), .int .i64 2] (by rfl) rfl rfl (by simp only [List.map_toArray, List.map_cons, List.map_nil]; rfl) ?_
  refine (matrix_Row.calls a0 a1 a2 a3 a4 a5 a6 a7 a8 a9 aa ab ac ad ae af 2 a8 a9 aa ab _ rfl).mono ?_
  rintro e V1 ⟨rfl, hb⟩
  refine ⟨_, rfl, ?_⟩
  replace hA := Mat.bb hb hA
  replace hR := Mat.bb hb hR
  replace hT := Mat.bb hb hT
  replace hO := Mat.bb hb hO
  replace hB := below_step hB hb
  clear hb
  refine hK.out _ _ ⟨hA, hT⟩ (fun hHeld => ?_)
  clear hK K
  refine norm_ (a' := ?_) ?_ ?_
  rotate_left
  · show Act.put _ (some 17) _ = _
    simp only [Act.put, Mat.p1, List.set_cons_zero, List.set_cons_succ]
    rfl
  refine one_ (i := 8) (N := some 21) Mat.s9 rfl rfl (one_of HT_.out (by kernel_rfl)) (by decide) (fun K hK => ?_)
  refine goes_ Try.func21 (by kernel_rfl) rfl #[.agg (Mat.A16 b0 b4 b8 bc b1 b5 b9 bd b2 b6 ba be b3 b7 bb bf), .int .i64 0] (by rfl) rfl rfl (by simp only [List.map_toArray, List.map_cons, List.map_nil]; rfl) ?_
  refine (matrix_Row.calls b0 b4 b8 bc b1 b5 b9 bd b2 b6 ba be b3 b7 bb bf 0 b0 b4 b8 bc _ rfl).mono ?_
  rintro e V2 ⟨rfl, hb⟩
  refine ⟨_, rfl, ?_⟩
  replace hA := Mat.bb hb hA
  replace hR := Mat.bb hb hR
  replace hT := Mat.bb hb hT
  replace hO := Mat.bb hb hO
  replace hB := below_step hB hb
  clear hb
  refine hK.out _ _ ⟨hA, hT⟩ (fun hHeld => ?_)
  clear hK K
  refine norm_ (a' := ?_) ?_ ?_
  rotate_left
  · show Act.put _ (some 21) _ = _
    simp only [Act.put, Mat.p1, List.set_cons_zero, List.set_cons_succ]
    rfl
  refine one_ (i := 9) (N := some 22) Mat.s10 rfl rfl (one_of HT_.out (by kernel_rfl)) (by decide) (fun K hK => ?_)
  refine goes_ Try.func37 (by kernel_rfl) rfl #[.agg #[.int .i64 a8, .int .i64 a9, .int .i64 aa, .int .i64 ab], .agg #[.int .i64 b0, .int .i64 b4, .int .i64 b8, .int .i64 bc]] (by rfl) rfl rfl (by simp only [List.map_toArray, List.map_cons, List.map_nil]; rfl) ?_
  refine (vec_Dot.calls k a8 a9 aa ab b0 b4 b8 bc t8 _ D8.out).mono ?_
  rintro e V3 ⟨rfl, hb⟩
  refine ⟨_, rfl, ?_⟩
  replace hA := Mat.bb hb hA
  replace hR := Mat.bb hb hR
  replace hT := Mat.bb hb hT
  replace hO := Mat.bb hb hO
  replace hB := below_step hB hb
  clear hb
  refine hK.out _ _ ⟨hA, hT⟩ (fun hHeld => ?_)
  clear hK K
  refine norm_ (a' := ?_) ?_ ?_
  rotate_left
  · show Act.put _ (some 22) _ = _
    simp only [Act.put, Mat.p1, List.set_cons_zero, List.set_cons_succ]
    rfl
  refine pure_ (i := 10) (N := some 23) (v := ?_) (a' := ?_) Mat.s11 rfl rfl (any_of HT_.out (by kernel_rfl)) (fun _ _ _ h => h) (Or.inl ⟨by rfl, ?_⟩) ?_ ?_
  rotate_left
  · intro w'
    go_simp
    with_reducible rfl
  rotate_left
  · simp only [Act.put, Mat.p1, List.set_cons_zero, List.set_cons_succ]
    rfl
  refine one_ (i := 11) (N := none) Mat.s12 rfl rfl (one_of HT_.out (by kernel_rfl)) (by decide) (fun K hK => ?_)
  have co : V3.cell? ⟨g4, 8, none⟩ = some (.int .i64 0) := (blk_cell hO 8).trans rfl
  have fo : V3.frozen? ⟨g4, 8, none⟩ = false := blk_frozen hO 8
  refine skip_ (w1 := ?_) (by rfl) rfl ?_ ?_
  rotate_left
  · go_simp
    rfl
  replace hA := blk_far (p := ⟨g4, 8, none⟩) hA (show w.heap.size ≠ g4 by omega) (.int .i64 t8)
  replace hR := blk_far (p := ⟨g4, 8, none⟩) hR (show g2 ≠ g4 by omega) (.int .i64 t8)
  replace hT := blk_far (p := ⟨g4, 8, none⟩) hT (show g3 ≠ g4 by omega) (.int .i64 t8)
  replace hO := blk_put (cs := (Mat.A16 t0 t1 t2 t3 t4 t5 t6 t7 0 0 0 0 0 0 0 0)) (cs' := (Mat.A16 t0 t1 t2 t3 t4 t5 t6 t7 t8 0 0 0 0 0 0 0)) hO 8 (.int .i64 t8) rfl
  replace hB : Below w.heap.size w (V3.setCell ⟨g4, 8, none⟩ (.int .i64 t8)) := below_set hB (show w.heap.size ≤ g4 by omega)
  refine hK.out _ _ ⟨hA, hT⟩ (fun hHeld => ?_)
  clear hK K
  refine done_ (done_of HT_.out (by kernel_rfl)) ?_
  clear HT_ co fo
  go_wp2
  refine Mat.gen_ (Pr := fun W => W.heap[w.heap.size]? = some (.cells (Mat.A16 a0 a1 a2 a3 a4 a5 a6 a7 a8 a9 aa ab ac ad ae af) 23 (0, 0)) ∧ W.heap[g2]? = some (.cells (Mat.A16 0 0 0 0 0 0 0 0 0 0 0 0 0 0 0 0) 23 (0, 0)) ∧ W.heap[g3]? = some (.cells (Mat.A16 b0 b4 b8 bc b1 b5 b9 bd b2 b6 ba be b3 b7 bb bf) 23 (0, 0)) ∧ W.heap[g4]? = some (.cells (Mat.A16 t0 t1 t2 t3 t4 t5 t6 t7 t8 0 0 0 0 0 0 0) 23 (0, 0)) ∧ Below w.heap.size w W) (G := fun W => Code.rounds Try.prog _ _ _ _ W) ⟨hA, hR, hT, hO, hB⟩ ?_
  clear hA hR hT hO hB hHeld
  rintro U9 ⟨hA, hR, hT, hO, hB⟩
  as_aux_lemma =>
  rw [rounds_succ]
  go_upto_region 6 with (fail)
  replace hA := blk_drew hA
  replace hR := blk_drew hR
  replace hT := blk_drew hT
  replace hO := blk_drew hO
  replace hB := below_drew1 hB
  refine start_ (n := 12) (S := fun w' => w'.heap[w.heap.size]? = some (.cells (Mat.A16 a0 a1 a2 a3 a4 a5 a6 a7 a8 a9 aa ab ac ad ae af) 23 (0, 0)) ∧ w'.heap[g3]? = some (.cells (Mat.A16 b0 b4 b8 bc b1 b5 b9 bd b2 b6 ba be b3 b7 bb bf) 23 (0, 0))) (ds := []) #[false, false, false, false, false, false, false, false, false, false, false, false] (by kernel_rfl) rfl rfl ⟨hA, hT⟩ (fun hHeld => ?_); refine with_tab matrix_Mul.tab (fun HT_ => ?_)
  generalize U9.drew = V0 at hA hR hT hO hB hHeld ⊢
  refine pure_ (i := 0) (N := some 13) (v := ?_) (a' := ?_) Mat.s1 rfl rfl (any_of HT_.out (by kernel_rfl)) (fun _ _ _ h => h) (Or.inl ⟨by rfl, ?_⟩) ?_ ?_
  rotate_left
  · intro w'
    go_simp
    with_reducible rfl
  rotate_left
  · simp only [Act.put, Mat.p1, List.set_cons_zero, List.set_cons_succ]
    rfl
  refine pure_ (i := 2) (N := some 15) (v := ?_) (a' := ?_) Mat.s2 rfl rfl (any_of HT_.out (by kernel_rfl)) (fun _ _ _ h => h) (Or.inl ⟨by rfl, ?_⟩) ?_ ?_
  rotate_left
  · intro w'
    go_simp
    with_reducible rfl
  rotate_left
  · simp only [Act.put, Mat.p1, List.set_cons_zero, List.set_cons_succ]
    rfl
  refine pure_ (i := 3) (N := some 16) (v := .int .i64 2) (a' := ?_) Mat.s3 rfl rfl (any_of HT_.out (by kernel_rfl)) (fun _ _ _ h => h) (Or.inl ⟨by rfl, ?_⟩) ?_ ?_
  · intro w'
    go_simp
    first | done | rfl
  rotate_left
  · simp only [Act.put, Mat.p1, List.set_cons_zero, List.set_cons_succ]
    rfl
  refine pure_ (i := 6) (N := some 19) (v := ?_) (a' := ?_) Mat.s4 rfl rfl (any_of HT_.out (by kernel_rfl)) (fun _ _ _ h => h) (Or.inl ⟨by rfl, ?_⟩) ?_ ?_
  rotate_left
  · intro w'
    go_simp
    with_reducible rfl
  rotate_left
  · simp only [Act.put, Mat.p1, List.set_cons_zero, List.set_cons_succ]
    rfl
  refine pure_ (i := 7) (N := some 20) (v := .int .i64 1) (a' := ?_) Mat.s5 rfl rfl (any_of HT_.out (by kernel_rfl)) (fun _ _ _ h => h) (Or.inl ⟨by rfl, ?_⟩) ?_ ?_
  · intro w'
    go_simp
    first | done | rfl
  rotate_left
  · simp only [Act.put, Mat.p1, List.set_cons_zero, List.set_cons_succ]
    rfl
  refine take_ (i := 1) (N := some 14) (v := .agg (Mat.A16 a0 a1 a2 a3 a4 a5 a6 a7 a8 a9 aa ab ac ad ae af)) (a' := ?_) Mat.s6 rfl rfl (take_of HT_.out (by kernel_rfl)) (fun _ _ _ h => h) (yieldsIf_load_mid (by rfl) 23 (.tmp 2) rfl w.heap.size 0 (by rfl) (Mat.A16 a0 a1 a2 a3 a4 a5 a6 a7 a8 a9 aa ab ac ad ae af).toList _ (fun _ h => Mat.range_blk h.1) hu23 rfl (by kernel_rfl)) hHeld ?_ ?_
  rotate_left
  · simp only [Act.put, Mat.p1, List.set_cons_zero, List.set_cons_succ]
    rfl
  refine take_ (i := 5) (N := some 18) (v := .agg (Mat.A16 b0 b4 b8 bc b1 b5 b9 bd b2 b6 ba be b3 b7 bb bf)) (a' := ?_) Mat.s7 rfl rfl (take_of HT_.out (by kernel_rfl)) (fun _ _ _ h => h) (yieldsIf_load_mid (by rfl) 23 (.tmp 5) rfl g3 0 (by rfl) (Mat.A16 b0 b4 b8 bc b1 b5 b9 bd b2 b6 ba be b3 b7 bb bf).toList _ (fun _ h => Mat.range_blk h.2) hu23 rfl (by kernel_rfl)) hHeld ?_ ?_
  rotate_left
  · simp only [Act.put, Mat.p1, List.set_cons_zero, List.set_cons_succ]
    rfl
  refine one_ (i := 4) (N := some 17) Mat.s8 rfl rfl (one_of HT_.out (by kernel_rfl)) (by decide) (fun K hK => ?_)
  refine goes_ Try.func21 (by kernel_rfl) rfl #[.agg (Mat.A16 a0 a1 a2 a3 a4 a5 a6 a7 a8 a9 aa ab ac ad ae af), .int .i64 2] (by rfl) rfl rfl (by simp only [List.map_toArray, List.map_cons, List.map_nil]; rfl) ?_
  refine (matrix_Row.calls a0 a1 a2 a3 a4 a5 a6 a7 a8 a9 aa ab ac ad ae af 2 a8 a9 aa ab _ rfl).mono ?_
  rintro e V1 ⟨rfl, hb⟩
  refine ⟨_, rfl, ?_⟩
  replace hA := Mat.bb hb hA
  replace hR := Mat.bb hb hR
  replace hT := Mat.bb hb hT
  replace hO := Mat.bb hb hO
  replace hB := below_step hB hb
  clear hb
  refine hK.out _ _ ⟨hA, hT⟩ (fun hHeld => ?_)
  clear hK K
  refine norm_ (a' := ?_) ?_ ?_
  rotate_left
  · show Act.put _ (some 17) _ = _
    simp only [Act.put, Mat.p1, List.set_cons_zero, List.set_cons_succ]
    rfl
  refine one_ (i := 8) (N := some 21) Mat.s9 rfl rfl (one_of HT_.out (by kernel_rfl)) (by decide) (fun K hK => ?_)
  refine goes_ Try.func21 (by kernel_rfl) rfl #[.agg (Mat.A16 b0 b4 b8 bc b1 b5 b9 bd b2 b6 ba be b3 b7 bb bf), .int .i64 1] (by rfl) rfl rfl (by simp only [List.map_toArray, List.map_cons, List.map_nil]; rfl) ?_
  refine (matrix_Row.calls b0 b4 b8 bc b1 b5 b9 bd b2 b6 ba be b3 b7 bb bf 1 b1 b5 b9 bd _ rfl).mono ?_
  rintro e V2 ⟨rfl, hb⟩
  refine ⟨_, rfl, ?_⟩
  replace hA := Mat.bb hb hA
  replace hR := Mat.bb hb hR
  replace hT := Mat.bb hb hT
  replace hO := Mat.bb hb hO
  replace hB := below_step hB hb
  clear hb
  refine hK.out _ _ ⟨hA, hT⟩ (fun hHeld => ?_)
  clear hK K
  refine norm_ (a' := ?_) ?_ ?_
  rotate_left
  · show Act.put _ (some 21) _ = _
    simp only [Act.put, Mat.p1, List.set_cons_zero, List.set_cons_succ]
    rfl
  refine one_ (i := 9) (N := some 22) Mat.s10 rfl rfl (one_of HT_.out (by kernel_rfl)) (by decide) (fun K hK => ?_)
  refine goes_ Try.func37 (by kernel_rfl) rfl #[.agg #[.int .i64 a8, .int .i64 a9, .int .i64 aa, .int .i64 ab], .agg #[.int .i64 b1, .int .i64 b5, .int .i64 b9, .int .i64 bd]] (by rfl) rfl rfl (by simp only [List.map_toArray, List.map_cons, List.map_nil]; rfl) ?_
  refine (vec_Dot.calls k a8 a9 aa ab b1 b5 b9 bd t9 _ D9.out).mono ?_
  rintro e V3 ⟨rfl, hb⟩
  refine ⟨_, rfl, ?_⟩
  replace hA := Mat.bb hb hA
  replace hR := Mat.bb hb hR
  replace hT := Mat.bb hb hT
  replace hO := Mat.bb hb hO
  replace hB := below_step hB hb
  clear hb
  refine hK.out _ _ ⟨hA, hT⟩ (fun hHeld => ?_)
  clear hK K
  refine norm_ (a' := ?_) ?_ ?_
  rotate_left
  · show Act.put _ (some 22) _ = _
    simp only [Act.put, Mat.p1, List.set_cons_zero, List.set_cons_succ]
    rfl
  refine pure_ (i := 10) (N := some 23) (v := ?_) (a' := ?_) Mat.s11 rfl rfl (any_of HT_.out (by kernel_rfl)) (fun _ _ _ h => h) (Or.inl ⟨by rfl, ?_⟩) ?_ ?_
  rotate_left
  · intro w'
    go_simp
    with_reducible rfl
  rotate_left
  · simp only [Act.put, Mat.p1, List.set_cons_zero, List.set_cons_succ]
    rfl
  refine one_ (i := 11) (N := none) Mat.s12 rfl rfl (one_of HT_.out (by kernel_rfl)) (by decide) (fun K hK => ?_)
  have co : V3.cell? ⟨g4, 9, none⟩ = some (.int .i64 0) := (blk_cell hO 9).trans rfl
  have fo : V3.frozen? ⟨g4, 9, none⟩ = false := blk_frozen hO 9
  refine skip_ (w1 := ?_) (by rfl) rfl ?_ ?_
  rotate_left
  · go_simp
    rfl
  replace hA := blk_far (p := ⟨g4, 9, none⟩) hA (show w.heap.size ≠ g4 by omega) (.int .i64 t9)
  replace hR := blk_far (p := ⟨g4, 9, none⟩) hR (show g2 ≠ g4 by omega) (.int .i64 t9)
  replace hT := blk_far (p := ⟨g4, 9, none⟩) hT (show g3 ≠ g4 by omega) (.int .i64 t9)
  replace hO := blk_put (cs := (Mat.A16 t0 t1 t2 t3 t4 t5 t6 t7 t8 0 0 0 0 0 0 0)) (cs' := (Mat.A16 t0 t1 t2 t3 t4 t5 t6 t7 t8 t9 0 0 0 0 0 0)) hO 9 (.int .i64 t9) rfl
  replace hB : Below w.heap.size w (V3.setCell ⟨g4, 9, none⟩ (.int .i64 t9)) := below_set hB (show w.heap.size ≤ g4 by omega)
  refine hK.out _ _ ⟨hA, hT⟩ (fun hHeld => ?_)
  clear hK K
  refine done_ (done_of HT_.out (by kernel_rfl)) ?_
  clear HT_ co fo
  go_wp2
  refine Mat.gen_ (Pr := fun W => W.heap[w.heap.size]? = some (.cells (Mat.A16 a0 a1 a2 a3 a4 a5 a6 a7 a8 a9 aa ab ac ad ae af) 23 (0, 0)) ∧ W.heap[g2]? = some (.cells (Mat.A16 0 0 0 0 0 0 0 0 0 0 0 0 0 0 0 0) 23 (0, 0)) ∧ W.heap[g3]? = some (.cells (Mat.A16 b0 b4 b8 bc b1 b5 b9 bd b2 b6 ba be b3 b7 bb bf) 23 (0, 0)) ∧ W.heap[g4]? = some (.cells (Mat.A16 t0 t1 t2 t3 t4 t5 t6 t7 t8 t9 0 0 0 0 0 0) 23 (0, 0)) ∧ Below w.heap.size w W) (G := fun W => Code.rounds Try.prog _ _ _ _ W) ⟨hA, hR, hT, hO, hB⟩ ?_
  clear hA hR hT hO hB hHeld
  rintro U10 ⟨hA, hR, hT, hO, hB⟩
  as_aux_lemma =>
  rw [rounds_succ]
  go_upto_region 6 with (fail)
  replace hA := blk_drew hA
  replace hR := blk_drew hR
  replace hT := blk_drew hT
  replace hO := blk_drew hO
  replace hB := below_drew1 hB
  refine start_ (n := 12) (S := fun w' => w'.heap[w.heap.size]? = some (.cells (Mat.A16 a0 a1 a2 a3 a4 a5 a6 a7 a8 a9 aa ab ac ad ae af) 23 (0, 0)) ∧ w'.heap[g3]? = some (.cells (Mat.A16 b0 b4 b8 bc b1 b5 b9 bd b2 b6 ba be b3 b7 bb bf) 23 (0, 0))) (ds := []) #[false, false, false, false, false, false, false, false, false, false, false, false] (by kernel_rfl) rfl rfl ⟨hA, hT⟩ (fun hHeld => ?_); refine with_tab matrix_Mul.tab (fun HT_ => ?_)
  generalize U10.drew = V0 at hA hR hT hO hB hHeld ⊢
  refine pure_ (i := 0) (N := some 13) (v := ?_) (a' := ?_) Mat.s1 rfl rfl (any_of HT_.out (by kernel_rfl)) (fun _ _ _ h => h) (Or.inl ⟨by rfl, ?_⟩) ?_ ?_
  rotate_left
  · intro w'
    go_simp
    with_reducible rfl
  rotate_left
  · simp only [Act.put, Mat.p1, List.set_cons_zero, List.set_cons_succ]
    rfl
  refine pure_ (i := 2) (N := some 15) (v := ?_) (a' := ?_) Mat.s2 rfl rfl (any_of HT_.out (by kernel_rfl)) (fun _ _ _ h => h) (Or.inl ⟨by rfl, ?_⟩) ?_ ?_
  rotate_left
  · intro w'
    go_simp
    with_reducible rfl
  rotate_left
  · simp only [Act.put, Mat.p1, List.set_cons_zero, List.set_cons_succ]
    rfl
  refine pure_ (i := 3) (N := some 16) (v := .int .i64 2) (a' := ?_) Mat.s3 rfl rfl (any_of HT_.out (by kernel_rfl)) (fun _ _ _ h => h) (Or.inl ⟨by rfl, ?_⟩) ?_ ?_
  · intro w'
    go_simp
    first | done | rfl
  rotate_left
  · simp only [Act.put, Mat.p1, List.set_cons_zero, List.set_cons_succ]
    rfl
  refine pure_ (i := 6) (N := some 19) (v := ?_) (a' := ?_) Mat.s4 rfl rfl (any_of HT_.out (by kernel_rfl)) (fun _ _ _ h => h) (Or.inl ⟨by rfl, ?_⟩) ?_ ?_
  rotate_left
  · intro w'
    go_simp
    with_reducible rfl
  rotate_left
  · simp only [Act.put, Mat.p1, List.set_cons_zero, List.set_cons_succ]
    rfl
  refine pure_ (i := 7) (N := some 20) (v := .int .i64 2) (a' := ?_) Mat.s5 rfl rfl (any_of HT_.out (by kernel_rfl)) (fun _ _ _ h => h) (Or.inl ⟨by rfl, ?_⟩) ?_ ?_
  · intro w'
    go_simp
    first | done | rfl
  rotate_left
  · simp only [Act.put, Mat.p1, List.set_cons_zero, List.set_cons_succ]
    rfl
  refine take_ (i := 1) (N := some 14) (v := .agg (Mat.A16 a0 a1 a2 a3 a4 a5 a6 a7 a8 a9 aa ab ac ad ae af)) (a' := ?_) Mat.s6 rfl rfl (take_of HT_.out (by kernel_rfl)) (fun _ _ _ h => h) (yieldsIf_load_mid (by rfl) 23 (.tmp 2) rfl w.heap.size 0 (by rfl) (Mat.A16 a0 a1 a2 a3 a4 a5 a6 a7 a8 a9 aa ab ac ad ae af).toList _ (fun _ h => Mat.range_blk h.1) hu23 rfl (by kernel_rfl)) hHeld ?_ ?_
  rotate_left
  · simp only [Act.put, Mat.p1, List.set_cons_zero, List.set_cons_succ]
    rfl
  refine take_ (i := 5) (N := some 18) (v := .agg (Mat.A16 b0 b4 b8 bc b1 b5 b9 bd b2 b6 ba be b3 b7 bb bf)) (a' := ?_) Mat.s7 rfl rfl (take_of HT_.out (by kernel_rfl)) (fun _ _ _ h => h) (yieldsIf_load_mid (by rfl) 23 (.tmp 5) rfl g3 0 (by rfl) (Mat.A16 b0 b4 b8 bc b1 b5 b9 bd b2 b6 ba be b3 b7 bb bf).toList _ (fun _ h => Mat.range_blk h.2) hu23 rfl (by kernel_rfl)) hHeld ?_ ?_
  rotate_left
  · simp only [Act.put, Mat.p1, List.set_cons_zero, List.set_cons_succ]
    rfl
  refine one_ (i := 4) (N := some 17) Mat.s8 rfl rfl (one_of HT_.out (by kernel_rfl)) (by decide) (fun K hK => ?_)
  refine goes_ Try.func21 (by kernel_rfl) rfl #[.agg (Mat.A16 a0 a1 a2 a3 a4 a5 a6 a7 a8 a9 aa ab ac ad ae af), .int .i64 2] (by rfl) rfl rfl (by simp only [List.map_toArray, List.map_cons, List.map_nil]; rfl) ?_
  refine (matrix_Row.calls a0 a1 a2 a3 a4 a5 a6 a7 a8 a9 aa ab ac ad ae af 2 a8 a9 aa ab _ rfl).mono ?_
  rintro e V1 ⟨rfl, hb⟩
  refine ⟨_, rfl, ?_⟩
  replace hA := Mat.bb hb hA
  replace hR := Mat.bb hb hR
  replace hT := Mat.bb hb hT
  replace hO := Mat.bb hb hO
  replace hB := below_step hB hb
  clear hb
  refine hK.out _ _ ⟨hA, hT⟩ (fun hHeld => ?_)
  clear hK K
  refine norm_ (a' := ?_) ?_ ?_
  rotate_left
  · show Act.put _ (some 17) _ = _
    simp only [Act.put, Mat.p1, List.set_cons_zero, List.set_cons_succ]
    rfl
  refine one_ (i := 8) (N := some 21) Mat.s9 rfl rfl (one_of HT_.out (by kernel_rfl)) (by decide) (fun K hK => ?_)
  refine goes_ Try.func21 (by kernel_rfl) rfl #[.agg (Mat.A16 b0 b4 b8 bc b1 b5 b9 bd b2 b6 ba be b3 b7 bb bf), .int .i64 2] (by rfl) rfl rfl (by simp only [List.map_toArray, List.map_cons, List.map_nil]; rfl) ?_
  refine (matrix_Row.calls b0 b4 b8 bc b1 b5 b9 bd b2 b6 ba be b3 b7 bb bf 2 b2 b6 ba be _ rfl).mono ?_
  rintro e V2 ⟨rfl, hb⟩
  refine ⟨_, rfl, ?_⟩
  replace hA := Mat.bb hb hA
  replace hR := Mat.bb hb hR
  replace hT := Mat.bb hb hT
  replace hO := Mat.bb hb hO
  replace hB := below_step hB hb
  clear hb
  refine hK.out _ _ ⟨hA, hT⟩ (fun hHeld => ?_)
  clear hK K
  refine norm_ (a' := ?_) ?_ ?_
  rotate_left
  · show Act.put _ (some 21) _ = _
    simp only [Act.put, Mat.p1, List.set_cons_zero, List.set_cons_succ]
    rfl
  refine one_ (i := 9) (N := some 22) Mat.s10 rfl rfl (one_of HT_.out (by kernel_rfl)) (by decide) (fun K hK => ?_)
  refine goes_ Try.func37 (by kernel_rfl) rfl #[.agg #[.int .i64 a8, .int .i64 a9, .int .i64 aa, .int .i64 ab], .agg #[.int .i64 b2, .int .i64 b6, .int .i64 ba, .int .i64 be]] (by rfl) rfl rfl (by simp only [List.map_toArray, List.map_cons, List.map_nil]; rfl) ?_
  refine (vec_Dot.calls k a8 a9 aa ab b2 b6 ba be t10 _ D10.out).mono ?_
  rintro e V3 ⟨rfl, hb⟩
  refine ⟨_, rfl, ?_⟩
  replace hA := Mat.bb hb hA
  replace hR := Mat.bb hb hR
  replace hT := Mat.bb hb hT
  replace hO := Mat.bb hb hO
  replace hB := below_step hB hb
  clear hb
  refine hK.out _ _ ⟨hA, hT⟩ (fun hHeld => ?_)
  clear hK K
  refine norm_ (a' := ?_) ?_ ?_
  rotate_left
  · show Act.put _ (some 22) _ = _
    simp only [Act.put, Mat.p1, List.set_cons_zero, List.set_cons_succ]
    rfl
  refine pure_ (i := 10) (N := some 23) (v := ?_) (a' := ?_) Mat.s11 rfl rfl (any_of HT_.out (by kernel_rfl)) (fun _ _ _ h => h) (Or.inl ⟨by rfl, ?_⟩) ?_ ?_
  rotate_left
  · intro w'
    go_simp
    with_reducible rfl
  rotate_left
  · simp only [Act.put, Mat.p1, List.set_cons_zero, List.set_cons_succ]
    rfl
  refine one_ (i := 11) (N := none) Mat.s12 rfl rfl (one_of HT_.out (by kernel_rfl)) (by decide) (fun K hK => ?_)
  have co : V3.cell? ⟨g4, 10, none⟩ = some (.int .i64 0) := (blk_cell hO 10).trans rfl
  have fo : V3.frozen? ⟨g4, 10, none⟩ = false := blk_frozen hO 10
  refine skip_ (w1 := ?_) (by rfl) rfl ?_ ?_
  rotate_left
  · go_simp
    rfl
  replace hA := blk_far (p := ⟨g4, 10, none⟩) hA (show w.heap.size ≠ g4 by omega) (.int .i64 t10)
  replace hR := blk_far (p := ⟨g4, 10, none⟩) hR (show g2 ≠ g4 by omega) (.int .i64 t10)
  replace hT := blk_far (p := ⟨g4, 10, none⟩) hT (show g3 ≠ g4 by omega) (.int .i64 t10)
  replace hO := blk_put (cs := (Mat.A16 t0 t1 t2 t3 t4 t5 t6 t7 t8 t9 0 0 0 0 0 0)) (cs' := (Mat.A16 t0 t1 t2 t3 t4 t5 t6 t7 t8 t9 t10 0 0 0 0 0)) hO 10 (.int .i64 t10) rfl
  replace hB : Below w.heap.size w (V3.setCell ⟨g4, 10, none⟩ (.int .i64 t10)) := below_set hB (show w.heap.size ≤ g4 by omega)
  refine hK.out _ _ ⟨hA, hT⟩ (fun hHeld => ?_)
  clear hK K
  refine done_ (done_of HT_.out (by kernel_rfl)) ?_
  clear HT_ co fo
  go_wp2
  refine Mat.gen_ (Pr := fun W => W.heap[w.heap.size]? = some (.cells (Mat.A16 a0 a1 a2 a3 a4 a5 a6 a7 a8 a9 aa ab ac ad ae af) 23 (0, 0)) ∧ W.heap[g2]? = some (.cells (Mat.A16 0 0 0 0 0 0 0 0 0 0 0 0 0 0 0 0) 23 (0, 0)) ∧ W.heap[g3]? = some (.cells (Mat.A16 b0 b4 b8 bc b1 b5 b9 bd b2 b6 ba be b3 b7 bb bf) 23 (0, 0)) ∧ W.heap[g4]? = some (.cells (Mat.A16 t0 t1 t2 t3 t4 t5 t6 t7 t8 t9 t10 0 0 0 0 0) 23 (0, 0)) ∧ Below w.heap.size w W) (G := fun W => Code.rounds Try.prog _ _ _ _ W) ⟨hA, hR, hT, hO, hB⟩ ?_
  clear hA hR hT hO hB hHeld
  rintro U11 ⟨hA, hR, hT, hO, hB⟩
  as_aux_lemma =>
  rw [rounds_succ]
  go_upto_region 6 with (fail)
  replace hA := blk_drew hA
  replace hR := blk_drew hR
  replace hT := blk_drew hT
  replace hO := blk_drew hO
  replace hB := below_drew1 hB
  refine start_ (n := 12) (S := fun w' => w'.heap[w.heap.size]? = some (.cells (Mat.A16 a0 a1 a2 a3 a4 a5 a6 a7 a8 a9 aa ab ac ad ae af) 23 (0, 0)) ∧ w'.heap[g3]? = some (.cells (Mat.A16 b0 b4 b8 bc b1 b5 b9 bd b2 b6 ba be b3 b7 bb bf) 23 (0, 0))) (ds := []) #[false, false, false, false, false, false, false, false, false, false, false, false] (by kernel_rfl) rfl rfl ⟨hA, hT⟩ (fun hHeld => ?_); refine with_tab matrix_Mul.tab (fun HT_ => ?_)
  generalize U11.drew = V0 at hA hR hT hO hB hHeld ⊢
  refine pure_ (i := 0) (N := some 13) (v := ?_) (a' := ?_) Mat.s1 rfl rfl (any_of HT_.out (by kernel_rfl)) (fun _ _ _ h => h) (Or.inl ⟨by rfl, ?_⟩) ?_ ?_
  rotate_left
  · intro w'
    go_simp
    with_reducible rfl
  rotate_left
  · simp only [Act.put, Mat.p1, List.set_cons_zero, List.set_cons_succ]
    rfl
  refine pure_ (i := 2) (N := some 15) (v := ?_) (a' := ?_) Mat.s2 rfl rfl (any_of HT_.out (by kernel_rfl)) (fun _ _ _ h => h) (Or.inl ⟨by rfl, ?_⟩) ?_ ?_
  rotate_left
  · intro w'
    go_simp
    with_reducible rfl
  rotate_left
  · simp only [Act.put, Mat.p1, List.set_cons_zero, List.set_cons_succ]
    rfl
  refine pure_ (i := 3) (N := some 16) (v := .int .i64 2) (a' := ?_) Mat.s3 rfl rfl (any_of HT_.out (by kernel_rfl)) (fun _ _ _ h => h) (Or.inl ⟨by rfl, ?_⟩) ?_ ?_
  · intro w'
    go_simp
    first | done | rfl
  rotate_left
  · simp only [Act.put, Mat.p1, List.set_cons_zero, List.set_cons_succ]
    rfl
  refine pure_ (i := 6) (N := some 19) (v := ?_) (a' := ?_) Mat.s4 rfl rfl (any_of HT_.out (by kernel_rfl)) (fun _ _ _ h => h) (Or.inl ⟨by rfl, ?_⟩) ?_ ?_
  rotate_left
  · intro w'
    go_simp
    with_reducible rfl
  rotate_left
  · simp only [Act.put, Mat.p1, List.set_cons_zero, List.set_cons_succ]
    rfl
  refine pure_ (i := 7) (N := some 20) (v := .int .i64 3) (a' := ?_) Mat.s5 rfl rfl (any_of HT_.out (by kernel_rfl)) (fun _ _ _ h => h) (Or.inl ⟨by rfl, ?_⟩) ?_ ?_
  · intro w'
    go_simp
    first | done | rfl
  rotate_left
  · simp only [Act.put, Mat.p1, List.set_cons_zero, List.set_cons_succ]
    rfl
  refine take_ (i := 1) (N := some 14) (v := .agg (Mat.A16 a0 a1 a2 a3 a4 a5 a6 a7 a8 a9 aa ab ac ad ae af)) (a' := ?_) Mat.s6 rfl rfl (take_of HT_.out (by kernel_rfl)) (fun _ _ _ h => h) (yieldsIf_load_mid (by rfl) 23 (.tmp 2) rfl w.heap.size 0 (by rfl) (Mat.A16 a0 a1 a2 a3 a4 a5 a6 a7 a8 a9 aa ab ac ad ae af).toList _ (fun _ h => Mat.range_blk h.1) hu23 rfl (by kernel_rfl)) hHeld ?_ ?_
  rotate_left
  · simp only [Act.put, Mat.p1, List.set_cons_zero, List.set_cons_succ]
    rfl
  refine take_ (i := 5) (N := some 18) (v := .agg (Mat.A16 b0 b4 b8 bc b1 b5 b9 bd b2 b6 ba be b3 b7 bb bf)) (a' := ?_) Mat.s7 rfl rfl (take_of HT_.out (by kernel_rfl)) (fun _ _ _ h => h) (yieldsIf_load_mid (by rfl) 23 (.tmp 5) rfl g3 0 (by rfl) (Mat.A16 b0 b4 b8 bc b1 b5 b9 bd b2 b6 ba be b3 b7 bb bf).toList _ (fun _ h => Mat.range_blk h.2) hu23 rfl (by kernel_rfl)) hHeld ?_ ?_
  rotate_left
  · simp only [Act.put, Mat.p1, List.set_cons_zero, List.set_cons_succ]
    rfl
  refine one_ (i := 4) (N := some 17) Mat.s8 rfl rfl (one_of HT_.out (by kernel_rfl)) (by decide) (fun K hK => ?_)
  refine goes_ Try.func21 (by kernel_rfl) rfl #[.agg (Mat.A16 a0 a1 a2 a3 a4 a5 a6 a7 a8 a9 aa ab ac ad ae af), .int .i64 2] (by rfl) rfl rfl (by simp only [List.map_toArray, List.map_cons, List.map_nil]; rfl) ?_
  refine (matrix_Row.calls a0 a1 a2 a3 a4 a5 a6 a7 a8 a9 aa ab ac ad ae af 2 a8 a9 aa ab _ rfl).mono ?_
  rintro e V1 ⟨rfl, hb⟩
  refine ⟨_, rfl, ?_⟩
  replace hA := Mat.bb hb hA
  replace hR := Mat.bb hb hR
  replace hT := Mat.bb hb hT
  replace hO := Mat.bb hb hO
  replace hB := below_step hB hb
  clear hb
  refine hK.out _ _ ⟨hA, hT⟩ (fun hHeld => ?_)
  clear hK K
  refine norm_ (a' := ?_) ?_ ?_
  rotate_left
  · show Act.put _ (some 17) _ = _
    simp only [Act.put, Mat.p1, List.set_cons_zero, List.set_cons_succ]
    rfl
  refine one_ (i := 8) (N := some 21) Mat.s9 rfl rfl (one_of HT_.out (by kernel_rfl)) (by decide) (fun K hK => ?_)
  refine goes_ Try.func21 (by kernel_rfl) rfl #[.agg (Mat.A16 b0 b4 b8 bc b1 b5 b9 bd b2 b6 ba be b3 b7 bb bf), .int .i64 3] (by rfl) rfl rfl (by simp only [List.map_toArray, List.map_cons, List.map_nil]; rfl) ?_
  refine (matrix_Row.calls b0 b4 b8 bc b1 b5 b9 bd b2 b6 ba be b3 b7 bb bf 3 b3 b7 bb bf _ rfl).mono ?_
  rintro e V2 ⟨rfl, hb⟩
  refine ⟨_, rfl, ?_⟩
  replace hA := Mat.bb hb hA
  replace hR := Mat.bb hb hR
  replace hT := Mat.bb hb hT
  replace hO := Mat.bb hb hO
  replace hB := below_step hB hb
  clear hb
  refine hK.out _ _ ⟨hA, hT⟩ (fun hHeld => ?_)
  clear hK K
  refine norm_ (a' := ?_) ?_ ?_
  rotate_left
  · show Act.put _ (some 21) _ = _
    simp only [Act.put, Mat.p1, List.set_cons_zero, List.set_cons_succ]
    rfl
  refine one_ (i := 9) (N := some 22) Mat.s10 rfl rfl (one_of HT_.out (by kernel_rfl)) (by decide) (fun K hK => ?_)
  refine goes_ Try.func37 (by kernel_rfl) rfl #[.agg #[.int .i64 a8, .int .i64 a9, .int .i64 aa, .int .i64 ab], .agg #[.int .i64 b3, .int .i64 b7, .int .i64 bb, .int .i64 bf]] (by rfl) rfl rfl (by simp only [List.map_toArray, List.map_cons, List.map_nil]; rfl) ?_
  refine (vec_Dot.calls k a8 a9 aa ab b3 b7 bb bf t11 _ D11.out).mono ?_
  rintro e V3 ⟨rfl, hb⟩
  refine ⟨_, rfl, ?_⟩
  replace hA := Mat.bb hb hA
  replace hR := Mat.bb hb hR
  replace hT := Mat.bb hb hT
  replace hO := Mat.bb hb hO
  replace hB := below_step hB hb
  clear hb
  refine hK.out _ _ ⟨hA, hT⟩ (fun hHeld => ?_)
  clear hK K
  refine norm_ (a' := ?_) ?_ ?_
  rotate_left
  · show Act.put _ (some 22) _ = _
    simp only [Act.put, Mat.p1, List.set_cons_zero, List.set_cons_succ]
    rfl
  refine pure_ (i := 10) (N := some 23) (v := ?_) (a' := ?_) Mat.s11 rfl rfl (any_of HT_.out (by kernel_rfl)) (fun _ _ _ h => h) (Or.inl ⟨by rfl, ?_⟩) ?_ ?_
  rotate_left
  · intro w'
    go_simp
    with_reducible rfl
  rotate_left
  · simp only [Act.put, Mat.p1, List.set_cons_zero, List.set_cons_succ]
    rfl
  refine one_ (i := 11) (N := none) Mat.s12 rfl rfl (one_of HT_.out (by kernel_rfl)) (by decide) (fun K hK => ?_)
  have co : V3.cell? ⟨g4, 11, none⟩ = some (.int .i64 0) := (blk_cell hO 11).trans rfl
  have fo : V3.frozen? ⟨g4, 11, none⟩ = false := blk_frozen hO 11
  refine skip_ (w1 := ?_) (by rfl) rfl ?_ ?_
  rotate_left
  · go_simp
    rfl
  replace hA := blk_far (p := ⟨g4, 11, none⟩) hA (show w.heap.size ≠ g4 by omega) (.int .i64 t11)
  replace hR := blk_far (p := ⟨g4, 11, none⟩) hR (show g2 ≠ g4 by omega) (.int .i64 t11)
  replace hT := blk_far (p := ⟨g4, 11, none⟩) hT (show g3 ≠ g4 by omega) (.int .i64 t11)
  replace hO := blk_put (cs := (Mat.A16 t0 t1 t2 t3 t4 t5 t6 t7 t8 t9 t10 0 0 0 0 0)) (cs' := (Mat.A16 t0 t1 t2 t3 t4 t5 t6 t7 t8 t9 t10 t11 0 0 0 0)) hO 11 (.int .i64 t11) rfl
  replace hB : Below w.heap.size w (V3.setCell ⟨g4, 11, none⟩ (.int .i64 t11)) := below_set hB (show w.heap.size ≤ g4 by omega)
  refine hK.out _ _ ⟨hA, hT⟩ (fun hHeld => ?_)
  clear hK K
  refine done_ (done_of HT_.out (by kernel_rfl)) ?_
  clear HT_ co fo
  go_wp2
  refine Mat.gen_ (Pr := fun W => W.heap[w.heap.size]? = some (.cells (Mat.A16 a0 a1 a2 a3 a4 a5 a6 a7 a8 a9 aa ab ac ad ae af) 23 (0, 0)) ∧ W.heap[g2]? = some (.cells (Mat.A16 0 0 0 0 0 0 0 0 0 0 0 0 0 0 0 0) 23 (0, 0)) ∧ W.heap[g3]? = some (.cells (Mat.A16 b0 b4 b8 bc b1 b5 b9 bd b2 b6 ba be b3 b7 bb bf) 23 (0, 0)) ∧ W.heap[g4]? = some (.cells (Mat.A16 t0 t1 t2 t3 t4 t5 t6 t7 t8 t9 t10 t11 0 0 0 0) 23 (0, 0)) ∧ Below w.heap.size w W) (G := fun W => Code.rounds Try.prog _ _ _ _ W) ⟨hA, hR, hT, hO, hB⟩ ?_
  clear hA hR hT hO hB hHeld
  rintro U12 ⟨hA, hR, hT, hO, hB⟩
  as_aux_lemma =>
  rw [rounds_succ]
  go_upto_region 6 with (fail)
  replace hA := blk_drew hA
  replace hR := blk_drew hR
  replace hT := blk_drew hT
  replace hO := blk_drew hO
  replace hB := below_drew1 hB
  refine start_ (n := 12) (S := fun w' => w'.heap[w.heap.size]? = some (.cells (Mat.A16 a0 a1 a2 a3 a4 a5 a6 a7 a8 a9 aa ab ac ad ae af) 23 (0, 0)) ∧ w'.heap[g3]? = some (.cells (Mat.A16 b0 b4 b8 bc b1 b5 b9 bd b2 b6 ba be b3 b7 bb bf) 23 (0, 0))) (ds := []) #[false, false, false, false, false, false, false, false, false, false, false, false] (by kernel_rfl) rfl rfl ⟨hA, hT⟩ (fun hHeld => ?_); refine with_tab matrix_Mul.tab (fun HT_ => ?_)
  generalize U12.drew = V0 at hA hR hT hO hB hHeld ⊢
  refine pure_ (i := 0) (N := some 13) (v := ?_) (a' := ?_) Mat.s1 rfl rfl (any_of HT_.out (by kernel_rfl)) (fun _ _ _ h => h) (Or.inl ⟨by rfl, ?_⟩) ?_ ?_
  rotate_left
  · intro w'
    go_simp
    with_reducible rfl
  rotate_left
  · simp only [Act.put, Mat.p1, List.set_cons_zero, List.set_cons_succ]
    rfl
  refine pure_ (i := 2) (N := some 15) (v := ?_) (a' := ?_) Mat.s2 rfl rfl (any_of HT_.out (by kernel_rfl)) (fun _ _ _ h => h) (Or.inl ⟨by rfl, ?_⟩) ?_ ?_
  rotate_left
  · intro w'
    go_simp
    with_reducible rfl
  rotate_left
  · simp only [Act.put, Mat.p1, List.set_cons_zero, List.set_cons_succ]
    rfl
  refine pure_ (i := 3) (N := some 16) (v := .int .i64 3) (a' := ?_) Mat.s3 rfl rfl (any_of HT_.out (by kernel_rfl)) (fun _ _ _ h => h) (Or.inl ⟨by rfl, ?_⟩) ?_ ?_
  · intro w'
    go_simp
    first | done | rfl
  rotate_left
  · simp only [Act.put, Mat.p1, List.set_cons_zero, List.set_cons_succ]
    rfl
  refine pure_ (i := 6) (N := some 19) (v := ?_) (a' := ?_) Mat.s4 rfl rfl (any_of HT_.out (by kernel_rfl)) (fun _ _ _ h => h) (Or.inl ⟨by rfl, ?_⟩) ?_ ?_
  rotate_left
  · intro w'
    go_simp
    with_reducible rfl
  rotate_left
  · simp only [Act.put, Mat.p1, List.set_cons_zero, List.set_cons_succ]
    rfl
  refine pure_ (i := 7) (N := some 20) (v := .int .i64 0) (a' := ?_) Mat.s5 rfl rfl (any_of HT_.out (by kernel_rfl)) (fun _ _ _ h => h) (Or.inl ⟨by rfl, ?_⟩) ?_ ?_
  · intro w'
    go_simp
    first | done | rfl
  rotate_left
  · simp only [Act.put, Mat.p1, List.set_cons_zero, List.set_cons_succ]
    rfl
  refine take_ (i := 1) (N := some 14) (v := .agg (Mat.A16 a0 a1 a2 a3 a4 a5 a6 a7 a8 a9 aa ab ac ad ae af)) (a' := ?_) Mat.s6 rfl rfl (take_of HT_.out (by kernel_rfl)) (fun _ _ _ h => h) (yieldsIf_load_mid (by rfl) 23 (.tmp 2) rfl w.heap.size 0 (by rfl) (Mat.A16 a0 a1 a2 a3 a4 a5 a6 a7 a8 a9 aa ab ac ad ae af).toList _ (fun _ h => Mat.range_blk h.1) hu23 rfl (by kernel_rfl)) hHeld ?_ ?_
  rotate_left
  · simp only [Act.put, Mat.p1, List.set_cons_zero, List.set_cons_succ]
    rfl
  refine take_ (i := 5) (N := some 18) (v := .agg (Mat.A16 b0 b4 b8 bc b1 b5 b9 bd b2 b6 ba be b3 b7 bb bf)) (a' := ?_) Mat.s7 rfl rfl (take_of HT_.out (by kernel_rfl)) (fun _ _ _ h => h) (yieldsIf_load_mid (by rfl) 23 (.tmp 5) rfl g3 0 (by rfl) (Mat.A16 b0 b4 b8 bc b1 b5 b9 bd b2 b6 ba be b3 b7 bb bf).toList _ (fun _ h => Mat.range_blk h.2) hu23 rfl (by kernel_rfl)) hHeld ?_ ?_
  rotate_left
  · simp only [Act.put, Mat.p1, List.set_cons_zero, List.set_cons_succ]
    rfl
  refine one_ (i := 4) (N := some 17) Mat.s8 rfl rfl (one_of HT_.out (by kernel_rfl)) (by decide) (fun K hK => ?_)
  refine goes_ Try.func21 (by kernel_rfl) rfl #[.agg (Mat.A16 a0 a1 a2 a3 a4 a5 a6 a7 a8 a9 aa ab ac ad ae af), .int .i64 3] (by rfl) rfl rfl (by simp only [List.map_toArray, List.map_cons, List.map_nil]; rfl) ?_
  refine (matrix_Row.calls a0 a1 a2 a3 a4 a5 a6 a7 a8 a9 aa ab ac ad ae af 3 ac ad ae af _ rfl).mono ?_
  rintro e V1 ⟨rfl, hb⟩
  refine ⟨_, rfl, ?_⟩
  replace hA := Mat.bb hb hA
  replace hR := Mat.bb hb hR
  replace hT := Mat.bb hb hT
  replace hO := Mat.bb hb hO
  replace hB := below_step hB hb
  clear hb
  refine hK.out _ _ ⟨hA, hT⟩ (fun hHeld => ?_)
  clear hK K
  refine norm_ (a' := ?_) ?_ ?_
  rotate_left
  · show Act.put _ (some 17) _ = _
    simp only [Act.put, Mat.p1, List.set_cons_zero, List.set_cons_succ]
    rfl
  refine one_ (i := 8) (N := some 21) Mat.s9 rfl rfl (one_of HT_.out (by kernel_rfl)) (by decide) (fun K hK => ?_)
  refine goes_ Try.func21 (by kernel_rfl) rfl #[.agg (Mat.A16 b0 b4 b8 bc b1 b5 b9 bd b2 b6 ba be b3 b7 bb bf), .int .i64 0] (by rfl) rfl rfl (by simp only [List.map_toArray, List.map_cons, List.map_nil]; rfl) ?_
  refine (matrix_Row.calls b0 b4 b8 bc b1 b5 b9 bd b2 b6 ba be b3 b7 bb bf 0 b0 b4 b8 bc _ rfl).mono ?_
  rintro e V2 ⟨rfl, hb⟩
  refine ⟨_, rfl, ?_⟩
  replace hA := Mat.bb hb hA
  replace hR := Mat.bb hb hR
  replace hT := Mat.bb hb hT
  replace hO := Mat.bb hb hO
  replace hB := below_step hB hb
  clear hb
  refine hK.out _ _ ⟨hA, hT⟩ (fun hHeld => ?_)
  clear hK K
  refine norm_ (a' := ?_) ?_ ?_
  rotate_left
  · show Act.put _ (some 21) _ = _
    simp only [Act.put, Mat.p1, List.set_cons_zero, List.set_cons_succ]
    rfl
  refine one_ (i := 9) (N := some 22) Mat.s10 rfl rfl (one_of HT_.out (by kernel_rfl)) (by decide) (fun K hK => ?_)
  refine goes_ Try.func37 (by kernel_rfl) rfl #[.agg #[.int .i64 ac, .int .i64 ad, .int .i64 ae, .int .i64 af], .agg #[.int .i64 b0, .int .i64 b4, .int .i64 b8, .int .i64 bc]] (by rfl) rfl rfl (by simp only [List.map_toArray, List.map_cons, List.map_nil]; rfl) ?_
  refine (vec_Dot.calls k ac ad ae af b0 b4 b8 bc t12 _ D12.out).mono ?_
  rintro e V3 ⟨rfl, hb⟩
  refine ⟨_, rfl, ?_⟩
  replace hA := Mat.bb hb hA
  replace hR := Mat.bb hb hR
  replace hT := Mat.bb hb hT
  replace hO := Mat.bb hb hO
  replace hB := below_step hB hb
  clear hb
  refine hK.out _ _ ⟨hA, hT⟩ (fun hHeld => ?_)
  clear hK K
  refine norm_ (a' := ?_) ?_ ?_
  rotate_left
  · show Act.put _ (some 22) _ = _
    simp only [Act.put, Mat.p1, List.set_cons_zero, List.set_cons_succ]
    rfl
  refine pure_ (i := 10) (N := some 23) (v := ?_) (a' := ?_) Mat.s11 rfl rfl (any_of HT_.out (by kernel_rfl)) (fun _ _ _ h => h) (Or.inl ⟨by rfl, ?_⟩) ?_ ?_
  rotate_left
  · intro w'
    go_simp
    with_reducible rfl
  rotate_left
  · simp only [Act.put, Mat.p1, List.set_cons_zero, List.set_cons_succ]
    rfl
  refine one_ (i := 11) (N := none) Mat.s12 rfl rfl (one_of HT_.out (by kernel_rfl)) (by decide) (fun K hK => ?_)
  have co : V3.cell? ⟨g4, 12, none⟩ = some (.int .i64 0) := (blk_cell hO 12).trans rfl
  have fo : V3.frozen? ⟨g4, 12, none⟩ = false := blk_frozen hO 12
  refine skip_ (w1 := ?_) (by rfl) rfl ?_ ?_
  rotate_left
  · go_simp
    rfl
  replace hA := blk_far (p := ⟨g4, 12, none⟩) hA (show w.heap.size ≠ g4 by omega) (.int .i64 t12)
  replace hR := blk_far (p := ⟨g4, 12, none⟩) hR (show g2 ≠ g4 by omega) (.int .i64 t12)
  replace hT := blk_far (p := ⟨g4, 12, none⟩) hT (show g3 ≠ g4 by omega) (.int .i64 t12)
  replace hO := blk_put (cs := (Mat.A16 t0 t1 t2 t3 t4 t5 t6 t7 t8 t9 t10 t11 0 0 0 0)) (cs' := (Mat.A16 t0 t1 t2 t3 t4 t5 t6 t7 t8 t9 t10 t11 t12 0 0 0)) hO 12 (.int .i64 t12) rfl
  replace hB : Below w.heap.size w (V3.setCell ⟨g4, 12, none⟩ (.int .i64 t12)) := below_set hB (show w.heap.size ≤ g4 by omega)
  refine hK.out _ _ ⟨hA, hT⟩ (fun hHeld => ?_)
  clear hK K
  refine done_ (done_of HT_.out (by kernel_rfl)) ?_
  clear HT_ co fo
  go_wp2
  refine Mat.gen_ (Pr := fun W => W.heap[w.heap.size]? = some (.cells (Mat.A16 a0 a1 a2 a3 a4 a5 a6 a7 a8 a9 aa ab ac ad ae af) 23 (0, 0)) ∧ W.heap[g2]? = some (.cells (Mat.A16 0 0 0 0 0 0 0 0 0 0 0 0 0 0 0 0) 23 (0, 0)) ∧ W.heap[g3]? = some (.cells (Mat.A16 b0 b4 b8 bc b1 b5 b9 bd b2 b6 ba be b3 b7 bb bf) 23 (0, 0)) ∧ W.heap[g4]? = some (.cells (Mat.A16 t0 t1 t2 t3 t4 t5 t6 t7 t8 t9 t10 t11 t12 0 0 0) 23 (0, 0)) ∧ Below w.heap.size w W) (G := fun W => Code.rounds Try.prog _ _ _ _ W) ⟨hA, hR, hT, hO, hB⟩ ?_
  clear hA hR hT hO hB hHeld
  rintro U13 ⟨hA, hR, hT, hO, hB⟩
  as_aux_lemma =>
  rw [rounds_succ]
  go_upto_region 6 with (fail)
  replace hA := blk_drew hA
  replace hR := blk_drew hR
  replace hT := blk_drew hT
  replace hO := blk_drew hO
  replace hB := below_drew1 hB
  refine start_ (n := 12) (S := fun w' => w'.heap[w.heap.size]? = some (.cells (Mat.A16 a0 a1 a2 a3 a4 a5 a6 a7 a8 a9 aa ab ac ad ae af) 23 (0, 0)) ∧ w'.heap[g3]? = some (.cells (Mat.A16 b0 b4 b8 bc b1 b5 b9 bd b2 b6 ba be b3 b7 bb bf) 23 (0, 0))) (ds := []) #[false, false, false, false, false, false, false, false, false, false, false, false] (by kernel_rfl) rfl rfl ⟨hA, hT⟩ (fun hHeld => ?_); refine with_tab matrix_Mul.tab (fun HT_ => ?_)
  generalize U13.drew = V0 at hA hR hT hO hB hHeld ⊢
  refine pure_ (i := 0) (N := some 13) (v := ?_) (a' := ?_) Mat.s1 rfl rfl (any_of HT_.out (by kernel_rfl)) (fun _ _ _ h => h) (Or.inl ⟨by rfl, ?_⟩) ?_ ?_
  rotate_left
  · intro w'
    go_simp
    with_reducible rfl
  rotate_left
  · simp only [Act.put, Mat.p1, List.set_cons_zero, List.set_cons_succ]
    rfl
  refine pure_ (i := 2) (N := some 15) (v := ?_) (a' := ?_) Mat.s2 rfl rfl (any_of HT_.out (by kernel_rfl)) (fun _ _ _ h => h) (Or.inl ⟨by rfl, ?_⟩) ?_ ?_
  rotate_left
  · intro w'
    go_simp
    with_reducible rfl
  rotate_left
  · simp only [Act.put, Mat.p1, List.set_cons_zero, List.set_cons_succ]
    rfl
  refine pure_ (i := 3) (N := some 16) (v := .int .i64 3) (a' := ?_) Mat.s3 rfl rfl (any_of HT_.out (by kernel_rfl)) (fun _ _ _ h => h) (Or.inl ⟨by rfl, ?_⟩) ?_ ?_
  · intro w'
    go_simp
    first | done | rfl
  rotate_left
  · simp only [Act.put, Mat.p1, List.set_cons_zero, List.set_cons_succ]
    rfl
  refine pure_ (i := 6) (N := some 19) (v := ?_) (a' := ?_) Mat.s4 rfl rfl (any_of HT_.out (by kernel_rfl)) (fun _ _ _ h => h) (Or.inl ⟨by rfl, ?_⟩) ?_ ?_
  rotate_left
  · intro w'
    go_simp
    with_reducible rfl
  rotate_left
  · simp only [Act.put, Mat.p1, List.set_cons_zero, List.set_cons_succ]
    rfl
  refine pure_ (i := 7) (N := some 20) (v := .int .i64 1) (a' := ?_) Mat.s5 rfl rfl (any_of HT_.out (by kernel_rfl)) (fun _ _ _ h => h) (Or.inl ⟨by rfl, ?_⟩) ?_ ?_
  · intro w'
    go_simp
    first | done | rfl
  rotate_left
  · simp only [Act.put, Mat.p1, List.set_cons_zero, List.set_cons_succ]
    rfl
  refine take_ (i := 1) (N := some 14) (v := .agg (Mat.A16 a0 a1 a2 a3 a4 a5 a6 a7 a8 a9 aa ab ac ad ae af)) (a' := ?_) Mat.s6 rfl rfl (take_of HT_.out (by kernel_rfl)) (fun _ _ _ h => h) (yieldsIf_load_mid (by rfl) 23 (.tmp 2) rfl w.heap.size 0 (by rfl) (Mat.A16 a0 a1 a2 a3 a4 a5 a6 a7 a8 a9 aa ab ac ad ae af).toList _ (fun _ h => Mat.range_blk h.1) hu23 rfl (by kernel_rfl)) hHeld ?_ ?_
  rotate_left
  · simp only [Act.put, Mat.p1, List.set_cons_zero, List.set_cons_succ]
    rfl
  refine take_ (i := 5) (N := some 18) (v := .agg (Mat.A16 b0 b4 b8 bc b1 b5 b9 bd b2 b6 ba be b3 b7 bb bf)) (a' := ?_) Mat.s7 rfl rfl (take_of HT_.out (by kernel_rfl)) (fun _ _ _ h => h) (yieldsIf_load_mid (by rfl) 23 (.tmp 5) rfl g3 0 (by rfl) (Mat.A16 b0 b4 b8 bc b1 b5 b9 bd b2 b6 ba be b3 b7 bb bf).toList _ (fun _ h => Mat.range_blk h.2) hu23 rfl (by kernel_rfl)) hHeld ?_ ?_
  rotate_left
  · simp only [Act.put, Mat.p1, List.set_cons_zero, List.set_cons_succ]
    rfl
  refine one_ (i := 4) (N := some 17) Mat.s8 rfl rfl (one_of HT_.out (by kernel_rfl)) (by decide) (fun K hK => ?_)
  refine goes_ Try.func21 (by kernel_rfl) rfl #[.agg (Mat.A16 a0 a1 a2 a3 a4 a5 a6 a7 a8 a9 aa ab ac ad ae af), .int .i64 3] (by rfl) rfl rfl (by simp only [List.map_toArray, List.map_cons, List.map_nil]; rfl) ?_
  refine (matrix_Row.calls a0 a1 a2 a3 a4 a5 a6 a7 a8 a9 aa ab ac ad ae af 3 ac ad ae af _ rfl).mono ?_
  rintro e V1 ⟨rfl, hb⟩
  refine ⟨_, rfl, ?_⟩
  replace hA := Mat.bb hb hA
  replace hR := Mat.bb hb hR
  replace hT := Mat.bb hb hT
  replace hO := Mat.bb hb hO
  replace hB := below_step hB hb
  clear hb
  refine hK.out _ _ ⟨hA, hT⟩ (fun hHeld => ?_)
  clear hK K
  refine norm_ (a' := ?_) ?_ ?_
  rotate_left
  · show Act.put _ (some 17) _ = _
    simp only [Act.put, Mat.p1, List.set_cons_zero, List.set_cons_succ]
    rfl
  refine one_ (i := 8) (N := some 21) Mat.s9 rfl rfl (one_of HT_.out (by kernel_rfl)) (by decide) (fun K hK => ?_)
  refine goes_ Try.func21 (by kernel_rfl) rfl #[.agg (Mat.A16 b0 b4 b8 bc b1 b5 b9 bd b2 b6 ba be b3 b7 bb bf), .int .i64 1] (by rfl) rfl rfl (by simp only [List.map_toArray, List.map_cons, List.map_nil]; rfl) ?_
  refine (matrix_Row.calls b0 b4 b8 bc b1 b5 b9 bd b2 b6 ba be b3 b7 bb bf 1 b1 b5 b9 bd _ rfl).mono ?_
  rintro e V2 ⟨rfl, hb⟩
  refine ⟨_, rfl, ?_⟩
  replace hA := Mat.bb hb hA
  replace hR := Mat.bb hb hR
  replace hT := Mat.bb hb hT
  replace hO := Mat.bb hb hO
  replace hB := below_step hB hb
  clear hb
  refine hK.out _ _ ⟨hA, hT⟩ (fun hHeld => ?_)
  clear hK K
  refine norm_ (a' := ?_) ?_ ?_
  rotate_left
  · show Act.put _ (some 21) _ = _
    simp only [Act.put, Mat.p1, List.set_cons_zero, List.set_cons_succ]
    rfl
  refine one_ (i := 9) (N := some 22) Mat.s10 rfl rfl (one_of HT_.out (by kernel_rfl)) (by decide) (fun K hK => ?_)
  refine goes_ Try.func37 (by kernel_rfl) rfl #[.agg #[.int .i64 ac, .int .i64 ad, .int .i64 ae, .int .i64 af], .agg #[.int .i64 b1, .int .i64 b5, .int .i64 b9, .int .i64 bd]] (by rfl) rfl rfl (by simp only [List.map_toArray, List.map_cons, List.map_nil]; rfl) ?_
  refine (vec_Dot.calls k ac ad ae af b1 b5 b9 bd t13 _ D13.out).mono ?_
  rintro e V3 ⟨rfl, hb⟩
  refine ⟨_, rfl, ?_⟩
  replace hA := Mat.bb hb hA
  replace hR := Mat.bb hb hR
  replace hT := Mat.bb hb hT
  replace hO := Mat.bb hb hO
  replace hB := below_step hB hb
  clear hb
  refine hK.out _ _ ⟨hA, hT⟩ (fun hHeld => ?_)
  clear hK K
  refine norm_ (a' := ?_) ?_ ?_
  rotate_left
  · show Act.put _ (some 22) _ = _
    simp only [Act.put, Mat.p1, List.set_cons_zero, List.set_cons_succ]
    rfl
  refine pure_ (i := 10) (N := some 23) (v := ?_) (a' := ?_) Mat.s11 rfl rfl (any_of HT_.out (by kernel_rfl)) (fun _ _ _ h => h) (Or.inl ⟨by rfl, ?_⟩) ?_ ?_
  rotate_left
  · intro w'
    go_simp
    with_reducible rfl
  rotate_left
  · simp only [Act.put, Mat.p1, List.set_cons_zero, List.set_cons_succ]
    rfl
  refine one_ (i := 11) (N := none) Mat.s12 rfl rfl (one_of HT_.out (by kernel_rfl)) (by decide) (fun K hK => ?_)
  have co : V3.cell? ⟨g4, 13, none⟩ = some (.int .i64 0) := (blk_cell hO 13).trans rfl
  have fo : V3.frozen? ⟨g4, 13, none⟩ = false := blk_frozen hO 13
  refine skip_ (w1 := ?_) (by rfl) rfl ?_ ?_
  rotate_left
  · go_simp
    rfl
  replace hA := blk_far (p := ⟨g4, 13, none⟩) hA (show w.heap.size ≠ g4 by omega) (.int .i64 t13)
  replace hR := blk_far (p := ⟨g4, 13, none⟩) hR (show g2 ≠ g4 by omega) (.int .i64 t13)
  replace hT := blk_far (p := ⟨g4, 13, none⟩) hT (show g3 ≠ g4 by omega) (.int .i64 t13)
  replace hO := blk_put (cs := (Mat.A16 t0 t1 t2 t3 t4 t5 t6 t7 t8 t9 t10 t11 t12 0 0 0)) (cs' := (Mat.A16 t0 t1 t2 t3 t4 t5 t6 t7 t8 t9 t10 t11 t12 t13 0 0)) hO 13 (.int .i64 t13) rfl
  replace hB : Below w.heap.size w (V3.setCell ⟨g4, 13, none⟩ (.int .i64 t13)) := below_set hB (show w.heap.size ≤ g4 by omega)
  refine hK.out _ _ ⟨hA, hT⟩ (fun hHeld => ?_)
  clear hK K
  refine done_ (done_of HT_.out (by kernel_rfl)) ?_
  clear HT_ co fo
  go_wp2
  refine Mat.gen_ (Pr := fun W => W.heap[w.heap.size]? = some (.cells (Mat.A16 a0 a1 a2 a3 a4 a5 a6 a7 a8 a9 aa ab ac ad ae af) 23 (0, 0)) ∧ W.heap[g2]? = some (.cells (Mat.A16 0 0 0 0 0 0 0 0 0 0 0 0 0 0 0 0) 23 (0, 0)) ∧ W.heap[g3]? = some (.cells (Mat.A16 b0 b4 b8 bc b1 b5 b9 bd b2 b6 ba be b3 b7 bb bf) 23 (0, 0)) ∧ W.heap[g4]? = some (.cells (Mat.A16 t0 t1 t2 t3 t4 t5 t6 t7 t8 t9 t10 t11 t12 t13 0 0) 23 (0, 0)) ∧ Below w.heap.size w W) (G := fun W => Code.rounds Try.prog _ _ _ _ W) ⟨hA, hR, hT, hO, hB⟩ ?_
  clear hA hR hT hO hB hHeld
  rintro U14 ⟨hA, hR, hT, hO, hB⟩
  as_aux_lemma =>
  rw [rounds_succ]
  go_upto_region 6 with (fail)
  replace hA := blk_drew hA
  replace hR := blk_drew hR
  replace hT := blk_drew hT
  replace hO := blk_drew hO
  replace hB := below_drew1 hB
  refine start_ (n := 12) (S := fun w' => w'.heap[w.heap.size]? = some (.cells (Mat.A16 a0 a1 a2 a3 a4 a5 a6 a7 a8 a9 aa ab ac ad ae af) 23 (0, 0)) ∧ w'.heap[g3]? = some (.cells (Mat.A16 b0 b4 b8 bc b1 b5 b9 bd b2 b6 ba be b3 b7 bb bf) 23 (0, 0))) (ds := []) #[false, false, false, false, false, false, false, false, false, false, false, false] (by kernel_rfl) rfl rfl ⟨hA, hT⟩ (fun hHeld => ?_); refine with_tab matrix_Mul.tab (fun HT_ => ?_)
  generalize U14.drew = V0 at hA hR hT hO hB hHeld ⊢
  refine pure_ (i := 0) (N := some 13) (v := ?_) (a' := ?_) Mat.s1 rfl rfl (any_of HT_.out (by kernel_rfl)) (fun _ _ _ h => h) (Or.inl ⟨by rfl, ?_⟩) ?_ ?_
  rotate_left
  · intro w'
    go_simp
    with_reducible rfl
  rotate_left
  · simp only [Act.put, Mat.p1, List.set_cons_zero, List.set_cons_succ]
    rfl
  refine pure_ (i := 2) (N := some 15) (v := ?_) (a' := ?_) Mat.s2 rfl rfl (any_of HT_.out (by kernel_rfl)) (fun _ _ _ h => h) (Or.inl ⟨by rfl, ?_⟩) ?_ ?_
  rotate_left
  · intro w'
    go_simp
    with_reducible rfl
  rotate_left
  · simp only [Act.put, Mat.p1, List.set_cons_zero, List.set_cons_succ]
    rfl
  refine pure_ (i := 3) (N := some 16) (v := .int .i64 3) (a' := ?_) Mat.s3 rfl rfl (any_of HT_.out (by kernel_rfl)) (fun _ _ _ h => h) (Or.inl ⟨by rfl, ?_⟩) ?_ ?_
  · intro w'
    go_simp
    first | done | rfl
  rotate_left
  · simp only [Act.put, Mat.p1, List.set_cons_zero, List.set_cons_succ]
    rfl
  refine pure_ (i := 6) (N := some 19) (v := ?_) (a' := ?_) Mat.s4 rfl rfl (any_of HT_.out (by kernel_rfl)) (fun _ _ _ h => h) (Or.inl ⟨by rfl, ?_⟩) ?_ ?_
  rotate_left
  · intro w'
    go_simp
    with_reducible rfl
  rotate_left
  · simp only [Act.put, Mat.p1, List.set_cons_zero, List.set_cons_succ]
    rfl
  refine pure_ (i := 7) (N := some 20) (v := .int .i64 2) (a' := ?_) Mat.s5 rfl rfl (any_of HT_.out (by kernel_rfl)) (fun _ _ _ h => h) (Or.inl ⟨by rfl, ?_⟩) ?_ ?_
  · intro w'
    go_simp
    first | done | rfl
  rotate_left
  · simp only [Act.put, Mat.p1, List.set_cons_zero, List.set_cons_succ]
    rfl
  refine take_ (i := 1) (N := some 14) (v := .agg (Mat.A16 a0 a1 a2 a3 a4 a5 a6 a7 a8 a9 aa ab ac ad ae af)) (a' := ?_) Mat.s6 rfl rfl (take_of HT_.out (by kernel_rfl)) (fun _ _ _ h => h) (yieldsIf_load_mid (by rfl) 23 (.tmp 2) rfl w.heap.size 0 (by rfl) (Mat.A16 a0 a1 a2 a3 a4 a5 a6 a7 a8 a9 aa ab ac ad ae af).toList _ (fun _ h => Mat.range_blk h.1) hu23 rfl (by kernel_rfl)) hHeld ?_ ?_
  rotate_left
  · simp only [Act.put, Mat.p1, List.set_cons_zero, List.set_cons_succ]
    rfl
  refine take_ (i := 5) (N := some 18) (v := .agg (Mat.A16 b0 b4 b8 bc b1 b5 b9 bd b2 b6 ba be b3 b7 bb bf)) (a' := ?_) Mat.s7 rfl rfl (take_of HT_.out (by kernel_rfl)) (fun _ _ _ h => h) (yieldsIf_load_mid (by rfl) 23 (.tmp 5) rfl g3 0 (by rfl) (Mat.A16 b0 b4 b8 bc b1 b5 b9 bd b2 b6 ba be b3 b7 bb bf).toList _ (fun _ h => Mat.range_blk h.2) hu23 rfl (by kernel_rfl)) hHeld ?_ ?_
  rotate_left
  · simp only [Act.put, Mat.p1, List.set_cons_zero, List.set_cons_succ]
    rfl
  refine one_ (i := 4) (N := some 17) Mat.s8 rfl rfl (one_of HT_.out (by kernel_rfl)) (by decide) (fun K hK => ?_)
  refine goes_ Try.func21 (by kernel_rfl) rfl #[.agg (Mat.A16 a0 a1 a2 a3 a4 a5 a6 a7 a8 a9 aa ab ac ad ae af), .int .i64 3] (by rfl) rfl rfl (by simp only [List.map_toArray, List.map_cons, List.map_nil]; rfl) ?_
  refine (matrix_Row.calls a0 a1 a2 a3 a4 a5 a6 a7 a8 a9 aa ab ac ad ae af 3 ac ad ae af _ rfl).mono ?_
  rintro e V1 ⟨rfl, hb⟩
  refine ⟨_, rfl, ?_⟩
  replace hA := Mat.bb hb hA
  replace hR := Mat.bb hb hR
  replace hT := Mat.bb hb hT
  replace hO := Mat.bb hb hO
  replace hB := below_step hB hb
  clear hb
  refine hK.out _ _ ⟨hA, hT⟩ (fun hHeld => ?_)
  clear hK K
  refine norm_ (a' := ?_) ?_ ?_
  rotate_left
  · show Act.put _ (some 17) _ = _
    simp only [Act.put, Mat.p1, List.set_cons_zero, List.set_cons_succ]
    rfl
  refine one_ (i := 8) (N := some 21) Mat.s9 rfl rfl (one_of HT_.out (by kernel_rfl)) (by decide) (fun K hK => ?_)
  refine goes_ Try.func21 (by kernel_rfl) rfl #[.agg (Mat.A16 b0 b4 b8 bc b1 b5 b9 bd b2 b6 ba be b3 b7 bb bf), .int .i64 2] (by rfl) rfl rfl (by simp only [List.map_toArray, List.map_cons, List.map_nil]; rfl) ?_
  refine (matrix_Row.calls b0 b4 b8 bc b1 b5 b9 bd b2 b6 ba be b3 b7 bb bf 2 b2 b6 ba be _ rfl).mono ?_
  rintro e V2 ⟨rfl, hb⟩
  refine ⟨_, rfl, ?_⟩
  replace hA := Mat.bb hb hA
  replace hR := Mat.bb hb hR
  replace hT := Mat.bb hb hT
  replace hO := Mat.bb hb hO
  replace hB := below_step hB hb
  clear hb
  refine hK.out _ _ ⟨hA, hT⟩ (fun hHeld => ?_)
  clear hK K
  refine norm_ (a' := ?_) ?_ ?_
  rotate_left
  · show Act.put _ (some 21) _ = _
    simp only [Act.put, Mat.p1, List.set_cons_zero, List.set_cons_succ]
    rfl
  refine one_ (i := 9) (N := some 22) Mat.s10 rfl rfl (one_of HT_.out (by kernel_rfl)) (by decide) (fun K hK => ?_)
  refine goes_ Try.func37 (by kernel_rfl) rfl #[.agg #[.int .i64 ac, .int .i64 ad, .int .i64 ae, .int .i64 af], .agg #[.int .i64 b2, .int .i64 b6, .int .i64 ba, .int .i64 be]] (by rfl) rfl rfl (by simp only [List.map_toArray, List.map_cons, List.map_nil]; rfl) ?_
  refine (vec_Dot.calls k ac ad ae af b2 b6 ba be t14 _ D14.out).mono ?_
  rintro e V3 ⟨rfl, hb⟩
  refine ⟨_, rfl, ?_⟩
  replace hA := Mat.bb hb hA
  replace hR := Mat.bb hb hR
  replace hT := Mat.bb hb hT
  replace hO := Mat.bb hb hO
  replace hB := below_step hB hb
  clear hb
  refine hK.out _ _ ⟨hA, hT⟩ (fun hHeld => ?_)
  clear hK K
  refine norm_ (a' := ?_) ?_ ?_
  rotate_left
  · show Act.put _ (some 22) _ = _
    simp only [Act.put, Mat.p1, List.set_cons_zero, List.set_cons_succ]
    rfl
  refine pure_ (i := 10) (N := some 23) (v := ?_) (a' := ?_) Mat.s11 rfl rfl (any_of HT_.out (by kernel_rfl)) (fun _ _ _ h => h) (Or.inl ⟨by rfl, ?_⟩) ?_ ?_
  rotate_left
  · intro w'
    go_simp
    with_reducible rfl
  rotate_left
  · simp only [Act.put, Mat.p1, List.set_cons_zero, List.set_cons_succ]
    rfl
  refine one_ (i := 11) (N := none) Mat.s12 rfl rfl (one_of HT_.out (by kernel_rfl)) (by decide) (fun K hK => ?_)
  have co : V3.cell? ⟨g4, 14, none⟩ = some (.int .i64 0) := (blk_cell hO 14).trans rfl
  have fo : V3.frozen? ⟨g4, 14, none⟩ = false := blk_frozen hO 14
  refine skip_ (w1 := ?_) (by rfl) rfl ?_ ?_
  rotate_left
  · go_simp
    rfl
  replace hA := blk_far (p := ⟨g4, 14, none⟩) hA (show w.heap.size ≠ g4 by omega) (.int .i64 t14)
  replace hR := blk_far (p := ⟨g4, 14, none⟩) hR (show g2 ≠ g4 by omega) (.int .i64 t14)
  replace hT := blk_far (p := ⟨g4, 14, none⟩) hT (show g3 ≠ g4 by omega) (.int .i64 t14)
  replace hO := blk_put (cs := (Mat.A16 t0 t1 t2 t3 t4 t5 t6 t7 t8 t9 t10 t11 t12 t13 0 0)) (cs' := (Mat.A16 t0 t1 t2 t3 t4 t5 t6 t7 t8 t9 t10 t11 t12 t13 t14 0)) hO 14 (.int .i64 t14) rfl
  replace hB : Below w.heap.size w (V3.setCell ⟨g4, 14, none⟩ (.int .i64 t14)) := below_set hB (show w.heap.size ≤ g4 by omega)
  refine hK.out _ _ ⟨hA, hT⟩ (fun hHeld => ?_)
  clear hK K
  refine done_ (done_of HT_.out (by kernel_rfl)) ?_
  clear HT_ co fo
  go_wp2
  refine Mat.gen_ (Pr := fun W => W.heap[w.heap.size]? = some (.cells (Mat.A16 a0 a1 a2 a3 a4 a5 a6 a7 a8 a9 aa ab ac ad ae af) 23 (0, 0)) ∧ W.heap[g2]? = some (.cells (Mat.A16 0 0 0 0 0 0 0 0 0 0 0 0 0 0 0 0) 23 (0, 0)) ∧ W.heap[g3]? = some (.cells (Mat.A16 b0 b4 b8 bc b1 b5 b9 bd b2 b6 ba be b3 b7 bb bf) 23 (0, 0)) ∧ W.heap[g4]? = some (.cells (Mat.A16 t0 t1 t2 t3 t4 t5 t6 t7 t8 t9 t10 t11 t12 t13 t14 0) 23 (0, 0)) ∧ Below w.heap.size w W) (G := fun W => Code.rounds Try.prog _ _ _ _ W) ⟨hA, hR, hT, hO, hB⟩ ?_
  clear hA hR hT hO hB hHeld
  rintro U15 ⟨hA, hR, hT, hO, hB⟩
  as_aux_lemma =>
  rw [rounds_succ]
  go_upto_region 6 with (fail)
  replace hA := blk_drew hA
  replace hR := blk_drew hR
  replace hT := blk_drew hT
  replace hO := blk_drew hO
  replace hB := below_drew1 hB
  refine start_ (n := 12) (S := fun w' => w'.heap[w.heap.size]? = some (.cells (Mat.A16 a0 a1 a2 a3 a4 a5 a6 a7 a8 a9 aa ab ac ad ae af) 23 (0, 0)) ∧ w'.heap[g3]? = some (.cells (Mat.A16 b0 b4 b8 bc b1 b5 b9 bd b2 b6 ba be b3 b7 bb bf) 23 (0, 0))) (ds := []) #[false, false, false, false, false, false, false, false, false, false, false, false] (by kernel_rfl) rfl rfl ⟨hA, hT⟩ (fun hHeld => ?_); refine with_tab matrix_Mul.tab (fun HT_ => ?_)
  generalize U15.drew = V0 at hA hR hT hO hB hHeld ⊢
  refine pure_ (i := 0) (N := some 13) (v := ?_) (a' := ?_) Mat.s1 rfl rfl (any_of HT_.out (by kernel_rfl)) (fun _ _ _ h => h) (Or.inl ⟨by rfl, ?_⟩) ?_ ?_
  rotate_left
  · intro w'
    go_simp
    with_reducible rfl
  rotate_left
  · simp only [Act.put, Mat.p1, List.set_cons_zero, List.set_cons_succ]
    rfl
  refine pure_ (i := 2) (N := some 15) (v := ?_) (a' := ?_) Mat.s2 rfl rfl (any_of HT_.out (by kernel_rfl)) (fun _ _ _ h => h) (Or.inl ⟨by rfl, ?_⟩) ?_ ?_
  rotate_left
  · intro w'
    go_simp
    with_reducible rfl
  rotate_left
  · simp only [Act.put, Mat.p1, List.set_cons_zero, List.set_cons_succ]
    rfl
  refine pure_ (i := 3) (N := some 16) (v := .int .i64 3) (a' := ?_) Mat.s3 rfl rfl (any_of HT_.out (by kernel_rfl)) (fun _ _ _ h => h) (Or.inl ⟨by rfl, ?_⟩) ?_ ?_
  · intro w'
    go_simp
    first | done | rfl
  rotate_left
  · simp only [Act.put, Mat.p1, List.set_cons_zero, List.set_cons_succ]
    rfl
  refine pure_ (i := 6) (N := some 19) (v := ?_) (a' := ?_) Mat.s4 rfl rfl (any_of HT_.out (by kernel_rfl)) (fun _ _ _ h => h) (Or.inl ⟨by rfl, ?_⟩) ?_ ?_
  rotate_left
  · intro w'
    go_simp
    with_reducible rfl
  rotate_left
  · simp only [Act.put, Mat.p1, List.set_cons_zero, List.set_cons_succ]
    rfl
  refine pure_ (i := 7) (N := some 20) (v := .int .i64 3) (a' := ?_) Mat.s5 rfl rfl (any_of HT_.out (by kernel_rfl)) (fun _ _ _ h => h) (Or.inl ⟨by rfl, ?_⟩) ?_ ?_
  · intro w'
    go_simp
    first | done | rfl
  rotate_left
  · simp only [Act.put, Mat.p1, List.set_cons_zero, List.set_cons_succ]
    rfl
  refine take_ (i := 1) (N := some 14) (v := .agg (Mat.A16 a0 a1 a2 a3 a4 a5 a6 a7 a8 a9 aa ab ac ad ae af)) (a' := ?_) Mat.s6 rfl rfl (take_of HT_.out (by kernel_rfl)) (fun _ _ _ h => h) (yieldsIf_load_mid (by rfl) 23 (.tmp 2) rfl w.heap.size 0 (by rfl) (Mat.A16 a0 a1 a2 a3 a4 a5 a6 a7 a8 a9 aa ab ac ad ae af).toList _ (fun _ h => Mat.range_blk h.1) hu23 rfl (by kernel_rfl)) hHeld ?_ ?_
  rotate_left
  · simp only [Act.put, Mat.p1, List.set_cons_zero, List.set_cons_succ]
    rfl
  refine take_ (i := 5) (N := some 18) (v := .agg (Mat.A16 b0 b4 b8 bc b1 b5 b9 bd b2 b6 ba be b3 b7 bb bf)) (a' := ?_) Mat.s7 rfl rfl (take_of HT_.out (by kernel_rfl)) (fun _ _ _ h => h) (yieldsIf_load_mid (by rfl) 23 (.tmp 5) rfl g3 0 (by rfl) (Mat.A16 b0 b4 b8 bc b1 b5 b9 bd b2 b6 ba be b3 b7 bb bf).toList _ (fun _ h => Mat.range_blk h.2) hu23 rfl (by kernel_rfl)) hHeld ?_ ?_
  rotate_left
  · simp only [Act.put, Mat.p1, List.set_cons_zero, List.set_cons_succ]
    rfl
  refine one_ (i := 4) (N := some 17) Mat.s8 rfl rfl (one_of HT_.out (by kernel_rfl)) (by decide) (fun K hK => ?_)
  refine goes_ Try.func21 (by kernel_rfl) rfl #[.agg (Mat.A16 a0 a1 a2 a3 a4 a5 a6 a7 a8 a9 aa ab ac ad ae af), .int .i64 3] (by rfl) rfl rfl (by simp only [List.map_toArray, List.map_cons, List.map_nil]; rfl) ?_
  refine (matrix_Row.calls a0 a1 a2 a3 a4 a5 a6 a7 a8 a9 aa ab ac ad ae af 3 ac ad ae af _ rfl).mono ?_
  rintro e V1 ⟨rfl, hb⟩
  refine ⟨_, rfl, ?_⟩
  replace hA := Mat.bb hb hA
  replace hR := Mat.bb hb hR
  replace hT := Mat.bb hb hT
  replace hO := Mat.bb hb hO
  replace hB := below_step hB hb
  clear hb
  refine hK.out _ _ ⟨hA, hT⟩ (fun hHeld => ?_)
  clear hK K
  refine norm_ (a' := ?_) ?_ ?_
  rotate_left
  · show Act.put _ (some 17) _ = _
    simp only [Act.put, Mat.p1, List.set_cons_zero, List.set_cons_succ]
    rfl
  refine one_ (i := 8) (N := some 21) Mat.s9 rfl rfl (one_of HT_.out (by kernel_rfl)) (by decide) (fun K hK => ?_)
  refine goes_ Try.func21 (by kernel_rfl) rfl #[.agg (Mat.A16 b0 b4 b8 bc b1 b5 b9 bd b2 b6 ba be b3 b7 bb bf), .int .i64 3] (by rfl) rfl rfl (by simp only [List.map_toArray, List.map_cons, List.map_nil]; rfl) ?_
  refine (matrix_Row.calls b0 b4 b8 bc b1 b5 b9 bd b2 b6 ba be b3 b7 bb bf 3 b3 b7 bb bf _ rfl).mono ?_
  rintro e V2 ⟨rfl, hb⟩
  refine ⟨_, rfl, ?_⟩
  replace hA := Mat.bb hb hA
  replace hR := Mat.bb hb hR
  replace hT := Mat.bb hb hT
  replace hO := Mat.bb hb hO
  replace hB := below_step hB hb
  clear hb
  refine hK.out _ _ ⟨hA, hT⟩ (fun hHeld => ?_)
  clear hK K
  refine norm_ (a' := ?_) ?_ ?_
  rotate_left
  · show Act.put _ (some 21) _ = _
    simp only [Act.put, Mat.p1, List.set_cons_zero, List.set_cons_succ]
    rfl
  refine one_ (i := 9) (N := some 22) Mat.s10 rfl rfl (one_of HT_.out (by kernel_rfl)) (by decide) (fun K hK => ?_)
  refine goes_ Try.func37 (by kernel_rfl) rfl #[.agg #[.int .i64 ac, .int .i64 ad, .int .i64 ae, .int .i64 af], .agg #[.int .i64 b3, .int .i64 b7, .int .i64 bb, .int .i64 bf]] (by rfl) rfl rfl (by simp only [List.map_toArray, List.map_cons, List.map_nil]; rfl) ?_
  refine (vec_Dot.calls k ac ad ae af b3 b7 bb bf t15 _ D15.out).mono ?_
  rintro e V3 ⟨rfl, hb⟩
  refine ⟨_, rfl, ?_⟩
  replace hA := Mat.bb hb hA
  replace hR := Mat.bb hb hR
  replace hT := Mat.bb hb hT
  replace hO := Mat.bb hb hO
  replace hB := below_step hB hb
  clear hb
  refine hK.out _ _ ⟨hA, hT⟩ (fun hHeld => ?_)
  clear hK K
  refine norm_ (a' := ?_) ?_ ?_
  rotate_left
  · show Act.put _ (some 22) _ = _
    simp only [Act.put, Mat.p1, List.set_cons_zero, List.set_cons_succ]
    rfl
  refine pure_ (i := 10) (N := some 23) (v := ?_) (a' := ?_) Mat.s11 rfl rfl (any_of HT_.out (by kernel_rfl)) (fun _ _ _ h => h) (Or.inl ⟨by rfl, ?_⟩) ?_ ?_
  rotate_left
  · intro w'
    go_simp
    with_reducible rfl
  rotate_left
  · simp only [Act.put, Mat.p1, List.set_cons_zero, List.set_cons_succ]
    rfl
  refine one_ (i := 11) (N := none) Mat.s12 rfl rfl (one_of HT_.out (by kernel_rfl)) (by decide) (fun K hK => ?_)
  have co : V3.cell? ⟨g4, 15, none⟩ = some (.int .i64 0) := (blk_cell hO 15).trans rfl
  have fo : V3.frozen? ⟨g4, 15, none⟩ = false := blk_frozen hO 15
  refine skip_ (w1 := ?_) (by rfl) rfl ?_ ?_
  rotate_left
  · go_simp
    rfl
  replace hA := blk_far (p := ⟨g4, 15, none⟩) hA (show w.heap.size ≠ g4 by omega) (.int .i64 t15)
  replace hR := blk_far (p := ⟨g4, 15, none⟩) hR (show g2 ≠ g4 by omega) (.int .i64 t15)
  replace hT := blk_far (p := ⟨g4, 15, none⟩) hT (show g3 ≠ g4 by omega) (.int .i64 t15)
  replace hO := blk_put (cs := (Mat.A16 t0 t1 t2 t3 t4 t5 t6 t7 t8 t9 t10 t11 t12 t13 t14 0)) (cs' := (Mat.A16 t0 t1 t2 t3 t4 t5 t6 t7 t8 t9 t10 t11 t12 t13 t14 t15)) hO 15 (.int .i64 t15) rfl
  replace hB : Below w.heap.size w (V3.setCell ⟨g4, 15, none⟩ (.int .i64 t15)) := below_set hB (show w.heap.size ≤ g4 by omega)
  refine hK.out _ _ ⟨hA, hT⟩ (fun hHeld => ?_)
  clear hK K
  refine done_ (done_of HT_.out (by kernel_rfl)) ?_
  clear HT_ co fo
  go_wp2
  refine Mat.gen_ (Pr := fun W => W.heap[w.heap.size]? = some (.cells (Mat.A16 a0 a1 a2 a3 a4 a5 a6 a7 a8 a9 aa ab ac ad ae af) 23 (0, 0)) ∧ W.heap[g2]? = some (.cells (Mat.A16 0 0 0 0 0 0 0 0 0 0 0 0 0 0 0 0) 23 (0, 0)) ∧ W.heap[g3]? = some (.cells (Mat.A16 b0 b4 b8 bc b1 b5 b9 bd b2 b6 ba be b3 b7 bb bf) 23 (0, 0)) ∧ W.heap[g4]? = some (.cells (Mat.A16 t0 t1 t2 t3 t4 t5 t6 t7 t8 t9 t10 t11 t12 t13 t14 t15) 23 (0, 0)) ∧ Below w.heap.size w W) (G := fun W => Code.rounds Try.prog _ _ _ _ W) ⟨hA, hR, hT, hO, hB⟩ ?_
  clear hA hR hT hO hB hHeld
  rintro U16 ⟨hA, hR, hT, hO, hB⟩
  as_aux_lemma =>
  rw [rounds_succ]
  go_upto_region 8 with (fail)
  refine Mat.copy_region 23 6 4 25 _ g4 g2 (Mat.A16 t0 t1 t2 t3 t4 t5 t6 t7 t8 t9 t10 t11 t12 t13 t14 t15) (Mat.A16 0 0 0 0 0 0 0 0 0 0 0 0 0 0 0 0) rfl rfl rfl rfl hO hR rfl (by kernel_rfl) hu23 rfl (by kernel_rfl) rfl rfl rfl ?_
  have hF := Mat.blk_stored (cs := (Mat.A16 t0 t1 t2 t3 t4 t5 t6 t7 t8 t9 t10 t11 t12 t13 t14 t15)) hR rfl
  have hC := Mat.below_stored (g := g2) (show w.heap.size ≤ g2 by omega) ((Mat.A16 t0 t1 t2 t3 t4 t5 t6 t7 t8 t9 t10 t11 t12 t13 t14 t15)).toList 0 _ hB
  generalize U16.setCells g2 0 ((Mat.A16 t0 t1 t2 t3 t4 t5 t6 t7 t8 t9 t10 t11 t12 t13 t14 t15)).toList = W18 at hF hC ⊢
  go_wp2
  exact bodyPost_ret (results_cell_row rfl _ _ g2 23 (Mat.A16 t0 t1 t2 t3 t4 t5 t6 t7 t8 t9 t10 t11 t12 t13 t14 t15) (0, 0) _ rfl hF hu23 rfl (by kernel_rfl)) rfl ⟨rfl, hC⟩

end Go.Proofs.Ytmofipnpnepfaaa.PMatrixIdentity
