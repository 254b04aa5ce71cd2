/- The law function MatrixPerspective, walked by hand: no condition. -/
import Derived.Test.YtmofipnpnepfaaaPureMatrixPerspective
import Derived.Deep.Cut
namespace Go.Proofs.Ytmofipnpnepfaaa.PMatrixPerspective
open Go.RowKit Go.Proofs.YtmofipnpnepfaaaW.PrintWords Go.Proofs.YtmofipnpnepfaaaW.PrintLast Go.Proofs.YtmofipnpnepfaaaW.PrintMore Go.Proofs.Ytmofipnpnepfaaa.Pure
attribute [local go_sem high] eqA23 eqA29
set_option linter.unusedVariables false
set_option linter.unusedSimpArgs false
theorem gen_ {Pr : World → Prop} {W0 : World} {G : World → Prop} (h0 : Pr W0) (h : ∀ W, Pr W → G W) : G W0 := h W0 h0
def frustumlaw04_MatrixPerspective.T6 : Bool × List (List Nat × List Nat) := (true, [([], []), ([0], [0]), ([], []), ([2], [2]), ([3], [3]), ([1, 4], [1, 4]), ([5, 4], [5]), ([6], [6]), ([7, 6], [6, 7]), ([6], [6]), ([9, 6], [6, 9]), ([6], [6]), ([11, 6], [6, 11]), ([10, 12, 6, 6], [6, 10, 12]), ([6], [6]), ([14, 6], [6, 14]), ([13, 15, 13, 6], [6, 13, 15]), ([8, 16, 6], [6, 8, 16]), ([6, 17], [6, 17]), ([18, 16], [18]), ([19], [19]), ([20, 19], [19, 20]), ([19], [19]), ([22, 19], [19, 22]), ([19], [19]), ([24, 19], [19, 24]), ([23, 25, 19, 19], [19, 23, 25]), ([21, 26, 19], [19, 21, 26]), ([19, 27], [19, 27])])
def frustumlaw04_MatrixPerspective.B6 : List Nat := [0, 1, 0, 4, 12, 31, 63, 127, 255, 127, 639, 127, 2175, 7807, 127, 16511, 65151, 131071, 262143, 524287, 1048575, 2097151, 1048575, 5242879, 1048575, 17825791, 63963135, 134217727, 268435455]
theorem frustumlaw04_MatrixPerspective.tab6 : rtab .any (opsOf Try.f8 6) = frustumlaw04_MatrixPerspective.T6 := by kernel_rfl
theorem frustumlaw04_MatrixPerspective.bits6 : waitsOk frustumlaw04_MatrixPerspective.T6.2 frustumlaw04_MatrixPerspective.B6 = true := by kernel_rfl
set_option maxHeartbeats 8000000 in
set_option maxRecDepth 100000 in
theorem bad_walk (a0_0 : Int) (a0_1 : Int) (a0_2 : Int) (a0_3 : Int) (a1_0 : Int) (a1_1 : Int) (a1_2 : Int) (a1_3 : Int) (h3 : matrix_Perspective.f 40 a0_0 a0_1 a0_2 a0_3 = some (0, 0, 0, 0, 0, 0, 0, 0, 0, 0, 0, 0, 0, 0, 0, 0, 2)) (w : World) :
    Calls Try.prog 8 #[.agg #[.int .i64 a0_0, .int .i64 a0_1, .int .i64 a0_2, .int .i64 a0_3], .agg #[.int .i64 a1_0, .int .i64 a1_1, .int .i64 a1_2, .int .i64 a1_3]] w fun e w' => e = .returned (.bool true) ∧ Below w.heap.size w w' := by
  have hex := E_ex04 (k := 40) (by decide)
  replace h3 := Aside0.mk h3
  replace hex := Aside0.mk hex
  have hu40 := Try.underlying40
  have hu29 := Try.underlying29
  have hu23 := Try.underlying23
  go_enter Try.func8, Try.ntmps8
  go_upto_region 1 with (fail)
  refine gen_ (Pr := fun W => W.heap[w.heap.size]? = some (.cells #[.int .i64 a0_0, .int .i64 a0_1, .int .i64 a0_2, .int .i64 a0_3] 40 (0, 0)) ∧ W.heap[w.heap.size + 1]? = some (.cells #[.int .i64 a1_0, .int .i64 a1_1, .int .i64 a1_2, .int .i64 a1_3] 29 (0, 0)) ∧ Below w.heap.size w W) (G := fun W => Code.wp Try.prog _ _ _ W) ?_ ?_
  · exact ⟨blk_alloc (MapKept.heap_alloc w _).1 _, (by have := (MapKept.heap_alloc (w.alloc (.cells #[.int .i64 a0_0, .int .i64 a0_1, .int .i64 a0_2, .int .i64 a0_3] 40)) (.cells #[.int .i64 a1_0, .int .i64 a1_1, .int .i64 a1_2, .int .i64 a1_3] 29)).1; simpa using this), below_alloc ((Below.refl w.heap.size w).alloc (Nat.le_refl _) _) _⟩
  rintro W1 ⟨hA, hV, hB⟩
  as_aux_lemma =>
  have ca0 : W1.cell? ⟨w.heap.size, 0, none⟩ = some (.int .i64 a0_0) := (blk_cell hA 0).trans rfl
  have ca1 : W1.cell? ⟨w.heap.size, 1, none⟩ = some (.int .i64 a0_1) := (blk_cell hA 1).trans rfl
  have ca2 : W1.cell? ⟨w.heap.size, 2, none⟩ = some (.int .i64 a0_2) := (blk_cell hA 2).trans rfl
  have ca3 : W1.cell? ⟨w.heap.size, 3, none⟩ = some (.int .i64 a0_3) := (blk_cell hA 3).trans rfl
  go_upto_region 2 with (first | (go_at_call 29; (with_reducible refine (matrix_Perspective.calls 40 a0_0 a0_1 a0_2 a0_3 0 0 0 0 0 0 0 0 0 0 0 0 0 0 0 0 2 _ h3.out).mono ?_); rintro e V1 ⟨rfl, hb2⟩; have qhA := (hb2.block _ (blk_lt hA)).trans hA; have qhV := (hb2.block _ (blk_lt hV)).trans hV; have qB := below_step hB hb2; have g7 : (V1.alloc (.cells #[.int .i64 0, .int .i64 0, .int .i64 0, .int .i64 0, .int .i64 0, .int .i64 0, .int .i64 0, .int .i64 0, .int .i64 0, .int .i64 0, .int .i64 0, .int .i64 0, .int .i64 0, .int .i64 0, .int .i64 0, .int .i64 0] 23)).heap[V1.heap.size]? = some (.cells #[.int .i64 0, .int .i64 0, .int .i64 0, .int .i64 0, .int .i64 0, .int .i64 0, .int .i64 0, .int .i64 0, .int .i64 0, .int .i64 0, .int .i64 0, .int .i64 0, .int .i64 0, .int .i64 0, .int .i64 0, .int .i64 0] 23 (0, 0)) := (MapKept.heap_alloc V1 _).1; have cz0 : (V1.alloc (.cells #[.int .i64 0, .int .i64 0, .int .i64 0, .int .i64 0, .int .i64 0, .int .i64 0, .int .i64 0, .int .i64 0, .int .i64 0, .int .i64 0, .int .i64 0, .int .i64 0, .int .i64 0, .int .i64 0, .int .i64 0, .int .i64 0] 23)).cell? ⟨V1.heap.size, 0, none⟩ = some (.int .i64 0) := (blk_cell g7 0).trans rfl; have fz0 : (V1.alloc (.cells #[.int .i64 0, .int .i64 0, .int .i64 0, .int .i64 0, .int .i64 0, .int .i64 0, .int .i64 0, .int .i64 0, .int .i64 0, .int .i64 0, .int .i64 0, .int .i64 0, .int .i64 0, .int .i64 0, .int .i64 0, .int .i64 0] 23)).frozen? ⟨V1.heap.size, 0, none⟩ = false := blk_frozen g7 0; have cz1 : (V1.alloc (.cells #[.int .i64 0, .int .i64 0, .int .i64 0, .int .i64 0, .int .i64 0, .int .i64 0, .int .i64 0, .int .i64 0, .int .i64 0, .int .i64 0, .int .i64 0, .int .i64 0, .int .i64 0, .int .i64 0, .int .i64 0, .int .i64 0] 23)).cell? ⟨V1.heap.size, 1, none⟩ = some (.int .i64 0) := (blk_cell g7 1).trans rfl; have fz1 : (V1.alloc (.cells #[.int .i64 0, .int .i64 0, .int .i64 0, .int .i64 0, .int .i64 0, .int .i64 0, .int .i64 0, .int .i64 0, .int .i64 0, .int .i64 0, .int .i64 0, .int .i64 0, .int .i64 0, .int .i64 0, .int .i64 0, .int .i64 0] 23)).frozen? ⟨V1.heap.size, 1, none⟩ = false := blk_frozen g7 1; have cz2 : (V1.alloc (.cells #[.int .i64 0, .int .i64 0, .int .i64 0, .int .i64 0, .int .i64 0, .int .i64 0, .int .i64 0, .int .i64 0, .int .i64 0, .int .i64 0, .int .i64 0, .int .i64 0, .int .i64 0, .int .i64 0, .int .i64 0, .int .i64 0] 23)).cell? ⟨V1.heap.size, 2, none⟩ = some (.int .i64 0) := (blk_cell g7 2).trans rfl; have fz2 : (V1.alloc (.cells #[.int .i64 0, .int .i64 0, .int .i64 0, .int .i64 0, .int .i64 0, .int .i64 0, .int .i64 0, .int .i64 0, .int .i64 0, .int .i64 0, .int .i64 0, .int .i64 0, .int .i64 0, .int .i64 0, .int .i64 0, .int .i64 0] 23)).frozen? ⟨V1.heap.size, 2, none⟩ = false := blk_frozen g7 2; have cz3 : (V1.alloc (.cells #[.int .i64 0, .int .i64 0, .int .i64 0, .int .i64 0, .int .i64 0, .int .i64 0, .int .i64 0, .int .i64 0, .int .i64 0, .int .i64 0, .int .i64 0, .int .i64 0, .int .i64 0, .int .i64 0, .int .i64 0, .int .i64 0] 23)).cell? ⟨V1.heap.size, 3, none⟩ = some (.int .i64 0) := (blk_cell g7 3).trans rfl; have fz3 : (V1.alloc (.cells #[.int .i64 0, .int .i64 0, .int .i64 0, .int .i64 0, .int .i64 0, .int .i64 0, .int .i64 0, .int .i64 0, .int .i64 0, .int .i64 0, .int .i64 0, .int .i64 0, .int .i64 0, .int .i64 0, .int .i64 0, .int .i64 0] 23)).frozen? ⟨V1.heap.size, 3, none⟩ = false := blk_frozen g7 3; have cz4 : (V1.alloc (.cells #[.int .i64 0, .int .i64 0, .int .i64 0, .int .i64 0, .int .i64 0, .int .i64 0, .int .i64 0, .int .i64 0, .int .i64 0, .int .i64 0, .int .i64 0, .int .i64 0, .int .i64 0, .int .i64 0, .int .i64 0, .int .i64 0] 23)).cell? ⟨V1.heap.size, 4, none⟩ = some (.int .i64 0) := (blk_cell g7 4).trans rfl; have fz4 : (V1.alloc (.cells #[.int .i64 0, .int .i64 0, .int .i64 0, .int .i64 0, .int .i64 0, .int .i64 0, .int .i64 0, .int .i64 0, .int .i64 0, .int .i64 0, .int .i64 0, .int .i64 0, .int .i64 0, .int .i64 0, .int .i64 0, .int .i64 0] 23)).frozen? ⟨V1.heap.size, 4, none⟩ = false := blk_frozen g7 4; have cz5 : (V1.alloc (.cells #[.int .i64 0, .int .i64 0, .int .i64 0, .int .i64 0, .int .i64 0, .int .i64 0, .int .i64 0, .int .i64 0, .int .i64 0, .int .i64 0, .int .i64 0, .int .i64 0, .int .i64 0, .int .i64 0, .int .i64 0, .int .i64 0] 23)).cell? ⟨V1.heap.size, 5, none⟩ = some (.int .i64 0) := (blk_cell g7 5).trans rfl; have fz5 : (V1.alloc (.cells #[.int .i64 0, .int .i64 0, .int .i64 0, .int .i64 0, .int .i64 0, .int .i64 0, .int .i64 0, .int .i64 0, .int .i64 0, .int .i64 0, .int .i64 0, .int .i64 0, .int .i64 0, .int .i64 0, .int .i64 0, .int .i64 0] 23)).frozen? ⟨V1.heap.size, 5, none⟩ = false := blk_frozen g7 5; have cz6 : (V1.alloc (.cells #[.int .i64 0, .int .i64 0, .int .i64 0, .int .i64 0, .int .i64 0, .int .i64 0, .int .i64 0, .int .i64 0, .int .i64 0, .int .i64 0, .int .i64 0, .int .i64 0, .int .i64 0, .int .i64 0, .int .i64 0, .int .i64 0] 23)).cell? ⟨V1.heap.size, 6, none⟩ = some (.int .i64 0) := (blk_cell g7 6).trans rfl; have fz6 : (V1.alloc (.cells #[.int .i64 0, .int .i64 0, .int .i64 0, .int .i64 0, .int .i64 0, .int .i64 0, .int .i64 0, .int .i64 0, .int .i64 0, .int .i64 0, .int .i64 0, .int .i64 0, .int .i64 0, .int .i64 0, .int .i64 0, .int .i64 0] 23)).frozen? ⟨V1.heap.size, 6, none⟩ = false := blk_frozen g7 6; have cz7 : (V1.alloc (.cells #[.int .i64 0, .int .i64 0, .int .i64 0, .int .i64 0, .int .i64 0, .int .i64 0, .int .i64 0, .int .i64 0, .int .i64 0, .int .i64 0, .int .i64 0, .int .i64 0, .int .i64 0, .int .i64 0, .int .i64 0, .int .i64 0] 23)).cell? ⟨V1.heap.size, 7, none⟩ = some (.int .i64 0) := (blk_cell g7 7).trans rfl; have fz7 : (V1.alloc (.cells #[.int .i64 0, .int .i64 0, .int .i64 0, .int .i64 0, .int .i64 0, .int .i64 0, .int .i64 0, .int .i64 0, .int .i64 0, .int .i64 0, .int .i64 0, .int .i64 0, .int .i64 0, .int .i64 0, .int .i64 0, .int .i64 0] 23)).frozen? ⟨V1.heap.size, 7, none⟩ = false := blk_frozen g7 7; have cz8 : (V1.alloc (.cells #[.int .i64 0, .int .i64 0, .int .i64 0, .int .i64 0, .int .i64 0, .int .i64 0, .int .i64 0, .int .i64 0, .int .i64 0, .int .i64 0, .int .i64 0, .int .i64 0, .int .i64 0, .int .i64 0, .int .i64 0, .int .i64 0] 23)).cell? ⟨V1.heap.size, 8, none⟩ = some (.int .i64 0) := (blk_cell g7 8).trans rfl; have fz8 : (V1.alloc (.cells #[.int .i64 0, .int .i64 0, .int .i64 0, .int .i64 0, .int .i64 0, .int .i64 0, .int .i64 0, .int .i64 0, .int .i64 0, .int .i64 0, .int .i64 0, .int .i64 0, .int .i64 0, .int .i64 0, .int .i64 0, .int .i64 0] 23)).frozen? ⟨V1.heap.size, 8, none⟩ = false := blk_frozen g7 8; have cz9 : (V1.alloc (.cells #[.int .i64 0, .int .i64 0, .int .i64 0, .int .i64 0, .int .i64 0, .int .i64 0, .int .i64 0, .int .i64 0, .int .i64 0, .int .i64 0, .int .i64 0, .int .i64 0, .int .i64 0, .int .i64 0, .int .i64 0, .int .i64 0] 23)).cell? ⟨V1.heap.size, 9, none⟩ = some (.int .i64 0) := (blk_cell g7 9).trans rfl; have fz9 : (V1.alloc (.cells #[.int .i64 0, .int .i64 0, .int .i64 0, .int .i64 0, .int .i64 0, .int .i64 0, .int .i64 0, .int .i64 0, .int .i64 0, .int .i64 0, .int .i64 0, .int .i64 0, .int .i64 0, .int .i64 0, .int .i64 0, .int .i64 0] 23)).frozen? ⟨V1.heap.size, 9, none⟩ = false := blk_frozen g7 9; have cz10 : (V1.alloc (.cells #[.int .i64 0, .int .i64 0, .int .i64 0, .int .i64 0, .int .i64 0, .int .i64 0, .int .i64 0, .int .i64 0, .int .i64 0, .int .i64 0, .int .i64 0, .int .i64 0, .int .i64 0, .int .i64 0, .int .i64 0, .int .i64 0] 23)).cell? ⟨V1.heap.size, 10, none⟩ = some (.int .i64 0) := (blk_cell g7 10).trans rfl; have fz10 : (V1.alloc (.cells #[.int .i64 0, .int .i64 0, .int .i64 0, .int .i64 0, .int .i64 0, .int .i64 0, .int .i64 0, .int .i64 0, .int .i64 0, .int .i64 0, .int .i64 0, .int .i64 0, .int .i64 0, .int .i64 0, .int .i64 0, .int .i64 0] 23)).frozen? ⟨V1.heap.size, 10, none⟩ = false := blk_frozen g7 10; have cz11 : (V1.alloc (.cells #[.int .i64 0, .int .i64 0, .int .i64 0, .int .i64 0, .int .i64 0, .int .i64 0, .int .i64 0, .int .i64 0, .int .i64 0, .int .i64 0, .int .i64 0, .int .i64 0, .int .i64 0, .int .i64 0, .int .i64 0, .int .i64 0] 23)).cell? ⟨V1.heap.size, 11, none⟩ = some (.int .i64 0) := (blk_cell g7 11).trans rfl; have fz11 : (V1.alloc (.cells #[.int .i64 0, .int .i64 0, .int .i64 0, .int .i64 0, .int .i64 0, .int .i64 0, .int .i64 0, .int .i64 0, .int .i64 0, .int .i64 0, .int .i64 0, .int .i64 0, .int .i64 0, .int .i64 0, .int .i64 0, .int .i64 0] 23)).frozen? ⟨V1.heap.size, 11, none⟩ = false := blk_frozen g7 11; have cz12 : (V1.alloc (.cells #[.int .i64 0, .int .i64 0, .int .i64 0, .int .i64 0, .int .i64 0, .int .i64 0, .int .i64 0, .int .i64 0, .int .i64 0, .int .i64 0, .int .i64 0, .int .i64 0, .int .i64 0, .int .i64 0, .int .i64 0, .int .i64 0] 23)).cell? ⟨V1.heap.size, 12, none⟩ = some (.int .i64 0) := (blk_cell g7 12).trans rfl; have fz12 : (V1.alloc (.cells #[.int .i64 0, .int .i64 0, .int .i64 0, .int .i64 0, .int .i64 0, .int .i64 0, .int .i64 0, .int .i64 0, .int .i64 0, .int .i64 0, .int .i64 0, .int .i64 0, .int .i64 0, .int .i64 0, .int .i64 0, .int .i64 0] 23)).frozen? ⟨V1.heap.size, 12, none⟩ = false := blk_frozen g7 12; have cz13 : (V1.alloc (.cells #[.int .i64 0, .int .i64 0, .int .i64 0, .int .i64 0, .int .i64 0, .int .i64 0, .int .i64 0, .int .i64 0, .int .i64 0, .int .i64 0, .int .i64 0, .int .i64 0, .int .i64 0, .int .i64 0, .int .i64 0, .int .i64 0] 23)).cell? ⟨V1.heap.size, 13, none⟩ = some (.int .i64 0) := (blk_cell g7 13).trans rfl; have fz13 : (V1.alloc (.cells #[.int .i64 0, .int .i64 0, .int .i64 0, .int .i64 0, .int .i64 0, .int .i64 0, .int .i64 0, .int .i64 0, .int .i64 0, .int .i64 0, .int .i64 0, .int .i64 0, .int .i64 0, .int .i64 0, .int .i64 0, .int .i64 0] 23)).frozen? ⟨V1.heap.size, 13, none⟩ = false := blk_frozen g7 13; have cz14 : (V1.alloc (.cells #[.int .i64 0, .int .i64 0, .int .i64 0, .int .i64 0, .int .i64 0, .int .i64 0, .int .i64 0, .int .i64 0, .int .i64 0, .int .i64 0, .int .i64 0, .int .i64 0, .int .i64 0, .int .i64 0, .int .i64 0, .int .i64 0] 23)).cell? ⟨V1.heap.size, 14, none⟩ = some (.int .i64 0) := (blk_cell g7 14).trans rfl; have fz14 : (V1.alloc (.cells #[.int .i64 0, .int .i64 0, .int .i64 0, .int .i64 0, .int .i64 0, .int .i64 0, .int .i64 0, .int .i64 0, .int .i64 0, .int .i64 0, .int .i64 0, .int .i64 0, .int .i64 0, .int .i64 0, .int .i64 0, .int .i64 0] 23)).frozen? ⟨V1.heap.size, 14, none⟩ = false := blk_frozen g7 14; have cz15 : (V1.alloc (.cells #[.int .i64 0, .int .i64 0, .int .i64 0, .int .i64 0, .int .i64 0, .int .i64 0, .int .i64 0, .int .i64 0, .int .i64 0, .int .i64 0, .int .i64 0, .int .i64 0, .int .i64 0, .int .i64 0, .int .i64 0, .int .i64 0] 23)).cell? ⟨V1.heap.size, 15, none⟩ = some (.int .i64 0) := (blk_cell g7 15).trans rfl; have fz15 : (V1.alloc (.cells #[.int .i64 0, .int .i64 0, .int .i64 0, .int .i64 0, .int .i64 0, .int .i64 0, .int .i64 0, .int .i64 0, .int .i64 0, .int .i64 0, .int .i64 0, .int .i64 0, .int .i64 0, .int .i64 0, .int .i64 0, .int .i64 0] 23)).frozen? ⟨V1.heap.size, 15, none⟩ = false := blk_frozen g7 15))
  refine gen_ (Pr := fun W => W.heap[w.heap.size]? = some (.cells #[.int .i64 a0_0, .int .i64 a0_1, .int .i64 a0_2, .int .i64 a0_3] 40 (0, 0)) ∧ W.heap[w.heap.size + 1]? = some (.cells #[.int .i64 a1_0, .int .i64 a1_1, .int .i64 a1_2, .int .i64 a1_3] 29 (0, 0)) ∧ W.heap[V1.heap.size]? = some (.cells #[.int .i64 0, .int .i64 0, .int .i64 0, .int .i64 0, .int .i64 0, .int .i64 0, .int .i64 0, .int .i64 0, .int .i64 0, .int .i64 0, .int .i64 0, .int .i64 0, .int .i64 0, .int .i64 0, .int .i64 0, .int .i64 0] 23 (0, 0)) ∧ Below w.heap.size w W) (G := fun W => Code.wp Try.prog _ _ _ W) ?_ ?_
  · exact ⟨blk_alloc qhA _, blk_alloc qhV _, (MapKept.heap_alloc V1 _).1, below_alloc qB _⟩
  clear hB qB hb2 g7 hA qhA hV qhV ca0 ca1 ca2 ca3 cz0 fz0 cz1 fz1 cz2 fz2 cz3 fz3 cz4 fz4 cz5 fz5 cz6 fz6 cz7 fz7 cz8 fz8 cz9 fz9 cz10 fz10 cz11 fz11 cz12 fz12 cz13 fz13 cz14 fz14 cz15 fz15
  rintro W2 ⟨hA, hV, hM, hB⟩
  as_aux_lemma =>
  have cm0 : W2.cell? ⟨V1.heap.size, 0, none⟩ = some (.int .i64 0) := (blk_cell hM 0).trans rfl
  have cm1 : W2.cell? ⟨V1.heap.size, 1, none⟩ = some (.int .i64 0) := (blk_cell hM 1).trans rfl
  have cm2 : W2.cell? ⟨V1.heap.size, 2, none⟩ = some (.int .i64 0) := (blk_cell hM 2).trans rfl
  have cm3 : W2.cell? ⟨V1.heap.size, 3, none⟩ = some (.int .i64 0) := (blk_cell hM 3).trans rfl
  have cm4 : W2.cell? ⟨V1.heap.size, 4, none⟩ = some (.int .i64 0) := (blk_cell hM 4).trans rfl
  have cm5 : W2.cell? ⟨V1.heap.size, 5, none⟩ = some (.int .i64 0) := (blk_cell hM 5).trans rfl
  have cm6 : W2.cell? ⟨V1.heap.size, 6, none⟩ = some (.int .i64 0) := (blk_cell hM 6).trans rfl
  have cm7 : W2.cell? ⟨V1.heap.size, 7, none⟩ = some (.int .i64 0) := (blk_cell hM 7).trans rfl
  have cm8 : W2.cell? ⟨V1.heap.size, 8, none⟩ = some (.int .i64 0) := (blk_cell hM 8).trans rfl
  have cm9 : W2.cell? ⟨V1.heap.size, 9, none⟩ = some (.int .i64 0) := (blk_cell hM 9).trans rfl
  have cm10 : W2.cell? ⟨V1.heap.size, 10, none⟩ = some (.int .i64 0) := (blk_cell hM 10).trans rfl
  have cm11 : W2.cell? ⟨V1.heap.size, 11, none⟩ = some (.int .i64 0) := (blk_cell hM 11).trans rfl
  have cm12 : W2.cell? ⟨V1.heap.size, 12, none⟩ = some (.int .i64 0) := (blk_cell hM 12).trans rfl
  have cm13 : W2.cell? ⟨V1.heap.size, 13, none⟩ = some (.int .i64 0) := (blk_cell hM 13).trans rfl
  have cm14 : W2.cell? ⟨V1.heap.size, 14, none⟩ = some (.int .i64 0) := (blk_cell hM 14).trans rfl
  have cm15 : W2.cell? ⟨V1.heap.size, 15, none⟩ = some (.int .i64 0) := (blk_cell hM 15).trans rfl
  go_wp2_with (first | (go_at_call 16; (with_reducible refine (frustumlaw04_example.calls 40 true _ hex.out).mono ?_); rintro e W6 ⟨rfl, hb6⟩))
  go_ret
  exact ⟨rfl, below_step hB hb6⟩
set_option maxHeartbeats 8000000 in
set_option maxRecDepth 100000 in
theorem good_walk (a0_0 : Int) (a0_1 : Int) (a0_2 : Int) (a0_3 : Int) (a1_0 : Int) (a1_1 : Int) (a1_2 : Int) (a1_3 : Int) (t211 : Int) (t212 : Int) (t213 : Int) (t214 : Int) (t215 : Int) (t216 : Int) (t217 : Int) (t218 : Int) (t219 : Int) (t220 : Int) (t221 : Int) (t222 : Int) (t223 : Int) (t224 : Int) (t225 : Int) (t226 : Int) (t230 : Int) (t231 : Int) (t232 : Int) (t233 : Int) (t235 : Int) (t236 : Int) (t237 : Int) (t238 : Int) (t240 : Int) (t241 : Int) (t242 : Int) (t243 : Int) (h3 : matrix_Perspective.f 40 a0_0 a0_1 a0_2 a0_3 = some (t211, t212, t213, t214, t215, t216, t217, t218, t219, t220, t221, t222, t223, t224, t225, t226, 0)) (h5 : matrix_Apply.f 40 t211 t212 t213 t214 t215 t216 t217 t218 t219 t220 t221 t222 t223 t224 t225 t226 a1_0 a1_1 a1_2 a1_3 = some (t230, t231, t232, t233)) (h6 : matrix_Apply.f 40 t211 t212 t213 t214 t215 t216 t217 t218 t219 t220 t221 t222 t223 t224 t225 t226 a1_1 a1_0 a1_2 a1_3 = some (t235, t236, t237, t238)) (h33 : frustumlaw04_limited.f a1_2 = some t240) (h35 : fixed_Div.f 40 a0_0 a0_1 = some t241) (h36 : fixed_Mul.f 40 t241 a1_0 = some t242) (h38 : fixed_Mul.f 40 a0_0 a1_1 = some t243) (c34 : t233 = t240) (c37 : t230 = t242) (c44 : t231 = t243) (c54 : t232 = t237) (c55 : t233 = t238) (h56 : matrix_Row.f t211 t212 t213 t214 t215 t216 t217 t218 t219 t220 t221 t222 t223 t224 t225 t226 3 = some (0, 0, 65536, 0)) (w : World) :
    Calls Try.prog 8 #[.agg #[.int .i64 a0_0, .int .i64 a0_1, .int .i64 a0_2, .int .i64 a0_3], .agg #[.int .i64 a1_0, .int .i64 a1_1, .int .i64 a1_2, .int .i64 a1_3]] w fun e w' => e = .returned (.bool true) ∧ Below w.heap.size w w' := by
  have hex := E_ex04 (k := 40) (by decide)
  replace h3 := Aside0.mk h3
  replace h5 := Aside0.mk h5
  replace h6 := Aside0.mk h6
  replace h33 := Aside0.mk h33
  replace h35 := Aside0.mk h35
  replace h36 := Aside0.mk h36
  replace h38 := Aside0.mk h38
  replace h56 := Aside0.mk h56
  replace hex := Aside0.mk hex
  replace c34 := Aside0.mk c34
  replace c37 := Aside0.mk c37
  replace c44 := Aside0.mk c44
  replace c54 := Aside0.mk c54
  replace c55 := Aside0.mk c55
  have hu40 := Try.underlying40
  have hu29 := Try.underlying29
  have hu23 := Try.underlying23
  go_enter Try.func8, Try.ntmps8
  go_upto_region 1 with (fail)
  refine gen_ (Pr := fun W => W.heap[w.heap.size]? = some (.cells #[.int .i64 a0_0, .int .i64 a0_1, .int .i64 a0_2, .int .i64 a0_3] 40 (0, 0)) ∧ W.heap[w.heap.size + 1]? = some (.cells #[.int .i64 a1_0, .int .i64 a1_1, .int .i64 a1_2, .int .i64 a1_3] 29 (0, 0)) ∧ Below w.heap.size w W) (G := fun W => Code.wp Try.prog _ _ _ W) ?_ ?_
  · exact ⟨blk_alloc (MapKept.heap_alloc w _).1 _, (by have := (MapKept.heap_alloc (w.alloc (.cells #[.int .i64 a0_0, .int .i64 a0_1, .int .i64 a0_2, .int .i64 a0_3] 40)) (.cells #[.int .i64 a1_0, .int .i64 a1_1, .int .i64 a1_2, .int .i64 a1_3] 29)).1; simpa using this), below_alloc ((Below.refl w.heap.size w).alloc (Nat.le_refl _) _) _⟩
  rintro W1 ⟨hA, hV, hB⟩
  as_aux_lemma =>
  have ca0 : W1.cell? ⟨w.heap.size, 0, none⟩ = some (.int .i64 a0_0) := (blk_cell hA 0).trans rfl
  have ca1 : W1.cell? ⟨w.heap.size, 1, none⟩ = some (.int .i64 a0_1) := (blk_cell hA 1).trans rfl
  have ca2 : W1.cell? ⟨w.heap.size, 2, none⟩ = some (.int .i64 a0_2) := (blk_cell hA 2).trans rfl
  have ca3 : W1.cell? ⟨w.heap.size, 3, none⟩ = some (.int .i64 a0_3) := (blk_cell hA 3).trans rfl
  go_upto_region 2 with (first | (go_at_call 29; (with_reducible refine (matrix_Perspective.calls 40 a0_0 a0_1 a0_2 a0_3 t211 t212 t213 t214 t215 t216 t217 t218 t219 t220 t221 t222 t223 t224 t225 t226 0 _ h3.out).mono ?_); rintro e V1 ⟨rfl, hb2⟩; have qhA := (hb2.block _ (blk_lt hA)).trans hA; have qhV := (hb2.block _ (blk_lt hV)).trans hV; have qB := below_step hB hb2; have g7 : (V1.alloc (.cells #[.int .i64 0, .int .i64 0, .int .i64 0, .int .i64 0, .int .i64 0, .int .i64 0, .int .i64 0, .int .i64 0, .int .i64 0, .int .i64 0, .int .i64 0, .int .i64 0, .int .i64 0, .int .i64 0, .int .i64 0, .int .i64 0] 23)).heap[V1.heap.size]? = some (.cells #[.int .i64 0, .int .i64 0, .int .i64 0, .int .i64 0, .int .i64 0, .int .i64 0, .int .i64 0, .int .i64 0, .int .i64 0, .int .i64 0, .int .i64 0, .int .i64 0, .int .i64 0, .int .i64 0, .int .i64 0, .int .i64 0] 23 (0, 0)) := (MapKept.heap_alloc V1 _).1; have cz0 : (V1.alloc (.cells #[.int .i64 0, .int .i64 0, .int .i64 0, .int .i64 0, .int .i64 0, .int .i64 0, .int .i64 0, .int .i64 0, .int .i64 0, .int .i64 0, .int .i64 0, .int .i64 0, .int .i64 0, .int .i64 0, .int .i64 0, .int .i64 0] 23)).cell? ⟨V1.heap.size, 0, none⟩ = some (.int .i64 0) := (blk_cell g7 0).trans rfl; have fz0 : (V1.alloc (.cells #[.int .i64 0, .int .i64 0, .int .i64 0, .int .i64 0, .int .i64 0, .int .i64 0, .int .i64 0, .int .i64 0, .int .i64 0, .int .i64 0, .int .i64 0, .int .i64 0, .int .i64 0, .int .i64 0, .int .i64 0, .int .i64 0] 23)).frozen? ⟨V1.heap.size, 0, none⟩ = false := blk_frozen g7 0; have cz1 : (V1.alloc (.cells #[.int .i64 0, .int .i64 0, .int .i64 0, .int .i64 0, .int .i64 0, .int .i64 0, .int .i64 0, .int .i64 0, .int .i64 0, .int .i64 0, .int .i64 0, .int .i64 0, .int .i64 0, .int .i64 0, .int .i64 0, .int .i64 0] 23)).cell? ⟨V1.heap.size, 1, none⟩ = some (.int .i64 0) := (blk_cell g7 1).trans rfl; have fz1 : (V1.alloc (.cells #[.int .i64 0, .int .i64 0, .int .i64 0, .int .i64 0, .int .i64 0, .int .i64 0, .int .i64 0, .int .i64 0, .int .i64 0, .int .i64 0, .int .i64 0, .int .i64 0, .int .i64 0, .int .i64 0, .int .i64 0, .int .i64 0] 23)).frozen? ⟨V1.heap.size, 1, none⟩ = false := blk_frozen g7 1; have cz2 : (V1.alloc (.cells #[.int .i64 0, .int .i64 0, .int .i64 0, .int .i64 0, .int .i64 0, .int .i64 0, .int .i64 0, .int .i64 0, .int .i64 0, .int .i64 0, .int .i64 0, .int .i64 0, .int .i64 0, .int .i64 0, .int .i64 0, .int .i64 0] 23)).cell? ⟨V1.heap.size, 2, none⟩ = some (.int .i64 0) := (blk_cell g7 2).trans rfl; have fz2 : (V1.alloc (.cells #[.int .i64 0, .int .i64 0, .int .i64 0, .int .i64 0, .int .i64 0, .int .i64 0, .int .i64 0, .int .i64 0, .int .i64 0, .int .i64 0, .int .i64 0, .int .i64 0, .int .i64 0, .int .i64 0, .int .i64 0, .int .i64 0] 23)).frozen? ⟨V1.heap.size, 2, none⟩ = false := blk_frozen g7 2; have cz3 : (V1.alloc (.cells #[.int .i64 0, .int .i64 0, .int .i64 0, .int .i64 0, .int .i64 0, .int .i64 0, .int .i64 0, .int .i64 0, .int .i64 0, .int .i64 0, .int .i64 0, .int .i64 0, .int .i64 0, .int .i64 0, .int .i64 0, .int .i64 0] 23)).cell? ⟨V1.heap.size, 3, none⟩ = some (.int .i64 0) := (blk_cell g7 3).trans rfl; have fz3 : (V1.alloc (.cells #[.int .i64 0, .int .i64 0, .int .i64 0, .int .i64 0, .int .i64 0, .int .i64 0, .int .i64 0, .int .i64 0, .int .i64 0, .int .i64 0, .int .i64 0, .int .i64 0, .int .i64 0, .int .i64 0, .int .i64 0, .int .i64 0] 23)).frozen? ⟨V1.heap.size, 3, none⟩ = false := blk_frozen g7 3; have cz4 : (V1.alloc (.cells #[.int .i64 0, .int .i64 0, .int .i64 0, .int .i64 0, .int .i64 0, .int .i64 0, .int .i64 0, .int .i64 0, .int .i64 0, .int .i64 0, .int .i64 0, .int .i64 0, .int .i64 0, .int .i64 0, .int .i64 0, .int .i64 0] 23)).cell? ⟨V1.heap.size, 4, none⟩ = some (.int .i64 0) := (blk_cell g7 4).trans rfl; have fz4 : (V1.alloc (.cells #[.int .i64 0, .int .i64 0, .int .i64 0, .int .i64 0, .int .i64 0, .int .i64 0, .int .i64 0, .int .i64 0, .int .i64 0, .int .i64 0, .int .i64 0, .int .i64 0, .int .i64 0, .int .i64 0, .int .i64 0, .int .i64 0] 23)).frozen? ⟨V1.heap.size, 4, none⟩ = false := blk_frozen g7 4; have cz5 : (V1.alloc (.cells #[.int .i64 0, .int .i64 0, .int .i64 0, .int .i64 0, .int .i64 0, .int .i64 0, .int .i64 0, .int .i64 0, .int .i64 0, .int .i64 0, .int .i64 0, .int .i64 0, .int .i64 0, .int .i64 0, .int .i64 0, .int .i64 0] 23)).cell? ⟨V1.heap.size, 5, none⟩ = some (.int .i64 0) := (blk_cell g7 5).trans rfl; have fz5 : (V1.alloc (.cells #[.int .i64 0, .int .i64 0, .int .i64 0, .int .i64 0, .int .i64 0, .int .i64 0, .int .i64 0, .int .i64 0, .int .i64 0, .int .i64 0, .int .i64 0, .int .i64 0, .int .i64 0, .int .i64 0, .int .i64 0, .int .i64 0] 23)).frozen? ⟨V1.heap.size, 5, none⟩ = false := blk_frozen g7 5; have cz6 : (V1.alloc (.cells #[.int .i64 0, .int .i64 0, .int .i64 0, .int .i64 0, .int .i64 0, .int .i64 0, .int .i64 0, .int .i64 0, .int .i64 0, .int .i64 0, .int .i64 0, .int .i64 0, .int .i64 0, .int .i64 0, .int .i64 0, .int .i64 0] 23)).cell? ⟨V1.heap.size, 6, none⟩ = some (.int .i64 0) := (blk_cell g7 6).trans rfl; have fz6 : (V1.alloc (.cells #[.int .i64 0, .int .i64 0, .int .i64 0, .int .i64 0, .int .i64 0, .int .i64 0, .int .i64 0, .int .i64 0, .int .i64 0, .int .i64 0, .int .i64 0, .int .i64 0, .int .i64 0, .int .i64 0, .int .i64 0, .int .i64 0] 23)).frozen? ⟨V1.heap.size, 6, none⟩ = false := blk_frozen g7 6; have cz7 : (V1.alloc (.cells #[.int .i64 0, .int .i64 0, .int .i64 0, .int .i64 0, .int .i64 0, .int .i64 0, .int .i64 0, .int .i64 0, .int .i64 0, .int .i64 0, .int .i64 0, .int .i64 0, .int .i64 0, .int .i64 0, .int .i64 0, .int .i64 0] 23)).cell? ⟨V1.heap.size, 7, none⟩ = some (.int .i64 0) := (blk_cell g7 7).trans rfl; have fz7 : (V1.alloc (.cells #[.int .i64 0, .int .i64 0, .int .i64 0, .int .i64 0, .int .i64 0, .int .i64 0, .int .i64 0, .int .i64 0, .int .i64 0, .int .i64 0, .int .i64 0, .int .i64 0, .int .i64 0, .int .i64 0, .int .i64 0, .int .i64 0] 23)).frozen? ⟨V1.heap.size, 7, none⟩ = false := blk_frozen g7 7; have cz8 : (V1.alloc (.cells #[.int .i64 0, .int .i64 0, .int .i64 0, .int .i64 0, .int .i64 0, .int .i64 0, .int .i64 0, .int .i64 0, .int .i64 0, .int .i64 0, .int .i64 0, .int .i64 0, .int .i64 0, .int .i64 0, .int .i64 0, .int .i64 0] 23)).cell? ⟨V1.heap.size, 8, none⟩ = some (.int .i64 0) := (blk_cell g7 8).trans rfl; have fz8 : (V1.alloc (.cells #[.int .i64 0, .int .i64 0, .int .i64 0, .int .i64 0, .int .i64 0, .int .i64 0, .int .i64 0, .int .i64 0, .int .i64 0, .int .i64 0, .int .i64 0, .int .i64 0, .int .i64 0, .int .i64 0, .int .i64 0, .int .i64 0] 23)).frozen? ⟨V1.heap.size, 8, none⟩ = false := blk_frozen g7 8; have cz9 : (V1.alloc (.cells #[.int .i64 0, .int .i64 0, .int .i64 0, .int .i64 0, .int .i64 0, .int .i64 0, .int .i64 0, .int .i64 0, .int .i64 0, .int .i64 0, .int .i64 0, .int .i64 0, .int .i64 0, .int .i64 0, .int .i64 0, .int .i64 0] 23)).cell? ⟨V1.heap.size, 9, none⟩ = some (.int .i64 0) := (blk_cell g7 9).trans rfl; have fz9 : (V1.alloc (.cells #[.int .i64 0, .int .i64 0, .int .i64 0, .int .i64 0, .int .i64 0, .int .i64 0, .int .i64 0, .int .i64 0, .int .i64 0, .int .i64 0, .int .i64 0, .int .i64 0, .int .i64 0, .int .i64 0, .int .i64 0, .int .i64 0] 23)).frozen? ⟨V1.heap.size, 9, none⟩ = false := blk_frozen g7 9; have cz10 : (V1.alloc (.cells #[.int .i64 0, .int .i64 0, .int .i64 0, .int .i64 0, .int .i64 0, .int .i64 0, .int .i64 0, .int .i64 0, .int .i64 0, .int .i64 0, .int .i64 0, .int .i64 0, .int .i64 0, .int .i64 0, .int .i64 0, .int .i64 0] 23)).cell? ⟨V1.heap.size, 10, none⟩ = some (.int .i64 0) := (blk_cell g7 10).trans rfl; have fz10 : (V1.alloc (.cells #[.int .i64 0, .int .i64 0, .int .i64 0, .int .i64 0, .int .i64 0, .int .i64 0, .int .i64 0, .int .i64 0, .int .i64 0, .int .i64 0, .int .i64 0, .int .i64 0, .int .i64 0, .int .i64 0, .int .i64 0, .int .i64 0] 23)).frozen? ⟨V1.heap.size, 10, none⟩ = false := blk_frozen g7 10; have cz11 : (V1.alloc (.cells #[.int .i64 0, .int .i64 0, .int .i64 0, .int .i64 0, .int .i64 0, .int .i64 0, .int .i64 0, .int .i64 0, .int .i64 0, .int .i64 0, .int .i64 0, .int .i64 0, .int .i64 0, .int .i64 0, .int .i64 0, .int .i64 0] 23)).cell? ⟨V1.heap.size, 11, none⟩ = some (.int .i64 0) := (blk_cell g7 11).trans rfl; have fz11 : (V1.alloc (.cells #[.int .i64 0, .int .i64 0, .int .i64 0, .int .i64 0, .int .i64 0, .int .i64 0, .int .i64 0, .int .i64 0, .int .i64 0, .int .i64 0, .int .i64 0, .int .i64 0, .int .i64 0, .int .i64 0, .int .i64 0, .int .i64 0] 23)).frozen? ⟨V1.heap.size, 11, none⟩ = false := blk_frozen g7 11; have cz12 : (V1.alloc (.cells #[.int .i64 0, .int .i64 0, .int .i64 0, .int .i64 0, .int .i64 0, .int .i64 0, .int .i64 0, .int .i64 0, .int .i64 0, .int .i64 0, .int .i64 0, .int .i64 0, .int .i64 0, .int .i64 0, .int .i64 0, .int .i64 0] 23)).cell? ⟨V1.heap.size, 12, none⟩ = some (.int .i64 0) := (blk_cell g7 12).trans rfl; have fz12 : (V1.alloc (.cells #[.int .i64 0, .int .i64 0, .int .i64 0, .int .i64 0, .int .i64 0, .int .i64 0, .int .i64 0, .int .i64 0, .int .i64 0, .int .i64 0, .int .i64 0, .int .i64 0, .int .i64 0, .int .i64 0, .int .i64 0, .int .i64 0] 23)).frozen? ⟨V1.heap.size, 12, none⟩ = false := blk_frozen g7 12; have cz13 : (V1.alloc (.cells #[.int .i64 0, .int .i64 0, .int .i64 0, .int .i64 0, .int .i64 0, .int .i64 0, .int .i64 0, .int .i64 0, .int .i64 0, .int .i64 0, .int .i64 0, .int .i64 0, .int .i64 0, .int .i64 0, .int .i64 0, .int .i64 0] 23)).cell? ⟨V1.heap.size, 13, none⟩ = some (.int .i64 0) := (blk_cell g7 13).trans rfl; have fz13 : (V1.alloc (.cells #[.int .i64 0, .int .i64 0, .int .i64 0, .int .i64 0, .int .i64 0, .int .i64 0, .int .i64 0, .int .i64 0, .int .i64 0, .int .i64 0, .int .i64 0, .int .i64 0, .int .i64 0, .int .i64 0, .int .i64 0, .int .i64 0] 23)).frozen? ⟨V1.heap.size, 13, none⟩ = false := blk_frozen g7 13; have cz14 : (V1.alloc (.cells #[.int .i64 0, .int .i64 0, .int .i64 0, .int .i64 0, .int .i64 0, .int .i64 0, .int .i64 0, .int .i64 0, .int .i64 0, .int .i64 0, .int .i64 0, .int .i64 0, .int .i64 0, .int .i64 0, .int .i64 0, .int .i64 0] 23)).cell? ⟨V1.heap.size, 14, none⟩ = some (.int .i64 0) := (blk_cell g7 14).trans rfl; have fz14 : (V1.alloc (.cells #[.int .i64 0, .int .i64 0, .int .i64 0, .int .i64 0, .int .i64 0, .int .i64 0, .int .i64 0, .int .i64 0, .int .i64 0, .int .i64 0, .int .i64 0, .int .i64 0, .int .i64 0, .int .i64 0, .int .i64 0, .int .i64 0] 23)).frozen? ⟨V1.heap.size, 14, none⟩ = false := blk_frozen g7 14; have cz15 : (V1.alloc (.cells #[.int .i64 0, .int .i64 0, .int .i64 0, .int .i64 0, .int .i64 0, .int .i64 0, .int .i64 0, .int .i64 0, .int .i64 0, .int .i64 0, .int .i64 0, .int .i64 0, .int .i64 0, .int .i64 0, .int .i64 0, .int .i64 0] 23)).cell? ⟨V1.heap.size, 15, none⟩ = some (.int .i64 0) := (blk_cell g7 15).trans rfl; have fz15 : (V1.alloc (.cells #[.int .i64 0, .int .i64 0, .int .i64 0, .int .i64 0, .int .i64 0, .int .i64 0, .int .i64 0, .int .i64 0, .int .i64 0, .int .i64 0, .int .i64 0, .int .i64 0, .int .i64 0, .int .i64 0, .int .i64 0, .int .i64 0] 23)).frozen? ⟨V1.heap.size, 15, none⟩ = false := blk_frozen g7 15))
  refine gen_ (Pr := fun W => W.heap[w.heap.size]? = some (.cells #[.int .i64 a0_0, .int .i64 a0_1, .int .i64 a0_2, .int .i64 a0_3] 40 (0, 0)) ∧ W.heap[w.heap.size + 1]? = some (.cells #[.int .i64 a1_0, .int .i64 a1_1, .int .i64 a1_2, .int .i64 a1_3] 29 (0, 0)) ∧ W.heap[V1.heap.size]? = some (.cells #[.int .i64 t211, .int .i64 t212, .int .i64 t213, .int .i64 t214, .int .i64 t215, .int .i64 t216, .int .i64 t217, .int .i64 t218, .int .i64 t219, .int .i64 t220, .int .i64 t221, .int .i64 t222, .int .i64 t223, .int .i64 t224, .int .i64 t225, .int .i64 t226] 23 (0, 0)) ∧ Below w.heap.size w W) (G := fun W => Code.wp Try.prog _ _ _ W) ?_ ?_
  · exact ⟨blk_alloc qhA _, blk_alloc qhV _, (MapKept.heap_alloc V1 _).1, below_alloc qB _⟩
  clear hB qB hb2 g7 hA qhA hV qhV ca0 ca1 ca2 ca3 cz0 fz0 cz1 fz1 cz2 fz2 cz3 fz3 cz4 fz4 cz5 fz5 cz6 fz6 cz7 fz7 cz8 fz8 cz9 fz9 cz10 fz10 cz11 fz11 cz12 fz12 cz13 fz13 cz14 fz14 cz15 fz15
  rintro W2 ⟨hA, hV, hM, hB⟩
  as_aux_lemma =>
  go_upto_region 4 with (fail)
  as_aux_lemma =>
  have cm0 : W2.cell? ⟨V1.heap.size, 0, none⟩ = some (.int .i64 t211) := (blk_cell hM 0).trans rfl
  have cm1 : W2.cell? ⟨V1.heap.size, 1, none⟩ = some (.int .i64 t212) := (blk_cell hM 1).trans rfl
  have cm2 : W2.cell? ⟨V1.heap.size, 2, none⟩ = some (.int .i64 t213) := (blk_cell hM 2).trans rfl
  have cm3 : W2.cell? ⟨V1.heap.size, 3, none⟩ = some (.int .i64 t214) := (blk_cell hM 3).trans rfl
  have cm4 : W2.cell? ⟨V1.heap.size, 4, none⟩ = some (.int .i64 t215) := (blk_cell hM 4).trans rfl
  have cm5 : W2.cell? ⟨V1.heap.size, 5, none⟩ = some (.int .i64 t216) := (blk_cell hM 5).trans rfl
  have cm6 : W2.cell? ⟨V1.heap.size, 6, none⟩ = some (.int .i64 t217) := (blk_cell hM 6).trans rfl
  have cm7 : W2.cell? ⟨V1.heap.size, 7, none⟩ = some (.int .i64 t218) := (blk_cell hM 7).trans rfl
  have cm8 : W2.cell? ⟨V1.heap.size, 8, none⟩ = some (.int .i64 t219) := (blk_cell hM 8).trans rfl
  have cm9 : W2.cell? ⟨V1.heap.size, 9, none⟩ = some (.int .i64 t220) := (blk_cell hM 9).trans rfl
  have cm10 : W2.cell? ⟨V1.heap.size, 10, none⟩ = some (.int .i64 t221) := (blk_cell hM 10).trans rfl
  have cm11 : W2.cell? ⟨V1.heap.size, 11, none⟩ = some (.int .i64 t222) := (blk_cell hM 11).trans rfl
  have cm12 : W2.cell? ⟨V1.heap.size, 12, none⟩ = some (.int .i64 t223) := (blk_cell hM 12).trans rfl
  have cm13 : W2.cell? ⟨V1.heap.size, 13, none⟩ = some (.int .i64 t224) := (blk_cell hM 13).trans rfl
  have cm14 : W2.cell? ⟨V1.heap.size, 14, none⟩ = some (.int .i64 t225) := (blk_cell hM 14).trans rfl
  have cm15 : W2.cell? ⟨V1.heap.size, 15, none⟩ = some (.int .i64 t226) := (blk_cell hM 15).trans rfl
  have cv0 : W2.cell? ⟨w.heap.size + 1, 0, none⟩ = some (.int .i64 a1_0) := (blk_cell hV 0).trans rfl
  have cv1 : W2.cell? ⟨w.heap.size + 1, 1, none⟩ = some (.int .i64 a1_1) := (blk_cell hV 1).trans rfl
  have cv2 : W2.cell? ⟨w.heap.size + 1, 2, none⟩ = some (.int .i64 a1_2) := (blk_cell hV 2).trans rfl
  have cv3 : W2.cell? ⟨w.heap.size + 1, 3, none⟩ = some (.int .i64 a1_3) := (blk_cell hV 3).trans rfl
  go_upto_region 5 with (first | (go_at_call 18; (with_reducible refine (matrix_Apply.calls 40 t211 t212 t213 t214 t215 t216 t217 t218 t219 t220 t221 t222 t223 t224 t225 t226 a1_0 a1_1 a1_2 a1_3 t230 t231 t232 t233 _ h5.out).mono ?_); rintro e V2 ⟨rfl, hb2⟩; have qhA := (hb2.block _ (blk_lt hA)).trans hA; have qhV := (hb2.block _ (blk_lt hV)).trans hV; have qhM := (hb2.block _ (blk_lt hM)).trans hM; have qB := below_step hB hb2; have g7 : (V2.alloc (.cells #[.int .i64 0, .int .i64 0, .int .i64 0, .int .i64 0] 29)).heap[V2.heap.size]? = some (.cells #[.int .i64 0, .int .i64 0, .int .i64 0, .int .i64 0] 29 (0, 0)) := (MapKept.heap_alloc V2 _).1; have cz0 : (V2.alloc (.cells #[.int .i64 0, .int .i64 0, .int .i64 0, .int .i64 0] 29)).cell? ⟨V2.heap.size, 0, none⟩ = some (.int .i64 0) := (blk_cell g7 0).trans rfl; have fz0 : (V2.alloc (.cells #[.int .i64 0, .int .i64 0, .int .i64 0, .int .i64 0] 29)).frozen? ⟨V2.heap.size, 0, none⟩ = false := blk_frozen g7 0; have cz1 : (V2.alloc (.cells #[.int .i64 0, .int .i64 0, .int .i64 0, .int .i64 0] 29)).cell? ⟨V2.heap.size, 1, none⟩ = some (.int .i64 0) := (blk_cell g7 1).trans rfl; have fz1 : (V2.alloc (.cells #[.int .i64 0, .int .i64 0, .int .i64 0, .int .i64 0] 29)).frozen? ⟨V2.heap.size, 1, none⟩ = false := blk_frozen g7 1; have cz2 : (V2.alloc (.cells #[.int .i64 0, .int .i64 0, .int .i64 0, .int .i64 0] 29)).cell? ⟨V2.heap.size, 2, none⟩ = some (.int .i64 0) := (blk_cell g7 2).trans rfl; have fz2 : (V2.alloc (.cells #[.int .i64 0, .int .i64 0, .int .i64 0, .int .i64 0] 29)).frozen? ⟨V2.heap.size, 2, none⟩ = false := blk_frozen g7 2; have cz3 : (V2.alloc (.cells #[.int .i64 0, .int .i64 0, .int .i64 0, .int .i64 0] 29)).cell? ⟨V2.heap.size, 3, none⟩ = some (.int .i64 0) := (blk_cell g7 3).trans rfl; have fz3 : (V2.alloc (.cells #[.int .i64 0, .int .i64 0, .int .i64 0, .int .i64 0] 29)).frozen? ⟨V2.heap.size, 3, none⟩ = false := blk_frozen g7 3))
  refine gen_ (Pr := fun W => W.heap[w.heap.size]? = some (.cells #[.int .i64 a0_0, .int .i64 a0_1, .int .i64 a0_2, .int .i64 a0_3] 40 (0, 0)) ∧ W.heap[w.heap.size + 1]? = some (.cells #[.int .i64 a1_0, .int .i64 a1_1, .int .i64 a1_2, .int .i64 a1_3] 29 (0, 0)) ∧ W.heap[V1.heap.size]? = some (.cells #[.int .i64 t211, .int .i64 t212, .int .i64 t213, .int .i64 t214, .int .i64 t215, .int .i64 t216, .int .i64 t217, .int .i64 t218, .int .i64 t219, .int .i64 t220, .int .i64 t221, .int .i64 t222, .int .i64 t223, .int .i64 t224, .int .i64 t225, .int .i64 t226] 23 (0, 0)) ∧ W.heap[V2.heap.size]? = some (.cells #[.int .i64 t230, .int .i64 t231, .int .i64 t232, .int .i64 t233] 29 (0, 0)) ∧ Below w.heap.size w W) (G := fun W => Code.wp Try.prog _ _ _ W) ?_ ?_
  · exact ⟨blk_alloc qhA _, blk_alloc qhV _, blk_alloc qhM _, (MapKept.heap_alloc V2 _).1, below_alloc qB _⟩
  clear hB qB hb2 g7 hA qhA hV qhV hM qhM cm0 cm1 cm2 cm3 cm4 cm5 cm6 cm7 cm8 cm9 cm10 cm11 cm12 cm13 cm14 cm15 cv0 cv1 cv2 cv3 cz0 fz0 cz1 fz1 cz2 fz2 cz3 fz3
  rintro W3 ⟨hA, hV, hM, hP, hB⟩
  as_aux_lemma =>
  have cm0 : W3.cell? ⟨V1.heap.size, 0, none⟩ = some (.int .i64 t211) := (blk_cell hM 0).trans rfl
  have cm1 : W3.cell? ⟨V1.heap.size, 1, none⟩ = some (.int .i64 t212) := (blk_cell hM 1).trans rfl
  have cm2 : W3.cell? ⟨V1.heap.size, 2, none⟩ = some (.int .i64 t213) := (blk_cell hM 2).trans rfl
  have cm3 : W3.cell? ⟨V1.heap.size, 3, none⟩ = some (.int .i64 t214) := (blk_cell hM 3).trans rfl
  have cm4 : W3.cell? ⟨V1.heap.size, 4, none⟩ = some (.int .i64 t215) := (blk_cell hM 4).trans rfl
  have cm5 : W3.cell? ⟨V1.heap.size, 5, none⟩ = some (.int .i64 t216) := (blk_cell hM 5).trans rfl
  have cm6 : W3.cell? ⟨V1.heap.size, 6, none⟩ = some (.int .i64 t217) := (blk_cell hM 6).trans rfl
  have cm7 : W3.cell? ⟨V1.heap.size, 7, none⟩ = some (.int .i64 t218) := (blk_cell hM 7).trans rfl
  have cm8 : W3.cell? ⟨V1.heap.size, 8, none⟩ = some (.int .i64 t219) := (blk_cell hM 8).trans rfl
  have cm9 : W3.cell? ⟨V1.heap.size, 9, none⟩ = some (.int .i64 t220) := (blk_cell hM 9).trans rfl
  have cm10 : W3.cell? ⟨V1.heap.size, 10, none⟩ = some (.int .i64 t221) := (blk_cell hM 10).trans rfl
  have cm11 : W3.cell? ⟨V1.heap.size, 11, none⟩ = some (.int .i64 t222) := (blk_cell hM 11).trans rfl
  have cm12 : W3.cell? ⟨V1.heap.size, 12, none⟩ = some (.int .i64 t223) := (blk_cell hM 12).trans rfl
  have cm13 : W3.cell? ⟨V1.heap.size, 13, none⟩ = some (.int .i64 t224) := (blk_cell hM 13).trans rfl
  have cm14 : W3.cell? ⟨V1.heap.size, 14, none⟩ = some (.int .i64 t225) := (blk_cell hM 14).trans rfl
  have cm15 : W3.cell? ⟨V1.heap.size, 15, none⟩ = some (.int .i64 t226) := (blk_cell hM 15).trans rfl
  have cv0 : W3.cell? ⟨w.heap.size + 1, 0, none⟩ = some (.int .i64 a1_0) := (blk_cell hV 0).trans rfl
  have cv1 : W3.cell? ⟨w.heap.size + 1, 1, none⟩ = some (.int .i64 a1_1) := (blk_cell hV 1).trans rfl
  have cv2 : W3.cell? ⟨w.heap.size + 1, 2, none⟩ = some (.int .i64 a1_2) := (blk_cell hV 2).trans rfl
  have cv3 : W3.cell? ⟨w.heap.size + 1, 3, none⟩ = some (.int .i64 a1_3) := (blk_cell hV 3).trans rfl
  go_upto_region 6 with (first | (go_at_call 18; (with_reducible refine (matrix_Apply.calls 40 t211 t212 t213 t214 t215 t216 t217 t218 t219 t220 t221 t222 t223 t224 t225 t226 a1_1 a1_0 a1_2 a1_3 t235 t236 t237 t238 _ h6.out).mono ?_); rintro e V3 ⟨rfl, hb2⟩; have qhA := (hb2.block _ (blk_lt hA)).trans hA; have qhV := (hb2.block _ (blk_lt hV)).trans hV; have qhM := (hb2.block _ (blk_lt hM)).trans hM; have qhP := (hb2.block _ (blk_lt hP)).trans hP; have qB := below_step hB hb2; have g7 : (V3.alloc (.cells #[.int .i64 0, .int .i64 0, .int .i64 0, .int .i64 0] 29)).heap[V3.heap.size]? = some (.cells #[.int .i64 0, .int .i64 0, .int .i64 0, .int .i64 0] 29 (0, 0)) := (MapKept.heap_alloc V3 _).1; have cz0 : (V3.alloc (.cells #[.int .i64 0, .int .i64 0, .int .i64 0, .int .i64 0] 29)).cell? ⟨V3.heap.size, 0, none⟩ = some (.int .i64 0) := (blk_cell g7 0).trans rfl; have fz0 : (V3.alloc (.cells #[.int .i64 0, .int .i64 0, .int .i64 0, .int .i64 0] 29)).frozen? ⟨V3.heap.size, 0, none⟩ = false := blk_frozen g7 0; have cz1 : (V3.alloc (.cells #[.int .i64 0, .int .i64 0, .int .i64 0, .int .i64 0] 29)).cell? ⟨V3.heap.size, 1, none⟩ = some (.int .i64 0) := (blk_cell g7 1).trans rfl; have fz1 : (V3.alloc (.cells #[.int .i64 0, .int .i64 0, .int .i64 0, .int .i64 0] 29)).frozen? ⟨V3.heap.size, 1, none⟩ = false := blk_frozen g7 1; have cz2 : (V3.alloc (.cells #[.int .i64 0, .int .i64 0, .int .i64 0, .int .i64 0] 29)).cell? ⟨V3.heap.size, 2, none⟩ = some (.int .i64 0) := (blk_cell g7 2).trans rfl; have fz2 : (V3.alloc (.cells #[.int .i64 0, .int .i64 0, .int .i64 0, .int .i64 0] 29)).frozen? ⟨V3.heap.size, 2, none⟩ = false := blk_frozen g7 2; have cz3 : (V3.alloc (.cells #[.int .i64 0, .int .i64 0, .int .i64 0, .int .i64 0] 29)).cell? ⟨V3.heap.size, 3, none⟩ = some (.int .i64 0) := (blk_cell g7 3).trans rfl; have fz3 : (V3.alloc (.cells #[.int .i64 0, .int .i64 0, .int .i64 0, .int .i64 0] 29)).frozen? ⟨V3.heap.size, 3, none⟩ = false := blk_frozen g7 3))
  refine gen_ (Pr := fun W => W.heap[w.heap.size]? = some (.cells #[.int .i64 a0_0, .int .i64 a0_1, .int .i64 a0_2, .int .i64 a0_3] 40 (0, 0)) ∧ W.heap[w.heap.size + 1]? = some (.cells #[.int .i64 a1_0, .int .i64 a1_1, .int .i64 a1_2, .int .i64 a1_3] 29 (0, 0)) ∧ W.heap[V1.heap.size]? = some (.cells #[.int .i64 t211, .int .i64 t212, .int .i64 t213, .int .i64 t214, .int .i64 t215, .int .i64 t216, .int .i64 t217, .int .i64 t218, .int .i64 t219, .int .i64 t220, .int .i64 t221, .int .i64 t222, .int .i64 t223, .int .i64 t224, .int .i64 t225, .int .i64 t226] 23 (0, 0)) ∧ W.heap[V2.heap.size]? = some (.cells #[.int .i64 t230, .int .i64 t231, .int .i64 t232, .int .i64 t233] 29 (0, 0)) ∧ W.heap[V3.heap.size]? = some (.cells #[.int .i64 t235, .int .i64 t236, .int .i64 t237, .int .i64 t238] 29 (0, 0)) ∧ Below w.heap.size w W) (G := fun W => Code.wp Try.prog _ _ _ W) ?_ ?_
  · exact ⟨blk_alloc qhA _, blk_alloc qhV _, blk_alloc qhM _, blk_alloc qhP _, (MapKept.heap_alloc V3 _).1, below_alloc qB _⟩
  clear hB qB hb2 g7 hA qhA hV qhV hM qhM hP qhP cm0 cm1 cm2 cm3 cm4 cm5 cm6 cm7 cm8 cm9 cm10 cm11 cm12 cm13 cm14 cm15 cv0 cv1 cv2 cv3 cz0 fz0 cz1 fz1 cz2 fz2 cz3 fz3
  rintro W4 ⟨hA, hV, hM, hP, hQ, hB⟩
  as_aux_lemma =>
  have BK209 := Aside0.mk hA
  have BK210 := Aside0.mk hV
  have BK228 := Aside0.mk hM
  have BK234 := Aside0.mk hP
  have BK239 := Aside0.mk hQ
  have HB := Aside0.mk hB
  clear hA hV hM hP hQ hB
  have c34b0 : (t233 == t240) = true := beq_iff_eq.mpr c34.out
  have c34b1 : (t233 != t240) = false := bne_eq_false_iff_eq.mpr c34.out
  have c37b0 : (t230 == t242) = true := beq_iff_eq.mpr c37.out
  have c37b1 : (t230 != t242) = false := bne_eq_false_iff_eq.mpr c37.out
  have A33 := h33
  have A35 := h35
  have A36 := h36
  have A38 := h38
  go_cut [71] (fun v71 wc => v71 = .bool false ∧ Aside0 (wc.heap[w.heap.size]? = some (.cells #[.int .i64 a0_0, .int .i64 a0_1, .int .i64 a0_2, .int .i64 a0_3] 40 (0, 0))) ∧ Aside0 (wc.heap[w.heap.size + 1]? = some (.cells #[.int .i64 a1_0, .int .i64 a1_1, .int .i64 a1_2, .int .i64 a1_3] 29 (0, 0))) ∧ Aside0 (wc.heap[V1.heap.size]? = some (.cells #[.int .i64 t211, .int .i64 t212, .int .i64 t213, .int .i64 t214, .int .i64 t215, .int .i64 t216, .int .i64 t217, .int .i64 t218, .int .i64 t219, .int .i64 t220, .int .i64 t221, .int .i64 t222, .int .i64 t223, .int .i64 t224, .int .i64 t225, .int .i64 t226] 23 (0, 0))) ∧ Aside0 (wc.heap[V2.heap.size]? = some (.cells #[.int .i64 t230, .int .i64 t231, .int .i64 t232, .int .i64 t233] 29 (0, 0))) ∧ Aside0 (wc.heap[V3.heap.size]? = some (.cells #[.int .i64 t235, .int .i64 t236, .int .i64 t237, .int .i64 t238] 29 (0, 0))) ∧ Aside0 (Below w.heap.size w wc))
  case first =>
    try go_wp2
    have n0_ := Aside0.mk (blk_drew BK209.out)
    have n1_ := Aside0.mk (blk_drew BK210.out)
    have n2_ := Aside0.mk (blk_drew BK228.out)
    have n3_ := Aside0.mk (blk_drew BK234.out)
    have n4_ := Aside0.mk (blk_drew BK239.out)
    have n5_ := Aside0.mk (below_drew1 HB.out)
    clear BK209
    clear BK210
    clear BK228
    clear BK234
    clear BK239
    clear HB
    have BK209 := n0_
    have BK210 := n1_
    have BK228 := n2_
    have BK234 := n3_
    have BK239 := n4_
    have HB := n5_
    clear n0_ n1_ n2_ n3_ n4_ n5_
    refine start_ (n := 29) (S := fun w' => w'.cell? ⟨V2.heap.size, 0, none⟩ = some (.int .i64 t230) ∧ w'.cell? ⟨V2.heap.size, 1, none⟩ = some (.int .i64 t231) ∧ w'.cell? ⟨V2.heap.size, 2, none⟩ = some (.int .i64 t232) ∧ w'.cell? ⟨V2.heap.size, 3, none⟩ = some (.int .i64 t233) ∧ w'.cell? ⟨w.heap.size + 1, 0, none⟩ = some (.int .i64 a1_0) ∧ w'.cell? ⟨w.heap.size + 1, 1, none⟩ = some (.int .i64 a1_1) ∧ w'.cell? ⟨w.heap.size + 1, 2, none⟩ = some (.int .i64 a1_2) ∧ w'.cell? ⟨w.heap.size + 1, 3, none⟩ = some (.int .i64 a1_3) ∧ w'.cell? ⟨w.heap.size, 0, none⟩ = some (.int .i64 a0_0) ∧ w'.cell? ⟨w.heap.size, 1, none⟩ = some (.int .i64 a0_1) ∧ w'.cell? ⟨w.heap.size, 2, none⟩ = some (.int .i64 a0_2) ∧ w'.cell? ⟨w.heap.size, 3, none⟩ = some (.int .i64 a0_3)) (ds := []) #[false, false, false, false, false, false, false, false, false, false, false, false, false, false, false, false, false, false, false, false, false, false, false, false, false, false, false, false, false] (by kernel_rfl) rfl rfl ⟨(blk_cell BK234.out 0).trans rfl, (blk_cell BK234.out 1).trans rfl, (blk_cell BK234.out 2).trans rfl, (blk_cell BK234.out 3).trans rfl, (blk_cell BK210.out 0).trans rfl, (blk_cell BK210.out 1).trans rfl, (blk_cell BK210.out 2).trans rfl, (blk_cell BK210.out 3).trans rfl, (blk_cell BK209.out 0).trans rfl, (blk_cell BK209.out 1).trans rfl, (blk_cell BK209.out 2).trans rfl, (blk_cell BK209.out 3).trans rfl⟩ (fun hHeld => ?_); refine with_tabW frustumlaw04_MatrixPerspective.tab6 frustumlaw04_MatrixPerspective.bits6 (fun HT_ HW_ => ?_)
    generalize W4.drew = w40 at BK209 BK210 BK228 BK234 BK239 HB hHeld ⊢
    refine pure_ (i := 0) (N := some 43) (v := ?_) (a' := ?_) #[true, false, false, false, false, false, false, false, false, false, false, false, false, false, false, false, false, false, false, false, false, false, false, false, false, false, false, false, false] rfl rfl (any_of HT_.out (by kernel_rfl)) (fun _ _ _ h => h) (Or.inl ⟨by rfl, ?_⟩) ?_ ?_
    rotate_left
    · intro w'
      go_simp
      with_reducible rfl
    rotate_left
    · simp only [Act.put, List.setIfInBounds_toArray, List.set_cons_zero, List.set_cons_succ, i64_w, i32_w]
      rfl
    refine pure_ (i := 2) (N := some 45) (v := ?_) (a' := ?_) #[true, false, true, false, false, false, false, false, false, false, false, false, false, false, false, false, false, false, false, false, false, false, false, false, false, false, false, false, false] rfl rfl (any_of HT_.out (by kernel_rfl)) (fun _ _ _ h => h) (Or.inl ⟨by rfl, ?_⟩) ?_ ?_
    rotate_left
    · intro w'
      go_simp
      with_reducible rfl
    rotate_left
    · simp only [Act.put, List.setIfInBounds_toArray, List.set_cons_zero, List.set_cons_succ, i64_w, i32_w]
      rfl
    refine take_ (i := 1) (N := some 44) (v := ?_) (a' := ?_) #[true, true, true, false, false, false, false, false, false, false, false, false, false, false, false, false, false, false, false, false, false, false, false, false, false, false, false, false, false] rfl rfl (take_ofW HT_.out HW_.out (by kernel_rfl)) (fun _ _ _ h => h) (Or.inl ⟨by rfl, ?_⟩) hHeld ?_ ?_
    rotate_left
    · rintro w' ⟨s0, s1, s2, s3, s4, s5, s6, s7, s8, s9, s10, s11⟩
      go_simp
      with_reducible rfl
    rotate_left
    · simp only [Act.put, List.setIfInBounds_toArray, List.set_cons_zero, List.set_cons_succ, i64_w, i32_w]
      rfl
    refine take_ (i := 3) (N := some 46) (v := ?_) (a' := ?_) #[true, true, true, true, false, false, false, false, false, false, false, false, false, false, false, false, false, false, false, false, false, false, false, false, false, false, false, false, false] rfl rfl (take_ofW HT_.out HW_.out (by kernel_rfl)) (fun _ _ _ h => h) (Or.inl ⟨by rfl, ?_⟩) hHeld ?_ ?_
    rotate_left
    · rintro w' ⟨s0, s1, s2, s3, s4, s5, s6, s7, s8, s9, s10, s11⟩
      go_simp
      with_reducible rfl
    rotate_left
    · simp only [Act.put, List.setIfInBounds_toArray, List.set_cons_zero, List.set_cons_succ, i64_w, i32_w]
      rfl
    refine one_ (i := 4) (N := some 47) #[true, true, true, true, true, false, false, false, false, false, false, false, false, false, false, false, false, false, false, false, false, false, false, false, false, false, false, false, false] rfl rfl (one_of HT_.out (by kernel_rfl)) (by decide) (fun K hK => ?_)
    refine goes_ Try.func30 (by kernel_rfl) rfl #[.int .i64 a1_2] (by rfl) rfl rfl (by (try simp only [List.map_toArray, List.map_cons, List.map_nil]); first | done | rfl | (simp only [List.length_drop, List.length_take]; rfl)) ?_
    with_reducible refine (frustumlaw04_limited.calls a1_2 t240 _ A33.out).mono ?_
    rintro e w41 ⟨rfl, hb⟩
    refine ⟨_, rfl, ?_⟩
    have n0_ := Aside0.mk (blk_below (g := w.heap.size) (o := .cells #[.int .i64 a0_0, .int .i64 a0_1, .int .i64 a0_2, .int .i64 a0_3] 40 (0, 0)) (by (with_reducible repeat (first | refine blk_drewN ?_ _ | refine blk_drew ?_ | refine blk_alloc ?_ _)); exact BK209.out) hb)
    have n1_ := Aside0.mk (blk_below (g := w.heap.size + 1) (o := .cells #[.int .i64 a1_0, .int .i64 a1_1, .int .i64 a1_2, .int .i64 a1_3] 29 (0, 0)) (by (with_reducible repeat (first | refine blk_drewN ?_ _ | refine blk_drew ?_ | refine blk_alloc ?_ _)); exact BK210.out) hb)
    have n2_ := Aside0.mk (blk_below (g := V1.heap.size) (o := .cells #[.int .i64 t211, .int .i64 t212, .int .i64 t213, .int .i64 t214, .int .i64 t215, .int .i64 t216, .int .i64 t217, .int .i64 t218, .int .i64 t219, .int .i64 t220, .int .i64 t221, .int .i64 t222, .int .i64 t223, .int .i64 t224, .int .i64 t225, .int .i64 t226] 23 (0, 0)) (by (with_reducible repeat (first | refine blk_drewN ?_ _ | refine blk_drew ?_ | refine blk_alloc ?_ _)); exact BK228.out) hb)
    have n3_ := Aside0.mk (blk_below (g := V2.heap.size) (o := .cells #[.int .i64 t230, .int .i64 t231, .int .i64 t232, .int .i64 t233] 29 (0, 0)) (by (with_reducible repeat (first | refine blk_drewN ?_ _ | refine blk_drew ?_ | refine blk_alloc ?_ _)); exact BK234.out) hb)
    have n4_ := Aside0.mk (blk_below (g := V3.heap.size) (o := .cells #[.int .i64 t235, .int .i64 t236, .int .i64 t237, .int .i64 t238] 29 (0, 0)) (by (with_reducible repeat (first | refine blk_drewN ?_ _ | refine blk_drew ?_ | refine blk_alloc ?_ _)); exact BK239.out) hb)
    have n5_ := Aside0.mk (below_step (by repeat (first | (with_reducible first | exact HB.out | apply below_alloc | apply pw_below_drewN | apply below_drew1 | refine below_set ?_ GE209.out | refine below_set ?_ GE210.out | refine below_set ?_ GE228.out | refine below_set ?_ GE234.out | refine below_set ?_ GE239.out) | exact HB.out)) hb)
    clear BK209
    clear BK210
    clear BK228
    clear BK234
    clear BK239
    clear HB
    have BK209 := n0_
    have BK210 := n1_
    have BK228 := n2_
    have BK234 := n3_
    have BK239 := n4_
    have HB := n5_
    clear n0_ n1_ n2_ n3_ n4_ n5_
    (try clear hb)
    (try clear hb2)
    (try clear hk)
    (try clear hi)
    refine hK.out _ _ ⟨(blk_cell BK234.out 0).trans rfl, (blk_cell BK234.out 1).trans rfl, (blk_cell BK234.out 2).trans rfl, (blk_cell BK234.out 3).trans rfl, (blk_cell BK210.out 0).trans rfl, (blk_cell BK210.out 1).trans rfl, (blk_cell BK210.out 2).trans rfl, (blk_cell BK210.out 3).trans rfl, (blk_cell BK209.out 0).trans rfl, (blk_cell BK209.out 1).trans rfl, (blk_cell BK209.out 2).trans rfl, (blk_cell BK209.out 3).trans rfl⟩ (fun hHeld => ?_)
    clear hK K
    refine norm_ (a' := ?_) ?_ ?_
    rotate_left
    · show Act.put _ (some 47) _ = _
      simp only [Act.put, List.setIfInBounds_toArray, List.set_cons_zero, List.set_cons_succ, i64_w, i32_w]
      rfl
    refine pure_ (i := 5) (N := some 48) (v := ?_) (a' := ?_) #[true, true, true, true, true, true, false, false, false, false, false, false, false, false, false, false, false, false, false, false, false, false, false, false, false, false, false, false, false] rfl rfl (any_of HT_.out (by kernel_rfl)) (fun _ _ _ h => h) (Or.inl ⟨by rfl, ?_⟩) ?_ ?_
    rotate_left
    · intro w'
      go_simp
      with_reducible rfl
    rotate_left
    · simp only [Act.put, List.setIfInBounds_toArray, List.set_cons_zero, List.set_cons_succ, i64_w, i32_w]
      rfl
    refine pure_ (i := 6) (N := some 49) (v := ?_) (a' := ?_) #[true, true, true, true, true, true, true, false, false, false, false, false, false, false, false, false, false, false, false, false, false, false, false, false, false, false, false, false, false] rfl rfl (any_of HT_.out (by kernel_rfl)) (fun _ _ _ h => h) (Or.inl ⟨by rfl, ?_⟩) ?_ ?_
    rotate_left
    · intro w'
      go_simp
      with_reducible rfl
    rotate_left
    · simp only [Act.put, List.setIfInBounds_toArray, List.set_cons_zero, List.set_cons_succ, i64_w, i32_w]
      rfl
    refine pure_ (i := 7) (N := some 50) (v := ?_) (a' := ?_) #[true, true, true, true, true, true, true, true, false, false, false, false, false, false, false, false, false, false, false, false, false, false, false, false, false, false, false, false, false] rfl rfl (any_of HT_.out (by kernel_rfl)) (fun _ _ _ h => h) (Or.inl ⟨by rfl, ?_⟩) ?_ ?_
    rotate_left
    · intro w'
      go_simp
      with_reducible rfl
    rotate_left
    · simp only [Act.put, List.setIfInBounds_toArray, List.set_cons_zero, List.set_cons_succ, i64_w, i32_w]
      rfl
    refine pure_ (i := 9) (N := some 52) (v := ?_) (a' := ?_) #[true, true, true, true, true, true, true, true, false, true, false, false, false, false, false, false, false, false, false, false, false, false, false, false, false, false, false, false, false] rfl rfl (any_of HT_.out (by kernel_rfl)) (fun _ _ _ h => h) (Or.inl ⟨by rfl, ?_⟩) ?_ ?_
    rotate_left
    · intro w'
      go_simp
      with_reducible rfl
    rotate_left
    · simp only [Act.put, List.setIfInBounds_toArray, List.set_cons_zero, List.set_cons_succ, i64_w, i32_w]
      rfl
    refine pure_ (i := 11) (N := some 54) (v := ?_) (a' := ?_) #[true, true, true, true, true, true, true, true, false, true, false, true, false, false, false, false, false, false, false, false, false, false, false, false, false, false, false, false, false] rfl rfl (any_of HT_.out (by kernel_rfl)) (fun _ _ _ h => h) (Or.inl ⟨by rfl, ?_⟩) ?_ ?_
    rotate_left
    · intro w'
      go_simp
      with_reducible rfl
    rotate_left
    · simp only [Act.put, List.setIfInBounds_toArray, List.set_cons_zero, List.set_cons_succ, i64_w, i32_w]
      rfl
    refine pure_ (i := 14) (N := some 57) (v := ?_) (a' := ?_) #[true, true, true, true, true, true, true, true, false, true, false, true, false, false, true, false, false, false, false, false, false, false, false, false, false, false, false, false, false] rfl rfl (any_of HT_.out (by kernel_rfl)) (fun _ _ _ h => h) (Or.inl ⟨by rfl, ?_⟩) ?_ ?_
    rotate_left
    · intro w'
      go_simp
      with_reducible rfl
    rotate_left
    · simp only [Act.put, List.setIfInBounds_toArray, List.set_cons_zero, List.set_cons_succ, i64_w, i32_w]
      rfl
    refine take_ (i := 8) (N := some 51) (v := ?_) (a' := ?_) #[true, true, true, true, true, true, true, true, true, true, false, true, false, false, true, false, false, false, false, false, false, false, false, false, false, false, false, false, false] rfl rfl (take_ofW HT_.out HW_.out (by kernel_rfl)) (fun _ _ _ h => h) (Or.inl ⟨by rfl, ?_⟩) hHeld ?_ ?_
    rotate_left
    · rintro w' ⟨s0, s1, s2, s3, s4, s5, s6, s7, s8, s9, s10, s11⟩
      go_simp
      with_reducible rfl
    rotate_left
    · simp only [Act.put, List.setIfInBounds_toArray, List.set_cons_zero, List.set_cons_succ, i64_w, i32_w]
      rfl
    refine take_ (i := 10) (N := some 53) (v := ?_) (a' := ?_) #[true, true, true, true, true, true, true, true, true, true, true, true, false, false, true, false, false, false, false, false, false, false, false, false, false, false, false, false, false] rfl rfl (take_ofW HT_.out HW_.out (by kernel_rfl)) (fun _ _ _ h => h) (Or.inl ⟨by rfl, ?_⟩) hHeld ?_ ?_
    rotate_left
    · rintro w' ⟨s0, s1, s2, s3, s4, s5, s6, s7, s8, s9, s10, s11⟩
      go_simp
      with_reducible rfl
    rotate_left
    · simp only [Act.put, List.setIfInBounds_toArray, List.set_cons_zero, List.set_cons_succ, i64_w, i32_w]
      rfl
    refine take_ (i := 12) (N := some 55) (v := ?_) (a' := ?_) #[true, true, true, true, true, true, true, true, true, true, true, true, true, false, true, false, false, false, false, false, false, false, false, false, false, false, false, false, false] rfl rfl (take_ofW HT_.out HW_.out (by kernel_rfl)) (fun _ _ _ h => h) (Or.inl ⟨by rfl, ?_⟩) hHeld ?_ ?_
    rotate_left
    · rintro w' ⟨s0, s1, s2, s3, s4, s5, s6, s7, s8, s9, s10, s11⟩
      go_simp
      with_reducible rfl
    rotate_left
    · simp only [Act.put, List.setIfInBounds_toArray, List.set_cons_zero, List.set_cons_succ, i64_w, i32_w]
      rfl
    refine take_ (i := 15) (N := some 58) (v := ?_) (a' := ?_) #[true, true, true, true, true, true, true, true, true, true, true, true, true, false, true, true, false, false, false, false, false, false, false, false, false, false, false, false, false] rfl rfl (take_ofW HT_.out HW_.out (by kernel_rfl)) (fun _ _ _ h => h) (Or.inl ⟨by rfl, ?_⟩) hHeld ?_ ?_
    rotate_left
    · rintro w' ⟨s0, s1, s2, s3, s4, s5, s6, s7, s8, s9, s10, s11⟩
      go_simp
      with_reducible rfl
    rotate_left
    · simp only [Act.put, List.setIfInBounds_toArray, List.set_cons_zero, List.set_cons_succ, i64_w, i32_w]
      rfl
    refine one_ (i := 13) (N := some 56) #[true, true, true, true, true, true, true, true, true, true, true, true, true, true, true, true, false, false, false, false, false, false, false, false, false, false, false, false, false] rfl rfl (one_of HT_.out (by kernel_rfl)) (by decide) (fun K hK => ?_)
    refine goes_ Try.func31 (by kernel_rfl) rfl #[.int .i64 a0_0, .int .i64 a0_1] (by rfl) rfl rfl (by (try simp only [List.map_toArray, List.map_cons, List.map_nil]); first | done | rfl | (simp only [List.length_drop, List.length_take]; rfl)) ?_
    with_reducible refine (fixed_Div.calls 40 a0_0 a0_1 t241 _ A35.out).mono ?_
    rintro e w42 ⟨rfl, hb⟩
    refine ⟨_, rfl, ?_⟩
    have n0_ := Aside0.mk (blk_below (g := w.heap.size) (o := .cells #[.int .i64 a0_0, .int .i64 a0_1, .int .i64 a0_2, .int .i64 a0_3] 40 (0, 0)) (by (with_reducible repeat (first | refine blk_drewN ?_ _ | refine blk_drew ?_ | refine blk_alloc ?_ _)); exact BK209.out) hb)
    have n1_ := Aside0.mk (blk_below (g := w.heap.size + 1) (o := .cells #[.int .i64 a1_0, .int .i64 a1_1, .int .i64 a1_2, .int .i64 a1_3] 29 (0, 0)) (by (with_reducible repeat (first | refine blk_drewN ?_ _ | refine blk_drew ?_ | refine blk_alloc ?_ _)); exact BK210.out) hb)
    have n2_ := Aside0.mk (blk_below (g := V1.heap.size) (o := .cells #[.int .i64 t211, .int .i64 t212, .int .i64 t213, .int .i64 t214, .int .i64 t215, .int .i64 t216, .int .i64 t217, .int .i64 t218, .int .i64 t219, .int .i64 t220, .int .i64 t221, .int .i64 t222, .int .i64 t223, .int .i64 t224, .int .i64 t225, .int .i64 t226] 23 (0, 0)) (by (with_reducible repeat (first | refine blk_drewN ?_ _ | refine blk_drew ?_ | refine blk_alloc ?_ _)); exact BK228.out) hb)
    have n3_ := Aside0.mk (blk_below (g := V2.heap.size) (o := .cells #[.int .i64 t230, .int .i64 t231, .int .i64 t232, .int .i64 t233] 29 (0, 0)) (by (with_reducible repeat (first | refine blk_drewN ?_ _ | refine blk_drew ?_ | refine blk_alloc ?_ _)); exact BK234.out) hb)
    have n4_ := Aside0.mk (blk_below (g := V3.heap.size) (o := .cells #[.int .i64 t235, .int .i64 t236, .int .i64 t237, .int .i64 t238] 29 (0, 0)) (by (with_reducible repeat (first | refine blk_drewN ?_ _ | refine blk_drew ?_ | refine blk_alloc ?_ _)); exact BK239.out) hb)
    have n5_ := Aside0.mk (below_step (by repeat (first | (with_reducible first | exact HB.out | apply below_alloc | apply pw_below_drewN | apply below_drew1 | refine below_set ?_ GE209.out | refine below_set ?_ GE210.out | refine below_set ?_ GE228.out | refine below_set ?_ GE234.out | refine below_set ?_ GE239.out) | exact HB.out)) hb)
    clear BK209
    clear BK210
    clear BK228
    clear BK234
    clear BK239
    clear HB
    have BK209 := n0_
    have BK210 := n1_
    have BK228 := n2_
    have BK234 := n3_
    have BK239 := n4_
    have HB := n5_
    clear n0_ n1_ n2_ n3_ n4_ n5_
    (try clear hb)
    (try clear hb2)
    (try clear hk)
    (try clear hi)
    refine hK.out _ _ ⟨(blk_cell BK234.out 0).trans rfl, (blk_cell BK234.out 1).trans rfl, (blk_cell BK234.out 2).trans rfl, (blk_cell BK234.out 3).trans rfl, (blk_cell BK210.out 0).trans rfl, (blk_cell BK210.out 1).trans rfl, (blk_cell BK210.out 2).trans rfl, (blk_cell BK210.out 3).trans rfl, (blk_cell BK209.out 0).trans rfl, (blk_cell BK209.out 1).trans rfl, (blk_cell BK209.out 2).trans rfl, (blk_cell BK209.out 3).trans rfl⟩ (fun hHeld => ?_)
    clear hK K
    refine norm_ (a' := ?_) ?_ ?_
    rotate_left
    · show Act.put _ (some 56) _ = _
      simp only [Act.put, List.setIfInBounds_toArray, List.set_cons_zero, List.set_cons_succ, i64_w, i32_w]
      rfl
    refine one_ (i := 16) (N := some 59) #[true, true, true, true, true, true, true, true, true, true, true, true, true, true, true, true, true, false, false, false, false, false, false, false, false, false, false, false, false] rfl rfl (one_of HT_.out (by kernel_rfl)) (by decide) (fun K hK => ?_)
    refine goes_ Try.func20 (by kernel_rfl) rfl #[.int .i64 t241, .int .i64 a1_0] (by rfl) rfl rfl (by (try simp only [List.map_toArray, List.map_cons, List.map_nil]); first | done | rfl | (simp only [List.length_drop, List.length_take]; rfl)) ?_
    with_reducible refine (fixed_Mul.calls 40 t241 a1_0 t242 _ A36.out).mono ?_
    rintro e w43 ⟨rfl, hb⟩
    refine ⟨_, rfl, ?_⟩
    have n0_ := Aside0.mk (blk_below (g := w.heap.size) (o := .cells #[.int .i64 a0_0, .int .i64 a0_1, .int .i64 a0_2, .int .i64 a0_3] 40 (0, 0)) (by (with_reducible repeat (first | refine blk_drewN ?_ _ | refine blk_drew ?_ | refine blk_alloc ?_ _)); exact BK209.out) hb)
    have n1_ := Aside0.mk (blk_below (g := w.heap.size + 1) (o := .cells #[.int .i64 a1_0, .int .i64 a1_1, .int .i64 a1_2, .int .i64 a1_3] 29 (0, 0)) (by (with_reducible repeat (first | refine blk_drewN ?_ _ | refine blk_drew ?_ | refine blk_alloc ?_ _)); exact BK210.out) hb)
    have n2_ := Aside0.mk (blk_below (g := V1.heap.size) (o := .cells #[.int .i64 t211, .int .i64 t212, .int .i64 t213, .int .i64 t214, .int .i64 t215, .int .i64 t216, .int .i64 t217, .int .i64 t218, .int .i64 t219, .int .i64 t220, .int .i64 t221, .int .i64 t222, .int .i64 t223, .int .i64 t224, .int .i64 t225, .int .i64 t226] 23 (0, 0)) (by (with_reducible repeat (first | refine blk_drewN ?_ _ | refine blk_drew ?_ | refine blk_alloc ?_ _)); exact BK228.out) hb)
    have n3_ := Aside0.mk (blk_below (g := V2.heap.size) (o := .cells #[.int .i64 t230, .int .i64 t231, .int .i64 t232, .int .i64 t233] 29 (0, 0)) (by (with_reducible repeat (first | refine blk_drewN ?_ _ | refine blk_drew ?_ | refine blk_alloc ?_ _)); exact BK234.out) hb)
    have n4_ := Aside0.mk (blk_below (g := V3.heap.size) (o := .cells #[.int .i64 t235, .int .i64 t236, .int .i64 t237, .int .i64 t238] 29 (0, 0)) (by (with_reducible repeat (first | refine blk_drewN ?_ _ | refine blk_drew ?_ | refine blk_alloc ?_ _)); exact BK239.out) hb)
    have n5_ := Aside0.mk (below_step (by repeat (first | (with_reducible first | exact HB.out | apply below_alloc | apply pw_below_drewN | apply below_drew1 | refine below_set ?_ GE209.out | refine below_set ?_ GE210.out | refine below_set ?_ GE228.out | refine below_set ?_ GE234.out | refine below_set ?_ GE239.out) | exact HB.out)) hb)
    clear BK209
    clear BK210
    clear BK228
    clear BK234
    clear BK239
    clear HB
    have BK209 := n0_
    have BK210 := n1_
    have BK228 := n2_
    have BK234 := n3_
    have BK239 := n4_
    have HB := n5_
    clear n0_ n1_ n2_ n3_ n4_ n5_
    (try clear hb)
    (try clear hb2)
    (try clear hk)
    (try clear hi)
    refine hK.out _ _ ⟨(blk_cell BK234.out 0).trans rfl, (blk_cell BK234.out 1).trans rfl, (blk_cell BK234.out 2).trans rfl, (blk_cell BK234.out 3).trans rfl, (blk_cell BK210.out 0).trans rfl, (blk_cell BK210.out 1).trans rfl, (blk_cell BK210.out 2).trans rfl, (blk_cell BK210.out 3).trans rfl, (blk_cell BK209.out 0).trans rfl, (blk_cell BK209.out 1).trans rfl, (blk_cell BK209.out 2).trans rfl, (blk_cell BK209.out 3).trans rfl⟩ (fun hHeld => ?_)
    clear hK K
    refine norm_ (a' := ?_) ?_ ?_
    rotate_left
    · show Act.put _ (some 59) _ = _
      simp only [Act.put, List.setIfInBounds_toArray, List.set_cons_zero, List.set_cons_succ, i64_w, i32_w]
      rfl
    refine pure_ (i := 17) (N := some 60) (v := ?_) (a' := ?_) #[true, true, true, true, true, true, true, true, true, true, true, true, true, true, true, true, true, true, false, false, false, false, false, false, false, false, false, false, false] rfl rfl (any_of HT_.out (by kernel_rfl)) (fun _ _ _ h => h) (Or.inl ⟨by rfl, ?_⟩) ?_ ?_
    rotate_left
    · intro w'
      go_simp
      with_reducible rfl
    rotate_left
    · simp only [Act.put, List.setIfInBounds_toArray, List.set_cons_zero, List.set_cons_succ, i64_w, i32_w]
      rfl
    refine pure_ (i := 18) (N := some 61) (v := ?_) (a' := ?_) #[true, true, true, true, true, true, true, true, true, true, true, true, true, true, true, true, true, true, true, false, false, false, false, false, false, false, false, false, false] rfl rfl (any_of HT_.out (by kernel_rfl)) (fun _ _ _ h => h) (Or.inl ⟨by rfl, ?_⟩) ?_ ?_
    rotate_left
    · intro w'
      go_simp
      with_reducible rfl
    rotate_left
    · simp only [Act.put, List.setIfInBounds_toArray, List.set_cons_zero, List.set_cons_succ, i64_w, i32_w]
      rfl
    refine pure_ (i := 19) (N := some 62) (v := ?_) (a' := ?_) #[true, true, true, true, true, true, true, true, true, true, true, true, true, true, true, true, true, true, true, true, false, false, false, false, false, false, false, false, false] rfl rfl (any_of HT_.out (by kernel_rfl)) (fun _ _ _ h => h) (Or.inl ⟨by rfl, ?_⟩) ?_ ?_
    rotate_left
    · intro w'
      go_simp
      with_reducible rfl
    rotate_left
    · simp only [Act.put, List.setIfInBounds_toArray, List.set_cons_zero, List.set_cons_succ, i64_w, i32_w]
      rfl
    refine pure_ (i := 20) (N := some 63) (v := ?_) (a' := ?_) #[true, true, true, true, true, true, true, true, true, true, true, true, true, true, true, true, true, true, true, true, true, false, false, false, false, false, false, false, false] rfl rfl (any_of HT_.out (by kernel_rfl)) (fun _ _ _ h => h) (Or.inl ⟨by rfl, ?_⟩) ?_ ?_
    rotate_left
    · intro w'
      go_simp
      with_reducible rfl
    rotate_left
    · simp only [Act.put, List.setIfInBounds_toArray, List.set_cons_zero, List.set_cons_succ, i64_w, i32_w]
      rfl
    refine pure_ (i := 22) (N := some 65) (v := ?_) (a' := ?_) #[true, true, true, true, true, true, true, true, true, true, true, true, true, true, true, true, true, true, true, true, true, false, true, false, false, false, false, false, false] rfl rfl (any_of HT_.out (by kernel_rfl)) (fun _ _ _ h => h) (Or.inl ⟨by rfl, ?_⟩) ?_ ?_
    rotate_left
    · intro w'
      go_simp
      with_reducible rfl
    rotate_left
    · simp only [Act.put, List.setIfInBounds_toArray, List.set_cons_zero, List.set_cons_succ, i64_w, i32_w]
      rfl
    refine pure_ (i := 24) (N := some 67) (v := ?_) (a' := ?_) #[true, true, true, true, true, true, true, true, true, true, true, true, true, true, true, true, true, true, true, true, true, false, true, false, true, false, false, false, false] rfl rfl (any_of HT_.out (by kernel_rfl)) (fun _ _ _ h => h) (Or.inl ⟨by rfl, ?_⟩) ?_ ?_
    rotate_left
    · intro w'
      go_simp
      with_reducible rfl
    rotate_left
    · simp only [Act.put, List.setIfInBounds_toArray, List.set_cons_zero, List.set_cons_succ, i64_w, i32_w]
      rfl
    refine take_ (i := 21) (N := some 64) (v := ?_) (a' := ?_) #[true, true, true, true, true, true, true, true, true, true, true, true, true, true, true, true, true, true, true, true, true, true, true, false, true, false, false, false, false] rfl rfl (take_ofW HT_.out HW_.out (by kernel_rfl)) (fun _ _ _ h => h) (Or.inl ⟨by rfl, ?_⟩) hHeld ?_ ?_
    rotate_left
    · rintro w' ⟨s0, s1, s2, s3, s4, s5, s6, s7, s8, s9, s10, s11⟩
      go_simp
      with_reducible rfl
    rotate_left
    · simp only [Act.put, List.setIfInBounds_toArray, List.set_cons_zero, List.set_cons_succ, i64_w, i32_w]
      rfl
    refine take_ (i := 23) (N := some 66) (v := ?_) (a' := ?_) #[true, true, true, true, true, true, true, true, true, true, true, true, true, true, true, true, true, true, true, true, true, true, true, true, true, false, false, false, false] rfl rfl (take_ofW HT_.out HW_.out (by kernel_rfl)) (fun _ _ _ h => h) (Or.inl ⟨by rfl, ?_⟩) hHeld ?_ ?_
    rotate_left
    · rintro w' ⟨s0, s1, s2, s3, s4, s5, s6, s7, s8, s9, s10, s11⟩
      go_simp
      with_reducible rfl
    rotate_left
    · simp only [Act.put, List.setIfInBounds_toArray, List.set_cons_zero, List.set_cons_succ, i64_w, i32_w]
      rfl
    refine take_ (i := 25) (N := some 68) (v := ?_) (a' := ?_) #[true, true, true, true, true, true, true, true, true, true, true, true, true, true, true, true, true, true, true, true, true, true, true, true, true, true, false, false, false] rfl rfl (take_ofW HT_.out HW_.out (by kernel_rfl)) (fun _ _ _ h => h) (Or.inl ⟨by rfl, ?_⟩) hHeld ?_ ?_
    rotate_left
    · rintro w' ⟨s0, s1, s2, s3, s4, s5, s6, s7, s8, s9, s10, s11⟩
      go_simp
      with_reducible rfl
    rotate_left
    · simp only [Act.put, List.setIfInBounds_toArray, List.set_cons_zero, List.set_cons_succ, i64_w, i32_w]
      rfl
    refine one_ (i := 26) (N := some 69) #[true, true, true, true, true, true, true, true, true, true, true, true, true, true, true, true, true, true, true, true, true, true, true, true, true, true, true, false, false] rfl rfl (one_of HT_.out (by kernel_rfl)) (by decide) (fun K hK => ?_)
    refine goes_ Try.func20 (by kernel_rfl) rfl #[.int .i64 a0_0, .int .i64 a1_1] (by rfl) rfl rfl (by (try simp only [List.map_toArray, List.map_cons, List.map_nil]); first | done | rfl | (simp only [List.length_drop, List.length_take]; rfl)) ?_
    with_reducible refine (fixed_Mul.calls 40 a0_0 a1_1 t243 _ A38.out).mono ?_
    rintro e w44 ⟨rfl, hb⟩
    refine ⟨_, rfl, ?_⟩
    have n0_ := Aside0.mk (blk_below (g := w.heap.size) (o := .cells #[.int .i64 a0_0, .int .i64 a0_1, .int .i64 a0_2, .int .i64 a0_3] 40 (0, 0)) (by (with_reducible repeat (first | refine blk_drewN ?_ _ | refine blk_drew ?_ | refine blk_alloc ?_ _)); exact BK209.out) hb)
    have n1_ := Aside0.mk (blk_below (g := w.heap.size + 1) (o := .cells #[.int .i64 a1_0, .int .i64 a1_1, .int .i64 a1_2, .int .i64 a1_3] 29 (0, 0)) (by (with_reducible repeat (first | refine blk_drewN ?_ _ | refine blk_drew ?_ | refine blk_alloc ?_ _)); exact BK210.out) hb)
    have n2_ := Aside0.mk (blk_below (g := V1.heap.size) (o := .cells #[.int .i64 t211, .int .i64 t212, .int .i64 t213, .int .i64 t214, .int .i64 t215, .int .i64 t216, .int .i64 t217, .int .i64 t218, .int .i64 t219, .int .i64 t220, .int .i64 t221, .int .i64 t222, .int .i64 t223, .int .i64 t224, .int .i64 t225, .int .i64 t226] 23 (0, 0)) (by (with_reducible repeat (first | refine blk_drewN ?_ _ | refine blk_drew ?_ | refine blk_alloc ?_ _)); exact BK228.out) hb)
    have n3_ := Aside0.mk (blk_below (g := V2.heap.size) (o := .cells #[.int .i64 t230, .int .i64 t231, .int .i64 t232, .int .i64 t233] 29 (0, 0)) (by (with_reducible repeat (first | refine blk_drewN ?_ _ | refine blk_drew ?_ | refine blk_alloc ?_ _)); exact BK234.out) hb)
    have n4_ := Aside0.mk (blk_below (g := V3.heap.size) (o := .cells #[.int .i64 t235, .int .i64 t236, .int .i64 t237, .int .i64 t238] 29 (0, 0)) (by (with_reducible repeat (first | refine blk_drewN ?_ _ | refine blk_drew ?_ | refine blk_alloc ?_ _)); exact BK239.out) hb)
    have n5_ := Aside0.mk (below_step (by repeat (first | (with_reducible first | exact HB.out | apply below_alloc | apply pw_below_drewN | apply below_drew1 | refine below_set ?_ GE209.out | refine below_set ?_ GE210.out | refine below_set ?_ GE228.out | refine below_set ?_ GE234.out | refine below_set ?_ GE239.out) | exact HB.out)) hb)
    clear BK209
    clear BK210
    clear BK228
    clear BK234
    clear BK239
    clear HB
    have BK209 := n0_
    have BK210 := n1_
    have BK228 := n2_
    have BK234 := n3_
    have BK239 := n4_
    have HB := n5_
    clear n0_ n1_ n2_ n3_ n4_ n5_
    (try clear hb)
    (try clear hb2)
    (try clear hk)
    (try clear hi)
    refine hK.out _ _ ⟨(blk_cell BK234.out 0).trans rfl, (blk_cell BK234.out 1).trans rfl, (blk_cell BK234.out 2).trans rfl, (blk_cell BK234.out 3).trans rfl, (blk_cell BK210.out 0).trans rfl, (blk_cell BK210.out 1).trans rfl, (blk_cell BK210.out 2).trans rfl, (blk_cell BK210.out 3).trans rfl, (blk_cell BK209.out 0).trans rfl, (blk_cell BK209.out 1).trans rfl, (blk_cell BK209.out 2).trans rfl, (blk_cell BK209.out 3).trans rfl⟩ (fun hHeld => ?_)
    clear hK K
    refine norm_ (a' := ?_) ?_ ?_
    rotate_left
    · show Act.put _ (some 69) _ = _
      simp only [Act.put, List.setIfInBounds_toArray, List.set_cons_zero, List.set_cons_succ, i64_w, i32_w]
      rfl
    refine pure_ (i := 27) (N := some 70) (v := ?_) (a' := ?_) #[true, true, true, true, true, true, true, true, true, true, true, true, true, true, true, true, true, true, true, true, true, true, true, true, true, true, true, true, false] rfl rfl (any_of HT_.out (by kernel_rfl)) (fun _ _ _ h => h) (Or.inl ⟨by rfl, ?_⟩) ?_ ?_
    rotate_left
    · intro w'
      go_simp
      with_reducible rfl
    rotate_left
    · simp only [Act.put, List.setIfInBounds_toArray, List.set_cons_zero, List.set_cons_succ, i64_w, i32_w]
      rfl
    refine pure_ (i := 28) (N := some 71) (v := ?_) (a' := ?_) #[true, true, true, true, true, true, true, true, true, true, true, true, true, true, true, true, true, true, true, true, true, true, true, true, true, true, true, true, true] rfl rfl (any_of HT_.out (by kernel_rfl)) (fun _ _ _ h => h) (Or.inl ⟨by rfl, ?_⟩) ?_ ?_
    rotate_left
    · intro w'
      go_simp
      with_reducible rfl
    rotate_left
    · simp only [Act.put, List.setIfInBounds_toArray, List.set_cons_zero, List.set_cons_succ, i64_w, i32_w]
      rfl
    refine done_ (done_of HT_.out (by kernel_rfl)) ?_
    try go_wp2
    go_meet
    case rel => exact ⟨congrArg Value.bool (bne_eq_false_iff_eq.mpr c44.out), ⟨by (with_reducible repeat (first | refine blk_drewN ?_ _ | refine blk_drew ?_ | refine blk_alloc ?_ _)); exact BK209.out⟩, ⟨by (with_reducible repeat (first | refine blk_drewN ?_ _ | refine blk_drew ?_ | refine blk_alloc ?_ _)); exact BK210.out⟩, ⟨by (with_reducible repeat (first | refine blk_drewN ?_ _ | refine blk_drew ?_ | refine blk_alloc ?_ _)); exact BK228.out⟩, ⟨by (with_reducible repeat (first | refine blk_drewN ?_ _ | refine blk_drew ?_ | refine blk_alloc ?_ _)); exact BK234.out⟩, ⟨by (with_reducible repeat (first | refine blk_drewN ?_ _ | refine blk_drew ?_ | refine blk_alloc ?_ _)); exact BK239.out⟩, ⟨by repeat (first | (with_reducible first | exact HB.out | apply below_alloc | apply pw_below_drewN | apply below_drew1) | exact HB.out)⟩⟩
  case rest =>
    clear BK209 BK210 BK228 BK234 BK239 HB c34b0 c34b1 c37b0 c37b1
    obtain ⟨rfl, BK209, BK210, BK228, BK234, BK239, HB⟩ := hcut
    have c54b0 : (t232 == t237) = true := beq_iff_eq.mpr c54.out
    have c55b0 : (t233 == t238) = true := beq_iff_eq.mpr c55.out
    have c54b1 : (t232 != t237) = false := bne_eq_false_iff_eq.mpr c54.out
    have c55b1 : (t233 != t238) = false := bne_eq_false_iff_eq.mpr c55.out
    have cp0 : wc.cell? ⟨V2.heap.size, 0, none⟩ = some (.int .i64 t230) := (blk_cell BK234.out 0).trans rfl
    have cp1 : wc.cell? ⟨V2.heap.size, 1, none⟩ = some (.int .i64 t231) := (blk_cell BK234.out 1).trans rfl
    have cp2 : wc.cell? ⟨V2.heap.size, 2, none⟩ = some (.int .i64 t232) := (blk_cell BK234.out 2).trans rfl
    have cp3 : wc.cell? ⟨V2.heap.size, 3, none⟩ = some (.int .i64 t233) := (blk_cell BK234.out 3).trans rfl
    have cq0 : wc.cell? ⟨V3.heap.size, 0, none⟩ = some (.int .i64 t235) := (blk_cell BK239.out 0).trans rfl
    have cq1 : wc.cell? ⟨V3.heap.size, 1, none⟩ = some (.int .i64 t236) := (blk_cell BK239.out 1).trans rfl
    have cq2 : wc.cell? ⟨V3.heap.size, 2, none⟩ = some (.int .i64 t237) := (blk_cell BK239.out 2).trans rfl
    have cq3 : wc.cell? ⟨V3.heap.size, 3, none⟩ = some (.int .i64 t238) := (blk_cell BK239.out 3).trans rfl
    have cm0 : wc.cell? ⟨V1.heap.size, 0, none⟩ = some (.int .i64 t211) := (blk_cell BK228.out 0).trans rfl
    have cm1 : wc.cell? ⟨V1.heap.size, 1, none⟩ = some (.int .i64 t212) := (blk_cell BK228.out 1).trans rfl
    have cm2 : wc.cell? ⟨V1.heap.size, 2, none⟩ = some (.int .i64 t213) := (blk_cell BK228.out 2).trans rfl
    have cm3 : wc.cell? ⟨V1.heap.size, 3, none⟩ = some (.int .i64 t214) := (blk_cell BK228.out 3).trans rfl
    have cm4 : wc.cell? ⟨V1.heap.size, 4, none⟩ = some (.int .i64 t215) := (blk_cell BK228.out 4).trans rfl
    have cm5 : wc.cell? ⟨V1.heap.size, 5, none⟩ = some (.int .i64 t216) := (blk_cell BK228.out 5).trans rfl
    have cm6 : wc.cell? ⟨V1.heap.size, 6, none⟩ = some (.int .i64 t217) := (blk_cell BK228.out 6).trans rfl
    have cm7 : wc.cell? ⟨V1.heap.size, 7, none⟩ = some (.int .i64 t218) := (blk_cell BK228.out 7).trans rfl
    have cm8 : wc.cell? ⟨V1.heap.size, 8, none⟩ = some (.int .i64 t219) := (blk_cell BK228.out 8).trans rfl
    have cm9 : wc.cell? ⟨V1.heap.size, 9, none⟩ = some (.int .i64 t220) := (blk_cell BK228.out 9).trans rfl
    have cm10 : wc.cell? ⟨V1.heap.size, 10, none⟩ = some (.int .i64 t221) := (blk_cell BK228.out 10).trans rfl
    have cm11 : wc.cell? ⟨V1.heap.size, 11, none⟩ = some (.int .i64 t222) := (blk_cell BK228.out 11).trans rfl
    have cm12 : wc.cell? ⟨V1.heap.size, 12, none⟩ = some (.int .i64 t223) := (blk_cell BK228.out 12).trans rfl
    have cm13 : wc.cell? ⟨V1.heap.size, 13, none⟩ = some (.int .i64 t224) := (blk_cell BK228.out 13).trans rfl
    have cm14 : wc.cell? ⟨V1.heap.size, 14, none⟩ = some (.int .i64 t225) := (blk_cell BK228.out 14).trans rfl
    have cm15 : wc.cell? ⟨V1.heap.size, 15, none⟩ = some (.int .i64 t226) := (blk_cell BK228.out 15).trans rfl
    go_wp2_with (first | (go_at_call 21; (with_reducible refine (matrix_Row.calls t211 t212 t213 t214 t215 t216 t217 t218 t219 t220 t221 t222 t223 t224 t225 t226 3 0 0 65536 0 _ h56.out).mono ?_); rintro e w71 ⟨rfl, hb5⟩; have HB2 := below_step HB.out hb5) | (go_at_call 16; (with_reducible refine (frustumlaw04_example.calls 40 true _ hex.out).mono ?_); rintro e W6 ⟨rfl, hb6⟩))
    go_ret
    exact ⟨rfl, below_step HB2 hb6⟩
theorem perspective_walk (a0_0 : Int) (a0_1 : Int) (a0_2 : Int) (a0_3 : Int) (a1_0 : Int) (a1_1 : Int) (a1_2 : Int) (a1_3 : Int) (w : World) : Calls Try.prog 8 #[.agg #[.int .i64 a0_0, .int .i64 a0_1, .int .i64 a0_2, .int .i64 a0_3], .agg #[.int .i64 a1_0, .int .i64 a1_1, .int .i64 a1_2, .int .i64 a1_3]] w fun e w' => e = .returned (.bool true) ∧ Below w.heap.size w w' := by
  rcases persp_val (k := 40) (by decide) a0_0 a0_1 a0_2 a0_3 with ⟨g, n⟩ | ⟨g, n⟩
  · exact bad_walk _ _ _ _ _ _ _ _ g w
  · refine good_walk a0_0 a0_1 a0_2 a0_3 a1_0 a1_1 a1_2 a1_3 _ _ _ _ _ _ _ _ _ _ _ _ _ _ _ _ _ _ _ _ _ _ _ _ _ _ _ _ g (E_Apply (by decide) _ _ _ _ _ _ _ _ _ _ _ _ _ _ _ _ _ _ _ _) (E_Apply (by decide) _ _ _ _ _ _ _ _ _ _ _ _ _ _ _ _ _ _ _ _) (E_limited _) (E_Div (by decide) _ _) (E_Mul (by decide) _ _) (E_Mul (by decide) _ _) ?_ ?_ ?_ ?_ ?_ rfl w
    · exact dot_one2 _ _ _ _
    · exact dot_one0 _ _ _ _ _
    · exact dot_one1 _ _ _ _ _
    · exact dot_swap _ _ _ _ _ _
    · exact (dot_one2 _ _ _ _).trans (dot_one2 _ _ _ _).symm
end Go.Proofs.Ytmofipnpnepfaaa.PMatrixPerspective
