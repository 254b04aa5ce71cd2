/- Written by a program of this session for this claim: Lean functions that tell what Go functions of the program return, each with a proof of that over the program's text; no condition beyond those that each theorem states. -/
import Derived.Test.YtmofipnpnepfaaaPMatrixIdentityx0
namespace Go.Proofs.Ytmofipnpnepfaaa.PMatrixIdentity
open Go.RowKit Go.Proofs.YtmofipnpnepfaaaW.PrintWords Go.Proofs.YtmofipnpnepfaaaW.PrintLast Go.Proofs.YtmofipnpnepfaaaW.PrintMore
attribute [local go_sem] max2_int min2_int max_two min_two max_three min_three max_four min_four   -- for this text's walks alone
set_option linter.unusedVariables false
set_option linter.unusedSimpArgs false

/-! ### matrix_Row: function 21 -/
def matrix_Row.f (a0_0 : Int) (a0_1 : Int) (a0_2 : Int) (a0_3 : Int) (a0_4 : Int) (a0_5 : Int) (a0_6 : Int) (a0_7 : Int) (a0_8 : Int) (a0_9 : Int) (a0_10 : Int) (a0_11 : Int) (a0_12 : Int) (a0_13 : Int) (a0_14 : Int) (a0_15 : Int) (a1 : Int) : Option (Int × Int × Int × Int) := some (if a1 = 0 then (a0_0, a0_1, a0_2, a0_3) else if a1 = 1 then (a0_4, a0_5, a0_6, a0_7) else if a1 = 2 then (a0_8, a0_9, a0_10, a0_11) else if a1 = 3 then (a0_12, a0_13, a0_14, a0_15) else (0, 0, 0, 0))
set_option maxHeartbeats 8000000 in
set_option maxRecDepth 100000 in
theorem matrix_Row.calls (a0_0 : Int) (a0_1 : Int) (a0_2 : Int) (a0_3 : Int) (a0_4 : Int) (a0_5 : Int) (a0_6 : Int) (a0_7 : Int) (a0_8 : Int) (a0_9 : Int) (a0_10 : Int) (a0_11 : Int) (a0_12 : Int) (a0_13 : Int) (a0_14 : Int) (a0_15 : Int) (a1 : Int) (r1 : Int) (r2 : Int) (r3 : Int) (r4 : Int) (w : World) (h : matrix_Row.f a0_0 a0_1 a0_2 a0_3 a0_4 a0_5 a0_6 a0_7 a0_8 a0_9 a0_10 a0_11 a0_12 a0_13 a0_14 a0_15 a1 = some (r1, r2, r3, r4)) :
    Calls Try.prog 21 #[.agg #[.int .i64 a0_0, .int .i64 a0_1, .int .i64 a0_2, .int .i64 a0_3, .int .i64 a0_4, .int .i64 a0_5, .int .i64 a0_6, .int .i64 a0_7, .int .i64 a0_8, .int .i64 a0_9, .int .i64 a0_10, .int .i64 a0_11, .int .i64 a0_12, .int .i64 a0_13, .int .i64 a0_14, .int .i64 a0_15], .int .i64 a1] w fun e w' => e = .returned (.agg #[.int .i64 r1, .int .i64 r2, .int .i64 r3, .int .i64 r4]) ∧ Below w.heap.size w w' := by
  unfold matrix_Row.f at h
  have hu23 := Try.underlying23
  have hu29 := Try.underlying29
  by_cases c0 : a1 = 0
  · rw [if_pos c0] at h
    simp only [Option.some.injEq, Prod.mk.injEq] at h
    obtain ⟨rfl, rfl, rfl, rfl⟩ := h
    subst c0
    have e0 : IntKind.i64.wrap 0 = 0 := by decide +kernel
    have e1 : IntKind.i64.wrap 1 = 1 := by decide +kernel
    have e2 : IntKind.i64.wrap 2 = 2 := by decide +kernel
    have e3 : IntKind.i64.wrap 3 = 3 := by decide +kernel
    go_enter Try.func21, Try.ntmps21
    go_wp2
    generalize hW : (w.alloc (.cells #[.int .i64 a0_0, .int .i64 a0_1, .int .i64 a0_2, .int .i64 a0_3, .int .i64 a0_4, .int .i64 a0_5, .int .i64 a0_6, .int .i64 a0_7, .int .i64 a0_8, .int .i64 a0_9, .int .i64 a0_10, .int .i64 a0_11, .int .i64 a0_12, .int .i64 a0_13, .int .i64 a0_14, .int .i64 a0_15] 23)).alloc (.cells #[.int .i64 0, .int .i64 0, .int .i64 0, .int .i64 0] 29) = W2
    have hb1 : W2.heap[w.heap.size]? = some (.cells #[.int .i64 a0_0, .int .i64 a0_1, .int .i64 a0_2, .int .i64 a0_3, .int .i64 a0_4, .int .i64 a0_5, .int .i64 a0_6, .int .i64 a0_7, .int .i64 a0_8, .int .i64 a0_9, .int .i64 a0_10, .int .i64 a0_11, .int .i64 a0_12, .int .i64 a0_13, .int .i64 a0_14, .int .i64 a0_15] 23 (0, 0)) := by rw [← hW]; exact blk_alloc (MapKept.heap_alloc w _).1 _
    have hb2 : W2.heap[w.heap.size + 1]? = some (.cells #[.int .i64 0, .int .i64 0, .int .i64 0, .int .i64 0] 29 (0, 0)) := by rw [← hW]; have := (MapKept.heap_alloc (w.alloc (.cells #[.int .i64 a0_0, .int .i64 a0_1, .int .i64 a0_2, .int .i64 a0_3, .int .i64 a0_4, .int .i64 a0_5, .int .i64 a0_6, .int .i64 a0_7, .int .i64 a0_8, .int .i64 a0_9, .int .i64 a0_10, .int .i64 a0_11, .int .i64 a0_12, .int .i64 a0_13, .int .i64 a0_14, .int .i64 a0_15] 23)) (.cells #[.int .i64 0, .int .i64 0, .int .i64 0, .int .i64 0] 29)).1; simpa using this
    have hbel : Below w.heap.size w W2 := by rw [← hW]; exact ((Below.refl w.heap.size w).alloc (Nat.le_refl _) _).alloc (by simp) _
    clear hW
    have hdr : ∀ (W : World) (n : Nat) (ad : Addr), ({ W with drawn := n } : World).cell? ad = W.cell? ad := fun _ _ _ => rfl
    have hc0 : W2.cell? ⟨w.heap.size, 0, none⟩ = some (.int .i64 a0_0) := (blk_cell hb1 0).trans rfl
    have hc1 : W2.cell? ⟨w.heap.size, 1, none⟩ = some (.int .i64 a0_1) := (blk_cell hb1 1).trans rfl
    have hc2 : W2.cell? ⟨w.heap.size, 2, none⟩ = some (.int .i64 a0_2) := (blk_cell hb1 2).trans rfl
    have hc3 : W2.cell? ⟨w.heap.size, 3, none⟩ = some (.int .i64 a0_3) := (blk_cell hb1 3).trans rfl
    go_still_tail 20, (by kernel_rfl)
    change wpList _ _ _ _ _ W2.drew
    have hb3 : W2.drew.heap[w.heap.size + 1]? = some (.cells #[.int .i64 0, .int .i64 0, .int .i64 0, .int .i64 0] 29 (0, 0)) := hb2
    have hbel3 : Below w.heap.size w W2.drew := below_drew hbel
    generalize W2.drew = W3 at *
    clear hb1 hb2 hbel
    have hz0 : W3.cell? ⟨w.heap.size + 1, 0, none⟩ = some (.int .i64 0) := (blk_cell hb3 0).trans rfl
    have hz1 : W3.cell? ⟨w.heap.size + 1, 1, none⟩ = some (.int .i64 0) := (blk_cell hb3 1).trans rfl
    have hz2 : W3.cell? ⟨w.heap.size + 1, 2, none⟩ = some (.int .i64 0) := (blk_cell hb3 2).trans rfl
    have hz3 : W3.cell? ⟨w.heap.size + 1, 3, none⟩ = some (.int .i64 0) := (blk_cell hb3 3).trans rfl
    have hf0 : W3.frozen? ⟨w.heap.size + 1, 0, none⟩ = false := blk_frozen hb3 0
    have hf1 : W3.frozen? ⟨w.heap.size + 1, 1, none⟩ = false := blk_frozen hb3 1
    have hf2 : W3.frozen? ⟨w.heap.size + 1, 2, none⟩ = false := blk_frozen hb3 2
    have hf3 : W3.frozen? ⟨w.heap.size + 1, 3, none⟩ = false := blk_frozen hb3 3
    go_wp2
    refine bodyPost_ret (results_cell_row rfl _ _ (w.heap.size + 1) 29 #[.int .i64 a0_0, .int .i64 a0_1, .int .i64 a0_2, .int .i64 a0_3] (0, 0) _ rfl (by refine blk_put (cs := #[.int .i64 a0_0, .int .i64 a0_1, .int .i64 a0_2, .int .i64 0]) ?_ 3 _ rfl; refine blk_put (cs := #[.int .i64 a0_0, .int .i64 a0_1, .int .i64 0, .int .i64 0]) ?_ 2 _ rfl; refine blk_put (cs := #[.int .i64 a0_0, .int .i64 0, .int .i64 0, .int .i64 0]) ?_ 1 _ rfl; refine blk_put (cs := #[.int .i64 0, .int .i64 0, .int .i64 0, .int .i64 0]) ?_ 0 _ rfl; exact hb3) hu29 rfl (by kernel_rfl)) rfl ?_
    exact ⟨rfl, by refine below_set ?_ (Nat.le_succ _); refine below_set ?_ (Nat.le_succ _); refine below_set ?_ (Nat.le_succ _); refine below_set ?_ (Nat.le_succ _); exact hbel3⟩
  rw [if_neg c0] at h
  by_cases c1 : a1 = 1
  · rw [if_pos c1] at h
    simp only [Option.some.injEq, Prod.mk.injEq] at h
    obtain ⟨rfl, rfl, rfl, rfl⟩ := h
    subst c1
    have e4 : IntKind.i64.wrap 4 = 4 := by decide +kernel
    have e5 : IntKind.i64.wrap 5 = 5 := by decide +kernel
    have e6 : IntKind.i64.wrap 6 = 6 := by decide +kernel
    have e7 : IntKind.i64.wrap 7 = 7 := by decide +kernel
    go_enter Try.func21, Try.ntmps21
    go_wp2
    generalize hW : (w.alloc (.cells #[.int .i64 a0_0, .int .i64 a0_1, .int .i64 a0_2, .int .i64 a0_3, .int .i64 a0_4, .int .i64 a0_5, .int .i64 a0_6, .int .i64 a0_7, .int .i64 a0_8, .int .i64 a0_9, .int .i64 a0_10, .int .i64 a0_11, .int .i64 a0_12, .int .i64 a0_13, .int .i64 a0_14, .int .i64 a0_15] 23)).alloc (.cells #[.int .i64 0, .int .i64 0, .int .i64 0, .int .i64 0] 29) = W2
    have hb1 : W2.heap[w.heap.size]? = some (.cells #[.int .i64 a0_0, .int .i64 a0_1, .int .i64 a0_2, .int .i64 a0_3, .int .i64 a0_4, .int .i64 a0_5, .int .i64 a0_6, .int .i64 a0_7, .int .i64 a0_8, .int .i64 a0_9, .int .i64 a0_10, .int .i64 a0_11, .int .i64 a0_12, .int .i64 a0_13, .int .i64 a0_14, .int .i64 a0_15] 23 (0, 0)) := by rw [← hW]; exact blk_alloc (MapKept.heap_alloc w _).1 _
    have hb2 : W2.heap[w.heap.size + 1]? = some (.cells #[.int .i64 0, .int .i64 0, .int .i64 0, .int .i64 0] 29 (0, 0)) := by rw [← hW]; have := (MapKept.heap_alloc (w.alloc (.cells #[.int .i64 a0_0, .int .i64 a0_1, .int .i64 a0_2, .int .i64 a0_3, .int .i64 a0_4, .int .i64 a0_5, .int .i64 a0_6, .int .i64 a0_7, .int .i64 a0_8, .int .i64 a0_9, .int .i64 a0_10, .int .i64 a0_11, .int .i64 a0_12, .int .i64 a0_13, .int .i64 a0_14, .int .i64 a0_15] 23)) (.cells #[.int .i64 0, .int .i64 0, .int .i64 0, .int .i64 0] 29)).1; simpa using this
    have hbel : Below w.heap.size w W2 := by rw [← hW]; exact ((Below.refl w.heap.size w).alloc (Nat.le_refl _) _).alloc (by simp) _
    clear hW
    have hdr : ∀ (W : World) (n : Nat) (ad : Addr), ({ W with drawn := n } : World).cell? ad = W.cell? ad := fun _ _ _ => rfl
    have hc4 : W2.cell? ⟨w.heap.size, 4, none⟩ = some (.int .i64 a0_4) := (blk_cell hb1 4).trans rfl
    have hc5 : W2.cell? ⟨w.heap.size, 5, none⟩ = some (.int .i64 a0_5) := (blk_cell hb1 5).trans rfl
    have hc6 : W2.cell? ⟨w.heap.size, 6, none⟩ = some (.int .i64 a0_6) := (blk_cell hb1 6).trans rfl
    have hc7 : W2.cell? ⟨w.heap.size, 7, none⟩ = some (.int .i64 a0_7) := (blk_cell hb1 7).trans rfl
    go_still_tail 20, (by kernel_rfl)
    change wpList _ _ _ _ _ W2.drew
    have hb3 : W2.drew.heap[w.heap.size + 1]? = some (.cells #[.int .i64 0, .int .i64 0, .int .i64 0, .int .i64 0] 29 (0, 0)) := hb2
    have hbel3 : Below w.heap.size w W2.drew := below_drew hbel
    generalize W2.drew = W3 at *
    clear hb1 hb2 hbel
    have hz0 : W3.cell? ⟨w.heap.size + 1, 0, none⟩ = some (.int .i64 0) := (blk_cell hb3 0).trans rfl
    have hz1 : W3.cell? ⟨w.heap.size + 1, 1, none⟩ = some (.int .i64 0) := (blk_cell hb3 1).trans rfl
    have hz2 : W3.cell? ⟨w.heap.size + 1, 2, none⟩ = some (.int .i64 0) := (blk_cell hb3 2).trans rfl
    have hz3 : W3.cell? ⟨w.heap.size + 1, 3, none⟩ = some (.int .i64 0) := (blk_cell hb3 3).trans rfl
    have hf0 : W3.frozen? ⟨w.heap.size + 1, 0, none⟩ = false := blk_frozen hb3 0
    have hf1 : W3.frozen? ⟨w.heap.size + 1, 1, none⟩ = false := blk_frozen hb3 1
    have hf2 : W3.frozen? ⟨w.heap.size + 1, 2, none⟩ = false := blk_frozen hb3 2
    have hf3 : W3.frozen? ⟨w.heap.size + 1, 3, none⟩ = false := blk_frozen hb3 3
    go_wp2
    refine bodyPost_ret (results_cell_row rfl _ _ (w.heap.size + 1) 29 #[.int .i64 a0_4, .int .i64 a0_5, .int .i64 a0_6, .int .i64 a0_7] (0, 0) _ rfl (by refine blk_put (cs := #[.int .i64 a0_4, .int .i64 a0_5, .int .i64 a0_6, .int .i64 0]) ?_ 3 _ rfl; refine blk_put (cs := #[.int .i64 a0_4, .int .i64 a0_5, .int .i64 0, .int .i64 0]) ?_ 2 _ rfl; refine blk_put (cs := #[.int .i64 a0_4, .int .i64 0, .int .i64 0, .int .i64 0]) ?_ 1 _ rfl; refine blk_put (cs := #[.int .i64 0, .int .i64 0, .int .i64 0, .int .i64 0]) ?_ 0 _ rfl; exact hb3) hu29 rfl (by kernel_rfl)) rfl ?_
    exact ⟨rfl, by refine below_set ?_ (Nat.le_succ _); refine below_set ?_ (Nat.le_succ _); refine below_set ?_ (Nat.le_succ _); refine below_set ?_ (Nat.le_succ _); exact hbel3⟩
  rw [if_neg c1] at h
  by_cases c2 : a1 = 2
  · rw [if_pos c2] at h
    simp only [Option.some.injEq, Prod.mk.injEq] at h
    obtain ⟨rfl, rfl, rfl, rfl⟩ := h
    subst c2
    have e8 : IntKind.i64.wrap 8 = 8 := by decide +kernel
    have e9 : IntKind.i64.wrap 9 = 9 := by decide +kernel
    have e10 : IntKind.i64.wrap 10 = 10 := by decide +kernel
    have e11 : IntKind.i64.wrap 11 = 11 := by decide +kernel
    go_enter Try.func21, Try.ntmps21
    go_wp2
    generalize hW : (w.alloc (.cells #[.int .i64 a0_0, .int .i64 a0_1, .int .i64 a0_2, .int .i64 a0_3, .int .i64 a0_4, .int .i64 a0_5, .int .i64 a0_6, .int .i64 a0_7, .int .i64 a0_8, .int .i64 a0_9, .int .i64 a0_10, .int .i64 a0_11, .int .i64 a0_12, .int .i64 a0_13, .int .i64 a0_14, .int .i64 a0_15] 23)).alloc (.cells #[.int .i64 0, .int .i64 0, .int .i64 0, .int .i64 0] 29) = W2
    have hb1 : W2.heap[w.heap.size]? = some (.cells #[.int .i64 a0_0, .int .i64 a0_1, .int .i64 a0_2, .int .i64 a0_3, .int .i64 a0_4, .int .i64 a0_5, .int .i64 a0_6, .int .i64 a0_7, .int .i64 a0_8, .int .i64 a0_9, .int .i64 a0_10, .int .i64 a0_11, .int .i64 a0_12, .int .i64 a0_13, .int .i64 a0_14, .int .i64 a0_15] 23 (0, 0)) := by rw [← hW]; exact blk_alloc (MapKept.heap_alloc w _).1 _
    have hb2 : W2.heap[w.heap.size + 1]? = some (.cells #[.int .i64 0, .int .i64 0, .int .i64 0, .int .i64 0] 29 (0, 0)) := by rw [← hW]; have := (MapKept.heap_alloc (w.alloc (.cells #[.int .i64 a0_0, .int .i64 a0_1, .int .i64 a0_2, .int .i64 a0_3, .int .i64 a0_4, .int .i64 a0_5, .int .i64 a0_6, .int .i64 a0_7, .int .i64 a0_8, .int .i64 a0_9, .int .i64 a0_10, .int .i64 a0_11, .int .i64 a0_12, .int .i64 a0_13, .int .i64 a0_14, .int .i64 a0_15] 23)) (.cells #[.int .i64 0, .int .i64 0, .int .i64 0, .int .i64 0] 29)).1; simpa using this
    have hbel : Below w.heap.size w W2 := by rw [← hW]; exact ((Below.refl w.heap.size w).alloc (Nat.le_refl _) _).alloc (by simp) _
    clear hW
    have hdr : ∀ (W : World) (n : Nat) (ad : Addr), ({ W with drawn := n } : World).cell? ad = W.cell? ad := fun _ _ _ => rfl
    have hc8 : W2.cell? ⟨w.heap.size, 8, none⟩ = some (.int .i64 a0_8) := (blk_cell hb1 8).trans rfl
    have hc9 : W2.cell? ⟨w.heap.size, 9, none⟩ = some (.int .i64 a0_9) := (blk_cell hb1 9).trans rfl
    have hc10 : W2.cell? ⟨w.heap.size, 10, none⟩ = some (.int .i64 a0_10) := (blk_cell hb1 10).trans rfl
    have hc11 : W2.cell? ⟨w.heap.size, 11, none⟩ = some (.int .i64 a0_11) := (blk_cell hb1 11).trans rfl
    go_still_tail 20, (by kernel_rfl)
    change wpList _ _ _ _ _ W2.drew
    have hb3 : W2.drew.heap[w.heap.size + 1]? = some (.cells #[.int .i64 0, .int .i64 0, .int .i64 0, .int .i64 0] 29 (0, 0)) := hb2
    have hbel3 : Below w.heap.size w W2.drew := below_drew hbel
    generalize W2.drew = W3 at *
    clear hb1 hb2 hbel
    have hz0 : W3.cell? ⟨w.heap.size + 1, 0, none⟩ = some (.int .i64 0) := (blk_cell hb3 0).trans rfl
    have hz1 : W3.cell? ⟨w.heap.size + 1, 1, none⟩ = some (.int .i64 0) := (blk_cell hb3 1).trans rfl
    have hz2 : W3.cell? ⟨w.heap.size + 1, 2, none⟩ = some (.int .i64 0) := (blk_cell hb3 2).trans rfl
    have hz3 : W3.cell? ⟨w.heap.size + 1, 3, none⟩ = some (.int .i64 0) := (blk_cell hb3 3).trans rfl
    have hf0 : W3.frozen? ⟨w.heap.size + 1, 0, none⟩ = false := blk_frozen hb3 0
    have hf1 : W3.frozen? ⟨w.heap.size + 1, 1, none⟩ = false := blk_frozen hb3 1
    have hf2 : W3.frozen? ⟨w.heap.size + 1, 2, none⟩ = false := blk_frozen hb3 2
    have hf3 : W3.frozen? ⟨w.heap.size + 1, 3, none⟩ = false := blk_frozen hb3 3
    go_wp2
    refine bodyPost_ret (results_cell_row rfl _ _ (w.heap.size + 1) 29 #[.int .i64 a0_8, .int .i64 a0_9, .int .i64 a0_10, .int .i64 a0_11] (0, 0) _ rfl (by refine blk_put (cs := #[.int .i64 a0_8, .int .i64 a0_9, .int .i64 a0_10, .int .i64 0]) ?_ 3 _ rfl; refine blk_put (cs := #[.int .i64 a0_8, .int .i64 a0_9, .int .i64 0, .int .i64 0]) ?_ 2 _ rfl; refine blk_put (cs := #[.int .i64 a0_8, .int .i64 0, .int .i64 0, .int .i64 0]) ?_ 1 _ rfl; refine blk_put (cs := #[.int .i64 0, .int .i64 0, .int .i64 0, .int .i64 0]) ?_ 0 _ rfl; exact hb3) hu29 rfl (by kernel_rfl)) rfl ?_
    exact ⟨rfl, by refine below_set ?_ (Nat.le_succ _); refine below_set ?_ (Nat.le_succ _); refine below_set ?_ (Nat.le_succ _); refine below_set ?_ (Nat.le_succ _); exact hbel3⟩
  rw [if_neg c2] at h
  by_cases c3 : a1 = 3
  · rw [if_pos c3] at h
    simp only [Option.some.injEq, Prod.mk.injEq] at h
    obtain ⟨rfl, rfl, rfl, rfl⟩ := h
    subst c3
    have e12 : IntKind.i64.wrap 12 = 12 := by decide +kernel
    have e13 : IntKind.i64.wrap 13 = 13 := by decide +kernel
    have e14 : IntKind.i64.wrap 14 = 14 := by decide +kernel
    have e15 : IntKind.i64.wrap 15 = 15 := by decide +kernel
    go_enter Try.func21, Try.ntmps21
    go_wp2
    generalize hW : (w.alloc (.cells #[.int .i64 a0_0, .int .i64 a0_1, .int .i64 a0_2, .int .i64 a0_3, .int .i64 a0_4, .int .i64 a0_5, .int .i64 a0_6, .int .i64 a0_7, .int .i64 a0_8, .int .i64 a0_9, .int .i64 a0_10, .int .i64 a0_11, .int .i64 a0_12, .int .i64 a0_13, .int .i64 a0_14, .int .i64 a0_15] 23)).alloc (.cells #[.int .i64 0, .int .i64 0, .int .i64 0, .int .i64 0] 29) = W2
    have hb1 : W2.heap[w.heap.size]? = some (.cells #[.int .i64 a0_0, .int .i64 a0_1, .int .i64 a0_2, .int .i64 a0_3, .int .i64 a0_4, .int .i64 a0_5, .int .i64 a0_6, .int .i64 a0_7, .int .i64 a0_8, .int .i64 a0_9, .int .i64 a0_10, .int .i64 a0_11, .int .i64 a0_12, .int .i64 a0_13, .int .i64 a0_14, .int .i64 a0_15] 23 (0, 0)) := by rw [← hW]; exact blk_alloc (MapKept.heap_alloc w _).1 _
    have hb2 : W2.heap[w.heap.size + 1]? = some (.cells #[.int .i64 0, .int .i64 0, .int .i64 0, .int .i64 0] 29 (0, 0)) := by rw [← hW]; have := (MapKept.heap_alloc (w.alloc (.cells #[.int .i64 a0_0, .int .i64 a0_1, .int .i64 a0_2, .int .i64 a0_3, .int .i64 a0_4, .int .i64 a0_5, .int .i64 a0_6, .int .i64 a0_7, .int .i64 a0_8, .int .i64 a0_9, .int .i64 a0_10, .int .i64 a0_11, .int .i64 a0_12, .int .i64 a0_13, .int .i64 a0_14, .int .i64 a0_15] 23)) (.cells #[.int .i64 0, .int .i64 0, .int .i64 0, .int .i64 0] 29)).1; simpa using this
    have hbel : Below w.heap.size w W2 := by rw [← hW]; exact ((Below.refl w.heap.size w).alloc (Nat.le_refl _) _).alloc (by simp) _
    clear hW
    have hdr : ∀ (W : World) (n : Nat) (ad : Addr), ({ W with drawn := n } : World).cell? ad = W.cell? ad := fun _ _ _ => rfl
    have hc12 : W2.cell? ⟨w.heap.size, 12, none⟩ = some (.int .i64 a0_12) := (blk_cell hb1 12).trans rfl
    have hc13 : W2.cell? ⟨w.heap.size, 13, none⟩ = some (.int .i64 a0_13) := (blk_cell hb1 13).trans rfl
    have hc14 : W2.cell? ⟨w.heap.size, 14, none⟩ = some (.int .i64 a0_14) := (blk_cell hb1 14).trans rfl
    have hc15 : W2.cell? ⟨w.heap.size, 15, none⟩ = some (.int .i64 a0_15) := (blk_cell hb1 15).trans rfl
    go_still_tail 20, (by kernel_rfl)
    change wpList _ _ _ _ _ W2.drew
    have hb3 : W2.drew.heap[w.heap.size + 1]? = some (.cells #[.int .i64 0, .int .i64 0, .int .i64 0, .int .i64 0] 29 (0, 0)) := hb2
    have hbel3 : Below w.heap.size w W2.drew := below_drew hbel
    generalize W2.drew = W3 at *
    clear hb1 hb2 hbel
    have hz0 : W3.cell? ⟨w.heap.size + 1, 0, none⟩ = some (.int .i64 0) := (blk_cell hb3 0).trans rfl
    have hz1 : W3.cell? ⟨w.heap.size + 1, 1, none⟩ = some (.int .i64 0) := (blk_cell hb3 1).trans rfl
    have hz2 : W3.cell? ⟨w.heap.size + 1, 2, none⟩ = some (.int .i64 0) := (blk_cell hb3 2).trans rfl
    have hz3 : W3.cell? ⟨w.heap.size + 1, 3, none⟩ = some (.int .i64 0) := (blk_cell hb3 3).trans rfl
    have hf0 : W3.frozen? ⟨w.heap.size + 1, 0, none⟩ = false := blk_frozen hb3 0
    have hf1 : W3.frozen? ⟨w.heap.size + 1, 1, none⟩ = false := blk_frozen hb3 1
    have hf2 : W3.frozen? ⟨w.heap.size + 1, 2, none⟩ = false := blk_frozen hb3 2
    have hf3 : W3.frozen? ⟨w.heap.size + 1, 3, none⟩ = false := blk_frozen hb3 3
    go_wp2
    refine bodyPost_ret (results_cell_row rfl _ _ (w.heap.size + 1) 29 #[.int .i64 a0_12, .int .i64 a0_13, .int .i64 a0_14, .int .i64 a0_15] (0, 0) _ rfl (by refine blk_put (cs := #[.int .i64 a0_12, .int .i64 a0_13, .int .i64 a0_14, .int .i64 0]) ?_ 3 _ rfl; refine blk_put (cs := #[.int .i64 a0_12, .int .i64 a0_13, .int .i64 0, .int .i64 0]) ?_ 2 _ rfl; refine blk_put (cs := #[.int .i64 a0_12, .int .i64 0, .int .i64 0, .int .i64 0]) ?_ 1 _ rfl; refine blk_put (cs := #[.int .i64 0, .int .i64 0, .int .i64 0, .int .i64 0]) ?_ 0 _ rfl; exact hb3) hu29 rfl (by kernel_rfl)) rfl ?_
    exact ⟨rfl, by refine below_set ?_ (Nat.le_succ _); refine below_set ?_ (Nat.le_succ _); refine below_set ?_ (Nat.le_succ _); refine below_set ?_ (Nat.le_succ _); exact hbel3⟩
  rw [if_neg c3] at h
  simp only [Option.some.injEq, Prod.mk.injEq] at h
  obtain ⟨rfl, rfl, rfl, rfl⟩ := h
  have hout : a1 < 0 ∨ 3 < a1 := by omega
  have hb0 : ((w.alloc (.cells #[.int .i64 a0_0, .int .i64 a0_1, .int .i64 a0_2, .int .i64 a0_3, .int .i64 a0_4, .int .i64 a0_5, .int .i64 a0_6, .int .i64 a0_7, .int .i64 a0_8, .int .i64 a0_9, .int .i64 a0_10, .int .i64 a0_11, .int .i64 a0_12, .int .i64 a0_13, .int .i64 a0_14, .int .i64 a0_15] 23)).alloc (.cells #[.int .i64 0, .int .i64 0, .int .i64 0, .int .i64 0] 29)).heap[w.heap.size + 1]? = some (.cells #[.int .i64 0, .int .i64 0, .int .i64 0, .int .i64 0] 29 (0, 0)) := by have := (MapKept.heap_alloc (w.alloc (.cells #[.int .i64 a0_0, .int .i64 a0_1, .int .i64 a0_2, .int .i64 a0_3, .int .i64 a0_4, .int .i64 a0_5, .int .i64 a0_6, .int .i64 a0_7, .int .i64 a0_8, .int .i64 a0_9, .int .i64 a0_10, .int .i64 a0_11, .int .i64 a0_12, .int .i64 a0_13, .int .i64 a0_14, .int .i64 a0_15] 23)) (.cells #[.int .i64 0, .int .i64 0, .int .i64 0, .int .i64 0] 29)).1; simpa using this
  have hbel : Below w.heap.size w ((w.alloc (.cells #[.int .i64 a0_0, .int .i64 a0_1, .int .i64 a0_2, .int .i64 a0_3, .int .i64 a0_4, .int .i64 a0_5, .int .i64 a0_6, .int .i64 a0_7, .int .i64 a0_8, .int .i64 a0_9, .int .i64 a0_10, .int .i64 a0_11, .int .i64 a0_12, .int .i64 a0_13, .int .i64 a0_14, .int .i64 a0_15] 23)).alloc (.cells #[.int .i64 0, .int .i64 0, .int .i64 0, .int .i64 0] 29)) := ((Below.refl w.heap.size w).alloc (Nat.le_refl _) _).alloc (by simp) _
  by_cases c4 : a1 < 0
  · go_enter Try.func21, Try.ntmps21
    go_wp2
    refine bodyPost_ret (results_cell_row rfl _ _ (w.heap.size + 1) 29 #[.int .i64 0, .int .i64 0, .int .i64 0, .int .i64 0] (0, 0) _ rfl hb0 hu29 rfl (by kernel_rfl)) rfl ?_
    exact ⟨rfl, hbel⟩
  · have c5 : 3 < a1 := by omega
    go_enter Try.func21, Try.ntmps21
    go_wp2
    refine bodyPost_ret (results_cell_row rfl _ _ (w.heap.size + 1) 29 #[.int .i64 0, .int .i64 0, .int .i64 0, .int .i64 0] (0, 0) _ rfl hb0 hu29 rfl (by kernel_rfl)) rfl ?_
    exact ⟨rfl, hbel⟩

end Go.Proofs.Ytmofipnpnepfaaa.PMatrixIdentity
