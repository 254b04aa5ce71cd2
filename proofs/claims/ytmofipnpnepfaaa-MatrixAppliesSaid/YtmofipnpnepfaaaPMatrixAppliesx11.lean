/- Written by a program of this session for this claim: Lean functions that tell what Go functions of the program return, each with a proof of that over the program's text; no condition beyond those that each theorem states. -/
import Derived.Test.YtmofipnpnepfaaaPMatrixAppliesx0
namespace Go.Proofs.Ytmofipnpnepfaaa.PMatrixApplies
open Go.RowKit Go.Proofs.YtmofipnpnepfaaaW.PrintWords Go.Proofs.YtmofipnpnepfaaaW.PrintLast Go.Proofs.YtmofipnpnepfaaaW.PrintMore
attribute [local go_sem] max2_int min2_int max_two min_two max_three min_three max_four min_four   -- for this text's walks alone
set_option linter.unusedVariables false
set_option linter.unusedSimpArgs false

/-! ### frustumref04_element: function 39 -/
def frustumref04_element.f (a0_0 : Int) (a0_1 : Int) (a0_2 : Int) (a0_3 : Int) (a0_4 : Int) (a0_5 : Int) (a0_6 : Int) (a0_7 : Int) (a0_8 : Int) (a0_9 : Int) (a0_10 : Int) (a0_11 : Int) (a0_12 : Int) (a0_13 : Int) (a0_14 : Int) (a0_15 : Int) (a1 : Int) (a2 : Int) : Option Int := if a1 = 0 then (if a2 = 0 then some a0_0 else if a2 = 1 then some a0_1 else if a2 = 2 then some a0_2 else if a2 = 3 then some a0_3 else none) else if a1 = 1 then (if a2 = 0 then some a0_4 else if a2 = 1 then some a0_5 else if a2 = 2 then some a0_6 else if a2 = 3 then some a0_7 else none) else if a1 = 2 then (if a2 = 0 then some a0_8 else if a2 = 1 then some a0_9 else if a2 = 2 then some a0_10 else if a2 = 3 then some a0_11 else none) else if a1 = 3 then (if a2 = 0 then some a0_12 else if a2 = 1 then some a0_13 else if a2 = 2 then some a0_14 else if a2 = 3 then some a0_15 else none) else none
set_option maxHeartbeats 8000000 in
set_option maxRecDepth 100000 in
theorem frustumref04_element.calls (a0_0 : Int) (a0_1 : Int) (a0_2 : Int) (a0_3 : Int) (a0_4 : Int) (a0_5 : Int) (a0_6 : Int) (a0_7 : Int) (a0_8 : Int) (a0_9 : Int) (a0_10 : Int) (a0_11 : Int) (a0_12 : Int) (a0_13 : Int) (a0_14 : Int) (a0_15 : Int) (a1 : Int) (a2 : Int) (r : Int) (w : World) (h : frustumref04_element.f a0_0 a0_1 a0_2 a0_3 a0_4 a0_5 a0_6 a0_7 a0_8 a0_9 a0_10 a0_11 a0_12 a0_13 a0_14 a0_15 a1 a2 = some r) :
    Calls Try.prog 39 #[.agg #[.int .i64 a0_0, .int .i64 a0_1, .int .i64 a0_2, .int .i64 a0_3, .int .i64 a0_4, .int .i64 a0_5, .int .i64 a0_6, .int .i64 a0_7, .int .i64 a0_8, .int .i64 a0_9, .int .i64 a0_10, .int .i64 a0_11, .int .i64 a0_12, .int .i64 a0_13, .int .i64 a0_14, .int .i64 a0_15], .int .i64 a1, .int .i64 a2] w fun e w' => e = .returned (.int .i64 r) ∧ Below w.heap.size w w' := by
  unfold frustumref04_element.f at h
  have hu23 := Try.underlying23
  by_cases c0 : a1 = 0
  · subst c0
    rw [if_pos rfl] at h
    by_cases d0 : a2 = 0
    · subst d0
      rw [if_pos rfl] at h
      obtain rfl := Option.some.inj h
      as_aux_lemma =>
        go_enter Try.func39, Try.ntmps39
        have cm : (w.alloc (.cells #[.int .i64 a0_0, .int .i64 a0_1, .int .i64 a0_2, .int .i64 a0_3, .int .i64 a0_4, .int .i64 a0_5, .int .i64 a0_6, .int .i64 a0_7, .int .i64 a0_8, .int .i64 a0_9, .int .i64 a0_10, .int .i64 a0_11, .int .i64 a0_12, .int .i64 a0_13, .int .i64 a0_14, .int .i64 a0_15] 23)).cell? ⟨w.heap.size, 0, none⟩ = some (.int .i64 a0_0) := (blk_cell (MapKept.heap_alloc w _).1 0).trans rfl
        go_wp2
        go_ret
        exact ⟨rfl, (Below.refl w.heap.size w).alloc (Nat.le_refl _) _⟩
    by_cases d1 : a2 = 1
    · subst d1
      rw [if_neg (by decide), if_pos rfl] at h
      obtain rfl := Option.some.inj h
      as_aux_lemma =>
        go_enter Try.func39, Try.ntmps39
        have cm : (w.alloc (.cells #[.int .i64 a0_0, .int .i64 a0_1, .int .i64 a0_2, .int .i64 a0_3, .int .i64 a0_4, .int .i64 a0_5, .int .i64 a0_6, .int .i64 a0_7, .int .i64 a0_8, .int .i64 a0_9, .int .i64 a0_10, .int .i64 a0_11, .int .i64 a0_12, .int .i64 a0_13, .int .i64 a0_14, .int .i64 a0_15] 23)).cell? ⟨w.heap.size, 1, none⟩ = some (.int .i64 a0_1) := (blk_cell (MapKept.heap_alloc w _).1 1).trans rfl
        go_wp2
        go_ret
        exact ⟨rfl, (Below.refl w.heap.size w).alloc (Nat.le_refl _) _⟩
    by_cases d2 : a2 = 2
    · subst d2
      rw [if_neg (by decide), if_neg (by decide), if_pos rfl] at h
      obtain rfl := Option.some.inj h
      as_aux_lemma =>
        go_enter Try.func39, Try.ntmps39
        have cm : (w.alloc (.cells #[.int .i64 a0_0, .int .i64 a0_1, .int .i64 a0_2, .int .i64 a0_3, .int .i64 a0_4, .int .i64 a0_5, .int .i64 a0_6, .int .i64 a0_7, .int .i64 a0_8, .int .i64 a0_9, .int .i64 a0_10, .int .i64 a0_11, .int .i64 a0_12, .int .i64 a0_13, .int .i64 a0_14, .int .i64 a0_15] 23)).cell? ⟨w.heap.size, 2, none⟩ = some (.int .i64 a0_2) := (blk_cell (MapKept.heap_alloc w _).1 2).trans rfl
        go_wp2
        go_ret
        exact ⟨rfl, (Below.refl w.heap.size w).alloc (Nat.le_refl _) _⟩
    by_cases d3 : a2 = 3
    · subst d3
      rw [if_neg (by decide), if_neg (by decide), if_neg (by decide), if_pos rfl] at h
      obtain rfl := Option.some.inj h
      as_aux_lemma =>
        go_enter Try.func39, Try.ntmps39
        have cm : (w.alloc (.cells #[.int .i64 a0_0, .int .i64 a0_1, .int .i64 a0_2, .int .i64 a0_3, .int .i64 a0_4, .int .i64 a0_5, .int .i64 a0_6, .int .i64 a0_7, .int .i64 a0_8, .int .i64 a0_9, .int .i64 a0_10, .int .i64 a0_11, .int .i64 a0_12, .int .i64 a0_13, .int .i64 a0_14, .int .i64 a0_15] 23)).cell? ⟨w.heap.size, 3, none⟩ = some (.int .i64 a0_3) := (blk_cell (MapKept.heap_alloc w _).1 3).trans rfl
        go_wp2
        go_ret
        exact ⟨rfl, (Below.refl w.heap.size w).alloc (Nat.le_refl _) _⟩
    rw [if_neg d0, if_neg d1, if_neg d2, if_neg d3] at h
    exact absurd h (by simp)
  by_cases c1 : a1 = 1
  · subst c1
    rw [if_neg (by decide), if_pos rfl] at h
    by_cases d0 : a2 = 0
    · subst d0
      rw [if_pos rfl] at h
      obtain rfl := Option.some.inj h
      as_aux_lemma =>
        go_enter Try.func39, Try.ntmps39
        have cm : (w.alloc (.cells #[.int .i64 a0_0, .int .i64 a0_1, .int .i64 a0_2, .int .i64 a0_3, .int .i64 a0_4, .int .i64 a0_5, .int .i64 a0_6, .int .i64 a0_7, .int .i64 a0_8, .int .i64 a0_9, .int .i64 a0_10, .int .i64 a0_11, .int .i64 a0_12, .int .i64 a0_13, .int .i64 a0_14, .int .i64 a0_15] 23)).cell? ⟨w.heap.size, 4, none⟩ = some (.int .i64 a0_4) := (blk_cell (MapKept.heap_alloc w _).1 4).trans rfl
        go_wp2
        go_ret
        exact ⟨rfl, (Below.refl w.heap.size w).alloc (Nat.le_refl _) _⟩
    by_cases d1 : a2 = 1
    · subst d1
      rw [if_neg (by decide), if_pos rfl] at h
      obtain rfl := Option.some.inj h
      as_aux_lemma =>
        go_enter Try.func39, Try.ntmps39
        have cm : (w.alloc (.cells #[.int .i64 a0_0, .int .i64 a0_1, .int .i64 a0_2, .int .i64 a0_3, .int .i64 a0_4, .int .i64 a0_5, .int .i64 a0_6, .int .i64 a0_7, .int .i64 a0_8, .int .i64 a0_9, .int .i64 a0_10, .int .i64 a0_11, .int .i64 a0_12, .int .i64 a0_13, .int .i64 a0_14, .int .i64 a0_15] 23)).cell? ⟨w.heap.size, 5, none⟩ = some (.int .i64 a0_5) := (blk_cell (MapKept.heap_alloc w _).1 5).trans rfl
        go_wp2
        go_ret
        exact ⟨rfl, (Below.refl w.heap.size w).alloc (Nat.le_refl _) _⟩
    by_cases d2 : a2 = 2
    · subst d2
      rw [if_neg (by decide), if_neg (by decide), if_pos rfl] at h
      obtain rfl := Option.some.inj h
      as_aux_lemma =>
        go_enter Try.func39, Try.ntmps39
        have cm : (w.alloc (.cells #[.int .i64 a0_0, .int .i64 a0_1, .int .i64 a0_2, .int .i64 a0_3, .int .i64 a0_4, .int .i64 a0_5, .int .i64 a0_6, .int .i64 a0_7, .int .i64 a0_8, .int .i64 a0_9, .int .i64 a0_10, .int .i64 a0_11, .int .i64 a0_12, .int .i64 a0_13, .int .i64 a0_14, .int .i64 a0_15] 23)).cell? ⟨w.heap.size, 6, none⟩ = some (.int .i64 a0_6) := (blk_cell (MapKept.heap_alloc w _).1 6).trans rfl
        go_wp2
        go_ret
        exact ⟨rfl, (Below.refl w.heap.size w).alloc (Nat.le_refl _) _⟩
    by_cases d3 : a2 = 3
    · subst d3
      rw [if_neg (by decide), if_neg (by decide), if_neg (by decide), if_pos rfl] at h
      obtain rfl := Option.some.inj h
      as_aux_lemma =>
        go_enter Try.func39, Try.ntmps39
        have cm : (w.alloc (.cells #[.int .i64 a0_0, .int .i64 a0_1, .int .i64 a0_2, .int .i64 a0_3, .int .i64 a0_4, .int .i64 a0_5, .int .i64 a0_6, .int .i64 a0_7, .int .i64 a0_8, .int .i64 a0_9, .int .i64 a0_10, .int .i64 a0_11, .int .i64 a0_12, .int .i64 a0_13, .int .i64 a0_14, .int .i64 a0_15] 23)).cell? ⟨w.heap.size, 7, none⟩ = some (.int .i64 a0_7) := (blk_cell (MapKept.heap_alloc w _).1 7).trans rfl
        go_wp2
        go_ret
        exact ⟨rfl, (Below.refl w.heap.size w).alloc (Nat.le_refl _) _⟩
    rw [if_neg d0, if_neg d1, if_neg d2, if_neg d3] at h
    exact absurd h (by simp)
  by_cases c2 : a1 = 2
  · subst c2
    rw [if_neg (by decide), if_neg (by decide), if_pos rfl] at h
    by_cases d0 : a2 = 0
    · subst d0
      rw [if_pos rfl] at h
      obtain rfl := Option.some.inj h
      as_aux_lemma =>
        go_enter Try.func39, Try.ntmps39
        have cm : (w.alloc (.cells #[.int .i64 a0_0, .int .i64 a0_1, .int .i64 a0_2, .int .i64 a0_3, .int .i64 a0_4, .int .i64 a0_5, .int .i64 a0_6, .int .i64 a0_7, .int .i64 a0_8, .int .i64 a0_9, .int .i64 a0_10, .int .i64 a0_11, .int .i64 a0_12, .int .i64 a0_13, .int .i64 a0_14, .int .i64 a0_15] 23)).cell? ⟨w.heap.size, 8, none⟩ = some (.int .i64 a0_8) := (blk_cell (MapKept.heap_alloc w _).1 8).trans rfl
        go_wp2
        go_ret
        exact ⟨rfl, (Below.refl w.heap.size w).alloc (Nat.le_refl _) _⟩
    by_cases d1 : a2 = 1
    · subst d1
      rw [if_neg (by decide), if_pos rfl] at h
      obtain rfl := Option.some.inj h
      as_aux_lemma =>
        go_enter Try.func39, Try.ntmps39
        have cm : (w.alloc (.cells #[.int .i64 a0_0, .int .i64 a0_1, .int .i64 a0_2, .int .i64 a0_3, .int .i64 a0_4, .int .i64 a0_5, .int .i64 a0_6, .int .i64 a0_7, .int .i64 a0_8, .int .i64 a0_9, .int .i64 a0_10, .int .i64 a0_11, .int .i64 a0_12, .int .i64 a0_13, .int .i64 a0_14, .int .i64 a0_15] 23)).cell? ⟨w.heap.size, 9, none⟩ = some (.int .i64 a0_9) := (blk_cell (MapKept.heap_alloc w _).1 9).trans rfl
        go_wp2
        go_ret
        exact ⟨rfl, (Below.refl w.heap.size w).alloc (Nat.le_refl _) _⟩
    by_cases d2 : a2 = 2
    · subst d2
      rw [if_neg (by decide), if_neg (by decide), if_pos rfl] at h
      obtain rfl := Option.some.inj h
      as_aux_lemma =>
        go_enter Try.func39, Try.ntmps39
        have cm : (w.alloc (.cells #[.int .i64 a0_0, .int .i64 a0_1, .int .i64 a0_2, .int .i64 a0_3, .int .i64 a0_4, .int .i64 a0_5, .int .i64 a0_6, .int .i64 a0_7, .int .i64 a0_8, .int .i64 a0_9, .int .i64 a0_10, .int .i64 a0_11, .int .i64 a0_12, .int .i64 a0_13, .int .i64 a0_14, .int .i64 a0_15] 23)).cell? ⟨w.heap.size, 10, none⟩ = some (.int .i64 a0_10) := (blk_cell (MapKept.heap_alloc w _).1 10).trans rfl
        go_wp2
        go_ret
        exact ⟨rfl, (Below.refl w.heap.size w).alloc (Nat.le_refl _) _⟩
    by_cases d3 : a2 = 3
    · subst d3
      rw [if_neg (by decide), if_neg (by decide), if_neg (by decide), if_pos rfl] at h
      obtain rfl := Option.some.inj h
      as_aux_lemma =>
        go_enter Try.func39, Try.ntmps39
        have cm : (w.alloc (.cells #[.int .i64 a0_0, .int .i64 a0_1, .int .i64 a0_2, .int .i64 a0_3, .int .i64 a0_4, .int .i64 a0_5, .int .i64 a0_6, .int .i64 a0_7, .int .i64 a0_8, .int .i64 a0_9, .int .i64 a0_10, .int .i64 a0_11, .int .i64 a0_12, .int .i64 a0_13, .int .i64 a0_14, .int .i64 a0_15] 23)).cell? ⟨w.heap.size, 11, none⟩ = some (.int .i64 a0_11) := (blk_cell (MapKept.heap_alloc w _).1 11).trans rfl
        go_wp2
        go_ret
        exact ⟨rfl, (Below.refl w.heap.size w).alloc (Nat.le_refl _) _⟩
    rw [if_neg d0, if_neg d1, if_neg d2, if_neg d3] at h
    exact absurd h (by simp)
  by_cases c3 : a1 = 3
  · subst c3
    rw [if_neg (by decide), if_neg (by decide), if_neg (by decide), if_pos rfl] at h
    by_cases d0 : a2 = 0
    · subst d0
      rw [if_pos rfl] at h
      obtain rfl := Option.some.inj h
      as_aux_lemma =>
        go_enter Try.func39, Try.ntmps39
        have cm : (w.alloc (.cells #[.int .i64 a0_0, .int .i64 a0_1, .int .i64 a0_2, .int .i64 a0_3, .int .i64 a0_4, .int .i64 a0_5, .int .i64 a0_6, .int .i64 a0_7, .int .i64 a0_8, .int .i64 a0_9, .int .i64 a0_10, .int .i64 a0_11, .int .i64 a0_12, .int .i64 a0_13, .int .i64 a0_14, .int .i64 a0_15] 23)).cell? ⟨w.heap.size, 12, none⟩ = some (.int .i64 a0_12) := (blk_cell (MapKept.heap_alloc w _).1 12).trans rfl
        go_wp2
        go_ret
        exact ⟨rfl, (Below.refl w.heap.size w).alloc (Nat.le_refl _) _⟩
    by_cases d1 : a2 = 1
    · subst d1
      rw [if_neg (by decide), if_pos rfl] at h
      obtain rfl := Option.some.inj h
      as_aux_lemma =>
        go_enter Try.func39, Try.ntmps39
        have cm : (w.alloc (.cells #[.int .i64 a0_0, .int .i64 a0_1, .int .i64 a0_2, .int .i64 a0_3, .int .i64 a0_4, .int .i64 a0_5, .int .i64 a0_6, .int .i64 a0_7, .int .i64 a0_8, .int .i64 a0_9, .int .i64 a0_10, .int .i64 a0_11, .int .i64 a0_12, .int .i64 a0_13, .int .i64 a0_14, .int .i64 a0_15] 23)).cell? ⟨w.heap.size, 13, none⟩ = some (.int .i64 a0_13) := (blk_cell (MapKept.heap_alloc w _).1 13).trans rfl
        go_wp2
        go_ret
        exact ⟨rfl, (Below.refl w.heap.size w).alloc (Nat.le_refl _) _⟩
    by_cases d2 : a2 = 2
    · subst d2
      rw [if_neg (by decide), if_neg (by decide), if_pos rfl] at h
      obtain rfl := Option.some.inj h
      as_aux_lemma =>
        go_enter Try.func39, Try.ntmps39
        have cm : (w.alloc (.cells #[.int .i64 a0_0, .int .i64 a0_1, .int .i64 a0_2, .int .i64 a0_3, .int .i64 a0_4, .int .i64 a0_5, .int .i64 a0_6, .int .i64 a0_7, .int .i64 a0_8, .int .i64 a0_9, .int .i64 a0_10, .int .i64 a0_11, .int .i64 a0_12, .int .i64 a0_13, .int .i64 a0_14, .int .i64 a0_15] 23)).cell? ⟨w.heap.size, 14, none⟩ = some (.int .i64 a0_14) := (blk_cell (MapKept.heap_alloc w _).1 14).trans rfl
        go_wp2
        go_ret
        exact ⟨rfl, (Below.refl w.heap.size w).alloc (Nat.le_refl _) _⟩
    by_cases d3 : a2 = 3
    · subst d3
      rw [if_neg (by decide), if_neg (by decide), if_neg (by decide), if_pos rfl] at h
      obtain rfl := Option.some.inj h
      as_aux_lemma =>
        go_enter Try.func39, Try.ntmps39
        have cm : (w.alloc (.cells #[.int .i64 a0_0, .int .i64 a0_1, .int .i64 a0_2, .int .i64 a0_3, .int .i64 a0_4, .int .i64 a0_5, .int .i64 a0_6, .int .i64 a0_7, .int .i64 a0_8, .int .i64 a0_9, .int .i64 a0_10, .int .i64 a0_11, .int .i64 a0_12, .int .i64 a0_13, .int .i64 a0_14, .int .i64 a0_15] 23)).cell? ⟨w.heap.size, 15, none⟩ = some (.int .i64 a0_15) := (blk_cell (MapKept.heap_alloc w _).1 15).trans rfl
        go_wp2
        go_ret
        exact ⟨rfl, (Below.refl w.heap.size w).alloc (Nat.le_refl _) _⟩
    rw [if_neg d0, if_neg d1, if_neg d2, if_neg d3] at h
    exact absurd h (by simp)
  rw [if_neg c0, if_neg c1, if_neg c2, if_neg c3] at h
  exact absurd h (by simp)

end Go.Proofs.Ytmofipnpnepfaaa.PMatrixApplies
