/- Chapter 43: the stack of open constructs: step, the rest. What the calls do to memory; conditions: the stack is the call's own (Nst), from 0 to 3 loops. -/
import Derived.Test.YtjbhhdocbejccaaSt4
namespace Go.Proofs.Ytjbhhdocbejccaa.Pl
open Go Go.RowKit
set_option linter.unusedVariables false
set_option linter.unusedSimpArgs false
theorem Nst.set1 {w : World} {b : Nat} {L : List Int} {n m : Int} (h : Nst w b L n) : Nst (w.setCell ⟨b, 1, none⟩ (.int .i64 m)) b L m := by
  obtain ⟨v, h1, h2⟩ := h
  exact ⟨v, heap_set1 h1, ownsRow_setCell_below h2 (by simp) _⟩
set_option maxRecDepth 1000000 in
set_option maxHeartbeats 4000000 in
theorem step_endif_43 (w : World) (b : Nat) (L : List Int) (n : Int) (c0 c1 c2 c3 c4 c5 c6 c7 : Value) (h : Nst w b (L ++ [43]) n) :
    Calls Try.prog 83 #[.pointer (some ⟨b, 0, none⟩), .agg #[c0, c1, c2, c3, c4, c5, c6, c7], .int .i64 45] w fun e w' => e = .returned (.bool true) ∧ Below b w w' ∧ Nst w' b L n := by
  have hlt := h.lt
  have hN := h.alloc (.cells #[c0, c1, c2, c3, c4, c5, c6, c7] 25)
  have hB : Below b w (w.alloc (.cells #[c0, c1, c2, c3, c4, c5, c6, c7] 25)) := (Below.refl b w).alloc (by omega) _
  clear h
  go_enter Try.func83, Try.ntmps83
  go_wp2_with (first
    | (go_at_call 91
       refine (inner_some _ b L 43 n (by assumption)).mono ?_
       rintro e w2 ⟨rfl, hB2, hN2⟩
       have hB3 : Below b w w2 := hB.trans (hB2.mono (by first | (simp; omega) | (have := hN.lt; omega)))
       clear hN hB hB2
       have hN := hN2
       have hB := hB3
       clear hN2 hB3)
    | (go_at_call 92
       refine (pop_some _ b L 43 _ (by assumption)).mono ?_
       rintro e w4 ⟨⟨v4, rfl⟩, hB4, hN4⟩
       have hB5 : Below b w w4 := hB.trans hB4))
  go_ret
  exact ⟨rfl, hB5, hN4⟩
set_option maxRecDepth 1000000 in
set_option maxHeartbeats 4000000 in
theorem step_endif_44 (w : World) (b : Nat) (L : List Int) (n : Int) (c0 c1 c2 c3 c4 c5 c6 c7 : Value) (h : Nst w b (L ++ [44]) n) :
    Calls Try.prog 83 #[.pointer (some ⟨b, 0, none⟩), .agg #[c0, c1, c2, c3, c4, c5, c6, c7], .int .i64 45] w fun e w' => e = .returned (.bool true) ∧ Below b w w' ∧ Nst w' b L n := by
  have hlt := h.lt
  have hN := h.alloc (.cells #[c0, c1, c2, c3, c4, c5, c6, c7] 25)
  have hB : Below b w (w.alloc (.cells #[c0, c1, c2, c3, c4, c5, c6, c7] 25)) := (Below.refl b w).alloc (by omega) _
  clear h
  go_enter Try.func83, Try.ntmps83
  go_wp2_with (first
    | (go_at_call 91
       refine (inner_some _ b L 44 n (by assumption)).mono ?_
       rintro e w2 ⟨rfl, hB2, hN2⟩
       have hB3 : Below b w w2 := hB.trans (hB2.mono (by first | (simp; omega) | (have := hN.lt; omega)))
       clear hN hB hB2
       have hN := hN2
       have hB := hB3
       clear hN2 hB3)
    | (go_at_call 92
       refine (pop_some _ b L 44 _ (by assumption)).mono ?_
       rintro e w4 ⟨⟨v4, rfl⟩, hB4, hN4⟩
       have hB5 : Below b w w4 := hB.trans hB4))
  go_ret
  exact ⟨rfl, hB5, hN4⟩
set_option maxRecDepth 1000000 in
set_option maxHeartbeats 4000000 in
theorem step_break (w : World) (b : Nat) (L : List Int) (n : Int) (c0 c1 c2 c3 c4 c5 c6 c7 : Value) (h : Nst w b L n) :
    Calls Try.prog 83 #[.pointer (some ⟨b, 0, none⟩), .agg #[c0, c1, c2, c3, c4, c5, c6, c7], .int .i64 47] w fun e w' => e = .returned (.bool (decide (n > 0))) ∧ Below b w w' ∧ Nst w' b L n := by
  have hlt := h.lt
  have hN := h.alloc (.cells #[c0, c1, c2, c3, c4, c5, c6, c7] 25)
  have hB : Below b w (w.alloc (.cells #[c0, c1, c2, c3, c4, c5, c6, c7] 25)) := (Below.refl b w).alloc (by omega) _
  obtain ⟨v, h1, h2⟩ := h
  have hc1 := cell1_of h1
  go_enter Try.func83, Try.ntmps83
  go_wp2
  go_ret
  exact ⟨rfl, hB, hN⟩
set_option maxRecDepth 1000000 in
set_option maxHeartbeats 4000000 in
theorem step_continue (w : World) (b : Nat) (L : List Int) (n : Int) (c0 c1 c2 c3 c4 c5 c6 c7 : Value) (h : Nst w b L n) :
    Calls Try.prog 83 #[.pointer (some ⟨b, 0, none⟩), .agg #[c0, c1, c2, c3, c4, c5, c6, c7], .int .i64 48] w fun e w' => e = .returned (.bool (decide (n > 0))) ∧ Below b w w' ∧ Nst w' b L n := by
  have hlt := h.lt
  have hN := h.alloc (.cells #[c0, c1, c2, c3, c4, c5, c6, c7] 25)
  have hB : Below b w (w.alloc (.cells #[c0, c1, c2, c3, c4, c5, c6, c7] 25)) := (Below.refl b w).alloc (by omega) _
  obtain ⟨v, h1, h2⟩ := h
  have hc1 := cell1_of h1
  go_enter Try.func83, Try.ntmps83
  go_wp2
  go_ret
  exact ⟨rfl, hB, hN⟩
set_option maxRecDepth 1000000 in
set_option maxHeartbeats 4000000 in
theorem step_discard (w : World) (b : Nat) (L : List Int) (st : Int) (n : Int) (c0 c1 c2 c3 c4 c5 c6 c7 : Value) (h : Nst w b L n) (hc : c0 = .int .i64 st) :
    Calls Try.prog 83 #[.pointer (some ⟨b, 0, none⟩), .agg #[c0, c1, c2, c3, c4, c5, c6, c7], .int .i64 50] w fun e w' => e = .returned (.bool (st == 3)) ∧ Below b w w' ∧ Nst w' b L n := by
  have hlt := h.lt
  have hN := h.alloc (.cells #[c0, c1, c2, c3, c4, c5, c6, c7] 25)
  have hB : Below b w (w.alloc (.cells #[c0, c1, c2, c3, c4, c5, c6, c7] 25)) := (Below.refl b w).alloc (by omega) _
  clear h
  subst hc
  go_enter Try.func83, Try.ntmps83
  go_wp2
  go_ret
  exact ⟨rfl, hB, hN⟩
set_option maxRecDepth 1000000 in
set_option maxHeartbeats 4000000 in
theorem step_emit (w : World) (b : Nat) (L : List Int) (st : Int) (n : Int) (c0 c1 c2 c3 c4 c5 c6 c7 : Value) (h : Nst w b L n) (hc : c0 = .int .i64 st) :
    Calls Try.prog 83 #[.pointer (some ⟨b, 0, none⟩), .agg #[c0, c1, c2, c3, c4, c5, c6, c7], .int .i64 51] w fun e w' => e = .returned (.bool (st == 2)) ∧ Below b w w' ∧ Nst w' b L n := by
  have hlt := h.lt
  have hN := h.alloc (.cells #[c0, c1, c2, c3, c4, c5, c6, c7] 25)
  have hB : Below b w (w.alloc (.cells #[c0, c1, c2, c3, c4, c5, c6, c7] 25)) := (Below.refl b w).alloc (by omega) _
  clear h
  subst hc
  go_enter Try.func83, Try.ntmps83
  go_wp2
  go_ret
  exact ⟨rfl, hB, hN⟩
set_option maxRecDepth 1000000 in
set_option maxHeartbeats 4000000 in
theorem step_cut (w : World) (b : Nat) (L : List Int) (st : Int) (n : Int) (c0 c1 c2 c3 c4 c5 c6 c7 : Value) (h : Nst w b L n) (hc : c0 = .int .i64 st) :
    Calls Try.prog 83 #[.pointer (some ⟨b, 0, none⟩), .agg #[c0, c1, c2, c3, c4, c5, c6, c7], .int .i64 52] w fun e w' => e = .returned (.bool (st == 2)) ∧ Below b w w' ∧ Nst w' b L n := by
  have hlt := h.lt
  have hN := h.alloc (.cells #[c0, c1, c2, c3, c4, c5, c6, c7] 25)
  have hB : Below b w (w.alloc (.cells #[c0, c1, c2, c3, c4, c5, c6, c7] 25)) := (Below.refl b w).alloc (by omega) _
  clear h
  subst hc
  go_enter Try.func83, Try.ntmps83
  go_wp2
  go_ret
  exact ⟨rfl, hB, hN⟩
set_option maxRecDepth 1000000 in
set_option maxHeartbeats 4000000 in
theorem step_plain (w : World) (b : Nat) (op : Int) (L : List Int) (n : Int) (c0 c1 c2 c3 c4 c5 c6 c7 : Value) (h : Nst w b L n) (hop : ¬ (43 ≤ op ∧ op ≤ 52)) :
    Calls Try.prog 83 #[.pointer (some ⟨b, 0, none⟩), .agg #[c0, c1, c2, c3, c4, c5, c6, c7], .int .i64 op] w fun e w' => e = .returned (.bool true) ∧ Below b w w' ∧ Nst w' b L n := by
  have hlt := h.lt
  have hN := h.alloc (.cells #[c0, c1, c2, c3, c4, c5, c6, c7] 25)
  have hB : Below b w (w.alloc (.cells #[c0, c1, c2, c3, c4, c5, c6, c7] 25)) := (Below.refl b w).alloc (by omega) _
  clear h
  have q43 : (op == 43) = false := by simp; omega
  have q44 : (op == 44) = false := by simp; omega
  have q45 : (op == 45) = false := by simp; omega
  have q46 : (op == 46) = false := by simp; omega
  have q47 : (op == 47) = false := by simp; omega
  have q48 : (op == 48) = false := by simp; omega
  have q49 : (op == 49) = false := by simp; omega
  have q50 : (op == 50) = false := by simp; omega
  have q51 : (op == 51) = false := by simp; omega
  have q52 : (op == 52) = false := by simp; omega
  go_enter Try.func83, Try.ntmps83
  go_wp2
  go_ret
  exact ⟨rfl, hB, hN⟩
set_option maxRecDepth 1000000 in
set_option maxHeartbeats 4000000 in
theorem step_endloop (w : World) (b : Nat) (L : List Int) (n : Int) (c0 c1 c2 c3 c4 c5 c6 c7 : Value) (h : Nst w b (L ++ [46]) n) (hn0 : 1 ≤ n) (hn : n ≤ 3) :
    Calls Try.prog 83 #[.pointer (some ⟨b, 0, none⟩), .agg #[c0, c1, c2, c3, c4, c5, c6, c7], .int .i64 49] w fun e w' => e = .returned (.bool true) ∧ Below b w w' ∧ Nst w' b L (n - 1) := by
  have hlt := h.lt
  have hN := h.alloc (.cells #[c0, c1, c2, c3, c4, c5, c6, c7] 25)
  have hB : Below b w (w.alloc (.cells #[c0, c1, c2, c3, c4, c5, c6, c7] 25)) := (Below.refl b w).alloc (by omega) _
  clear h
  go_enter Try.func83, Try.ntmps83
  go_wp2_with (first
    | (go_at_call 91
       refine (inner_some _ b L 46 n (by assumption)).mono ?_
       rintro e w2 ⟨rfl, hB2, hN2⟩
       have hB3 : Below b w w2 := hB.trans (hB2.mono (by first | (simp; omega) | (have := hN.lt; omega)))
       clear hN hB hB2
       have hN := hN2
       have hB := hB3
       clear hN2 hB3
       have hcc : ∃ v, w2.heap[b]? = some (.cells #[v, .int .i64 n] 104 (0, 0)) := hN.elim fun v h => ⟨v, h.1⟩
       obtain ⟨v2, h12⟩ := hcc
       have hc1 := cell1_of h12
       have hf1 := frozen_of h12 1
       have hwr : IntKind.i64.wrap (n - 1) = n - 1 := by rw [IntKind.wrap_i64]; omega)
    | (go_at_call 92
       refine (pop_some _ b L 46 (n - 1) hN.set1).mono ?_
       rintro e w4 ⟨⟨v4, rfl⟩, hB4, hN4⟩
       have hB5 : Below b w w4 := (below_set hB (i := 1) (Nat.le_refl b) _).trans hB4))
  go_ret
  exact ⟨rfl, hB5, hN4⟩
end Go.Proofs.Ytjbhhdocbejccaa.Pl
