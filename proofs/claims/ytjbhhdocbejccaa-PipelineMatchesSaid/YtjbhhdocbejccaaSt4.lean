/- Chapter 43: the stack of open constructs: step, the instructions that end or divide a construct. What the calls do to memory; conditions: the stack is the call's own (Nst), from 0 to 3 loops. -/
import Derived.Test.YtjbhhdocbejccaaSt3
namespace Go.Proofs.Ytjbhhdocbejccaa.Pl
open Go Go.RowKit
set_option linter.unusedVariables false
set_option linter.unusedSimpArgs false
theorem Nst.shape {w : World} {b : Nat} {L : List Int} {x n : Int} (h : Nst w b (L ++ [x]) n) : (L ++ [x]).length ≤ maxLen := by
  obtain ⟨g, c, h1, h2, h3, h4, h5⟩ := h.some
  simp; omega
set_option maxRecDepth 1000000 in
set_option maxHeartbeats 4000000 in
theorem step_else_empty (w : World) (b : Nat)  (n : Int) (c0 c1 c2 c3 c4 c5 c6 c7 : Value) (h : Nst w b [] n) :
    Calls Try.prog 83 #[.pointer (some ⟨b, 0, none⟩), .agg #[c0, c1, c2, c3, c4, c5, c6, c7], .int .i64 44] w fun e w' => e = .returned (.bool false) ∧ Below b w w' := by
  have hlt := h.lt
  have hN := h.alloc (.cells #[c0, c1, c2, c3, c4, c5, c6, c7] 25)
  have hB : Below b w (w.alloc (.cells #[c0, c1, c2, c3, c4, c5, c6, c7] 25)) := (Below.refl b w).alloc (by omega) _
  clear h
  go_enter Try.func83, Try.ntmps83
  go_wp2_with (first
    | (go_at_call 91
       refine (inner_empty _ b n (by assumption)).mono ?_
       rintro e w2 ⟨rfl, rfl⟩))
  go_ret
  exact ⟨rfl, hB⟩
set_option maxRecDepth 1000000 in
set_option maxHeartbeats 4000000 in
theorem step_endif_empty (w : World) (b : Nat)  (n : Int) (c0 c1 c2 c3 c4 c5 c6 c7 : Value) (h : Nst w b [] n) :
    Calls Try.prog 83 #[.pointer (some ⟨b, 0, none⟩), .agg #[c0, c1, c2, c3, c4, c5, c6, c7], .int .i64 45] w fun e w' => e = .returned (.bool false) ∧ Below b w w' := by
  have hlt := h.lt
  have hN := h.alloc (.cells #[c0, c1, c2, c3, c4, c5, c6, c7] 25)
  have hB : Below b w (w.alloc (.cells #[c0, c1, c2, c3, c4, c5, c6, c7] 25)) := (Below.refl b w).alloc (by omega) _
  clear h
  go_enter Try.func83, Try.ntmps83
  go_wp2_with (first
    | (go_at_call 91
       refine (inner_empty _ b n (by assumption)).mono ?_
       rintro e w2 ⟨rfl, rfl⟩))
  go_ret
  exact ⟨rfl, hB⟩
set_option maxRecDepth 1000000 in
set_option maxHeartbeats 4000000 in
theorem step_endloop_empty (w : World) (b : Nat)  (n : Int) (c0 c1 c2 c3 c4 c5 c6 c7 : Value) (h : Nst w b [] n) :
    Calls Try.prog 83 #[.pointer (some ⟨b, 0, none⟩), .agg #[c0, c1, c2, c3, c4, c5, c6, c7], .int .i64 49] w fun e w' => e = .returned (.bool false) ∧ Below b w w' := by
  have hlt := h.lt
  have hN := h.alloc (.cells #[c0, c1, c2, c3, c4, c5, c6, c7] 25)
  have hB : Below b w (w.alloc (.cells #[c0, c1, c2, c3, c4, c5, c6, c7] 25)) := (Below.refl b w).alloc (by omega) _
  clear h
  go_enter Try.func83, Try.ntmps83
  go_wp2_with (first
    | (go_at_call 91
       refine (inner_empty _ b n (by assumption)).mono ?_
       rintro e w2 ⟨rfl, rfl⟩))
  go_ret
  exact ⟨rfl, hB⟩
set_option maxRecDepth 1000000 in
set_option maxHeartbeats 4000000 in
theorem step_else_wrong (w : World) (b : Nat) (L : List Int) (x : Int) (n : Int) (c0 c1 c2 c3 c4 c5 c6 c7 : Value) (h : Nst w b (L ++ [x]) n) (hx : x ≠ 43) :
    Calls Try.prog 83 #[.pointer (some ⟨b, 0, none⟩), .agg #[c0, c1, c2, c3, c4, c5, c6, c7], .int .i64 44] w fun e w' => e = .returned (.bool false) ∧ Below b w w' := by
  have hlt := h.lt
  have hN := h.alloc (.cells #[c0, c1, c2, c3, c4, c5, c6, c7] 25)
  have hB : Below b w (w.alloc (.cells #[c0, c1, c2, c3, c4, c5, c6, c7] 25)) := (Below.refl b w).alloc (by omega) _
  clear h
  have hx1 : (x != 43) = true := by simpa using hx
  have hx2 : (x == 43) = false := by simpa using hx
  go_enter Try.func83, Try.ntmps83
  go_wp2_with (first
    | (go_at_call 91
       refine (inner_some _ b L x n (by assumption)).mono ?_
       rintro e w2 ⟨rfl, hB2, hN2⟩
       have hB3 : Below b w w2 := hB.trans (hB2.mono (by simp; omega))))
  go_ret
  exact ⟨rfl, hB3⟩
set_option maxRecDepth 1000000 in
set_option maxHeartbeats 4000000 in
theorem step_endif_wrong (w : World) (b : Nat) (L : List Int) (x : Int) (n : Int) (c0 c1 c2 c3 c4 c5 c6 c7 : Value) (h : Nst w b (L ++ [x]) n) (hx : x ≠ 43) (hy : x ≠ 44) :
    Calls Try.prog 83 #[.pointer (some ⟨b, 0, none⟩), .agg #[c0, c1, c2, c3, c4, c5, c6, c7], .int .i64 45] w fun e w' => e = .returned (.bool false) ∧ Below b w w' := by
  have hlt := h.lt
  have hN := h.alloc (.cells #[c0, c1, c2, c3, c4, c5, c6, c7] 25)
  have hB : Below b w (w.alloc (.cells #[c0, c1, c2, c3, c4, c5, c6, c7] 25)) := (Below.refl b w).alloc (by omega) _
  clear h
  have hx1 : (x != 43) = true := by simpa using hx
  have hx2 : (x == 43) = false := by simpa using hx
  have hy1 : (x != 44) = true := by simpa using hy
  have hy2 : (x == 44) = false := by simpa using hy
  go_enter Try.func83, Try.ntmps83
  go_wp2_with (first
    | (go_at_call 91
       refine (inner_some _ b L x n (by assumption)).mono ?_
       rintro e w2 ⟨rfl, hB2, hN2⟩
       have hB3 : Below b w w2 := hB.trans (hB2.mono (by first | (simp; omega) | (have := hN.lt; omega)))
       clear hN hB hB2
       have hN := hN2
       have hB := hB3
       clear hN2 hB3))
  go_ret
  exact ⟨rfl, hB⟩
set_option maxRecDepth 1000000 in
set_option maxHeartbeats 4000000 in
theorem step_endloop_wrong (w : World) (b : Nat) (L : List Int) (x : Int) (n : Int) (c0 c1 c2 c3 c4 c5 c6 c7 : Value) (h : Nst w b (L ++ [x]) n) (hx : x ≠ 46) :
    Calls Try.prog 83 #[.pointer (some ⟨b, 0, none⟩), .agg #[c0, c1, c2, c3, c4, c5, c6, c7], .int .i64 49] w fun e w' => e = .returned (.bool false) ∧ Below b w w' := by
  have hlt := h.lt
  have hN := h.alloc (.cells #[c0, c1, c2, c3, c4, c5, c6, c7] 25)
  have hB : Below b w (w.alloc (.cells #[c0, c1, c2, c3, c4, c5, c6, c7] 25)) := (Below.refl b w).alloc (by omega) _
  clear h
  have hx1 : (x != 46) = true := by simpa using hx
  have hx2 : (x == 46) = false := by simpa using hx
  go_enter Try.func83, Try.ntmps83
  go_wp2_with (first
    | (go_at_call 91
       refine (inner_some _ b L x n (by assumption)).mono ?_
       rintro e w2 ⟨rfl, hB2, hN2⟩
       have hB3 : Below b w w2 := hB.trans (hB2.mono (by simp; omega))))
  go_ret
  exact ⟨rfl, hB3⟩
set_option maxRecDepth 1000000 in
set_option maxHeartbeats 4000000 in
theorem step_loop_full (w : World) (b : Nat) (L : List Int) (n : Int) (c0 c1 c2 c3 c4 c5 c6 c7 : Value) (h : Nst w b L n) (hn : 3 ≤ n) :
    Calls Try.prog 83 #[.pointer (some ⟨b, 0, none⟩), .agg #[c0, c1, c2, c3, c4, c5, c6, c7], .int .i64 46] w fun e w' => e = .returned (.bool false) ∧ Below b w w' := by
  have hlt := h.lt
  have hB : Below b w (w.alloc (.cells #[c0, c1, c2, c3, c4, c5, c6, c7] 25)) := (Below.refl b w).alloc (by omega) _
  obtain ⟨v, h1, h2⟩ := h
  have hc1 := cell1_of h1
  have hge : decide (n ≥ 3) = true := decide_eq_true (by omega)
  go_enter Try.func83, Try.ntmps83
  go_wp2
  go_ret
  exact ⟨rfl, hB⟩
set_option maxRecDepth 1000000 in
set_option maxHeartbeats 4000000 in
theorem step_else (w : World) (b : Nat) (L : List Int) (n : Int) (c0 c1 c2 c3 c4 c5 c6 c7 : Value) (h : Nst w b (L ++ [43]) n) :
    Calls Try.prog 83 #[.pointer (some ⟨b, 0, none⟩), .agg #[c0, c1, c2, c3, c4, c5, c6, c7], .int .i64 44] w fun e w' => e = .returned (.bool true) ∧ Below b w w' ∧ Nst w' b (L ++ [44]) n := by
  have hlt := h.lt
  have hN := h.alloc (.cells #[c0, c1, c2, c3, c4, c5, c6, c7] 25)
  have hB : Below b w (w.alloc (.cells #[c0, c1, c2, c3, c4, c5, c6, c7] 25)) := (Below.refl b w).alloc (by omega) _
  clear h
  go_enter Try.func83, Try.ntmps83
  go_wp2_with (first
    | (go_at_call 91
       refine (inner_some _ b L 43 n (by assumption)).mono ?_
       rintro e w2 ⟨rfl, hB2, hN2⟩
       have hB3 : Below b w w2 := hB.trans (hB2.mono (by simp; omega))))
  obtain ⟨g, c, h1, h2, h3, h4, h5⟩ := hN2.some
  have h1 : w2.drew.heap[b]? = some (.cells #[.slice (some ⟨g, 0, none⟩) (L.length + 1) c, .int .i64 n] 104 (0, 0)) := h1
  have hc0 := cell0_of h1
  have h2 : w2.drew.ownsRow (b + 1) 58 1 (.slice (some ⟨g, 0, none⟩) (L.length + 1) c) (L.length + 1) (L.map (Value.int .i64) ++ [.int .i64 43]) := h2
  have ct0 := h2.cellAt L.length (by omega)
  have hfz := h2.frozenAt L.length
  have hget : (L.map (Value.int .i64) ++ [.int .i64 43])[L.length]? = some (.int .i64 43) := by simp
  rw [hget] at ct0
  have hwr : IntKind.i64.wrap (L.length : Int) = (L.length : Int) := by rw [IntKind.wrap_i64]; unfold maxLen at h5; omega
  have hix1 : (L.length : Int) < (L.length : Int) + 1 := by omega
  have hix2 : (L.length : Int) < ((L.length + 1 : Nat) : Int) := by omega
  have hix3 : L.length < L.length + 1 := by omega
  have hix0 : (0 : Int) ≤ (L.length : Int) := by omega
  go_still_tail 11, (by kernel_rfl)
  change wpList _ _ _ _ _ w2.drew
  have hB : Below b w w2.drew := below_drewN hB3 1
  generalize w2.drew = w3 at h1 hc0 hfz hB h2 ct0 ⊢
  go_wp2
  go_ret
  have hst := h2.stored L.length (.int .i64 44)
  refine ⟨rfl, below_set hB (by omega) _, _, (heap_setCell_other w3 ⟨g, L.length, none⟩ b _ (by simp; omega)).trans h1, ?_⟩
  have := hst.1
  simpa using this
end Go.Proofs.Ytjbhhdocbejccaa.Pl
