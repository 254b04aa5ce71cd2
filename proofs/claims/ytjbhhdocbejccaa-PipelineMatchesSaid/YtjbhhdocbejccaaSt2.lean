/- Chapter 43: the stack of open constructs: pop. What the call does to memory; conditions: the stack is the call's own (Nst) and not empty. -/
import Derived.Test.YtjbhhdocbejccaaSt1
namespace Go.Proofs.Ytjbhhdocbejccaa.Pl
open Go Go.RowKit
set_option linter.unusedVariables false
set_option linter.unusedSimpArgs false
theorem heap_set0 {w : World} {b : Nat} {v u x : Value} {t : TypeId} (h : w.heap[b]? = some (.cells #[v, u] t (0, 0))) : (w.setCell ⟨b, 0, none⟩ x).heap[b]? = some (.cells #[x, u] t (0, 0)) := by
  have := heap_setCell_same w b 0 _ t x h
  simpa using this
theorem heap_set1 {w : World} {b : Nat} {v u x : Value} {t : TypeId} (h : w.heap[b]? = some (.cells #[v, u] t (0, 0))) : (w.setCell ⟨b, 1, none⟩ x).heap[b]? = some (.cells #[v, x] t (0, 0)) := by
  have := heap_setCell_same w b 1 _ t x h
  simpa using this
theorem below_set {N : Nat} {w0 w : World} (h : Below N w0 w) {b i : Nat} (hb : N ≤ b) (u : Value) : Below N w0 (w.setCell ⟨b, i, none⟩ u) :=
  h.trans ⟨rfl, rfl, rfl, by simp, fun k hk => heap_setCell_other w ⟨b, i, none⟩ k u (by simp; omega)⟩
set_option maxRecDepth 1000000 in
set_option maxHeartbeats 2000000 in
theorem pop_some (w : World) (b : Nat) (L : List Int) (x n : Int) (h : Nst w b (L ++ [x]) n) : Calls Try.prog 92 #[.pointer (some ⟨b, 0, none⟩)] w fun e w' => (∃ v, e = .returned v) ∧ Below b w w' ∧ Nst w' b L n := by
  obtain ⟨g, c, h1, h2, h3, h4, h5⟩ := h.some
  have h1 : w.drew.heap[b]? = some (.cells #[.slice (some ⟨g, 0, none⟩) (L.length + 1) c, .int .i64 n] 104 (0, 0)) := h1
  have hc0 := cell0_of h1
  have hfz := frozen_of h1 0
  have hwr : IntKind.i64.wrap (L.length : Int) = (L.length : Int) := by rw [IntKind.wrap_i64]; unfold maxLen at h5; omega
  have hix1 : (L.length : Int) ≤ (c : Int) := by omega
  have hix0 : (0 : Int) ≤ (L.length : Int) := by omega
  have c58 : Try.prog.cellsOf 58 = 1 := by kernel_rfl
  go_enter Try.func92, Try.ntmps92
  go_wp2
  go_still_tail 12, (by kernel_rfl)
  change wpList _ _ _ _ _ w.drew
  have hB : Below b w w.drew := below_drewN (Below.refl b w) 1
  have h2 : w.drew.ownsRow (b + 1) 58 1 (.slice (some ⟨g, 0, none⟩) (L.length + 1) c) (L.length + 1) (L.map (Value.int .i64) ++ [.int .i64 x]) := h2
  generalize w.drew = w2 at h1 hc0 hfz hB h2 ⊢
  go_wp2
  go_end0
  refine ⟨⟨_, rfl⟩, below_set hB (Nat.le_refl _) _, ?_⟩
  refine ⟨_, heap_set0 h1, ?_⟩
  exact ownsRow_setCell_other (ownsRow_pop (by simp) h2) (by simp [Value.ownBlock]; omega) _
end Go.Proofs.Ytjbhhdocbejccaa.Pl
