/- Chapter 43: the stack of open constructs: inner, pop. What the calls do to memory; conditions: the stack is the call's own (Nst). -/
import Derived.Test.YtjbhhdocbejccaaProg
import Derived.WalkKit
import Derived.WalkSpells
import Derived.WalkSmall
import Derived.BigQuiet
import Derived.Deep.QuietTactic
import Derived.StillTailTactics
import Derived.Deep.LoopGhost
namespace Go.Proofs.Ytjbhhdocbejccaa.Pl
open Go Go.RowKit
set_option linter.unusedVariables false
set_option linter.unusedSimpArgs false
/-- The stack of open constructs: two cells in block b, the list in a block of its own behind it. -/
def Nst (w : World) (b : Nat) (L : List Int) (n : Int) : Prop := ∃ v, w.heap[b]? = some (.cells #[v, .int .i64 n] 104 (0, 0)) ∧ w.ownsRow (b + 1) 58 1 v L.length (L.map (Value.int .i64))
theorem cell0_of {w : World} {b : Nat} {v u : Value} {t : TypeId} (h : w.heap[b]? = some (.cells #[v, u] t (0, 0))) : w.cell? ⟨b, 0, none⟩ = some v := by simp [World.cell?, h]
theorem cell1_of {w : World} {b : Nat} {v u : Value} {t : TypeId} (h : w.heap[b]? = some (.cells #[v, u] t (0, 0))) : w.cell? ⟨b, 1, none⟩ = some u := by simp [World.cell?, h]
theorem frozen_of {w : World} {b : Nat} {v u : Value} {t : TypeId} (h : w.heap[b]? = some (.cells #[v, u] t (0, 0))) (i : Nat) : w.frozen? ⟨b, i, none⟩ = false := frozen_of_row w b i _ t h
theorem Nst.empty {w : World} {b : Nat} {n : Int} (h : Nst w b [] n) : ∃ A c, w.heap[b]? = some (.cells #[.slice A 0 c, .int .i64 n] 104 (0, 0)) := by
  obtain ⟨v, h1, h2⟩ := h
  rcases h2.2 with ⟨rfl, _⟩ | ⟨g, cap, cur, rfl, _⟩
  · exact ⟨_, _, h1⟩
  · exact ⟨_, _, h1⟩
theorem Nst.some {w : World} {b : Nat} {L : List Int} {x n : Int} (h : Nst w b (L ++ [x]) n) : ∃ g c, w.heap[b]? = some (.cells #[.slice (some ⟨g, 0, none⟩) (L.length + 1) c, .int .i64 n] 104 (0, 0)) ∧
    w.ownsRow (b + 1) 58 1 (.slice (some ⟨g, 0, none⟩) (L.length + 1) c) (L.length + 1) (L.map (Value.int .i64) ++ [.int .i64 x]) ∧ b < g ∧ L.length + 1 ≤ c ∧ c ≤ maxLen := by
  obtain ⟨v, h1, h2⟩ := h
  simp only [List.length_append, List.length_singleton, List.map_append, List.map_cons, List.map_nil] at h2
  have h3 := h2
  rcases h3.2 with ⟨_, h0⟩ | ⟨g, cap, cur, rfl, hb, _, h4, h5, _⟩
  · omega
  · exact ⟨g, cap, h1, h2, by omega, h4, h5⟩
set_option maxRecDepth 1000000 in
set_option maxHeartbeats 2000000 in
theorem inner_empty (w : World) (b : Nat) (n : Int) (h : Nst w b [] n) : Calls Try.prog 91 #[.pointer (some ⟨b, 0, none⟩)] w fun e w' => e = .returned (.int .i64 0) ∧ w' = w := by
  obtain ⟨A, c, h1⟩ := h.empty
  have hc0 := cell0_of h1
  go_enter Try.func91, Try.ntmps91
  go_wp2
  go_ret
  exact ⟨rfl, rfl⟩
set_option maxRecDepth 1000000 in
set_option maxHeartbeats 2000000 in
theorem inner_some (w : World) (b : Nat) (L : List Int) (x n : Int) (h : Nst w b (L ++ [x]) n) : Calls Try.prog 91 #[.pointer (some ⟨b, 0, none⟩)] w fun e w' => e = .returned (.int .i64 x) ∧ Below w.heap.size w w' ∧ Nst w' b (L ++ [x]) n := by
  obtain ⟨g, c, h1, h2, h3, h4, h5⟩ := h.some
  have hc0 := cell0_of h1
  have ct0 := h2.cellAt L.length (by omega)
  have hg0 : (((L.length : Int) + 1) == 0) = false := by simp; omega
  have hwr : IntKind.i64.wrap (L.length : Int) = (L.length : Int) := by rw [IntKind.wrap_i64]; unfold maxLen at h5; omega
  have hix1 : (L.length : Int) < (L.length : Int) + 1 := by omega
  have hix2 : (L.length : Int) < ((L.length + 1 : Nat) : Int) := by omega
  have hix3 : L.length < L.length + 1 := by omega
  have hix0 : (0 : Int) ≤ (L.length : Int) := by omega
  have hget : (L.map (Value.int .i64) ++ [.int .i64 x])[L.length]? = some (.int .i64 x) := by simp
  rw [hget] at ct0
  go_enter Try.func91, Try.ntmps91
  go_wp2
  go_quiet (fail)
  go_wp2
  go_ret
  exact ⟨rfl, below_drewN (Below.refl _ _) _, h⟩
end Go.Proofs.Ytjbhhdocbejccaa.Pl
