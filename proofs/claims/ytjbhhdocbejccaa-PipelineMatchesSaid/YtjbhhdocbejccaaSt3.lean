/- Chapter 43: the stack of open constructs: step, for each kind of instruction. What the calls do to memory; conditions: the stack is the call's own (Nst), at most 20000 constructs are open, from 0 to 3 loops. -/
import Derived.Test.YtjbhhdocbejccaaSt2
namespace Go.Proofs.Ytjbhhdocbejccaa.Pl
open Go Go.RowKit
set_option linter.unusedVariables false
set_option linter.unusedSimpArgs false
theorem info58 : (Try.prog.info? 58).map (fun i => (i.zero, i.size, i.bytes)) = some (some (.int .i64 0), 1, 8) := by kernel_rfl
theorem own_slice {w : World} {base : Nat} {e : TypeId} {size : Nat} {v : Value} {k : Nat} {xs : List Value} (h : w.ownsRow base e size v (k + 1) xs) : ∃ g cap, v = .slice (some ⟨g, 0, none⟩) (k + 1) cap := by
  rcases h.2 with ⟨_, h0⟩ | ⟨g, cap, cur, rfl, _⟩
  · omega
  · exact ⟨g, cap, rfl⟩
theorem cell_one_new' (w : World) (a : Value) (t : TypeId) (B : Nat) (hB : B = w.heap.size) : ∀ j u, [a][j]? = some u → (w.alloc (.cells #[a] t)).cell? ((⟨B, 0, none⟩ : Addr).add j) = some u := by
  subst hB
  intro j u hj
  match j, hj with
  | 0, hj => simp at hj; subst hj; simp [Addr.add]
  | j + 1, hj => simp at hj
theorem Nst.lt {w : World} {b : Nat} {L : List Int} {n : Int} (h : Nst w b L n) : b < w.heap.size := by
  obtain ⟨v, h1, _⟩ := h
  exact (Array.getElem?_eq_some_iff.1 h1).1
theorem Nst.kept {w w' : World} {b : Nat} {L : List Int} {n : Int} (h : Nst w b L n) (hb : Below w.heap.size w w') : Nst w' b L n := by
  have hlt := h.lt
  obtain ⟨v, h1, h2⟩ := h
  refine ⟨v, by rw [hb.block b hlt]; exact h1, h2.1, ?_⟩
  rcases h2.2 with h | ⟨g, cap, cur, rfl, hg, hc, rest⟩
  · exact .inl h
  · exact .inr ⟨g, cap, cur, rfl, hg, by rw [hb.block g (Array.getElem?_eq_some_iff.1 hc).1]; exact hc, rest⟩
theorem Nst.alloc {w : World} {b : Nat} {L : List Int} {n : Int} (h : Nst w b L n) (o : Obj) : Nst (w.alloc o) b L n := h.kept ((Below.refl _ w).alloc (Nat.le_refl _) o)
set_option maxRecDepth 1000000 in
set_option maxHeartbeats 4000000 in
theorem step_if (w : World) (b : Nat) (L : List Int) (n : Int) (c0 c1 c2 c3 c4 c5 c6 c7 : Value) (h : Nst w b L n) (hL : L.length ≤ 20000) :
    Calls Try.prog 83 #[.pointer (some ⟨b, 0, none⟩), .agg #[c0, c1, c2, c3, c4, c5, c6, c7], .int .i64 43] w fun e w' => e = .returned (.bool true) ∧ Below b w w' ∧ Nst w' b (L ++ [43]) n := by
  obtain ⟨i0, hi, hz0, hz1, hz2⟩ := info_parts info58
  have hlt := h.lt
  have hA := h.alloc (.cells #[c0, c1, c2, c3, c4, c5, c6, c7] 25)
  have hB : Below b w (w.alloc (.cells #[c0, c1, c2, c3, c4, c5, c6, c7] 25)) := (Below.refl b w).alloc (by omega) _
  clear h
  obtain ⟨v, h1, h2⟩ := hA
  have hc0 := cell0_of h1
  go_enter Try.func83, Try.ntmps83
  go_wp2_with (first
    | (at_builtin
       go_loud (refine wpList_append_own _ rfl _ _ 102 rfl (b + 1) 58 i0 (.int .i64 0) 1 8 Try.underlying102 hi hz0 hz1 hz2 rfl (by decide) _ _ _ rfl (h2.alloc _) ⟨_, 0, none⟩ 1 1 [.int .i64 43] rfl rfl (cell_one_new' _ _ _ _ (by simp)) (fun x hx => by simp at hx; subst hx; rfl) (by unfold maxLen; omega) (by omega) (by simp; omega) ?_)
       intro v' w3 hown' hgrow3 hnil3
       obtain ⟨g', cap', rfl⟩ := own_slice hown'
       have hb3 := (hgrow3.block b (by simp; omega) (fun e => by have := h2.lt _ e.symm; omega)).trans ((Below.heap_alloc _ _ _ (by simp; omega)).trans h1)
       have hfz3 := frozen_of hb3 0
       have hc3 := cell0_of hb3
       have hB3 : Below b w w3 := Below.grown (hB.alloc (by simp; omega) _) hgrow3 (by simp; omega) (fun j hj => by have := h2.lt _ hj; omega)
       have X : Aside (w3.ownsRow (b + 1) 58 1 (.slice (some ⟨g', 0, none⟩) (L.length + 1) cap') (L.length + 1) (L.map (Value.int .i64) ++ [.int .i64 43]) ∧ Below b w w3) := ⟨hown', hB3⟩
       clear hown' hgrow3 hnil3 hB3))
  go_ret
  refine ⟨rfl, below_set X.out.2 (Nat.le_refl _) _, _, heap_set0 hb3, ?_⟩
  have := ownsRow_setCell_below X.out.1 (a := ⟨b, 0, none⟩) (by simp) (.slice (some ⟨g', 0, none⟩) (L.length + 1) cap')
  simpa using this
set_option maxRecDepth 1000000 in
set_option maxHeartbeats 4000000 in
theorem step_loop (w : World) (b : Nat) (L : List Int) (n : Int) (c0 c1 c2 c3 c4 c5 c6 c7 : Value) (h : Nst w b L n) (hL : L.length ≤ 20000) (hn0 : 0 ≤ n) (hn : n < 3) :
    Calls Try.prog 83 #[.pointer (some ⟨b, 0, none⟩), .agg #[c0, c1, c2, c3, c4, c5, c6, c7], .int .i64 46] w fun e w' => e = .returned (.bool true) ∧ Below b w w' ∧ Nst w' b (L ++ [46]) (n + 1) := by
  obtain ⟨i0, hi, hz0, hz1, hz2⟩ := info_parts info58
  have hlt := h.lt
  obtain ⟨v, h1, h2⟩ := h
  have hc0 := cell0_of h1
  have hc1 := cell1_of h1
  have hf1 := frozen_of h1 1
  have hge : decide (n ≥ 3) = false := decide_eq_false (by omega)
  have hge2 : ¬ (3 : Int) ≤ n := by omega
  have hwr : IntKind.i64.wrap (n + 1) = n + 1 := by rw [IntKind.wrap_i64]; omega
  have hs1 := (Below.heap_alloc (w.setCell ⟨b, 1, none⟩ (.int .i64 (n + 1))) (.cells #[c0, c1, c2, c3, c4, c5, c6, c7] 25) b (by simp; omega)).trans (heap_set1 (x := .int .i64 (n + 1)) h1)
  have hs2 := (ownsRow_setCell_below h2 (a := ⟨b, 1, none⟩) (by simp) (.int .i64 (n + 1))).alloc (.cells #[c0, c1, c2, c3, c4, c5, c6, c7] 25)
  have hs3 := (below_set (Below.refl b w) (i := 1) (Nat.le_refl b) (.int .i64 (n + 1))).alloc (by simp; omega) (.cells #[c0, c1, c2, c3, c4, c5, c6, c7] 25)
  go_enter Try.func83, Try.ntmps83
  go_wp2_with (first
    | (at_builtin
       go_loud (refine wpList_append_own _ rfl _ _ 102 rfl (b + 1) 58 i0 (.int .i64 0) 1 8 Try.underlying102 hi hz0 hz1 hz2 rfl (by decide) _ _ _ rfl (hs2.alloc _) ⟨_, 0, none⟩ 1 1 [.int .i64 46] rfl rfl (cell_one_new' _ _ _ _ (by simp)) (fun x hx => by simp at hx; subst hx; rfl) (by unfold maxLen; omega) (by omega) (by simp; omega) ?_)
       intro v' w3 hown' hgrow3 hnil3
       obtain ⟨g', cap', rfl⟩ := own_slice hown'
       have hb3 := (hgrow3.block b (by simp; omega) (fun e => by have := hs2.lt _ e.symm; omega)).trans ((Below.heap_alloc _ _ _ (by simp; omega)).trans hs1)
       have hfz3 := frozen_of hb3 0
       have hc3 := cell0_of hb3
       have hB3 : Below b w w3 := Below.grown (hs3.alloc (by simp; omega) _) hgrow3 (by simp; omega) (fun j hj => by have := hs2.lt _ hj; omega)
       have X : Aside (w3.ownsRow (b + 1) 58 1 (.slice (some ⟨g', 0, none⟩) (L.length + 1) cap') (L.length + 1) (L.map (Value.int .i64) ++ [.int .i64 46]) ∧ Below b w w3) := ⟨hown', hB3⟩
       clear hown' hgrow3 hnil3 hB3))
  go_ret
  refine ⟨rfl, below_set X.out.2 (Nat.le_refl _) _, _, heap_set0 hb3, ?_⟩
  have := ownsRow_setCell_below X.out.1 (a := ⟨b, 0, none⟩) (by simp) (.slice (some ⟨g', 0, none⟩) (L.length + 1) cap')
  simpa using this
end Go.Proofs.Ytjbhhdocbejccaa.Pl
