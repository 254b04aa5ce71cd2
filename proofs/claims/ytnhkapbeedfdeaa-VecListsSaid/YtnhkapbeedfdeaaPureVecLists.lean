/- Of, List, Component and With return the specified vectors, lists and components: for every list, vector, index and number of 64 bits, no condition. -/
import Derived.Test.YtnhkapbeedfdeaaPVecListsx4
import Derived.Test.YtnhkapbeedfdeaaMath
import Derived.OpenShut
namespace Go.Proofs.Ytnhkapbeedfdeaa.Pure
open Go.RowKit Go.Proofs.Ytnhkapbeedfdeaa.PVecLists Go.Proofs.YtnhkapbeedfdeaaW.PrintWords Go.Proofs.YtnhkapbeedfdeaaW.PrintLast Go.Proofs.YtnhkapbeedfdeaaW.PrintMore Go.Proofs.Ytnhkapbeedfdeaa.M Go.OpenShut
set_option linter.unusedVariables false
set_option linter.unusedSimpArgs false
theorem mx_eq (a b : Int) : mx a b = max a b := by unfold mx; split <;> omega
theorem mn_eq (a b : Int) : mn a b = min a b := by unfold mn; split <;> omega
theorem w64 {x : Int} (h1 : -9223372036854775808 ≤ x) (h2 : x ≤ 9223372036854775807) : wrap64 x = x := by unfold wrap64; omega
theorem u64 {x : Int} (h1 : 0 ≤ x) (h2 : x ≤ 18446744073709551615) : IntKind.u64.wrap x = x := by
  simp only [IntKind.wrap, IntKind.bits, IntKind.signed]; simp; omega
theorem and16 (x : Int) : Go.bits .and .i64 x 65535 = x % 65536 := by
  show IntKind.i64.wrap ((BitVec.ofInt 64 x &&& BitVec.ofInt 64 65535).toNat : Int) = _
  rw [IntKind.wrap_i64, BitVec.toNat_and, BitVec.toNat_ofInt, BitVec.toNat_ofInt,
    show ((65535 : Int) % ((2 ^ 64 : Nat) : Int)).toNat = 2 ^ 16 - 1 by decide, Nat.and_two_pow_sub_one_eq_mod]
  omega
theorem bv_andNot (x : BitVec 64) : (x &&& ~~~65535#64).toNat + x.toNat % 65536 = x.toNat := by
  have h : (x &&& 65535#64) + (x &&& ~~~65535#64) = x := by
    rw [BitVec.add_eq_or_of_and_eq_zero]
    · ext i hi; simp only [BitVec.getElem_or, BitVec.getElem_and, BitVec.getElem_not]; cases x[i] <;> simp
    · ext i hi; simp only [BitVec.getElem_and, BitVec.getElem_not, BitVec.getElem_zero]; cases (65535#64)[i] <;> simp
  have h' := congrArg BitVec.toNat h
  have hlt := x.isLt
  have hle : (x &&& ~~~65535#64).toNat ≤ x.toNat := by rw [BitVec.toNat_and]; exact Nat.and_le_left
  have hle2 : (x &&& ~~~65535#64).toNat % 65536 = 0 := by
    have : (x &&& ~~~65535#64).toNat % 2 ^ 16 = 0 := by
      rw [BitVec.toNat_and, Nat.and_mod_two_pow, show (~~~65535#64).toNat % 2 ^ 16 = 0 by decide, Nat.and_zero]
    exact this
  rw [BitVec.toNat_add, BitVec.toNat_and, show (65535#64).toNat = 2 ^ 16 - 1 by decide, Nat.and_two_pow_sub_one_eq_mod] at h'
  omega
theorem andNot16 (x : Int) (h1 : -9223372036854775808 ≤ x) (h2 : x ≤ 9223372036854775807) : Go.bits .andNot .i64 x 65535 = x / 65536 * 65536 := by
  show IntKind.i64.wrap ((BitVec.ofInt 64 x &&& ~~~BitVec.ofInt 64 65535).toNat : Int) = _
  have h := bv_andNot (BitVec.ofInt 64 x)
  rw [BitVec.toNat_ofInt] at h
  rw [IntKind.wrap_i64, show BitVec.ofInt 64 65535 = 65535#64 by decide]
  omega
theorem E_Clamp (x lo hi : Int) : fixed_Clamp.f x lo hi = some (clamp x lo hi) := by
  unfold fixed_Clamp.f clamp; rw [mx_eq, mn_eq]
theorem E_Saturate (x : Int) : fixed_Saturate.f x = some (sat x) := by
  unfold fixed_Saturate.f; rw [E_Clamp]; rfl
theorem E_RoundDiv0 {k : Nat} (hk : 2 ≤ k) {n d : Int} (h1 : 1 ≤ d) (h2 : d ≤ 4611686018427387904) (h3 : 0 ≤ n) (h4 : n ≤ 4611686018427387904) : fixed_RoundDiv.f k n d = some (rnd n d) := by
  obtain ⟨k, rfl⟩ : ∃ m, k = m + 2 := ⟨k - 2, by omega⟩
  have hq := rdp_nonneg (n := n) (d := d) (by omega) h3
  have hb := rdp_le (n := n) (d := d) (m := n) (by omega) (by have := Int.mul_le_mul_of_nonneg_left h1 h3; omega)
  simp only [fixed_RoundDiv.f]
  rw [if_neg (by omega), if_neg (by omega), if_neg (by omega)]
  simp only [fixed_RoundDiv.j0]
  rw [if_neg (by simp; omega), if_neg (by omega)]
  have e1 : IntKind.u64.wrap d = d := u64 (by omega) (by omega)
  have e2 : IntKind.u64.wrap n = n := u64 (by omega) (by omega)
  have e3 : IntKind.u64.wrap (2 * d) = 2 * d := u64 (by omega) (by omega)
  have e4 : IntKind.u64.wrap (2 * n) = 2 * n := u64 (by omega) (by omega)
  have e5 : IntKind.u64.wrap (2 * n + d) = 2 * n + d := u64 (by omega) (by omega)
  have e6 : Int.tdiv (2 * n + d) (2 * d) = rdp n d := Int.tdiv_eq_ediv_of_nonneg (by omega)
  rw [e1, e2, e3, if_neg (by omega), e4, e5, e6, u64 hq (by omega), w64 (by omega) (by omega), rd_pos h3]
theorem E_RoundDiv {k : Nat} (hk : 4 ≤ k) {n d : Int} (h1 : 1 ≤ d) (h2 : d ≤ 4611686018427387904) (h3 : -4611686018427387904 ≤ n) (h4 : n ≤ 4611686018427387904) : fixed_RoundDiv.f k n d = some (rnd n d) := by
  by_cases hn : n < 0
  · obtain ⟨k, rfl⟩ : ∃ m, k = m + 2 := ⟨k - 2, by omega⟩
    have hb := rd_bound (n := -n) (d := d) (B := 4611686018427387904) (by omega) (by omega) (by omega)
    simp only [fixed_RoundDiv.f]
    rw [if_neg (by omega), if_neg (by omega), if_neg (by omega)]
    simp only [fixed_RoundDiv.j0]
    rw [if_neg (by simp; omega), if_pos hn, w64 (by omega) (by omega), E_RoundDiv0 (by omega) h1 h2 (by omega) (by omega), Option.bind_some,
      w64 (by omega) (by omega), rd_odd (by omega), Int.neg_neg]
  · exact E_RoundDiv0 (by omega) h1 h2 (by omega) h4
theorem E_RoundDivOut {k : Nat} (hk : 2 ≤ k) {n d : Int} (h : d < 1 ∨ d > 4611686018427387904 ∨ n < -4611686018427387904 ∨ n > 4611686018427387904) : fixed_RoundDiv.f k n d = some 0 := by
  obtain ⟨k, rfl⟩ : ∃ m, k = m + 2 := ⟨k - 2, by omega⟩
  simp only [fixed_RoundDiv.f]
  by_cases h1 : d < 1
  · rw [if_pos h1]; rfl
  · rw [if_neg h1]
    by_cases h2 : d > 4611686018427387904
    · rw [if_pos h2]; rfl
    · rw [if_neg h2]
      by_cases h3 : n < -4611686018427387904
      · rw [if_pos h3]; rfl
      · rw [if_neg h3]; simp only [fixed_RoundDiv.j0]; rw [if_pos (by simp; omega)]
theorem E_RoundDivAll {k : Nat} (hk : 4 ≤ k) (n d : Int) : fixed_RoundDiv.f k n d = some (RD n d) := by
  by_cases h : d < 1 ∨ d > 4611686018427387904 ∨ n < -4611686018427387904 ∨ n > 4611686018427387904
  · rw [E_RoundDivOut (by omega) h]; unfold RD; rw [if_pos h]
  · rw [E_RoundDiv hk (by omega) (by omega) (by omega) (by omega)]; unfold RD; rw [if_neg h]
theorem dot_bd (a b : Int) : -288230375077969921 ≤ sat a * sat b ∧ sat a * sat b ≤ 288230375077969921 := satmul_bd a b
theorem E_Dot {k : Nat} (hk : 10 ≤ k) (a0 a1 a2 a3 b0 b1 b2 b3 : Int) : vec_Dot.f k a0 a1 a2 a3 b0 b1 b2 b3 = some (DOT a0 a1 a2 a3 b0 b1 b2 b3) := by
  obtain ⟨k, rfl⟩ : ∃ m, k = m + 5 := ⟨k - 5, by omega⟩
  have h0 := dot_bd a0 b0
  have h1 := dot_bd a1 b1
  have h2 := dot_bd a2 b2
  have h3 := dot_bd a3 b3
  have l1 : (([a0, a1, a2, a3] : List Int).length : Int) = 4 := rfl
  have l2 : (([b0, b1, b2, b3] : List Int).length : Int) = 4 := rfl
  unfold vec_Dot.f
  simp only [vec_List.f, Option.bind_some, vec_Dot.l0, l1, l2]
  rw [if_pos (by decide), if_pos (by decide), if_pos (by decide), E_Saturate, Option.bind_some, if_pos (by decide), E_Saturate, Option.bind_some]
  rw [show wrap64 (0 + 1) = 1 by decide +kernel, if_pos (by decide), if_pos (by decide), if_pos (by decide), E_Saturate, Option.bind_some, if_pos (by decide), E_Saturate, Option.bind_some]
  rw [show wrap64 (1 + 1) = 2 by decide +kernel, if_pos (by decide), if_pos (by decide), if_pos (by decide), E_Saturate, Option.bind_some, if_pos (by decide), E_Saturate, Option.bind_some]
  rw [show wrap64 (2 + 1) = 3 by decide +kernel, if_pos (by decide), if_pos (by decide), if_pos (by decide), E_Saturate, Option.bind_some, if_pos (by decide), E_Saturate, Option.bind_some]
  rw [show wrap64 (3 + 1) = 4 by decide +kernel, if_neg (by decide)]
  rw [show rd [a0, a1, a2, a3] 0 = a0 from rfl, show rd [a0, a1, a2, a3] 1 = a1 from rfl, show rd [a0, a1, a2, a3] 2 = a2 from rfl, show rd [a0, a1, a2, a3] 3 = a3 from rfl,
    show rd [b0, b1, b2, b3] 0 = b0 from rfl, show rd [b0, b1, b2, b3] 1 = b1 from rfl, show rd [b0, b1, b2, b3] 2 = b2 from rfl, show rd [b0, b1, b2, b3] 3 = b3 from rfl]
  rw [w64 (x := sat a0 * sat b0) (by omega) (by omega), w64 (x := sat a1 * sat b1) (by omega) (by omega), w64 (x := sat a2 * sat b2) (by omega) (by omega), w64 (x := sat a3 * sat b3) (by omega) (by omega),
    Int.zero_add, w64 (x := sat a0 * sat b0) (by omega) (by omega), w64 (x := sat a0 * sat b0 + sat a1 * sat b1) (by omega) (by omega), w64 (x := sat a0 * sat b0 + sat a1 * sat b1 + sat a2 * sat b2) (by omega) (by omega),
    w64 (x := sat a0 * sat b0 + sat a1 * sat b1 + sat a2 * sat b2 + sat a3 * sat b3) (by omega) (by omega),
    E_RoundDiv (by omega) (by omega) (by omega) (by omega) (by omega), Option.bind_some, E_Saturate]; rfl
theorem E_ex03 {k : Nat} (hk : 10 ≤ k) : frustumlaw03_example.f k = some true := by
  unfold frustumlaw03_example.f
  rw [E_Dot hk, Option.bind_some, if_pos (by decide)]; rfl
def wth (a0 a1 a2 a3 i x : Int) : Int × Int × Int × Int := if i = 0 then (x, a1, a2, a3) else if i = 1 then (a0, x, a2, a3) else if i = 2 then (a0, a1, x, a3) else if i = 3 then (a0, a1, a2, x) else (a0, a1, a2, a3)
theorem E_With (a0 a1 a2 a3 i x : Int) : vec_With.f a0 a1 a2 a3 i x = some (wth a0 a1 a2 a3 i x) := by
  unfold vec_With.f wth; repeat' split
  all_goals rfl
theorem F_With (a0 a1 a2 a3 i x : Int) : frustumref03_With.f a0 a1 a2 a3 i x = some (wth a0 a1 a2 a3 i x) := by
  unfold frustumref03_With.f wth; repeat' split
  all_goals rfl
theorem comp_same (a0 a1 a2 a3 i : Int) : ∃ r, vec_Component.f a0 a1 a2 a3 i = some r ∧ frustumref03_Component.f a0 a1 a2 a3 i = some r := by
  unfold vec_Component.f frustumref03_Component.f
  by_cases h1 : i < 0
  · rw [if_pos h1, if_pos h1]; exact ⟨_, rfl, rfl⟩
  rw [if_neg h1, if_neg h1]
  by_cases h2 : i > 3
  · rw [if_pos h2, if_pos h2]; exact ⟨_, rfl, rfl⟩
  rw [if_neg h2, if_neg h2]
  simp only [vec_List.f, frustumref03_List.f, Option.bind_some]
  have l1 : (([a0, a1, a2, a3] : List Int).length : Int) = 4 := rfl
  rw [l1, if_pos (by omega), if_pos (by omega)]
  exact ⟨_, rfl, rfl⟩
theorem wth_out (a0 a1 a2 a3 i x : Int) (h : 4 ≤ i) : wth a0 a1 a2 a3 i x = (a0, a1, a2, a3) := by
  unfold wth; rw [if_neg (by omega), if_neg (by omega), if_neg (by omega), if_neg (by omega)]
theorem of_step {k : Nat} {l : List Int} (hn : (l.length : Int) ≤ 140737488355328) {i : Int} (a b c d : Int) (h0 : 0 ≤ i) (h1 : i < l.length) :
    vec_Of.l0 (k + 1) l (l.length : Int) i a b c d = vec_Of.l0 k l (l.length : Int) (i + 1) (wth a b c d i (rd l i)).1 (wth a b c d i (rd l i)).2.1 (wth a b c d i (rd l i)).2.2.1 (wth a b c d i (rd l i)).2.2.2 := by
  simp only [vec_Of.l0]
  rw [if_pos h1, if_pos h0, if_pos h1, E_With, Option.bind_some, w64 (by omega) (by omega)]
theorem of_end {k : Nat} {l : List Int} {i : Int} (a b c d : Int) (h1 : ¬ i < l.length) : vec_Of.l0 (k + 1) l (l.length : Int) i a b c d = some (a, b, c, d) := by
  simp only [vec_Of.l0]; rw [if_neg h1]
theorem of_tail {l : List Int} (hn : (l.length : Int) ≤ 140737488355328) (a b c d : Int) (m : Nat) : ∀ (k : Nat) (i : Int), 4 ≤ i → (l.length : Int) - i ≤ m → m < k → vec_Of.l0 k l (l.length : Int) i a b c d = some (a, b, c, d) := by
  induction m with
  | zero =>
    intro k i h0 h1 hk
    obtain ⟨k, rfl⟩ : ∃ m, k = m + 1 := ⟨k - 1, by omega⟩
    exact of_end a b c d (by omega)
  | succ m ih =>
    intro k i h0 h1 hk
    obtain ⟨k, rfl⟩ : ∃ m, k = m + 1 := ⟨k - 1, by omega⟩
    by_cases c1 : i < (l.length : Int)
    · rw [of_step hn a b c d (by omega) c1, wth_out _ _ _ _ _ _ h0]
      exact ih k (i + 1) (by omega) (by omega) (by omega)
    · exact of_end a b c d c1
theorem rd_out {l : List Int} {i : Int} (h0 : 0 ≤ i) (h : ¬ i < l.length) : rd l i = 0 := by
  unfold rd; rw [List.getD_eq_getElem?_getD, List.getElem?_eq_none (by omega)]; rfl
theorem E_Of {l : List Int} (hn : (l.length : Int) ≤ 140737488355328) {k : Nat} (hk : l.length + 10 ≤ k) : vec_Of.f k l = some (rd l 0, rd l 1, rd l 2, rd l 3) := by
  obtain ⟨k, rfl⟩ : ∃ m, k = m + 5 := ⟨k - 5, by omega⟩
  unfold vec_Of.f
  by_cases c0 : (0 : Int) < l.length
  · rw [of_step hn _ _ _ _ (by decide) c0]
    show vec_Of.l0 (k + 4) l _ 1 (rd l 0) 0 0 0 = _
    by_cases c1 : (1 : Int) < l.length
    · rw [of_step hn _ _ _ _ (by decide) c1]
      show vec_Of.l0 (k + 3) l _ 2 (rd l 0) (rd l 1) 0 0 = _
      by_cases c2 : (2 : Int) < l.length
      · rw [of_step hn _ _ _ _ (by decide) c2]
        show vec_Of.l0 (k + 2) l _ 3 (rd l 0) (rd l 1) (rd l 2) 0 = _
        by_cases c3 : (3 : Int) < l.length
        · rw [of_step hn _ _ _ _ (by decide) c3]
          show vec_Of.l0 (k + 1) l _ 4 (rd l 0) (rd l 1) (rd l 2) (rd l 3) = _
          exact of_tail hn _ _ _ _ l.length (k + 1) 4 (by decide) (by omega) (by omega)
        · rw [of_end _ _ _ _ c3, rd_out (i := 3) (by decide) c3]
      · rw [of_end _ _ _ _ c2, rd_out (i := 2) (by decide) c2, rd_out (i := 3) (by decide) (by omega)]
    · rw [of_end _ _ _ _ c1, rd_out (i := 1) (by decide) c1, rd_out (i := 2) (by decide) (by omega), rd_out (i := 3) (by decide) (by omega)]
  · rw [of_end _ _ _ _ c0, rd_out (i := 0) (by decide) c0, rd_out (i := 1) (by decide) (by omega), rd_out (i := 2) (by decide) (by omega), rd_out (i := 3) (by decide) (by omega)]
theorem rf_step {k : Nat} {l : List Int} (hn : (l.length : Int) ≤ 140737488355328) {i : Int} (a b c d : Int) (h0 : 0 ≤ i) (h1 : i < l.length) (h4 : i < 4) :
    frustumref03_Of.l0 (k + 1) l i a b c d = frustumref03_Of.l0 k l (i + 1) (wth a b c d i (rd l i)).1 (wth a b c d i (rd l i)).2.1 (wth a b c d i (rd l i)).2.2.1 (wth a b c d i (rd l i)).2.2.2 := by
  simp only [frustumref03_Of.l0]
  rw [if_pos h1, if_pos h4, if_pos h0, F_With, Option.bind_some, w64 (by omega) (by omega)]
theorem rf_end {k : Nat} {l : List Int} {i : Int} (a b c d : Int) (h1 : ¬ i < l.length ∨ ¬ i < 4) : frustumref03_Of.l0 (k + 1) l i a b c d = some (a, b, c, d) := by
  simp only [frustumref03_Of.l0]
  by_cases c : i < (l.length : Int)
  · rw [if_pos c, if_neg (by omega)]
  · rw [if_neg c]
theorem F_Of {l : List Int} (hn : (l.length : Int) ≤ 140737488355328) {k : Nat} (hk : 5 ≤ k) : frustumref03_Of.f k l = some (rd l 0, rd l 1, rd l 2, rd l 3) := by
  obtain ⟨k, rfl⟩ : ∃ m, k = m + 5 := ⟨k - 5, by omega⟩
  unfold frustumref03_Of.f
  by_cases c0 : (0 : Int) < l.length
  · rw [rf_step hn _ _ _ _ (by decide) c0 (by decide)]
    show frustumref03_Of.l0 (k + 4) l 1 (rd l 0) 0 0 0 = _
    by_cases c1 : (1 : Int) < l.length
    · rw [rf_step hn _ _ _ _ (by decide) c1 (by decide)]
      show frustumref03_Of.l0 (k + 3) l 2 (rd l 0) (rd l 1) 0 0 = _
      by_cases c2 : (2 : Int) < l.length
      · rw [rf_step hn _ _ _ _ (by decide) c2 (by decide)]
        show frustumref03_Of.l0 (k + 2) l 3 (rd l 0) (rd l 1) (rd l 2) 0 = _
        by_cases c3 : (3 : Int) < l.length
        · rw [rf_step hn _ _ _ _ (by decide) c3 (by decide)]
          show frustumref03_Of.l0 (k + 1) l 4 (rd l 0) (rd l 1) (rd l 2) (rd l 3) = _
          exact rf_end _ _ _ _ (by omega)
        · rw [rf_end _ _ _ _ (by omega), rd_out (i := 3) (by decide) c3]
      · rw [rf_end _ _ _ _ (by omega), rd_out (i := 2) (by decide) c2, rd_out (i := 3) (by decide) (by omega)]
    · rw [rf_end _ _ _ _ (by omega), rd_out (i := 1) (by decide) c1, rd_out (i := 2) (by decide) (by omega), rd_out (i := 3) (by decide) (by omega)]
  · rw [rf_end _ _ _ _ (by omega), rd_out (i := 0) (by decide) c0, rd_out (i := 1) (by decide) (by omega), rd_out (i := 2) (by decide) (by omega), rd_out (i := 3) (by decide) (by omega)]
theorem lists_step {k : Nat} (l : List Int) (a b c d p q i : Int) (h0 : 0 ≤ i) (h1 : i < 4) :
    frustumlaw03_VecLists.l0 (k + 1) l [a, b, c, d] i a b c d p q = frustumlaw03_VecLists.l0 k l [a, b, c, d] (i + 1) a b c d p q := by
  have l1 : (([a, b, c, d] : List Int).length : Int) = 4 := rfl
  simp only [frustumlaw03_VecLists.l0, frustumref03_List.f, Option.bind_some]
  rw [l1, if_pos h1, if_pos h0, if_pos h1, if_pos h1, if_pos trivial, w64 (by omega) (by omega)]
theorem lists_end {l : List Int} (hn : (l.length : Int) ≤ 140737488355328) {k : Nat} (hk : l.length + 12 ≤ k) (a b c d p q : Int) : frustumlaw03_VecLists.l0 (k + 1) l [a, b, c, d] 4 a b c d p q = some true := by
  obtain ⟨r, h1, h2⟩ := comp_same a b c d p
  simp only [frustumlaw03_VecLists.l0]
  rw [if_neg (by decide), E_Of hn (by omega), Option.bind_some, F_Of hn (by omega), Option.bind_some, if_pos (by simp), h1, Option.bind_some, h2, Option.bind_some, if_pos rfl, E_With, Option.bind_some, F_With, Option.bind_some, if_pos (by simp), E_ex03 (by omega)]
  rfl
theorem VecLists {l : List Int} (hn : l.length * 8 ≤ 140737488351232) (a b c d p q : Int) : frustumlaw03_VecLists.f (l.length + 60) l a b c d p q = some true := by
  have l1 : (([a, b, c, d] : List Int).length : Int) = 4 := rfl
  unfold frustumlaw03_VecLists.f
  simp only [vec_List.f, Option.bind_some]
  rw [l1, if_pos rfl, show l.length + 60 = (l.length + 56) + 1 + 1 + 1 + 1 from rfl, lists_step _ _ _ _ _ _ _ _ (by decide) (by decide), lists_step _ _ _ _ _ _ _ _ (by decide) (by decide), lists_step _ _ _ _ _ _ _ _ (by decide) (by decide), lists_step _ _ _ _ _ _ _ _ (by decide) (by decide)]
  exact lists_end (k := l.length + 55) (by omega) (by omega) a b c d p q
end Go.Proofs.Ytnhkapbeedfdeaa.Pure
