/- Scaling by One, adding the zero vector and the dot product with a unit vector all give the saturated components; a limited vector is not changed by a second limitation: for every vector of 64-bit numbers, no condition. -/
import Derived.Test.YtnhkapbeedfdeaaPVecUnitx4
import Derived.Test.YtnhkapbeedfdeaaMath
import Derived.OpenShut
namespace Go.Proofs.Ytnhkapbeedfdeaa.Pure
open Go.RowKit Go.Proofs.Ytnhkapbeedfdeaa.PVecUnit Go.Proofs.YtnhkapbeedfdeaaW.PrintWords Go.Proofs.YtnhkapbeedfdeaaW.PrintLast Go.Proofs.YtnhkapbeedfdeaaW.PrintMore Go.Proofs.Ytnhkapbeedfdeaa.M Go.OpenShut
set_option linter.unusedVariables false
set_option linter.unusedSimpArgs false
theorem mx_eq (a b : Int) : mx a b = max a b := by unfold mx; split <;> omega
theorem mn_eq (a b : Int) : mn a b = min a b := by unfold mn; split <;> omega
theorem w64 {x : Int} (h1 : -9223372036854775808 ≤ x) (h2 : x ≤ 9223372036854775807) : wrap64 x = x := by unfold wrap64; omega
theorem u64 {x : Int} (h1 : 0 ≤ x) (h2 : x ≤ 18446744073709551615) : IntKind.u64.wrap x = x := by
  simp only [IntKind.wrap, IntKind.bits, IntKind.signed]; simp; omega
theorem and16 (x : Int) : Go.bits .and .i64 x 65535 = x % 65536 := by
  show IntKind.i64.wrap ((BitVec.ofInt 64 x &&& BitVec.ofInt 64 65535).toNat : Int) = _
  rw [IntKind.wrap_i64, BitVec.toNat_and, BitVec.toNat_ofInt, BitVec.toNat_ofInt,
    show ((65535 : Int) % ((2 ^ 64 : Nat) : Int)).toNat = 2 ^ 16 - 1 by decide, Nat.and_two_pow_sub_one_eq_mod]
  omega
theorem bv_andNot (x : BitVec 64) : (x &&& ~~~65535#64).toNat + x.toNat % 65536 = x.toNat := by
  have h : (x &&& 65535#64) + (x &&& ~~~65535#64) = x := by
    rw [BitVec.add_eq_or_of_and_eq_zero]
    · ext i hi; simp only [BitVec.getElem_or, BitVec.getElem_and, BitVec.getElem_not]; cases x[i] <;> simp
    · ext i hi; simp only [BitVec.getElem_and, BitVec.getElem_not, BitVec.getElem_zero]; cases (65535#64)[i] <;> simp
  have h' := congrArg BitVec.toNat h
  have hlt := x.isLt
  have hle : (x &&& ~~~65535#64).toNat ≤ x.toNat := by rw [BitVec.toNat_and]; exact Nat.and_le_left
  have hle2 : (x &&& ~~~65535#64).toNat % 65536 = 0 := by
    have : (x &&& ~~~65535#64).toNat % 2 ^ 16 = 0 := by
      rw [BitVec.toNat_and, Nat.and_mod_two_pow, show (~~~65535#64).toNat % 2 ^ 16 = 0 by decide, Nat.and_zero]
    exact this
  rw [BitVec.toNat_add, BitVec.toNat_and, show (65535#64).toNat = 2 ^ 16 - 1 by decide, Nat.and_two_pow_sub_one_eq_mod] at h'
  omega
theorem andNot16 (x : Int) (h1 : -9223372036854775808 ≤ x) (h2 : x ≤ 9223372036854775807) : Go.bits .andNot .i64 x 65535 = x / 65536 * 65536 := by
  show IntKind.i64.wrap ((BitVec.ofInt 64 x &&& ~~~BitVec.ofInt 64 65535).toNat : Int) = _
  have h := bv_andNot (BitVec.ofInt 64 x)
  rw [BitVec.toNat_ofInt] at h
  rw [IntKind.wrap_i64, show BitVec.ofInt 64 65535 = 65535#64 by decide]
  omega
theorem E_Clamp (x lo hi : Int) : fixed_Clamp.f x lo hi = some (clamp x lo hi) := by
  unfold fixed_Clamp.f clamp; rw [mx_eq, mn_eq]
theorem E_Saturate (x : Int) : fixed_Saturate.f x = some (sat x) := by
  unfold fixed_Saturate.f; rw [E_Clamp]; rfl
theorem E_Add (a b : Int) : fixed_Add.f a b = some (ADD a b) := by
  have h1 := sat_bd a
  have h2 := sat_bd b
  unfold fixed_Add.f
  simp only [E_Saturate, Option.bind_some]
  rw [w64 (by omega) (by omega)]; rfl
theorem E_RoundDiv0 {k : Nat} (hk : 2 ≤ k) {n d : Int} (h1 : 1 ≤ d) (h2 : d ≤ 4611686018427387904) (h3 : 0 ≤ n) (h4 : n ≤ 4611686018427387904) : fixed_RoundDiv.f k n d = some (rnd n d) := by
  obtain ⟨k, rfl⟩ : ∃ m, k = m + 2 := ⟨k - 2, by omega⟩
  have hq := rdp_nonneg (n := n) (d := d) (by omega) h3
  have hb := rdp_le (n := n) (d := d) (m := n) (by omega) (by have := Int.mul_le_mul_of_nonneg_left h1 h3; omega)
  simp only [fixed_RoundDiv.f]
  rw [if_neg (by omega), if_neg (by omega), if_neg (by omega)]
  simp only [fixed_RoundDiv.j0]
  rw [if_neg (by simp; omega), if_neg (by omega)]
  have e1 : IntKind.u64.wrap d = d := u64 (by omega) (by omega)
  have e2 : IntKind.u64.wrap n = n := u64 (by omega) (by omega)
  have e3 : IntKind.u64.wrap (2 * d) = 2 * d := u64 (by omega) (by omega)
  have e4 : IntKind.u64.wrap (2 * n) = 2 * n := u64 (by omega) (by omega)
  have e5 : IntKind.u64.wrap (2 * n + d) = 2 * n + d := u64 (by omega) (by omega)
  have e6 : Int.tdiv (2 * n + d) (2 * d) = rdp n d := Int.tdiv_eq_ediv_of_nonneg (by omega)
  rw [e1, e2, e3, if_neg (by omega), e4, e5, e6, u64 hq (by omega), w64 (by omega) (by omega), rd_pos h3]
theorem E_RoundDiv {k : Nat} (hk : 4 ≤ k) {n d : Int} (h1 : 1 ≤ d) (h2 : d ≤ 4611686018427387904) (h3 : -4611686018427387904 ≤ n) (h4 : n ≤ 4611686018427387904) : fixed_RoundDiv.f k n d = some (rnd n d) := by
  by_cases hn : n < 0
  · obtain ⟨k, rfl⟩ : ∃ m, k = m + 2 := ⟨k - 2, by omega⟩
    have hb := rd_bound (n := -n) (d := d) (B := 4611686018427387904) (by omega) (by omega) (by omega)
    simp only [fixed_RoundDiv.f]
    rw [if_neg (by omega), if_neg (by omega), if_neg (by omega)]
    simp only [fixed_RoundDiv.j0]
    rw [if_neg (by simp; omega), if_pos hn, w64 (by omega) (by omega), E_RoundDiv0 (by omega) h1 h2 (by omega) (by omega), Option.bind_some,
      w64 (by omega) (by omega), rd_odd (by omega), Int.neg_neg]
  · exact E_RoundDiv0 (by omega) h1 h2 (by omega) h4
theorem E_RoundDivOut {k : Nat} (hk : 2 ≤ k) {n d : Int} (h : d < 1 ∨ d > 4611686018427387904 ∨ n < -4611686018427387904 ∨ n > 4611686018427387904) : fixed_RoundDiv.f k n d = some 0 := by
  obtain ⟨k, rfl⟩ : ∃ m, k = m + 2 := ⟨k - 2, by omega⟩
  simp only [fixed_RoundDiv.f]
  by_cases h1 : d < 1
  · rw [if_pos h1]; rfl
  · rw [if_neg h1]
    by_cases h2 : d > 4611686018427387904
    · rw [if_pos h2]; rfl
    · rw [if_neg h2]
      by_cases h3 : n < -4611686018427387904
      · rw [if_pos h3]; rfl
      · rw [if_neg h3]; simp only [fixed_RoundDiv.j0]; rw [if_pos (by simp; omega)]
theorem E_RoundDivAll {k : Nat} (hk : 4 ≤ k) (n d : Int) : fixed_RoundDiv.f k n d = some (RD n d) := by
  by_cases h : d < 1 ∨ d > 4611686018427387904 ∨ n < -4611686018427387904 ∨ n > 4611686018427387904
  · rw [E_RoundDivOut (by omega) h]; unfold RD; rw [if_pos h]
  · rw [E_RoundDiv hk (by omega) (by omega) (by omega) (by omega)]; unfold RD; rw [if_neg h]
theorem E_Mul {k : Nat} (hk : 4 ≤ k) (a b : Int) : fixed_Mul.f k a b = some (MUL a b) := by
  have h := satmul_bd a b
  unfold fixed_Mul.f
  simp only [E_Saturate, Option.bind_some]
  rw [w64 (by omega) (by omega), E_RoundDiv hk (by omega) (by omega) (by omega) (by omega)]; rfl
theorem dot_bd (a b : Int) : -288230375077969921 ≤ sat a * sat b ∧ sat a * sat b ≤ 288230375077969921 := satmul_bd a b
theorem E_Dot {k : Nat} (hk : 10 ≤ k) (a0 a1 a2 a3 b0 b1 b2 b3 : Int) : vec_Dot.f k a0 a1 a2 a3 b0 b1 b2 b3 = some (DOT a0 a1 a2 a3 b0 b1 b2 b3) := by
  obtain ⟨k, rfl⟩ : ∃ m, k = m + 5 := ⟨k - 5, by omega⟩
  have h0 := dot_bd a0 b0
  have h1 := dot_bd a1 b1
  have h2 := dot_bd a2 b2
  have h3 := dot_bd a3 b3
  have l1 : (([a0, a1, a2, a3] : List Int).length : Int) = 4 := rfl
  have l2 : (([b0, b1, b2, b3] : List Int).length : Int) = 4 := rfl
  unfold vec_Dot.f
  simp only [vec_List.f, Option.bind_some, vec_Dot.l0, l1, l2]
  rw [if_pos (by decide), if_pos (by decide), if_pos (by decide), E_Saturate, Option.bind_some, if_pos (by decide), E_Saturate, Option.bind_some]
  rw [show wrap64 (0 + 1) = 1 by decide +kernel, if_pos (by decide), if_pos (by decide), if_pos (by decide), E_Saturate, Option.bind_some, if_pos (by decide), E_Saturate, Option.bind_some]
  rw [show wrap64 (1 + 1) = 2 by decide +kernel, if_pos (by decide), if_pos (by decide), if_pos (by decide), E_Saturate, Option.bind_some, if_pos (by decide), E_Saturate, Option.bind_some]
  rw [show wrap64 (2 + 1) = 3 by decide +kernel, if_pos (by decide), if_pos (by decide), if_pos (by decide), E_Saturate, Option.bind_some, if_pos (by decide), E_Saturate, Option.bind_some]
  rw [show wrap64 (3 + 1) = 4 by decide +kernel, if_neg (by decide)]
  rw [show rd [a0, a1, a2, a3] 0 = a0 from rfl, show rd [a0, a1, a2, a3] 1 = a1 from rfl, show rd [a0, a1, a2, a3] 2 = a2 from rfl, show rd [a0, a1, a2, a3] 3 = a3 from rfl,
    show rd [b0, b1, b2, b3] 0 = b0 from rfl, show rd [b0, b1, b2, b3] 1 = b1 from rfl, show rd [b0, b1, b2, b3] 2 = b2 from rfl, show rd [b0, b1, b2, b3] 3 = b3 from rfl]
  rw [w64 (x := sat a0 * sat b0) (by omega) (by omega), w64 (x := sat a1 * sat b1) (by omega) (by omega), w64 (x := sat a2 * sat b2) (by omega) (by omega), w64 (x := sat a3 * sat b3) (by omega) (by omega),
    Int.zero_add, w64 (x := sat a0 * sat b0) (by omega) (by omega), w64 (x := sat a0 * sat b0 + sat a1 * sat b1) (by omega) (by omega), w64 (x := sat a0 * sat b0 + sat a1 * sat b1 + sat a2 * sat b2) (by omega) (by omega),
    w64 (x := sat a0 * sat b0 + sat a1 * sat b1 + sat a2 * sat b2 + sat a3 * sat b3) (by omega) (by omega),
    E_RoundDiv (by omega) (by omega) (by omega) (by omega) (by omega), Option.bind_some, E_Saturate]; rfl
theorem E_ex03 {k : Nat} (hk : 10 ≤ k) : frustumlaw03_example.f k = some true := by
  unfold frustumlaw03_example.f
  rw [E_Dot hk, Option.bind_some, if_pos (by decide)]; rfl
theorem E_VAdd (a0 a1 a2 a3 b0 b1 b2 b3 : Int) : vec_Add.f a0 a1 a2 a3 b0 b1 b2 b3 = some (ADD a0 b0, ADD a1 b1, ADD a2 b2, ADD a3 b3) := by
  unfold vec_Add.f; simp only [E_Add, Option.bind_some]
theorem E_VMul {k : Nat} (hk : 4 ≤ k) (a0 a1 a2 a3 b0 b1 b2 b3 : Int) : vec_Mul.f k a0 a1 a2 a3 b0 b1 b2 b3 = some (MUL a0 b0, MUL a1 b1, MUL a2 b2, MUL a3 b3) := by
  unfold vec_Mul.f; simp only [E_Mul hk, Option.bind_some]
theorem E_VScale {k : Nat} (hk : 4 ≤ k) (a0 a1 a2 a3 b : Int) : vec_Scale.f k a0 a1 a2 a3 b = some (MUL a0 b, MUL a1 b, MUL a2 b, MUL a3 b) := by
  unfold vec_Scale.f; simp only [E_VMul hk, Option.bind_some]
theorem E_VMin (a0 a1 a2 a3 b0 b1 b2 b3 : Int) : vec_Min.f a0 a1 a2 a3 b0 b1 b2 b3 = some (min a0 b0, min a1 b1, min a2 b2, min a3 b3) := by
  unfold vec_Min.f; simp only [mn_eq]
theorem E_VMax (a0 a1 a2 a3 b0 b1 b2 b3 : Int) : vec_Max.f a0 a1 a2 a3 b0 b1 b2 b3 = some (max a0 b0, max a1 b1, max a2 b2, max a3 b3) := by
  unfold vec_Max.f; simp only [mx_eq]
theorem E_VClamp (a0 a1 a2 a3 : Int) : vec_Clamp01.f a0 a1 a2 a3 = some (max 0 (min a0 65536), max 0 (min a1 65536), max 0 (min a2 65536), max 0 (min a3 65536)) := by
  unfold vec_Clamp01.f; simp only [E_VMin, E_VMax, Option.bind_some]
theorem dot_unit0 (a0 a1 a2 a3 : Int) : DOT a0 a1 a2 a3 65536 0 0 0 = sat a0 := by
  unfold DOT; rw [show sat 65536 = 65536 by decide, show sat 0 = 0 by decide, show sat a0 * 65536 + sat a1 * 0 + sat a2 * 0 + sat a3 * 0 = sat a0 * 65536 by omega, rd_mul (by decide), sat_sat]
theorem dot_unit1 (a0 a1 a2 a3 : Int) : DOT a0 a1 a2 a3 0 65536 0 0 = sat a1 := by
  unfold DOT; rw [show sat 65536 = 65536 by decide, show sat 0 = 0 by decide, show sat a0 * 0 + sat a1 * 65536 + sat a2 * 0 + sat a3 * 0 = sat a1 * 65536 by omega, rd_mul (by decide), sat_sat]
theorem dot_unit2 (a0 a1 a2 a3 : Int) : DOT a0 a1 a2 a3 0 0 65536 0 = sat a2 := by
  unfold DOT; rw [show sat 65536 = 65536 by decide, show sat 0 = 0 by decide, show sat a0 * 0 + sat a1 * 0 + sat a2 * 65536 + sat a3 * 0 = sat a2 * 65536 by omega, rd_mul (by decide), sat_sat]
theorem dot_unit3 (a0 a1 a2 a3 : Int) : DOT a0 a1 a2 a3 0 0 0 65536 = sat a3 := by
  unfold DOT; rw [show sat 65536 = 65536 by decide, show sat 0 = 0 by decide, show sat a0 * 0 + sat a1 * 0 + sat a2 * 0 + sat a3 * 65536 = sat a3 * 65536 by omega, rd_mul (by decide), sat_sat]
theorem cmp_at (a0 a1 a2 a3 : Int) : vec_Component.f a0 a1 a2 a3 0 = some a0 ∧ vec_Component.f a0 a1 a2 a3 1 = some a1 ∧ vec_Component.f a0 a1 a2 a3 2 = some a2 ∧ vec_Component.f a0 a1 a2 a3 3 = some a3 := ⟨rfl, rfl, rfl, rfl⟩
theorem unit_end (a0 a1 a2 a3 : Int) {k : Nat} (hk : 12 ≤ k) : frustumlaw03_VecUnit.l0 (k + 1) 4 a0 a1 a2 a3 (sat a0) (sat a1) (sat a2) (sat a3) = some true := by
  have h : ∀ a : Int, min (max 0 (min a 65536)) (max 0 (min (sat a) 65536)) = max 0 (min a 65536) := fun a => by unfold sat; omega
  have h2 : ∀ a : Int, max 0 (min (max 0 (min a 65536)) 65536) = max 0 (min a 65536) := fun a => by omega
  simp only [frustumlaw03_VecUnit.l0]
  rw [if_neg (by decide), E_VClamp, Option.bind_some, E_VScale (by omega), Option.bind_some, if_pos (by simp only [mul_one', beq_self_eq_true, Bool.and_self]), E_VClamp, Option.bind_some,
    if_pos (by simp only [h2, beq_self_eq_true, Bool.and_self]), E_VClamp, Option.bind_some, E_VMin, Option.bind_some, if_pos (by simp only [h, beq_self_eq_true, Bool.and_self]), E_ex03 (by omega)]
  rfl
theorem unit_step {k : Nat} (hk : 12 ≤ k) (a0 a1 a2 a3 j b0 b1 b2 b3 r : Int) (h1 : j < 4) (hw : vec_With.f 0 0 0 0 j 65536 = some (b0, b1, b2, b3)) (hd : DOT a0 a1 a2 a3 b0 b1 b2 b3 = r) (hc : vec_Component.f (sat a0) (sat a1) (sat a2) (sat a3) j = some r) :
    frustumlaw03_VecUnit.l0 (k + 1) j a0 a1 a2 a3 (sat a0) (sat a1) (sat a2) (sat a3) = frustumlaw03_VecUnit.l0 k (wrap64 (j + 1)) a0 a1 a2 a3 (sat a0) (sat a1) (sat a2) (sat a3) := by
  simp only [frustumlaw03_VecUnit.l0]
  rw [if_pos h1, hw, Option.bind_some, E_Dot (by omega), Option.bind_some, hc, Option.bind_some, hd, if_pos rfl]
theorem VecUnit (a0 a1 a2 a3 : Int) : frustumlaw03_VecUnit.f 40 a0 a1 a2 a3 = some true := by
  unfold frustumlaw03_VecUnit.f
  have c := cmp_at (sat a0) (sat a1) (sat a2) (sat a3)
  rw [E_VAdd, Option.bind_some]
  simp only [add_zero']
  rw [unit_step (k := 39) (by decide) a0 a1 a2 a3 0 65536 0 0 0 (sat a0) (by decide) rfl (dot_unit0 a0 a1 a2 a3) c.1, show wrap64 (0 + 1) = 1 by decide +kernel,
    unit_step (k := 38) (by decide) a0 a1 a2 a3 1 0 65536 0 0 (sat a1) (by decide) rfl (dot_unit1 a0 a1 a2 a3) c.2.1, show wrap64 (1 + 1) = 2 by decide +kernel,
    unit_step (k := 37) (by decide) a0 a1 a2 a3 2 0 0 65536 0 (sat a2) (by decide) rfl (dot_unit2 a0 a1 a2 a3) c.2.2.1, show wrap64 (2 + 1) = 3 by decide +kernel,
    unit_step (k := 36) (by decide) a0 a1 a2 a3 3 0 0 0 65536 (sat a3) (by decide) rfl (dot_unit3 a0 a1 a2 a3) c.2.2.2, show wrap64 (3 + 1) = 4 by decide +kernel]
  exact unit_end (k := 35) a0 a1 a2 a3 (by decide)
end Go.Proofs.Ytnhkapbeedfdeaa.Pure
