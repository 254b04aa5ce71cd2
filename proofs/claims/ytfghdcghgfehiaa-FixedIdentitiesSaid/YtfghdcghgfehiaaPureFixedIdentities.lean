/- Add and Mul are commutative, Sub is antisymmetric, One is neutral for Mul and Div, and the product and the quotient change their sign with their first factor: for all pairs of 64-bit numbers, no condition. -/
import Derived.Test.YtfghdcghgfehiaaPFixedIdentitiesx2
import Derived.Test.YtfghdcghgfehiaaMath
import Derived.OpenShut
namespace Go.Proofs.Ytfghdcghgfehiaa.Pure
open Go.RowKit Go.Proofs.Ytfghdcghgfehiaa.PFixedIdentities Go.Proofs.YtfghdcghgfehiaaW.PrintWords Go.Proofs.YtfghdcghgfehiaaW.PrintLast Go.Proofs.YtfghdcghgfehiaaW.PrintMore Go.Proofs.Ytfghdcghgfehiaa.M Go.OpenShut
set_option linter.unusedVariables false
set_option linter.unusedSimpArgs false
theorem mx_eq (a b : Int) : mx a b = max a b := by unfold mx; split <;> omega
theorem mn_eq (a b : Int) : mn a b = min a b := by unfold mn; split <;> omega
theorem w64 {x : Int} (h1 : -9223372036854775808 ≤ x) (h2 : x ≤ 9223372036854775807) : wrap64 x = x := by unfold wrap64; omega
theorem u64 {x : Int} (h1 : 0 ≤ x) (h2 : x ≤ 18446744073709551615) : IntKind.u64.wrap x = x := by
  simp only [IntKind.wrap, IntKind.bits, IntKind.signed]; simp; omega
theorem and16 (x : Int) : Go.bits .and .i64 x 65535 = x % 65536 := by
  show IntKind.i64.wrap ((BitVec.ofInt 64 x &&& BitVec.ofInt 64 65535).toNat : Int) = _
  rw [IntKind.wrap_i64, BitVec.toNat_and, BitVec.toNat_ofInt, BitVec.toNat_ofInt,
    show ((65535 : Int) % ((2 ^ 64 : Nat) : Int)).toNat = 2 ^ 16 - 1 by decide, Nat.and_two_pow_sub_one_eq_mod]
  omega
theorem bv_andNot (x : BitVec 64) : (x &&& ~~~65535#64).toNat + x.toNat % 65536 = x.toNat := by
  have h : (x &&& 65535#64) + (x &&& ~~~65535#64) = x := by
    rw [BitVec.add_eq_or_of_and_eq_zero]
    · ext i hi; simp only [BitVec.getElem_or, BitVec.getElem_and, BitVec.getElem_not]; cases x[i] <;> simp
    · ext i hi; simp only [BitVec.getElem_and, BitVec.getElem_not, BitVec.getElem_zero]; cases (65535#64)[i] <;> simp
  have h' := congrArg BitVec.toNat h
  have hlt := x.isLt
  have hle : (x &&& ~~~65535#64).toNat ≤ x.toNat := by rw [BitVec.toNat_and]; exact Nat.and_le_left
  have hle2 : (x &&& ~~~65535#64).toNat % 65536 = 0 := by
    have : (x &&& ~~~65535#64).toNat % 2 ^ 16 = 0 := by
      rw [BitVec.toNat_and, Nat.and_mod_two_pow, show (~~~65535#64).toNat % 2 ^ 16 = 0 by decide, Nat.and_zero]
    exact this
  rw [BitVec.toNat_add, BitVec.toNat_and, show (65535#64).toNat = 2 ^ 16 - 1 by decide, Nat.and_two_pow_sub_one_eq_mod] at h'
  omega
theorem andNot16 (x : Int) (h1 : -9223372036854775808 ≤ x) (h2 : x ≤ 9223372036854775807) : Go.bits .andNot .i64 x 65535 = x / 65536 * 65536 := by
  show IntKind.i64.wrap ((BitVec.ofInt 64 x &&& ~~~BitVec.ofInt 64 65535).toNat : Int) = _
  have h := bv_andNot (BitVec.ofInt 64 x)
  rw [BitVec.toNat_ofInt] at h
  rw [IntKind.wrap_i64, show BitVec.ofInt 64 65535 = 65535#64 by decide]
  omega
theorem E_Clamp (x lo hi : Int) : fixed_Clamp.f x lo hi = some (clamp x lo hi) := by
  unfold fixed_Clamp.f clamp; rw [mx_eq, mn_eq]
theorem E_Saturate (x : Int) : fixed_Saturate.f x = some (sat x) := by
  unfold fixed_Saturate.f; rw [E_Clamp]; rfl
theorem E_Add (a b : Int) : fixed_Add.f a b = some (ADD a b) := by
  have h1 := sat_bd a
  have h2 := sat_bd b
  unfold fixed_Add.f
  simp only [E_Saturate, Option.bind_some]
  rw [w64 (by omega) (by omega)]; rfl
theorem E_Sub (a b : Int) : fixed_Sub.f a b = some (SUB a b) := by
  have h1 := sat_bd a
  have h2 := sat_bd b
  unfold fixed_Sub.f
  simp only [E_Saturate, Option.bind_some]
  rw [w64 (by omega) (by omega)]; rfl
theorem E_RoundDiv0 {k : Nat} (hk : 2 ≤ k) {n d : Int} (h1 : 1 ≤ d) (h2 : d ≤ 4611686018427387904) (h3 : 0 ≤ n) (h4 : n ≤ 4611686018427387904) : fixed_RoundDiv.f k n d = some (rd n d) := by
  obtain ⟨k, rfl⟩ : ∃ m, k = m + 2 := ⟨k - 2, by omega⟩
  have hq := rdp_nonneg (n := n) (d := d) (by omega) h3
  have hb := rdp_le (n := n) (d := d) (m := n) (by omega) (by have := Int.mul_le_mul_of_nonneg_left h1 h3; omega)
  simp only [fixed_RoundDiv.f]
  rw [if_neg (by omega), if_neg (by omega), if_neg (by omega)]
  simp only [fixed_RoundDiv.j0]
  rw [if_neg (by simp; omega), if_neg (by omega)]
  have e1 : IntKind.u64.wrap d = d := u64 (by omega) (by omega)
  have e2 : IntKind.u64.wrap n = n := u64 (by omega) (by omega)
  have e3 : IntKind.u64.wrap (2 * d) = 2 * d := u64 (by omega) (by omega)
  have e4 : IntKind.u64.wrap (2 * n) = 2 * n := u64 (by omega) (by omega)
  have e5 : IntKind.u64.wrap (2 * n + d) = 2 * n + d := u64 (by omega) (by omega)
  have e6 : Int.tdiv (2 * n + d) (2 * d) = rdp n d := Int.tdiv_eq_ediv_of_nonneg (by omega)
  rw [e1, e2, e3, if_neg (by omega), e4, e5, e6, u64 hq (by omega), w64 (by omega) (by omega), rd_pos h3]
theorem E_RoundDiv {k : Nat} (hk : 4 ≤ k) {n d : Int} (h1 : 1 ≤ d) (h2 : d ≤ 4611686018427387904) (h3 : -4611686018427387904 ≤ n) (h4 : n ≤ 4611686018427387904) : fixed_RoundDiv.f k n d = some (rd n d) := by
  by_cases hn : n < 0
  · obtain ⟨k, rfl⟩ : ∃ m, k = m + 2 := ⟨k - 2, by omega⟩
    have hb := rd_bound (n := -n) (d := d) (B := 4611686018427387904) (by omega) (by omega) (by omega)
    simp only [fixed_RoundDiv.f]
    rw [if_neg (by omega), if_neg (by omega), if_neg (by omega)]
    simp only [fixed_RoundDiv.j0]
    rw [if_neg (by simp; omega), if_pos hn, w64 (by omega) (by omega), E_RoundDiv0 (by omega) h1 h2 (by omega) (by omega), Option.bind_some,
      w64 (by omega) (by omega), rd_odd (by omega), Int.neg_neg]
  · exact E_RoundDiv0 (by omega) h1 h2 (by omega) h4
theorem E_RoundDivOut {k : Nat} (hk : 2 ≤ k) {n d : Int} (h : d < 1 ∨ d > 4611686018427387904 ∨ n < -4611686018427387904 ∨ n > 4611686018427387904) : fixed_RoundDiv.f k n d = some 0 := by
  obtain ⟨k, rfl⟩ : ∃ m, k = m + 2 := ⟨k - 2, by omega⟩
  simp only [fixed_RoundDiv.f]
  by_cases h1 : d < 1
  · rw [if_pos h1]; rfl
  · rw [if_neg h1]
    by_cases h2 : d > 4611686018427387904
    · rw [if_pos h2]; rfl
    · rw [if_neg h2]
      by_cases h3 : n < -4611686018427387904
      · rw [if_pos h3]; rfl
      · rw [if_neg h3]; simp only [fixed_RoundDiv.j0]; rw [if_pos (by simp; omega)]
theorem E_RoundDivAll {k : Nat} (hk : 4 ≤ k) (n d : Int) : fixed_RoundDiv.f k n d = some (RD n d) := by
  by_cases h : d < 1 ∨ d > 4611686018427387904 ∨ n < -4611686018427387904 ∨ n > 4611686018427387904
  · rw [E_RoundDivOut (by omega) h]; unfold RD; rw [if_pos h]
  · rw [E_RoundDiv hk (by omega) (by omega) (by omega) (by omega)]; unfold RD; rw [if_neg h]
theorem E_Mul {k : Nat} (hk : 4 ≤ k) (a b : Int) : fixed_Mul.f k a b = some (MUL a b) := by
  have h := satmul_bd a b
  unfold fixed_Mul.f
  simp only [E_Saturate, Option.bind_some]
  rw [w64 (by omega) (by omega), E_RoundDiv hk (by omega) (by omega) (by omega) (by omega)]; rfl
theorem E_Div {k : Nat} (hk : 4 ≤ k) (a b : Int) : fixed_Div.f k a b = some (DIV a b) := by
  have h1 := sat_bd a
  have h2 := sat_bd b
  unfold fixed_Div.f DIV
  simp only [E_Saturate, Option.bind_some]
  by_cases c1 : sat b > 0
  · rw [if_pos c1, if_pos c1, w64 (by omega) (by omega), E_RoundDiv hk (by omega) (by omega) (by omega) (by omega)]; rfl
  · rw [if_neg c1, if_neg c1]
    by_cases c2 : sat b < 0
    · rw [if_pos c2, if_pos c2, w64 (x := -sat a) (by omega) (by omega), w64 (by omega) (by omega), w64 (by omega) (by omega), E_RoundDiv hk (by omega) (by omega) (by omega) (by omega)]; rfl
    · rw [if_neg c2, if_neg c2]
      repeat' split
      all_goals rfl
theorem E_Floor (x : Int) : fixed_Floor.f x = some (FLOOR x) := by
  have h1 := sat_bd x
  unfold fixed_Floor.f
  simp only [E_Saturate, Option.bind_some]
  rw [andNot16 _ (by omega) (by omega)]; rfl
theorem E_Fract (x : Int) : fixed_Fract.f x = some (FRACT x) := by
  unfold fixed_Fract.f
  simp only [E_Saturate, Option.bind_some]
  rw [and16]; rfl
theorem wrap32_eq (x : Int) : wrap32 x = (x + 2147483648) % 4294967296 - 2147483648 := by unfold wrap32; omega
theorem E_Wrap (x : Int) : fixed_Wrap.f x = some (WRAP x) := by
  unfold fixed_Wrap.f WRAP
  rw [wrap32_eq, show IntKind.u64.wrap x = x % 18446744073709551616 by simp [IntKind.wrap, IntKind.bits, IntKind.signed], w64 (by omega) (by omega)]
  congr 1; omega
theorem E_example {k : Nat} (hk : 4 ≤ k) : frustumlaw01_example.f k = some true := by
  unfold frustumlaw01_example.f
  rw [E_Mul hk, Option.bind_some, if_pos (by decide), E_Floor, Option.bind_some, if_pos (by decide), E_Fract, Option.bind_some, if_pos (by decide), E_Wrap, Option.bind_some]
  rfl
theorem E_limited (x : Int) : frustumlaw01_limited.f x = some (sat x) := by
  unfold frustumlaw01_limited.f sat; rw [mx_eq, mn_eq]; congr 1; omega
theorem add_comm' (a b : Int) : ADD a b = ADD b a := by unfold ADD; rw [Int.add_comm]
theorem mul_comm' (a b : Int) : MUL a b = MUL b a := by unfold MUL; rw [Int.mul_comm]
theorem sub_anti (a b : Int) : SUB a b = -SUB b a := by unfold SUB; rw [← sat_neg]; congr 1; omega
theorem add_zero' (a : Int) : ADD a 0 = sat a := by unfold ADD; rw [show sat 0 = 0 by decide, Int.add_zero, sat_sat]
theorem sub_self' (a : Int) : SUB a a = 0 := by unfold SUB; rw [Int.sub_self]; decide
theorem mul_one' (a : Int) : MUL a 65536 = sat a := by unfold MUL; rw [show sat 65536 = 65536 by decide, rd_mul (by decide), sat_sat]
theorem mul_neg_one (a : Int) : MUL a (-65536) = -sat a := by
  unfold MUL; rw [show sat (-65536) = -65536 by decide, show sat a * (-65536) = -sat a * 65536 by omega, rd_mul (by decide), sat_neg, sat_sat]
theorem mul_zero' (a : Int) : MUL a 0 = 0 := by unfold MUL; rw [show sat 0 = 0 by decide, Int.mul_zero, rd_zero (by decide)]; decide
theorem div_one' (a : Int) : DIV a 65536 = sat a := by
  unfold DIV; rw [show sat 65536 = 65536 by decide, if_pos (by decide), rd_mul (by decide), sat_sat]
theorem mul_neg' (a b : Int) : MUL (-a) b = -MUL a b := by
  unfold MUL; rw [sat_neg, Int.neg_mul, rd_odd (by decide), sat_neg]
theorem div_neg' (a b : Int) : DIV (-a) b = -DIV a b := by
  unfold DIV
  rw [sat_neg]
  by_cases c1 : sat b > 0
  · rw [if_pos c1, if_pos c1, Int.neg_mul, rd_odd (by omega), sat_neg]
  · rw [if_neg c1, if_neg c1]
    by_cases c2 : sat b < 0
    · rw [if_pos c2, if_pos c2, show - -sat a * 65536 = -(-sat a * 65536) by omega, rd_odd (by omega), sat_neg]
    · rw [if_neg c2, if_neg c2]
      by_cases c3 : sat a > 0
      · rw [if_neg (by omega), if_pos (by omega), if_pos c3]
      · by_cases c4 : sat a < 0
        · rw [if_pos (by omega), if_neg c3, if_pos c4]; rfl
        · rw [if_neg (by omega), if_neg (by omega), if_neg c3, if_neg c4]; rfl
theorem sub_bd (a b : Int) : -536870911 ≤ SUB a b ∧ SUB a b ≤ 536870911 := sat_bd _
theorem mul_bd' (a b : Int) : -536870911 ≤ MUL a b ∧ MUL a b ≤ 536870911 := sat_bd _
theorem div_bd (a b : Int) : -536870911 ≤ DIV a b ∧ DIV a b ≤ 536870911 := by
  unfold DIV
  by_cases c1 : sat b > 0
  · rw [if_pos c1]; exact sat_bd _
  · rw [if_neg c1]
    by_cases c2 : sat b < 0
    · rw [if_pos c2]; exact sat_bd _
    · rw [if_neg c2]; repeat' split
      all_goals omega
theorem FixedIdentities : frustumlaw01_FixedIdentities.Pure := by
  intro a b _ _
  refine ⟨60, ?_⟩
  have hb := sat_bd a
  have h1 := sub_bd b a
  unfold frustumlaw01_FixedIdentities.f
  rw [E_limited, Option.bind_some, E_Add, Option.bind_some, E_Add, Option.bind_some, if_pos (add_comm' a b), E_Mul (by decide), Option.bind_some, E_Mul (by decide), Option.bind_some, if_pos (mul_comm' a b),
    E_Sub, Option.bind_some, E_Sub, Option.bind_some, w64 (x := -SUB b a) (by omega) (by omega), if_pos (sub_anti a b), E_Add, Option.bind_some, if_pos (add_zero' a), E_Sub, Option.bind_some, sub_self', bne_self_eq_false]
  simp only [frustumlaw01_FixedIdentities.j0]
  rw [if_neg (by simp), E_Mul (by decide), Option.bind_some, if_pos (mul_one' a), E_Div (by decide), Option.bind_some, if_pos (div_one' a), E_Mul (by decide), Option.bind_some, w64 (x := -sat a) (by omega) (by omega), if_pos (mul_neg_one a),
    E_Mul (by decide), Option.bind_some, mul_zero', bne_self_eq_false]
  simp only [frustumlaw01_FixedIdentities.j1]
  have h2 := mul_bd' (sat a) b
  have h3 := div_bd (sat a) b
  rw [if_neg (by simp), w64 (x := -sat a) (by omega) (by omega), E_Mul (by decide), Option.bind_some, E_Mul (by decide), Option.bind_some, w64 (x := -MUL (sat a) b) (by omega) (by omega), if_pos (mul_neg' (sat a) b),
    E_Div (by decide), Option.bind_some, E_Div (by decide), Option.bind_some, w64 (x := -DIV (sat a) b) (by omega) (by omega), if_pos (div_neg' (sat a) b), E_example (by decide)]; rfl
end Go.Proofs.Ytfghdcghgfehiaa.Pure
