/- Saturate, Add, Sub, Mul, Div, Clamp, Wrap, Floor, Fract, Sqrt and Lerp return the specified values: for all triples of 64-bit numbers, no condition. -/
import Derived.Test.YtfghdcghgfehiaaPFixedArithmeticx3
import Derived.Test.YtfghdcghgfehiaaMath
import Derived.OpenShut
namespace Go.Proofs.Ytfghdcghgfehiaa.Pure
open Go.RowKit Go.Proofs.Ytfghdcghgfehiaa.PFixedArithmetic Go.Proofs.YtfghdcghgfehiaaW.PrintWords Go.Proofs.YtfghdcghgfehiaaW.PrintLast Go.Proofs.YtfghdcghgfehiaaW.PrintMore Go.Proofs.Ytfghdcghgfehiaa.M Go.OpenShut
set_option linter.unusedVariables false
set_option linter.unusedSimpArgs false
theorem mx_eq (a b : Int) : mx a b = max a b := by unfold mx; split <;> omega
theorem mn_eq (a b : Int) : mn a b = min a b := by unfold mn; split <;> omega
theorem w64 {x : Int} (h1 : -9223372036854775808 ≤ x) (h2 : x ≤ 9223372036854775807) : wrap64 x = x := by unfold wrap64; omega
theorem u64 {x : Int} (h1 : 0 ≤ x) (h2 : x ≤ 18446744073709551615) : IntKind.u64.wrap x = x := by
  simp only [IntKind.wrap, IntKind.bits, IntKind.signed]; simp; omega
theorem and16 (x : Int) : Go.bits .and .i64 x 65535 = x % 65536 := by
  show IntKind.i64.wrap ((BitVec.ofInt 64 x &&& BitVec.ofInt 64 65535).toNat : Int) = _
  rw [IntKind.wrap_i64, BitVec.toNat_and, BitVec.toNat_ofInt, BitVec.toNat_ofInt,
    show ((65535 : Int) % ((2 ^ 64 : Nat) : Int)).toNat = 2 ^ 16 - 1 by decide, Nat.and_two_pow_sub_one_eq_mod]
  omega
theorem bv_andNot (x : BitVec 64) : (x &&& ~~~65535#64).toNat + x.toNat % 65536 = x.toNat := by
  have h : (x &&& 65535#64) + (x &&& ~~~65535#64) = x := by
    rw [BitVec.add_eq_or_of_and_eq_zero]
    · ext i hi; simp only [BitVec.getElem_or, BitVec.getElem_and, BitVec.getElem_not]; cases x[i] <;> simp
    · ext i hi; simp only [BitVec.getElem_and, BitVec.getElem_not, BitVec.getElem_zero]; cases (65535#64)[i] <;> simp
  have h' := congrArg BitVec.toNat h
  have hlt := x.isLt
  have hle : (x &&& ~~~65535#64).toNat ≤ x.toNat := by rw [BitVec.toNat_and]; exact Nat.and_le_left
  have hle2 : (x &&& ~~~65535#64).toNat % 65536 = 0 := by
    have : (x &&& ~~~65535#64).toNat % 2 ^ 16 = 0 := by
      rw [BitVec.toNat_and, Nat.and_mod_two_pow, show (~~~65535#64).toNat % 2 ^ 16 = 0 by decide, Nat.and_zero]
    exact this
  rw [BitVec.toNat_add, BitVec.toNat_and, show (65535#64).toNat = 2 ^ 16 - 1 by decide, Nat.and_two_pow_sub_one_eq_mod] at h'
  omega
theorem andNot16 (x : Int) (h1 : -9223372036854775808 ≤ x) (h2 : x ≤ 9223372036854775807) : Go.bits .andNot .i64 x 65535 = x / 65536 * 65536 := by
  show IntKind.i64.wrap ((BitVec.ofInt 64 x &&& ~~~BitVec.ofInt 64 65535).toNat : Int) = _
  have h := bv_andNot (BitVec.ofInt 64 x)
  rw [BitVec.toNat_ofInt] at h
  rw [IntKind.wrap_i64, show BitVec.ofInt 64 65535 = 65535#64 by decide]
  omega
theorem E_Clamp (x lo hi : Int) : fixed_Clamp.f x lo hi = some (clamp x lo hi) := by
  unfold fixed_Clamp.f clamp; rw [mx_eq, mn_eq]
theorem E_Saturate (x : Int) : fixed_Saturate.f x = some (sat x) := by
  unfold fixed_Saturate.f; rw [E_Clamp]; rfl
theorem E_Add (a b : Int) : fixed_Add.f a b = some (ADD a b) := by
  have h1 := sat_bd a
  have h2 := sat_bd b
  unfold fixed_Add.f
  simp only [E_Saturate, Option.bind_some]
  rw [w64 (by omega) (by omega)]; rfl
theorem E_Sub (a b : Int) : fixed_Sub.f a b = some (SUB a b) := by
  have h1 := sat_bd a
  have h2 := sat_bd b
  unfold fixed_Sub.f
  simp only [E_Saturate, Option.bind_some]
  rw [w64 (by omega) (by omega)]; rfl
theorem E_RoundDiv0 {k : Nat} (hk : 2 ≤ k) {n d : Int} (h1 : 1 ≤ d) (h2 : d ≤ 4611686018427387904) (h3 : 0 ≤ n) (h4 : n ≤ 4611686018427387904) : fixed_RoundDiv.f k n d = some (rd n d) := by
  obtain ⟨k, rfl⟩ : ∃ m, k = m + 2 := ⟨k - 2, by omega⟩
  have hq := rdp_nonneg (n := n) (d := d) (by omega) h3
  have hb := rdp_le (n := n) (d := d) (m := n) (by omega) (by have := Int.mul_le_mul_of_nonneg_left h1 h3; omega)
  simp only [fixed_RoundDiv.f]
  rw [if_neg (by omega), if_neg (by omega), if_neg (by omega)]
  simp only [fixed_RoundDiv.j0]
  rw [if_neg (by simp; omega), if_neg (by omega)]
  have e1 : IntKind.u64.wrap d = d := u64 (by omega) (by omega)
  have e2 : IntKind.u64.wrap n = n := u64 (by omega) (by omega)
  have e3 : IntKind.u64.wrap (2 * d) = 2 * d := u64 (by omega) (by omega)
  have e4 : IntKind.u64.wrap (2 * n) = 2 * n := u64 (by omega) (by omega)
  have e5 : IntKind.u64.wrap (2 * n + d) = 2 * n + d := u64 (by omega) (by omega)
  have e6 : Int.tdiv (2 * n + d) (2 * d) = rdp n d := Int.tdiv_eq_ediv_of_nonneg (by omega)
  rw [e1, e2, e3, if_neg (by omega), e4, e5, e6, u64 hq (by omega), w64 (by omega) (by omega), rd_pos h3]
theorem E_RoundDiv {k : Nat} (hk : 4 ≤ k) {n d : Int} (h1 : 1 ≤ d) (h2 : d ≤ 4611686018427387904) (h3 : -4611686018427387904 ≤ n) (h4 : n ≤ 4611686018427387904) : fixed_RoundDiv.f k n d = some (rd n d) := by
  by_cases hn : n < 0
  · obtain ⟨k, rfl⟩ : ∃ m, k = m + 2 := ⟨k - 2, by omega⟩
    have hb := rd_bound (n := -n) (d := d) (B := 4611686018427387904) (by omega) (by omega) (by omega)
    simp only [fixed_RoundDiv.f]
    rw [if_neg (by omega), if_neg (by omega), if_neg (by omega)]
    simp only [fixed_RoundDiv.j0]
    rw [if_neg (by simp; omega), if_pos hn, w64 (by omega) (by omega), E_RoundDiv0 (by omega) h1 h2 (by omega) (by omega), Option.bind_some,
      w64 (by omega) (by omega), rd_odd (by omega), Int.neg_neg]
  · exact E_RoundDiv0 (by omega) h1 h2 (by omega) h4
theorem E_RoundDivOut {k : Nat} (hk : 2 ≤ k) {n d : Int} (h : d < 1 ∨ d > 4611686018427387904 ∨ n < -4611686018427387904 ∨ n > 4611686018427387904) : fixed_RoundDiv.f k n d = some 0 := by
  obtain ⟨k, rfl⟩ : ∃ m, k = m + 2 := ⟨k - 2, by omega⟩
  simp only [fixed_RoundDiv.f]
  by_cases h1 : d < 1
  · rw [if_pos h1]; rfl
  · rw [if_neg h1]
    by_cases h2 : d > 4611686018427387904
    · rw [if_pos h2]; rfl
    · rw [if_neg h2]
      by_cases h3 : n < -4611686018427387904
      · rw [if_pos h3]; rfl
      · rw [if_neg h3]; simp only [fixed_RoundDiv.j0]; rw [if_pos (by simp; omega)]
theorem E_RoundDivAll {k : Nat} (hk : 4 ≤ k) (n d : Int) : fixed_RoundDiv.f k n d = some (RD n d) := by
  by_cases h : d < 1 ∨ d > 4611686018427387904 ∨ n < -4611686018427387904 ∨ n > 4611686018427387904
  · rw [E_RoundDivOut (by omega) h]; unfold RD; rw [if_pos h]
  · rw [E_RoundDiv hk (by omega) (by omega) (by omega) (by omega)]; unfold RD; rw [if_neg h]
theorem E_Mul {k : Nat} (hk : 4 ≤ k) (a b : Int) : fixed_Mul.f k a b = some (MUL a b) := by
  have h := satmul_bd a b
  unfold fixed_Mul.f
  simp only [E_Saturate, Option.bind_some]
  rw [w64 (by omega) (by omega), E_RoundDiv hk (by omega) (by omega) (by omega) (by omega)]; rfl
theorem E_Div {k : Nat} (hk : 4 ≤ k) (a b : Int) : fixed_Div.f k a b = some (DIV a b) := by
  have h1 := sat_bd a
  have h2 := sat_bd b
  unfold fixed_Div.f DIV
  simp only [E_Saturate, Option.bind_some]
  by_cases c1 : sat b > 0
  · rw [if_pos c1, if_pos c1, w64 (by omega) (by omega), E_RoundDiv hk (by omega) (by omega) (by omega) (by omega)]; rfl
  · rw [if_neg c1, if_neg c1]
    by_cases c2 : sat b < 0
    · rw [if_pos c2, if_pos c2, w64 (x := -sat a) (by omega) (by omega), w64 (by omega) (by omega), w64 (by omega) (by omega), E_RoundDiv hk (by omega) (by omega) (by omega) (by omega)]; rfl
    · rw [if_neg c2, if_neg c2]
      repeat' split
      all_goals rfl
theorem E_Floor (x : Int) : fixed_Floor.f x = some (FLOOR x) := by
  have h1 := sat_bd x
  unfold fixed_Floor.f
  simp only [E_Saturate, Option.bind_some]
  rw [andNot16 _ (by omega) (by omega)]; rfl
theorem E_Fract (x : Int) : fixed_Fract.f x = some (FRACT x) := by
  unfold fixed_Fract.f
  simp only [E_Saturate, Option.bind_some]
  rw [and16]; rfl
theorem wrap32_eq (x : Int) : wrap32 x = (x + 2147483648) % 4294967296 - 2147483648 := by unfold wrap32; omega
theorem E_Wrap (x : Int) : fixed_Wrap.f x = some (WRAP x) := by
  unfold fixed_Wrap.f WRAP
  rw [wrap32_eq, show IntKind.u64.wrap x = x % 18446744073709551616 by simp [IntKind.wrap, IntKind.bits, IntKind.signed], w64 (by omega) (by omega)]
  congr 1; omega
theorem E_Lerp {k : Nat} (hk : 4 ≤ k) (a b t : Int) : fixed_Lerp.f k a b t = some (LERP a b t) := by
  unfold fixed_Lerp.f
  simp only [E_Sub, E_Clamp, E_Mul hk, E_Add, Option.bind_some]; rfl
theorem E_example {k : Nat} (hk : 4 ≤ k) : frustumlaw01_example.f k = some true := by
  unfold frustumlaw01_example.f
  rw [E_Mul hk, Option.bind_some, if_pos (by decide), E_Floor, Option.bind_some, if_pos (by decide), E_Fract, Option.bind_some, if_pos (by decide), E_Wrap, Option.bind_some]
  rfl
theorem mul_self_le {a b : Int} (h0 : 0 ≤ a) (h : a ≤ b) : a * a ≤ b * b := Int.le_trans (Int.mul_le_mul_of_nonneg_left h h0) (Int.mul_le_mul_of_nonneg_right h (by omega))
theorem mul_self_lt {a b : Int} (h0 : 0 ≤ b) (h : a * a < b * b) (ha : 0 ≤ a) : a < b := by
  by_cases hc : a < b
  · exact hc
  · have := mul_self_le h0 (show b ≤ a by omega); omega
/-- the loop over the bits: from 2^e down -/
theorem L_Sqrt (e : Nat) : ∀ (k : Nat) (n r : Int), e + 2 ≤ k → e ≤ 23 → 0 ≤ n → n ≤ 35184372088832 → 0 ≤ r → r ≤ 16777216 → r * r ≤ n → n < (r + 2 * 2 ^ e) * (r + 2 * 2 ^ e) →
    ∃ q, fixed_Sqrt.l0 k n r (2 ^ e) = some q ∧ 0 ≤ q ∧ q * q ≤ n ∧ n < (q + 1) * (q + 1) := by
  induction e with
  | zero =>
    intro k n r hk he hn0 hn hr0 hr h1 h2
    obtain ⟨k, rfl⟩ : ∃ m, k = m + 2 := ⟨k - 2, by omega⟩
    have e0 : wrap64 (Int.tdiv 1 2) = 0 := by decide +kernel
    have e1 : ((2 : Int) ^ 0) = 1 := by decide
    rw [e1] at h2 ⊢
    have hsq := mul_self_le (show 0 ≤ r + 1 by omega) (show r + 1 ≤ 16777217 by omega)
    have hpos : 0 ≤ (r + 1) * (r + 1) := Int.mul_nonneg (by omega) (by omega)
    simp only [fixed_Sqrt.l0]
    rw [if_pos (by omega), w64 (x := r + 1) (by omega) (by omega), w64 (x := (r + 1) * (r + 1)) (by omega) (by omega), e0]
    by_cases c : (r + 1) * (r + 1) ≤ n
    · rw [if_pos c, if_neg (by omega)]
      exact ⟨r + 1, rfl, by omega, c, by have : r + 2 * 1 = r + 1 + 1 := by omega
                                         rw [this] at h2; exact h2⟩
    · rw [if_neg c, if_neg (by omega)]
      exact ⟨r, rfl, hr0, h1, by omega⟩
  | succ e ih =>
    intro k n r hk he hn0 hn hr0 hr h1 h2
    obtain ⟨k, rfl⟩ : ∃ m, k = m + 1 := ⟨k - 1, by omega⟩
    have hp : (2 : Int) ^ (e + 1) = 2 * 2 ^ e := by rw [Int.pow_succ]; omega
    have hb0 : (1 : Int) ≤ 2 ^ e := by have := Nat.one_le_two_pow (n := e); exact_mod_cast this
    have hb1 : (2 : Int) ^ e ≤ 2 ^ 22 := by
      have : (2 : Nat) ^ e ≤ 2 ^ 22 := Nat.pow_le_pow_right (by decide) (by omega)
      exact_mod_cast this
    have e22 : (2 : Int) ^ 22 = 4194304 := by decide
    rw [e22] at hb1
    rw [hp] at h2 ⊢
    generalize (2 : Int) ^ e = b at *
    have hd : wrap64 (Int.tdiv (2 * b) 2) = b := by
      rw [Int.mul_tdiv_cancel_left _ (by decide)]; exact w64 (by omega) (by omega)
    have hsq := mul_self_le (show 0 ≤ r + 2 * b by omega) (show r + 2 * b ≤ 25165824 by omega)
    have hpos : 0 ≤ (r + 2 * b) * (r + 2 * b) := Int.mul_nonneg (by omega) (by omega)
    simp only [fixed_Sqrt.l0]
    rw [if_pos (by omega), w64 (x := r + 2 * b) (by omega) (by omega), w64 (x := (r + 2 * b) * (r + 2 * b)) (by omega) (by omega), hd]
    by_cases c : (r + 2 * b) * (r + 2 * b) ≤ n
    · rw [if_pos c]
      have hlt : r + 2 * b < 5931642 := mul_self_lt (by decide) (by omega) (by omega)
      exact ih k n (r + 2 * b) (by omega) (by omega) hn0 hn (by omega) (by omega) c (by
        have : r + 2 * (2 * b) = r + 2 * b + 2 * b := by omega
        rw [this] at h2; exact h2)
    · rw [if_neg c]
      exact ih k n r (by omega) (by omega) hn0 hn hr0 hr h1 (by omega)
theorem N_Sqrt (e : Nat) : ∀ (k : Nat) (n : Int), e + 2 ≤ k → e ≤ 23 → n < 0 → fixed_Sqrt.l0 k n 0 (2 ^ e) = some 0 := by
  induction e with
  | zero =>
    intro k n hk he hn
    obtain ⟨k, rfl⟩ : ∃ m, k = m + 2 := ⟨k - 2, by omega⟩
    have e0 : wrap64 (Int.tdiv 1 2) = 0 := by decide +kernel
    have e1 : ((2 : Int) ^ 0) = 1 := by decide
    rw [e1]
    simp only [fixed_Sqrt.l0]
    rw [if_pos (by omega), show wrap64 (0 + 1) = 1 by decide +kernel, show wrap64 (1 * 1) = 1 by decide +kernel, if_neg (by omega), e0, if_neg (by omega)]
  | succ e ih =>
    intro k n hk he hn
    obtain ⟨k, rfl⟩ : ∃ m, k = m + 1 := ⟨k - 1, by omega⟩
    have hp : (2 : Int) ^ (e + 1) = 2 * 2 ^ e := by rw [Int.pow_succ]; omega
    have hb0 : (1 : Int) ≤ 2 ^ e := by have := Nat.one_le_two_pow (n := e); exact_mod_cast this
    have hb1 : (2 : Int) ^ e ≤ 2 ^ 22 := by
      have : (2 : Nat) ^ e ≤ 2 ^ 22 := Nat.pow_le_pow_right (by decide) (by omega)
      exact_mod_cast this
    have e22 : (2 : Int) ^ 22 = 4194304 := by decide
    rw [e22] at hb1
    rw [hp]
    have h := ih k n (by omega) (by omega) hn
    generalize (2 : Int) ^ e = b at *
    have hd : wrap64 (Int.tdiv (2 * b) 2) = b := by
      rw [Int.mul_tdiv_cancel_left _ (by decide)]; exact w64 (by omega) (by omega)
    have hsq := mul_self_le (show 0 ≤ 2 * b by omega) (show 2 * b ≤ 25165824 by omega)
    have hpos : 0 ≤ (2 * b) * (2 * b) := Int.mul_nonneg (by omega) (by omega)
    simp only [fixed_Sqrt.l0]
    rw [if_pos (by omega), Int.zero_add, w64 (x := 2 * b) (by omega) (by omega), w64 (x := (2 * b) * (2 * b)) (by omega) (by omega), hd, if_neg (by omega)]
    exact h
/-- what Sqrt comes to -/
theorem E_Sqrt {k : Nat} (hk : 25 ≤ k) (x : Int) : ∃ q, fixed_Sqrt.f k x = some q ∧ 0 ≤ q ∧ q * q ≤ max 0 (sat x) * 65536 ∧ max 0 (sat x) * 65536 < (q + 1) * (q + 1) := by
  have hb := sat_bd x
  unfold fixed_Sqrt.f
  rw [E_Saturate, Option.bind_some, w64 (by omega) (by omega)]
  by_cases h : sat x < 0
  · refine ⟨0, N_Sqrt 23 k _ (by omega) (by omega) (by omega), by omega, by omega, by omega⟩
  · obtain ⟨q, h1, h2, h3, h4⟩ := L_Sqrt 23 k (sat x * 65536) 0 (by omega) (by omega) (by omega) (by omega) (by omega) (by omega) (by omega) (by
      have : (0 + 2 * (2 : Int) ^ 23) * (0 + 2 * 2 ^ 23) = 281474976710656 := by decide
      rw [this]; omega)
    refine ⟨q, h1, h2, ?_, ?_⟩
    · rw [show max 0 (sat x) = sat x by omega]; exact h3
    · rw [show max 0 (sat x) = sat x by omega]; exact h4
theorem sqrt_unique {n q r : Int} (hq : 0 ≤ q) (h1 : q * q ≤ n) (h2 : n < (q + 1) * (q + 1)) (hr : 0 ≤ r) (h3 : r * r ≤ n) (h4 : n < (r + 1) * (r + 1)) : q = r := by
  have a := mul_self_lt (show 0 ≤ r + 1 by omega) (show q * q < (r + 1) * (r + 1) by omega) hq
  have b := mul_self_lt (show 0 ≤ q + 1 by omega) (show r * r < (q + 1) * (q + 1) by omega) hr
  omega
theorem F_RoundDiv0 {k : Nat} (hk : 2 ≤ k) {n d : Int} (h1 : 1 ≤ d) (h2 : d ≤ 4611686018427387904) (h3 : 0 ≤ n) (h4 : n ≤ 4611686018427387904) : frustumref01_RoundDiv.f k n d = some (rd n d) := by
  obtain ⟨k, rfl⟩ : ∃ m, k = m + 2 := ⟨k - 2, by omega⟩
  simp only [frustumref01_RoundDiv.f]
  rw [if_neg (by omega), if_neg (by omega), if_neg (by omega)]
  simp only [frustumref01_RoundDiv.j0]
  have t1 : Int.tmod n d = n % d := Int.tmod_eq_emod_of_nonneg h3
  have t2 : Int.tdiv n d = n / d := Int.tdiv_eq_ediv_of_nonneg h3
  have b1 := Int.emod_nonneg n (show d ≠ 0 by omega)
  have b2 := Int.emod_lt_of_pos n (show 0 < d by omega)
  have e := Int.mul_ediv_add_emod n d
  rw [Int.mul_comm] at e
  have q0 : 0 ≤ n / d := Int.ediv_nonneg h3 (by omega)
  have q1 : n / d ≤ n := Int.ediv_le_self _ h3
  rw [if_neg (by simp; omega), if_neg (by omega), if_neg (by omega), t1, t2, w64 (x := d - n % d) (by omega) (by omega), w64 (x := n / d) (by omega) (by omega), w64 (x := n / d + 1) (by omega) (by omega), rd_pos h3]
  by_cases c : n % d ≥ d - n % d
  · rw [if_pos c, rdp_unique (q := n / d + 1) (by omega) (by rw [Int.add_mul]; omega) (by rw [Int.add_mul]; omega)]
  · rw [if_neg c, rdp_unique (q := n / d) (by omega) (by omega) (by omega)]
theorem F_RoundDiv {k : Nat} (hk : 4 ≤ k) {n d : Int} (h1 : 1 ≤ d) (h2 : d ≤ 4611686018427387904) (h3 : -4611686018427387904 ≤ n) (h4 : n ≤ 4611686018427387904) : frustumref01_RoundDiv.f k n d = some (rd n d) := by
  by_cases hn : n < 0
  · obtain ⟨k, rfl⟩ : ∃ m, k = m + 2 := ⟨k - 2, by omega⟩
    have hb := rd_bound (n := -n) (d := d) (B := 4611686018427387904) (by omega) (by omega) (by omega)
    simp only [frustumref01_RoundDiv.f]
    rw [if_neg (by omega), if_neg (by omega), if_neg (by omega)]
    simp only [frustumref01_RoundDiv.j0]
    rw [if_neg (by simp; omega), if_pos hn, w64 (by omega) (by omega), F_RoundDiv0 (by omega) h1 h2 (by omega) (by omega), Option.bind_some,
      w64 (by omega) (by omega), rd_odd (by omega), Int.neg_neg]
  · exact F_RoundDiv0 (by omega) h1 h2 (by omega) h4
theorem F_RoundDivOut {k : Nat} (hk : 2 ≤ k) {n d : Int} (h : d < 1 ∨ d > 4611686018427387904 ∨ n < -4611686018427387904 ∨ n > 4611686018427387904) : frustumref01_RoundDiv.f k n d = some 0 := by
  obtain ⟨k, rfl⟩ : ∃ m, k = m + 2 := ⟨k - 2, by omega⟩
  simp only [frustumref01_RoundDiv.f]
  by_cases h1 : d < 1
  · rw [if_pos h1]; rfl
  · rw [if_neg h1]
    by_cases h2 : d > 4611686018427387904
    · rw [if_pos h2]; rfl
    · rw [if_neg h2]
      by_cases h3 : n < -4611686018427387904
      · rw [if_pos h3]; rfl
      · rw [if_neg h3]; simp only [frustumref01_RoundDiv.j0]; rw [if_pos (by simp; omega)]
theorem F_RoundDivAll {k : Nat} (hk : 4 ≤ k) (n d : Int) : frustumref01_RoundDiv.f k n d = some (RD n d) := by
  by_cases h : d < 1 ∨ d > 4611686018427387904 ∨ n < -4611686018427387904 ∨ n > 4611686018427387904
  · rw [F_RoundDivOut (by omega) h]; unfold RD; rw [if_pos h]
  · rw [F_RoundDiv hk (by omega) (by omega) (by omega) (by omega)]; unfold RD; rw [if_neg h]
theorem F_Clamp {k : Nat} (hk : 1 ≤ k) (x lo hi : Int) : frustumref01_Clamp.f k x lo hi = some (clamp x lo hi) := by
  obtain ⟨k, rfl⟩ : ∃ m, k = m + 1 := ⟨k - 1, by omega⟩
  unfold frustumref01_Clamp.f clamp
  by_cases c1 : lo > hi
  · rw [if_pos c1]; simp only [frustumref01_Clamp.j0, if_true]; congr 1; omega
  · rw [if_neg c1]; simp only [frustumref01_Clamp.j0]
    by_cases c2 : x < lo
    · rw [if_pos (by simpa using c2)]; congr 1; omega
    · rw [if_neg (by simpa using c2)]
      by_cases c3 : x > hi
      · rw [if_pos c3]; congr 1; omega
      · rw [if_neg c3]; congr 1; omega
theorem F_Saturate {k : Nat} (hk : 1 ≤ k) (x : Int) : frustumref01_Saturate.f k x = some (sat x) := by
  unfold frustumref01_Saturate.f; rw [F_Clamp hk]; rfl
theorem F_Add {k : Nat} (hk : 1 ≤ k) (a b : Int) : frustumref01_Add.f k a b = some (ADD a b) := by
  have h1 := sat_bd a
  have h2 := sat_bd b
  unfold frustumref01_Add.f
  simp only [F_Saturate hk, Option.bind_some]
  rw [w64 (by omega) (by omega)]; rfl
theorem F_Sub {k : Nat} (hk : 1 ≤ k) (a b : Int) : frustumref01_Sub.f k a b = some (SUB a b) := by
  have h1 := sat_bd a
  have h2 := sat_bd b
  unfold frustumref01_Sub.f
  simp only [F_Saturate hk, Option.bind_some]
  rw [w64 (by omega) (by omega)]; rfl
theorem F_Mul {k : Nat} (hk : 4 ≤ k) (a b : Int) : frustumref01_Mul.f k a b = some (MUL a b) := by
  have h := satmul_bd a b
  unfold frustumref01_Mul.f
  simp only [F_Saturate (show 1 ≤ k by omega), Option.bind_some]
  rw [w64 (by omega) (by omega), F_RoundDiv hk (by omega) (by omega) (by omega) (by omega)]; rfl
theorem F_Div {k : Nat} (hk : 5 ≤ k) (a b : Int) : frustumref01_Div.f k a b = some (DIV a b) := by
  obtain ⟨k, rfl⟩ : ∃ m, k = m + 1 := ⟨k - 1, by omega⟩
  have h1 := sat_bd a
  have h2 := sat_bd b
  unfold frustumref01_Div.f DIV
  simp only [F_Saturate (show 1 ≤ k + 1 by omega), Option.bind_some]
  by_cases c1 : sat b > 0
  · rw [if_neg (by omega), if_pos c1, w64 (by omega) (by omega)]
    simp only [frustumref01_Div.j0]
    rw [if_neg (by omega), F_RoundDiv (by omega) (by omega) (by omega) (by omega) (by omega), Option.bind_some, F_Saturate (by omega)]; rfl
  · by_cases c2 : sat b < 0
    · rw [if_neg c1, if_pos c2, if_pos c2, w64 (x := sat a * 65536) (by omega) (by omega), w64 (by omega) (by omega), w64 (by omega) (by omega)]
      simp only [frustumref01_Div.j0]
      rw [if_neg (by omega), F_RoundDiv (by omega) (by omega) (by omega) (by omega) (by omega), Option.bind_some, F_Saturate (by omega), Int.neg_mul]; rfl
    · rw [if_neg c1, if_neg c2, if_neg c2, w64 (by omega) (by omega)]
      simp only [frustumref01_Div.j0]
      rw [if_pos (by omega)]
      by_cases c3 : sat a > 0
      · rw [if_pos (by omega), if_pos c3]
      · rw [if_neg (by omega), if_neg c3]
        by_cases c4 : sat a < 0
        · rw [if_pos (by omega), if_pos c4]
        · rw [if_neg (by omega), if_neg c4]
theorem F_Wrap (x : Int) : frustumref01_Wrap.f x = some (WRAP x) := by
  have b1 := Int.tmod_lt_of_pos x (show (0 : Int) < 4294967296 by decide)
  have b2 : -4294967296 < Int.tmod x 4294967296 := Int.lt_tmod_of_pos x (by decide)
  have e := Int.mul_tdiv_add_tmod x 4294967296
  unfold frustumref01_Wrap.f WRAP
  generalize Int.tmod x 4294967296 = m at *
  by_cases c1 : m < 0
  · rw [if_pos c1, w64 (x := m + 4294967296) (by omega) (by omega)]
    by_cases c2 : m + 4294967296 ≥ 2147483648
    · rw [if_pos c2, w64 (by omega) (by omega)]; congr 1; omega
    · rw [if_neg c2]; congr 1; omega
  · rw [if_neg c1]
    by_cases c2 : m ≥ 2147483648
    · rw [if_pos c2, w64 (by omega) (by omega)]; congr 1; omega
    · rw [if_neg c2]; congr 1; omega
theorem F_multiple {k : Nat} (hk : 1 ≤ k) (x : Int) : frustumref01_multiple.f k x = some (sat x / 65536) := by
  have hb := sat_bd x
  unfold frustumref01_multiple.f
  rw [F_Saturate hk, Option.bind_some]
  have b1 := Int.tmod_lt_of_pos (sat x) (show (0 : Int) < 65536 by decide)
  have b2 : -65536 < Int.tmod (sat x) 65536 := Int.lt_tmod_of_pos (sat x) (by decide)
  have e := Int.mul_tdiv_add_tmod (sat x) 65536
  generalize Int.tmod (sat x) 65536 = m at *
  generalize Int.tdiv (sat x) 65536 = q at *
  rw [w64 (x := q) (by omega) (by omega), w64 (x := q * 65536) (by omega) (by omega), w64 (x := q - 1) (by omega) (by omega)]
  by_cases c : q * 65536 > sat x
  · rw [if_pos c]; congr 1; omega
  · rw [if_neg c]; congr 1; omega
theorem F_Floor {k : Nat} (hk : 1 ≤ k) (x : Int) : frustumref01_Floor.f k x = some (FLOOR x) := by
  have hb := sat_bd x
  unfold frustumref01_Floor.f
  rw [F_multiple hk, Option.bind_some, w64 (by omega) (by omega), F_Saturate hk]; rfl
theorem F_Fract {k : Nat} (hk : 1 ≤ k) (x : Int) : frustumref01_Fract.f k x = some (FRACT x) := by
  have hb := sat_bd x
  unfold frustumref01_Fract.f FRACT
  rw [F_Saturate hk, Option.bind_some, F_multiple hk, Option.bind_some, w64 (x := sat x / 65536 * 65536) (by omega) (by omega), w64 (by omega) (by omega)]
  congr 1; omega
theorem F_Lerp {k : Nat} (hk : 4 ≤ k) (a b t : Int) : frustumref01_Lerp.f k a b t = some (LERP a b t) := by
  unfold frustumref01_Lerp.f
  simp only [F_Sub (show 1 ≤ k by omega), F_Clamp (show 1 ≤ k by omega), F_Mul hk, F_Add (show 1 ≤ k by omega), Option.bind_some]; rfl
theorem F_Sqrtl (k : Nat) : ∀ (n r b : Int), frustumref01_Sqrt.l0 k n r b = fixed_Sqrt.l0 k n r b := by
  induction k with
  | zero => intro n r b; rfl
  | succ k ih =>
    intro n r b
    simp only [frustumref01_Sqrt.l0, fixed_Sqrt.l0, ih]
theorem EF_Sqrt {k : Nat} (hk : 25 ≤ k) (x : Int) : ∃ q, fixed_Sqrt.f k x = some q ∧ frustumref01_Sqrt.f k x = some q := by
  have hb := sat_bd x
  obtain ⟨q, h1, h2, h3, h4⟩ := E_Sqrt hk x
  refine ⟨q, h1, ?_⟩
  unfold frustumref01_Sqrt.f
  rw [F_Saturate (by omega), Option.bind_some, w64 (by omega) (by omega)]
  by_cases c : sat x * 65536 ≤ 0
  · rw [if_pos c]
    have hq : q < 1 := mul_self_lt (by decide) (by omega) h2
    congr 1; omega
  · rw [if_neg c, F_Sqrtl]
    obtain ⟨r, g1, g2, g3, g4⟩ := L_Sqrt 22 k (sat x * 65536) 0 (by omega) (by omega) (by omega) (by omega) (by omega) (by omega) (by omega) (by
      have : (0 + 2 * (2 : Int) ^ 22) * (0 + 2 * 2 ^ 22) = 70368744177664 := by decide
      rw [this]; omega)
    have e22 : (2 : Int) ^ 22 = 4194304 := by decide
    rw [e22] at g1
    rw [show max 0 (sat x) = sat x by omega] at h3 h4
    rw [g1, sqrt_unique h2 h3 h4 g2 g3 g4]
theorem FixedArithmetic : frustumlaw01_FixedArithmetic.Pure := by
  intro a b c _ _ _
  refine ⟨60, ?_⟩
  unfold frustumlaw01_FixedArithmetic.f
  rw [E_Saturate, Option.bind_some, F_Saturate (by decide), Option.bind_some, if_pos rfl, E_Add, Option.bind_some, F_Add (by decide), Option.bind_some, if_pos rfl,
    E_Sub, Option.bind_some, F_Sub (by decide), Option.bind_some, if_pos rfl, E_Mul (by decide), Option.bind_some, F_Mul (by decide), Option.bind_some, if_pos rfl,
    E_Div (by decide), Option.bind_some, F_Div (by decide), Option.bind_some, bne_self_eq_false]
  obtain ⟨q, h1, h2⟩ := EF_Sqrt (k := 59) (by decide) a
  simp only [frustumlaw01_FixedArithmetic.j0]
  rw [if_neg (by simp), E_Clamp, Option.bind_some, F_Clamp (by decide), Option.bind_some, if_pos rfl, E_Wrap, Option.bind_some, F_Wrap, Option.bind_some, if_pos rfl,
    E_Floor, Option.bind_some, F_Floor (by decide), Option.bind_some, if_pos rfl, E_Fract, Option.bind_some, F_Fract (by decide), Option.bind_some, if_pos rfl,
    h1, Option.bind_some, h2, Option.bind_some, bne_self_eq_false]
  simp only [frustumlaw01_FixedArithmetic.j1]
  rw [if_neg (by simp), E_Lerp (by decide), Option.bind_some, F_Lerp (by decide), Option.bind_some, if_pos rfl, E_example (by decide)]; rfl
end Go.Proofs.Ytfghdcghgfehiaa.Pure
