/- RoundDiv differs from the exact quotient by at most one half, by exactly one half only away from zero, and is 0 outside of its range: for all pairs of 64-bit numbers, no condition. -/
import Derived.Test.YtfghdcghgfehiaaPFixedRoundDivErrorx1
import Derived.Test.YtfghdcghgfehiaaMath
import Derived.OpenShut
namespace Go.Proofs.Ytfghdcghgfehiaa.Pure
open Go.RowKit Go.Proofs.Ytfghdcghgfehiaa.PFixedRoundDivError Go.Proofs.YtfghdcghgfehiaaW.PrintWords Go.Proofs.YtfghdcghgfehiaaW.PrintLast Go.Proofs.YtfghdcghgfehiaaW.PrintMore Go.Proofs.Ytfghdcghgfehiaa.M Go.OpenShut
set_option linter.unusedVariables false
set_option linter.unusedSimpArgs false
theorem mx_eq (a b : Int) : mx a b = max a b := by unfold mx; split <;> omega
theorem mn_eq (a b : Int) : mn a b = min a b := by unfold mn; split <;> omega
theorem w64 {x : Int} (h1 : -9223372036854775808 ≤ x) (h2 : x ≤ 9223372036854775807) : wrap64 x = x := by unfold wrap64; omega
theorem u64 {x : Int} (h1 : 0 ≤ x) (h2 : x ≤ 18446744073709551615) : IntKind.u64.wrap x = x := by
  simp only [IntKind.wrap, IntKind.bits, IntKind.signed]; simp; omega
theorem and16 (x : Int) : Go.bits .and .i64 x 65535 = x % 65536 := by
  show IntKind.i64.wrap ((BitVec.ofInt 64 x &&& BitVec.ofInt 64 65535).toNat : Int) = _
  rw [IntKind.wrap_i64, BitVec.toNat_and, BitVec.toNat_ofInt, BitVec.toNat_ofInt,
    show ((65535 : Int) % ((2 ^ 64 : Nat) : Int)).toNat = 2 ^ 16 - 1 by decide, Nat.and_two_pow_sub_one_eq_mod]
  omega
theorem bv_andNot (x : BitVec 64) : (x &&& ~~~65535#64).toNat + x.toNat % 65536 = x.toNat := by
  have h : (x &&& 65535#64) + (x &&& ~~~65535#64) = x := by
    rw [BitVec.add_eq_or_of_and_eq_zero]
    · ext i hi; simp only [BitVec.getElem_or, BitVec.getElem_and, BitVec.getElem_not]; cases x[i] <;> simp
    · ext i hi; simp only [BitVec.getElem_and, BitVec.getElem_not, BitVec.getElem_zero]; cases (65535#64)[i] <;> simp
  have h' := congrArg BitVec.toNat h
  have hlt := x.isLt
  have hle : (x &&& ~~~65535#64).toNat ≤ x.toNat := by rw [BitVec.toNat_and]; exact Nat.and_le_left
  have hle2 : (x &&& ~~~65535#64).toNat % 65536 = 0 := by
    have : (x &&& ~~~65535#64).toNat % 2 ^ 16 = 0 := by
      rw [BitVec.toNat_and, Nat.and_mod_two_pow, show (~~~65535#64).toNat % 2 ^ 16 = 0 by decide, Nat.and_zero]
    exact this
  rw [BitVec.toNat_add, BitVec.toNat_and, show (65535#64).toNat = 2 ^ 16 - 1 by decide, Nat.and_two_pow_sub_one_eq_mod] at h'
  omega
theorem andNot16 (x : Int) (h1 : -9223372036854775808 ≤ x) (h2 : x ≤ 9223372036854775807) : Go.bits .andNot .i64 x 65535 = x / 65536 * 65536 := by
  show IntKind.i64.wrap ((BitVec.ofInt 64 x &&& ~~~BitVec.ofInt 64 65535).toNat : Int) = _
  have h := bv_andNot (BitVec.ofInt 64 x)
  rw [BitVec.toNat_ofInt] at h
  rw [IntKind.wrap_i64, show BitVec.ofInt 64 65535 = 65535#64 by decide]
  omega
theorem E_Clamp (x lo hi : Int) : fixed_Clamp.f x lo hi = some (clamp x lo hi) := by
  unfold fixed_Clamp.f clamp; rw [mx_eq, mn_eq]
theorem E_Saturate (x : Int) : fixed_Saturate.f x = some (sat x) := by
  unfold fixed_Saturate.f; rw [E_Clamp]; rfl
theorem E_RoundDiv0 {k : Nat} (hk : 2 ≤ k) {n d : Int} (h1 : 1 ≤ d) (h2 : d ≤ 4611686018427387904) (h3 : 0 ≤ n) (h4 : n ≤ 4611686018427387904) : fixed_RoundDiv.f k n d = some (rd n d) := by
  obtain ⟨k, rfl⟩ : ∃ m, k = m + 2 := ⟨k - 2, by omega⟩
  have hq := rdp_nonneg (n := n) (d := d) (by omega) h3
  have hb := rdp_le (n := n) (d := d) (m := n) (by omega) (by have := Int.mul_le_mul_of_nonneg_left h1 h3; omega)
  simp only [fixed_RoundDiv.f]
  rw [if_neg (by omega), if_neg (by omega), if_neg (by omega)]
  simp only [fixed_RoundDiv.j0]
  rw [if_neg (by simp; omega), if_neg (by omega)]
  have e1 : IntKind.u64.wrap d = d := u64 (by omega) (by omega)
  have e2 : IntKind.u64.wrap n = n := u64 (by omega) (by omega)
  have e3 : IntKind.u64.wrap (2 * d) = 2 * d := u64 (by omega) (by omega)
  have e4 : IntKind.u64.wrap (2 * n) = 2 * n := u64 (by omega) (by omega)
  have e5 : IntKind.u64.wrap (2 * n + d) = 2 * n + d := u64 (by omega) (by omega)
  have e6 : Int.tdiv (2 * n + d) (2 * d) = rdp n d := Int.tdiv_eq_ediv_of_nonneg (by omega)
  rw [e1, e2, e3, if_neg (by omega), e4, e5, e6, u64 hq (by omega), w64 (by omega) (by omega), rd_pos h3]
theorem E_RoundDiv {k : Nat} (hk : 4 ≤ k) {n d : Int} (h1 : 1 ≤ d) (h2 : d ≤ 4611686018427387904) (h3 : -4611686018427387904 ≤ n) (h4 : n ≤ 4611686018427387904) : fixed_RoundDiv.f k n d = some (rd n d) := by
  by_cases hn : n < 0
  · obtain ⟨k, rfl⟩ : ∃ m, k = m + 2 := ⟨k - 2, by omega⟩
    have hb := rd_bound (n := -n) (d := d) (B := 4611686018427387904) (by omega) (by omega) (by omega)
    simp only [fixed_RoundDiv.f]
    rw [if_neg (by omega), if_neg (by omega), if_neg (by omega)]
    simp only [fixed_RoundDiv.j0]
    rw [if_neg (by simp; omega), if_pos hn, w64 (by omega) (by omega), E_RoundDiv0 (by omega) h1 h2 (by omega) (by omega), Option.bind_some,
      w64 (by omega) (by omega), rd_odd (by omega), Int.neg_neg]
  · exact E_RoundDiv0 (by omega) h1 h2 (by omega) h4
theorem E_RoundDivOut {k : Nat} (hk : 2 ≤ k) {n d : Int} (h : d < 1 ∨ d > 4611686018427387904 ∨ n < -4611686018427387904 ∨ n > 4611686018427387904) : fixed_RoundDiv.f k n d = some 0 := by
  obtain ⟨k, rfl⟩ : ∃ m, k = m + 2 := ⟨k - 2, by omega⟩
  simp only [fixed_RoundDiv.f]
  by_cases h1 : d < 1
  · rw [if_pos h1]; rfl
  · rw [if_neg h1]
    by_cases h2 : d > 4611686018427387904
    · rw [if_pos h2]; rfl
    · rw [if_neg h2]
      by_cases h3 : n < -4611686018427387904
      · rw [if_pos h3]; rfl
      · rw [if_neg h3]; simp only [fixed_RoundDiv.j0]; rw [if_pos (by simp; omega)]
theorem E_RoundDivAll {k : Nat} (hk : 4 ≤ k) (n d : Int) : fixed_RoundDiv.f k n d = some (RD n d) := by
  by_cases h : d < 1 ∨ d > 4611686018427387904 ∨ n < -4611686018427387904 ∨ n > 4611686018427387904
  · rw [E_RoundDivOut (by omega) h]; unfold RD; rw [if_pos h]
  · rw [E_RoundDiv hk (by omega) (by omega) (by omega) (by omega)]; unfold RD; rw [if_neg h]
theorem E_Mul {k : Nat} (hk : 4 ≤ k) (a b : Int) : fixed_Mul.f k a b = some (MUL a b) := by
  have h := satmul_bd a b
  unfold fixed_Mul.f
  simp only [E_Saturate, Option.bind_some]
  rw [w64 (by omega) (by omega), E_RoundDiv hk (by omega) (by omega) (by omega) (by omega)]; rfl
theorem E_Floor (x : Int) : fixed_Floor.f x = some (FLOOR x) := by
  have h1 := sat_bd x
  unfold fixed_Floor.f
  simp only [E_Saturate, Option.bind_some]
  rw [andNot16 _ (by omega) (by omega)]; rfl
theorem E_Fract (x : Int) : fixed_Fract.f x = some (FRACT x) := by
  unfold fixed_Fract.f
  simp only [E_Saturate, Option.bind_some]
  rw [and16]; rfl
theorem wrap32_eq (x : Int) : wrap32 x = (x + 2147483648) % 4294967296 - 2147483648 := by unfold wrap32; omega
theorem E_Wrap (x : Int) : fixed_Wrap.f x = some (WRAP x) := by
  unfold fixed_Wrap.f WRAP
  rw [wrap32_eq, show IntKind.u64.wrap x = x % 18446744073709551616 by simp [IntKind.wrap, IntKind.bits, IntKind.signed], w64 (by omega) (by omega)]
  congr 1; omega
theorem E_example {k : Nat} (hk : 4 ≤ k) : frustumlaw01_example.f k = some true := by
  unfold frustumlaw01_example.f
  rw [E_Mul hk, Option.bind_some, if_pos (by decide), E_Floor, Option.bind_some, if_pos (by decide), E_Fract, Option.bind_some, if_pos (by decide), E_Wrap, Option.bind_some]
  rfl
theorem j0_out {k : Nat} (hk : 6 ≤ k) {n d : Int} (h : d < 1 ∨ d > 4611686018427387904 ∨ n < -4611686018427387904 ∨ n > 4611686018427387904) : frustumlaw01_FixedRoundDivError.j0 k n d true = some true := by
  obtain ⟨k, rfl⟩ : ∃ m, k = m + 1 := ⟨k - 1, by omega⟩
  simp only [frustumlaw01_FixedRoundDivError.j0, if_true]
  rw [E_RoundDivOut (by omega) h, Option.bind_some, if_pos rfl, E_example (by omega)]; rfl

theorem tdiv_near {n d q : Int} (hd : 0 < d) (h1 : -d ≤ 2 * (n - q * d)) (h2 : 2 * (n - q * d) ≤ d) : Int.tdiv n d - 1 ≤ q ∧ q ≤ Int.tdiv n d + 1 := by
  have e := Int.mul_tdiv_add_tmod n d
  have b1 : Int.tmod n d < d := Int.tmod_lt_of_pos n hd
  have b2 : -d < Int.tmod n d := by
    have h := Int.lt_tmod_of_pos n hd
    omega
  rw [Int.mul_comm] at e
  have a1 : q * d < (Int.tdiv n d + 2) * d := by rw [Int.add_mul]; omega
  have a2 : (Int.tdiv n d) * d < (q + 2) * d := by rw [Int.add_mul]; omega
  have c1 := lt_of_mul hd a1
  have c2 := lt_of_mul hd a2
  omega

theorem tdiv_bd {n d : Int} (h1 : -4611686018427387904 ≤ n) (h2 : n ≤ 4611686018427387904) : -4611686018427387904 ≤ Int.tdiv n d ∧ Int.tdiv n d ≤ 4611686018427387904 := by
  have h := Int.natAbs_tdiv_le_natAbs n d
  omega

theorem j2_in {k : Nat} (hk : 6 ≤ k) {n d q x : Int} (hd2 : d ≤ 4611686018427387904) (hw : wrap64 (q * d) = q * d)
    (hx0 : 0 ≤ x) (hx : 2 * x ≤ d) (ht : 2 * x = d → (n > 0 ∧ q * d > n) ∨ (n < 0 ∧ q * d < n)) : frustumlaw01_FixedRoundDivError.j2 k n d q x = some true := by
  obtain ⟨k, rfl⟩ : ∃ m, k = m + 1 := ⟨k - 1, by omega⟩
  simp only [frustumlaw01_FixedRoundDivError.j2]
  rw [w64 (x := d - x) (by omega) (by omega), if_neg (by omega)]
  have hE : frustumlaw01_example.f k = some true := E_example (by omega)
  by_cases h : x = d - x
  · rw [if_pos h, hw]
    rcases ht (by omega) with ⟨h1, h2⟩ | ⟨h1, h2⟩
    · rw [if_pos h1, if_pos h2, hE]; rfl
    · rw [if_neg (by omega), if_pos h1, if_pos h2, hE]; rfl
  · rw [if_neg h, hE]; rfl

theorem j0_in {k : Nat} (hk : 9 ≤ k) {n d : Int} (h1 : 1 ≤ d) (h2 : d ≤ 4611686018427387904) (h3 : -4611686018427387904 ≤ n) (h4 : n ≤ 4611686018427387904) : frustumlaw01_FixedRoundDivError.j0 k n d false = some true := by
  obtain ⟨k, rfl⟩ : ∃ m, k = m + 2 := ⟨k - 2, by omega⟩
  have hd : 0 < d := by omega
  have er := rd_err n d hd
  have ti := rd_tie (n := n) hd
  have nr := tdiv_near hd er.1 er.2
  have tb := tdiv_bd (n := n) (d := d) h3 h4
  have hz : n = 0 → rd n d * d = 0 := fun h => by rw [h, rd_zero hd, Int.zero_mul]
  simp only [frustumlaw01_FixedRoundDivError.j0]
  rw [if_neg (by simp), E_RoundDiv (by omega) h1 h2 h3 h4, Option.bind_some, if_neg (by omega), w64 (x := Int.tdiv n d) (by omega) (by omega),
    w64 (x := Int.tdiv n d - 1) (by omega) (by omega), w64 (x := Int.tdiv n d + 1) (by omega) (by omega), if_neg (by omega)]
  simp only [frustumlaw01_FixedRoundDivError.j1]
  rw [if_neg (by simp; omega)]
  generalize rd n d = q at *
  have hw : wrap64 (q * d) = q * d := w64 (by omega) (by omega)
  rw [hw, w64 (x := n - q * d) (by omega) (by omega)]
  by_cases hneg : n - q * d < 0
  · rw [if_pos hneg, w64 (x := -(n - q * d)) (by omega) (by omega)]
    exact j2_in (by omega) h2 hw (by omega) (by omega) (fun h => by omega)
  · rw [if_neg hneg]
    exact j2_in (by omega) h2 hw (by omega) (by omega) (fun h => by omega)

theorem FixedRoundDivError : frustumlaw01_FixedRoundDivError.Pure := by
  intro n d _ _
  refine ⟨20, ?_⟩
  unfold frustumlaw01_FixedRoundDivError.f
  by_cases c1 : d < 1
  · rw [if_pos c1]; exact j0_out (by decide) (by omega)
  rw [if_neg c1]
  by_cases c2 : d > 4611686018427387904
  · rw [if_pos c2]; exact j0_out (by decide) (by omega)
  rw [if_neg c2]
  by_cases c3 : n < -4611686018427387904
  · rw [if_pos c3]; exact j0_out (by decide) (by omega)
  rw [if_neg c3]
  by_cases c4 : n > 4611686018427387904
  · rw [decide_eq_true c4]; exact j0_out (by decide) (by omega)
  rw [decide_eq_false c4]; exact j0_in (by decide) (by omega) (by omega) (by omega) (by omega)
end Go.Proofs.Ytfghdcghgfehiaa.Pure
