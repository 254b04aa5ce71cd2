/- Ratio lies in [0, One], does not decrease with its numerator, is 0 for numerators below 1 and One from the denominator on: for all triples of 64-bit numbers, no condition. -/
import Derived.Test.YtfghdcghgfehiaaPFixedRatioMonotonicx2
import Derived.Test.YtfghdcghgfehiaaMath
import Derived.OpenShut
namespace Go.Proofs.Ytfghdcghgfehiaa.Pure
open Go.RowKit Go.Proofs.Ytfghdcghgfehiaa.PFixedRatioMonotonic Go.Proofs.YtfghdcghgfehiaaW.PrintWords Go.Proofs.YtfghdcghgfehiaaW.PrintLast Go.Proofs.YtfghdcghgfehiaaW.PrintMore Go.Proofs.Ytfghdcghgfehiaa.M Go.OpenShut
set_option linter.unusedVariables false
set_option linter.unusedSimpArgs false
theorem mx_eq (a b : Int) : mx a b = max a b := by unfold mx; split <;> omega
theorem mn_eq (a b : Int) : mn a b = min a b := by unfold mn; split <;> omega
theorem w64 {x : Int} (h1 : -9223372036854775808 ≤ x) (h2 : x ≤ 9223372036854775807) : wrap64 x = x := by unfold wrap64; omega
theorem u64 {x : Int} (h1 : 0 ≤ x) (h2 : x ≤ 18446744073709551615) : IntKind.u64.wrap x = x := by
  simp only [IntKind.wrap, IntKind.bits, IntKind.signed]; simp; omega
theorem and16 (x : Int) : Go.bits .and .i64 x 65535 = x % 65536 := by
  show IntKind.i64.wrap ((BitVec.ofInt 64 x &&& BitVec.ofInt 64 65535).toNat : Int) = _
  rw [IntKind.wrap_i64, BitVec.toNat_and, BitVec.toNat_ofInt, BitVec.toNat_ofInt,
    show ((65535 : Int) % ((2 ^ 64 : Nat) : Int)).toNat = 2 ^ 16 - 1 by decide, Nat.and_two_pow_sub_one_eq_mod]
  omega
theorem bv_andNot (x : BitVec 64) : (x &&& ~~~65535#64).toNat + x.toNat % 65536 = x.toNat := by
  have h : (x &&& 65535#64) + (x &&& ~~~65535#64) = x := by
    rw [BitVec.add_eq_or_of_and_eq_zero]
    · ext i hi; simp only [BitVec.getElem_or, BitVec.getElem_and, BitVec.getElem_not]; cases x[i] <;> simp
    · ext i hi; simp only [BitVec.getElem_and, BitVec.getElem_not, BitVec.getElem_zero]; cases (65535#64)[i] <;> simp
  have h' := congrArg BitVec.toNat h
  have hlt := x.isLt
  have hle : (x &&& ~~~65535#64).toNat ≤ x.toNat := by rw [BitVec.toNat_and]; exact Nat.and_le_left
  have hle2 : (x &&& ~~~65535#64).toNat % 65536 = 0 := by
    have : (x &&& ~~~65535#64).toNat % 2 ^ 16 = 0 := by
      rw [BitVec.toNat_and, Nat.and_mod_two_pow, show (~~~65535#64).toNat % 2 ^ 16 = 0 by decide, Nat.and_zero]
    exact this
  rw [BitVec.toNat_add, BitVec.toNat_and, show (65535#64).toNat = 2 ^ 16 - 1 by decide, Nat.and_two_pow_sub_one_eq_mod] at h'
  omega
theorem andNot16 (x : Int) (h1 : -9223372036854775808 ≤ x) (h2 : x ≤ 9223372036854775807) : Go.bits .andNot .i64 x 65535 = x / 65536 * 65536 := by
  show IntKind.i64.wrap ((BitVec.ofInt 64 x &&& ~~~BitVec.ofInt 64 65535).toNat : Int) = _
  have h := bv_andNot (BitVec.ofInt 64 x)
  rw [BitVec.toNat_ofInt] at h
  rw [IntKind.wrap_i64, show BitVec.ofInt 64 65535 = 65535#64 by decide]
  omega
theorem E_Clamp (x lo hi : Int) : fixed_Clamp.f x lo hi = some (clamp x lo hi) := by
  unfold fixed_Clamp.f clamp; rw [mx_eq, mn_eq]
theorem E_Saturate (x : Int) : fixed_Saturate.f x = some (sat x) := by
  unfold fixed_Saturate.f; rw [E_Clamp]; rfl
theorem E_RoundDiv0 {k : Nat} (hk : 2 ≤ k) {n d : Int} (h1 : 1 ≤ d) (h2 : d ≤ 4611686018427387904) (h3 : 0 ≤ n) (h4 : n ≤ 4611686018427387904) : fixed_RoundDiv.f k n d = some (rd n d) := by
  obtain ⟨k, rfl⟩ : ∃ m, k = m + 2 := ⟨k - 2, by omega⟩
  have hq := rdp_nonneg (n := n) (d := d) (by omega) h3
  have hb := rdp_le (n := n) (d := d) (m := n) (by omega) (by have := Int.mul_le_mul_of_nonneg_left h1 h3; omega)
  simp only [fixed_RoundDiv.f]
  rw [if_neg (by omega), if_neg (by omega), if_neg (by omega)]
  simp only [fixed_RoundDiv.j0]
  rw [if_neg (by simp; omega), if_neg (by omega)]
  have e1 : IntKind.u64.wrap d = d := u64 (by omega) (by omega)
  have e2 : IntKind.u64.wrap n = n := u64 (by omega) (by omega)
  have e3 : IntKind.u64.wrap (2 * d) = 2 * d := u64 (by omega) (by omega)
  have e4 : IntKind.u64.wrap (2 * n) = 2 * n := u64 (by omega) (by omega)
  have e5 : IntKind.u64.wrap (2 * n + d) = 2 * n + d := u64 (by omega) (by omega)
  have e6 : Int.tdiv (2 * n + d) (2 * d) = rdp n d := Int.tdiv_eq_ediv_of_nonneg (by omega)
  rw [e1, e2, e3, if_neg (by omega), e4, e5, e6, u64 hq (by omega), w64 (by omega) (by omega), rd_pos h3]
theorem E_RoundDiv {k : Nat} (hk : 4 ≤ k) {n d : Int} (h1 : 1 ≤ d) (h2 : d ≤ 4611686018427387904) (h3 : -4611686018427387904 ≤ n) (h4 : n ≤ 4611686018427387904) : fixed_RoundDiv.f k n d = some (rd n d) := by
  by_cases hn : n < 0
  · obtain ⟨k, rfl⟩ : ∃ m, k = m + 2 := ⟨k - 2, by omega⟩
    have hb := rd_bound (n := -n) (d := d) (B := 4611686018427387904) (by omega) (by omega) (by omega)
    simp only [fixed_RoundDiv.f]
    rw [if_neg (by omega), if_neg (by omega), if_neg (by omega)]
    simp only [fixed_RoundDiv.j0]
    rw [if_neg (by simp; omega), if_pos hn, w64 (by omega) (by omega), E_RoundDiv0 (by omega) h1 h2 (by omega) (by omega), Option.bind_some,
      w64 (by omega) (by omega), rd_odd (by omega), Int.neg_neg]
  · exact E_RoundDiv0 (by omega) h1 h2 (by omega) h4
theorem E_RoundDivOut {k : Nat} (hk : 2 ≤ k) {n d : Int} (h : d < 1 ∨ d > 4611686018427387904 ∨ n < -4611686018427387904 ∨ n > 4611686018427387904) : fixed_RoundDiv.f k n d = some 0 := by
  obtain ⟨k, rfl⟩ : ∃ m, k = m + 2 := ⟨k - 2, by omega⟩
  simp only [fixed_RoundDiv.f]
  by_cases h1 : d < 1
  · rw [if_pos h1]; rfl
  · rw [if_neg h1]
    by_cases h2 : d > 4611686018427387904
    · rw [if_pos h2]; rfl
    · rw [if_neg h2]
      by_cases h3 : n < -4611686018427387904
      · rw [if_pos h3]; rfl
      · rw [if_neg h3]; simp only [fixed_RoundDiv.j0]; rw [if_pos (by simp; omega)]
theorem E_RoundDivAll {k : Nat} (hk : 4 ≤ k) (n d : Int) : fixed_RoundDiv.f k n d = some (RD n d) := by
  by_cases h : d < 1 ∨ d > 4611686018427387904 ∨ n < -4611686018427387904 ∨ n > 4611686018427387904
  · rw [E_RoundDivOut (by omega) h]; unfold RD; rw [if_pos h]
  · rw [E_RoundDiv hk (by omega) (by omega) (by omega) (by omega)]; unfold RD; rw [if_neg h]
theorem E_Mul {k : Nat} (hk : 4 ≤ k) (a b : Int) : fixed_Mul.f k a b = some (MUL a b) := by
  have h := satmul_bd a b
  unfold fixed_Mul.f
  simp only [E_Saturate, Option.bind_some]
  rw [w64 (by omega) (by omega), E_RoundDiv hk (by omega) (by omega) (by omega) (by omega)]; rfl
theorem E_Floor (x : Int) : fixed_Floor.f x = some (FLOOR x) := by
  have h1 := sat_bd x
  unfold fixed_Floor.f
  simp only [E_Saturate, Option.bind_some]
  rw [andNot16 _ (by omega) (by omega)]; rfl
theorem E_Fract (x : Int) : fixed_Fract.f x = some (FRACT x) := by
  unfold fixed_Fract.f
  simp only [E_Saturate, Option.bind_some]
  rw [and16]; rfl
theorem wrap32_eq (x : Int) : wrap32 x = (x + 2147483648) % 4294967296 - 2147483648 := by unfold wrap32; omega
theorem E_Wrap (x : Int) : fixed_Wrap.f x = some (WRAP x) := by
  unfold fixed_Wrap.f WRAP
  rw [wrap32_eq, show IntKind.u64.wrap x = x % 18446744073709551616 by simp [IntKind.wrap, IntKind.bits, IntKind.signed], w64 (by omega) (by omega)]
  congr 1; omega
theorem E_example {k : Nat} (hk : 4 ≤ k) : frustumlaw01_example.f k = some true := by
  unfold frustumlaw01_example.f
  rw [E_Mul hk, Option.bind_some, if_pos (by decide), E_Floor, Option.bind_some, if_pos (by decide), E_Fract, Option.bind_some, if_pos (by decide), E_Wrap, Option.bind_some]
  rfl
theorem rd_d {d : Int} (h1 : 70368744177664 ≤ d) (h2 : d ≤ 4611686018427387904) : 1 ≤ rd d 65536 ∧ rd d 65536 ≤ 4611686018427387904 :=
  ⟨rd_ge (by decide) (by omega), rd_le (by decide) (by omega)⟩
theorem E_Ratio {k : Nat} (hk : 6 ≤ k) {n : Int} (d : Int) (hn : n ≤ 9223372036854775807) : fixed_Ratio.f k n d = some (RATIO n d) := by
  obtain ⟨k, rfl⟩ : ∃ m, k = m + 1 := ⟨k - 1, by omega⟩
  have hout : (d < 1 ∨ d > 4611686018427387904 ∨ n < 1) → RATIO n d = 0 := fun h => by unfold RATIO; rw [if_pos h]
  unfold fixed_Ratio.f
  by_cases c1 : d < 1
  · rw [if_pos c1, hout (by omega)]; rfl
  rw [if_neg c1]
  by_cases c2 : d > 4611686018427387904
  · rw [if_pos c2, hout (by omega)]; rfl
  rw [if_neg c2]
  by_cases c3 : n < 1
  · rw [decide_eq_true c3, hout (by omega)]; rfl
  rw [decide_eq_false c3]
  unfold RATIO
  rw [if_neg (by omega)]
  simp only [fixed_Ratio.j0]
  rw [if_neg (by simp)]
  by_cases c4 : n ≥ d
  · rw [if_pos c4, if_pos c4]
  rw [if_neg c4, if_neg c4]
  by_cases c5 : d < 70368744177664
  · rw [if_pos c5, if_pos c5, w64 (by omega) (by omega), E_RoundDiv (by omega) (by omega) (by omega) (by omega) (by omega)]; rfl
  · have h := rd_d (d := d) (by omega) (by omega)
    rw [if_neg c5, if_neg c5, E_RoundDiv (by omega) (by omega) (by omega) (by omega) (by omega), Option.bind_some,
      E_RoundDiv (by omega) (by omega) (by omega) (by omega) (by omega), Option.bind_some, mn_eq]
theorem ratio_bd (n d : Int) : 0 ≤ RATIO n d ∧ RATIO n d ≤ 65536 := by
  unfold RATIO
  by_cases c1 : d < 1 ∨ d > 4611686018427387904 ∨ n < 1
  · rw [if_pos c1]; omega
  rw [if_neg c1]
  by_cases c2 : n ≥ d
  · rw [if_pos c2]; omega
  rw [if_neg c2]
  by_cases c3 : d < 70368744177664
  · rw [if_pos c3]
    exact ⟨rd_nonneg (by omega) (by omega), rd_le (by omega) (by omega)⟩
  · rw [if_neg c3]
    have h := rd_d (d := d) (by omega) (by omega)
    have := rd_nonneg (n := n) (d := rd d 65536) (by omega) (by omega)
    omega
theorem ratio_mono {n m : Int} (d : Int) (h : n ≤ m) : RATIO n d ≤ RATIO m d := by
  have bn := ratio_bd n d
  have bm := ratio_bd m d
  by_cases c1 : d < 1 ∨ d > 4611686018427387904 ∨ n < 1
  · have : RATIO n d = 0 := by unfold RATIO; rw [if_pos c1]
    omega
  by_cases c2 : m ≥ d
  · have : RATIO m d = 65536 := by unfold RATIO; rw [if_neg (by omega), if_pos c2]
    omega
  unfold RATIO
  rw [if_neg c1, if_neg (by omega), if_neg (show ¬ (d < 1 ∨ d > 4611686018427387904 ∨ m < 1) by omega), if_neg c2]
  by_cases c3 : d < 70368744177664
  · rw [if_pos c3, if_pos c3]; exact rd_mono (by omega) (by omega)
  · rw [if_neg c3, if_neg c3]
    have hd := rd_d (d := d) (by omega) (by omega)
    have := rd_mono (n := n) (m := m) (d := rd d 65536) (by omega) h
    omega
theorem ratio_out {n d : Int} (h : d < 1 ∨ d > 4611686018427387904 ∨ n < 1) : RATIO n d = 0 := by unfold RATIO; rw [if_pos h]
theorem ratio_one {n d : Int} (h1 : 1 ≤ d) (h2 : d ≤ 4611686018427387904) (h : d ≤ n) : RATIO n d = 65536 := by unfold RATIO; rw [if_neg (by omega), if_pos h]
theorem j1_true {k : Nat} (hk : 20 ≤ k) {n m d : Int} (wn : n ≤ 9223372036854775807) (wd : d ≤ 9223372036854775807) (b : Bool) (hb : b = decide (d < 1 ∨ d > 4611686018427387904)) :
    frustumlaw01_FixedRatioMonotonic.j1 k n d (RATIO n d) (RATIO m d) b = some true := by
  obtain ⟨k, rfl⟩ : ∃ m, k = m + 1 := ⟨k - 1, by omega⟩
  have hE : frustumlaw01_example.f k = some true := E_example (by omega)
  simp only [frustumlaw01_FixedRatioMonotonic.j1]
  by_cases c : d < 1 ∨ d > 4611686018427387904
  · rw [if_pos (by rw [hb]; exact decide_eq_true c), if_pos (ratio_out (by omega)), if_pos (ratio_out (by omega)), hE]; rfl
  · rw [if_neg (by rw [hb, decide_eq_false c]; simp), E_Ratio (by omega) d (by decide), Option.bind_some, if_pos (ratio_out (by omega)), E_Ratio (by omega) d wd, Option.bind_some,
      if_pos (ratio_one (by omega) (by omega) (by omega))]
    by_cases c2 : n < d
    · rw [if_pos c2]
      by_cases c3 : n > 0
      · rw [if_pos c3, hE]; rfl
      · rw [if_neg c3, if_pos (ratio_out (by omega)), hE]; rfl
    · rw [if_neg c2, if_pos (ratio_one (by omega) (by omega) (by omega)), if_pos (by omega), hE]; rfl
theorem j0_false {k : Nat} (hk : 21 ≤ k) {n m d : Int} (wn : n ≤ 9223372036854775807) (wd : d ≤ 9223372036854775807) :
    frustumlaw01_FixedRatioMonotonic.j0 k n d (RATIO n d) (RATIO m d) false = some true := by
  obtain ⟨k, rfl⟩ : ∃ m, k = m + 1 := ⟨k - 1, by omega⟩
  simp only [frustumlaw01_FixedRatioMonotonic.j0]
  rw [if_neg (by simp)]
  by_cases c : d < 1
  · rw [if_pos c]; exact j1_true (by omega) wn wd _ (by simp; omega)
  · rw [if_neg c]; exact j1_true (by omega) wn wd _ (by simp; omega)
theorem FixedRatioMonotonic : frustumlaw01_FixedRatioMonotonic.Pure := by
  intro n m d wn wm wd
  have bn := bounds_i64 wn
  have bm := bounds_i64 wm
  have bd := bounds_i64 wd
  have r1 := ratio_bd n d
  have r2 := ratio_bd m d
  refine ⟨40, ?_⟩
  unfold frustumlaw01_FixedRatioMonotonic.f
  rw [E_Ratio (by decide) d bn.2, Option.bind_some, E_Ratio (by decide) d bm.2, Option.bind_some, if_neg (by omega), if_neg (by omega), if_neg (by omega), if_neg (by omega)]
  by_cases c1 : n ≤ m
  · have h := ratio_mono d c1
    rw [if_pos c1, if_neg (by omega)]
    by_cases c2 : n ≥ m
    · have h2 := ratio_mono d (show m ≤ n by omega)
      rw [if_pos c2, decide_eq_false (by omega)]; exact j0_false (by decide) bn.2 bd.2
    · rw [if_neg c2]; exact j0_false (by decide) bn.2 bd.2
  · have h2 := ratio_mono d (show m ≤ n by omega)
    rw [if_neg c1, if_pos (by omega), decide_eq_false (by omega)]; exact j0_false (by decide) bn.2 bd.2
end Go.Proofs.Ytfghdcghgfehiaa.Pure
