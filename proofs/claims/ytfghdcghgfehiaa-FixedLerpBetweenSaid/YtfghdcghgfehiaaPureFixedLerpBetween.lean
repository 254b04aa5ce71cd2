/- Lerp stays between the saturated ends, begins at the first one, is constant between equal ends and outside of [0, One], and never moves back: for all numbers of 64 bits, no condition. -/
import Derived.Test.YtfghdcghgfehiaaPFixedLerpBetweenx2
import Derived.Test.YtfghdcghgfehiaaMath2
import Derived.OpenShut
namespace Go.Proofs.Ytfghdcghgfehiaa.Pure
open Go.RowKit Go.Proofs.Ytfghdcghgfehiaa.PFixedLerpBetween Go.Proofs.YtfghdcghgfehiaaW.PrintWords Go.Proofs.YtfghdcghgfehiaaW.PrintLast Go.Proofs.YtfghdcghgfehiaaW.PrintMore Go.Proofs.Ytfghdcghgfehiaa.M Go.OpenShut
set_option linter.unusedVariables false
set_option linter.unusedSimpArgs false
theorem mx_eq (a b : Int) : mx a b = max a b := by unfold mx; split <;> omega
theorem mn_eq (a b : Int) : mn a b = min a b := by unfold mn; split <;> omega
theorem w64 {x : Int} (h1 : -9223372036854775808 ≤ x) (h2 : x ≤ 9223372036854775807) : wrap64 x = x := by unfold wrap64; omega
theorem u64 {x : Int} (h1 : 0 ≤ x) (h2 : x ≤ 18446744073709551615) : IntKind.u64.wrap x = x := by
  simp only [IntKind.wrap, IntKind.bits, IntKind.signed]; simp; omega
theorem and16 (x : Int) : Go.bits .and .i64 x 65535 = x % 65536 := by
  show IntKind.i64.wrap ((BitVec.ofInt 64 x &&& BitVec.ofInt 64 65535).toNat : Int) = _
  rw [IntKind.wrap_i64, BitVec.toNat_and, BitVec.toNat_ofInt, BitVec.toNat_ofInt,
    show ((65535 : Int) % ((2 ^ 64 : Nat) : Int)).toNat = 2 ^ 16 - 1 by decide, Nat.and_two_pow_sub_one_eq_mod]
  omega
theorem bv_andNot (x : BitVec 64) : (x &&& ~~~65535#64).toNat + x.toNat % 65536 = x.toNat := by
  have h : (x &&& 65535#64) + (x &&& ~~~65535#64) = x := by
    rw [BitVec.add_eq_or_of_and_eq_zero]
    · ext i hi; simp only [BitVec.getElem_or, BitVec.getElem_and, BitVec.getElem_not]; cases x[i] <;> simp
    · ext i hi; simp only [BitVec.getElem_and, BitVec.getElem_not, BitVec.getElem_zero]; cases (65535#64)[i] <;> simp
  have h' := congrArg BitVec.toNat h
  have hlt := x.isLt
  have hle : (x &&& ~~~65535#64).toNat ≤ x.toNat := by rw [BitVec.toNat_and]; exact Nat.and_le_left
  have hle2 : (x &&& ~~~65535#64).toNat % 65536 = 0 := by
    have : (x &&& ~~~65535#64).toNat % 2 ^ 16 = 0 := by
      rw [BitVec.toNat_and, Nat.and_mod_two_pow, show (~~~65535#64).toNat % 2 ^ 16 = 0 by decide, Nat.and_zero]
    exact this
  rw [BitVec.toNat_add, BitVec.toNat_and, show (65535#64).toNat = 2 ^ 16 - 1 by decide, Nat.and_two_pow_sub_one_eq_mod] at h'
  omega
theorem andNot16 (x : Int) (h1 : -9223372036854775808 ≤ x) (h2 : x ≤ 9223372036854775807) : Go.bits .andNot .i64 x 65535 = x / 65536 * 65536 := by
  show IntKind.i64.wrap ((BitVec.ofInt 64 x &&& ~~~BitVec.ofInt 64 65535).toNat : Int) = _
  have h := bv_andNot (BitVec.ofInt 64 x)
  rw [BitVec.toNat_ofInt] at h
  rw [IntKind.wrap_i64, show BitVec.ofInt 64 65535 = 65535#64 by decide]
  omega
theorem E_Clamp (x lo hi : Int) : fixed_Clamp.f x lo hi = some (clamp x lo hi) := by
  unfold fixed_Clamp.f clamp; rw [mx_eq, mn_eq]
theorem E_Saturate (x : Int) : fixed_Saturate.f x = some (sat x) := by
  unfold fixed_Saturate.f; rw [E_Clamp]; rfl
theorem E_Add (a b : Int) : fixed_Add.f a b = some (ADD a b) := by
  have h1 := sat_bd a
  have h2 := sat_bd b
  unfold fixed_Add.f
  simp only [E_Saturate, Option.bind_some]
  rw [w64 (by omega) (by omega)]; rfl
theorem E_Sub (a b : Int) : fixed_Sub.f a b = some (SUB a b) := by
  have h1 := sat_bd a
  have h2 := sat_bd b
  unfold fixed_Sub.f
  simp only [E_Saturate, Option.bind_some]
  rw [w64 (by omega) (by omega)]; rfl
theorem E_RoundDiv0 {k : Nat} (hk : 2 ≤ k) {n d : Int} (h1 : 1 ≤ d) (h2 : d ≤ 4611686018427387904) (h3 : 0 ≤ n) (h4 : n ≤ 4611686018427387904) : fixed_RoundDiv.f k n d = some (rnd n d) := by
  obtain ⟨k, rfl⟩ : ∃ m, k = m + 2 := ⟨k - 2, by omega⟩
  have hq := rdp_nonneg (n := n) (d := d) (by omega) h3
  have hb := rdp_le (n := n) (d := d) (m := n) (by omega) (by have := Int.mul_le_mul_of_nonneg_left h1 h3; omega)
  simp only [fixed_RoundDiv.f]
  rw [if_neg (by omega), if_neg (by omega), if_neg (by omega)]
  simp only [fixed_RoundDiv.j0]
  rw [if_neg (by simp; omega), if_neg (by omega)]
  have e1 : IntKind.u64.wrap d = d := u64 (by omega) (by omega)
  have e2 : IntKind.u64.wrap n = n := u64 (by omega) (by omega)
  have e3 : IntKind.u64.wrap (2 * d) = 2 * d := u64 (by omega) (by omega)
  have e4 : IntKind.u64.wrap (2 * n) = 2 * n := u64 (by omega) (by omega)
  have e5 : IntKind.u64.wrap (2 * n + d) = 2 * n + d := u64 (by omega) (by omega)
  have e6 : Int.tdiv (2 * n + d) (2 * d) = rdp n d := Int.tdiv_eq_ediv_of_nonneg (by omega)
  rw [e1, e2, e3, if_neg (by omega), e4, e5, e6, u64 hq (by omega), w64 (by omega) (by omega), rd_pos h3]
theorem E_RoundDiv {k : Nat} (hk : 4 ≤ k) {n d : Int} (h1 : 1 ≤ d) (h2 : d ≤ 4611686018427387904) (h3 : -4611686018427387904 ≤ n) (h4 : n ≤ 4611686018427387904) : fixed_RoundDiv.f k n d = some (rnd n d) := by
  by_cases hn : n < 0
  · obtain ⟨k, rfl⟩ : ∃ m, k = m + 2 := ⟨k - 2, by omega⟩
    have hb := rd_bound (n := -n) (d := d) (B := 4611686018427387904) (by omega) (by omega) (by omega)
    simp only [fixed_RoundDiv.f]
    rw [if_neg (by omega), if_neg (by omega), if_neg (by omega)]
    simp only [fixed_RoundDiv.j0]
    rw [if_neg (by simp; omega), if_pos hn, w64 (by omega) (by omega), E_RoundDiv0 (by omega) h1 h2 (by omega) (by omega), Option.bind_some,
      w64 (by omega) (by omega), rd_odd (by omega), Int.neg_neg]
  · exact E_RoundDiv0 (by omega) h1 h2 (by omega) h4
theorem E_RoundDivOut {k : Nat} (hk : 2 ≤ k) {n d : Int} (h : d < 1 ∨ d > 4611686018427387904 ∨ n < -4611686018427387904 ∨ n > 4611686018427387904) : fixed_RoundDiv.f k n d = some 0 := by
  obtain ⟨k, rfl⟩ : ∃ m, k = m + 2 := ⟨k - 2, by omega⟩
  simp only [fixed_RoundDiv.f]
  by_cases h1 : d < 1
  · rw [if_pos h1]; rfl
  · rw [if_neg h1]
    by_cases h2 : d > 4611686018427387904
    · rw [if_pos h2]; rfl
    · rw [if_neg h2]
      by_cases h3 : n < -4611686018427387904
      · rw [if_pos h3]; rfl
      · rw [if_neg h3]; simp only [fixed_RoundDiv.j0]; rw [if_pos (by simp; omega)]
theorem E_RoundDivAll {k : Nat} (hk : 4 ≤ k) (n d : Int) : fixed_RoundDiv.f k n d = some (RD n d) := by
  by_cases h : d < 1 ∨ d > 4611686018427387904 ∨ n < -4611686018427387904 ∨ n > 4611686018427387904
  · rw [E_RoundDivOut (by omega) h]; unfold RD; rw [if_pos h]
  · rw [E_RoundDiv hk (by omega) (by omega) (by omega) (by omega)]; unfold RD; rw [if_neg h]
theorem E_Mul {k : Nat} (hk : 4 ≤ k) (a b : Int) : fixed_Mul.f k a b = some (MUL a b) := by
  have h := satmul_bd a b
  unfold fixed_Mul.f
  simp only [E_Saturate, Option.bind_some]
  rw [w64 (by omega) (by omega), E_RoundDiv hk (by omega) (by omega) (by omega) (by omega)]; rfl
theorem E_Floor (x : Int) : fixed_Floor.f x = some (FLOOR x) := by
  have h1 := sat_bd x
  unfold fixed_Floor.f
  simp only [E_Saturate, Option.bind_some]
  rw [andNot16 _ (by omega) (by omega)]; rfl
theorem E_Fract (x : Int) : fixed_Fract.f x = some (FRACT x) := by
  unfold fixed_Fract.f
  simp only [E_Saturate, Option.bind_some]
  rw [and16]; rfl
theorem wrap32_eq (x : Int) : wrap32 x = (x + 2147483648) % 4294967296 - 2147483648 := by unfold wrap32; omega
theorem E_Wrap (x : Int) : fixed_Wrap.f x = some (WRAP x) := by
  unfold fixed_Wrap.f WRAP
  rw [wrap32_eq, show IntKind.u64.wrap x = x % 18446744073709551616 by simp [IntKind.wrap, IntKind.bits, IntKind.signed], w64 (by omega) (by omega)]
  congr 1; omega
theorem E_Lerp {k : Nat} (hk : 4 ≤ k) (a b t : Int) : fixed_Lerp.f k a b t = some (LERP a b t) := by
  unfold fixed_Lerp.f
  simp only [E_Sub, E_Clamp, E_Mul hk, E_Add, Option.bind_some]; rfl
theorem E_example {k : Nat} (hk : 4 ≤ k) : frustumlaw01_example.f k = some true := by
  unfold frustumlaw01_example.f
  rw [E_Mul hk, Option.bind_some, if_pos (by decide), E_Floor, Option.bind_some, if_pos (by decide), E_Fract, Option.bind_some, if_pos (by decide), E_Wrap, Option.bind_some]
  rfl
theorem E_limited (x : Int) : frustumlaw01_limited.f x = some (sat x) := by
  unfold frustumlaw01_limited.f sat; rw [mx_eq, mn_eq]; congr 1; omega
theorem step_up {D c : Int} (hD : 0 ≤ D) (h0 : 0 ≤ c) (h1 : c ≤ 65536) : 0 ≤ rnd (D * c) 65536 ∧ rnd (D * c) 65536 ≤ D :=
  ⟨rd_nonneg (by decide) (Int.mul_nonneg hD h0), rd_le (by decide) (Int.mul_le_mul_of_nonneg_left h1 hD)⟩
theorem step_dn {D c : Int} (hD : D ≤ 0) (h0 : 0 ≤ c) (h1 : c ≤ 65536) : D ≤ rnd (D * c) 65536 ∧ rnd (D * c) 65536 ≤ 0 := by
  have h := step_up (D := -D) (by omega) h0 h1
  rw [Int.neg_mul, rd_odd (by decide)] at h
  omega
theorem clamp_bd (t : Int) : 0 ≤ clamp t 0 65536 ∧ clamp t 0 65536 ≤ 65536 := by unfold clamp; omega
theorem sub_val (a b : Int) : SUB b a = max (min (sat b - sat a) 536870911) (-536870911) := rfl
theorem lerp_eq (a b t : Int) : LERP a b t = sat a + rnd (SUB b a * clamp t 0 65536) 65536 := by
  have hc := clamp_bd t
  have ha := sat_bd a
  have hb := sat_bd b
  have hs := sub_val a b
  unfold LERP ADD MUL
  rw [sat_id (x := SUB b a) (by omega) (by omega), sat_id (x := clamp t 0 65536) (by omega) (by omega), sat_sat]
  by_cases h : 0 ≤ SUB b a
  · have hm := step_up h hc.1 hc.2
    rw [sat_id (x := rnd (SUB b a * clamp t 0 65536) 65536) (by omega) (by omega), sat_id (by omega) (by omega)]
  · have hm := step_dn (D := SUB b a) (by omega) hc.1 hc.2
    rw [sat_id (x := rnd (SUB b a * clamp t 0 65536) 65536) (by omega) (by omega), sat_id (by omega) (by omega)]
theorem lerp_between (a b t : Int) : min (sat a) (sat b) ≤ LERP a b t ∧ LERP a b t ≤ max (sat a) (sat b) := by
  have hc := clamp_bd t
  have ha := sat_bd a
  have hb := sat_bd b
  have hs := sub_val a b
  rw [lerp_eq]
  by_cases h : 0 ≤ SUB b a
  · have hm := step_up h hc.1 hc.2; omega
  · have hm := step_dn (D := SUB b a) (by omega) hc.1 hc.2; omega
theorem clamp_mono {t u : Int} (h : t ≤ u) : clamp t 0 65536 ≤ clamp u 0 65536 := by unfold clamp; omega
theorem lerp_mono {a b t u : Int} (hab : sat a ≤ sat b) (h : t ≤ u) : LERP a b t ≤ LERP a b u := by
  have hs := sub_val a b
  rw [lerp_eq, lerp_eq]
  have := rd_mono (d := 65536) (by decide) (Int.mul_le_mul_of_nonneg_left (clamp_mono h) (show 0 ≤ SUB b a by omega))
  omega
theorem lerp_anti {a b t u : Int} (hab : sat b ≤ sat a) (h : t ≤ u) : LERP a b u ≤ LERP a b t := by
  have hs := sub_val a b
  rw [lerp_eq, lerp_eq]
  have h1 := Int.mul_le_mul_of_nonneg_left (clamp_mono h) (show 0 ≤ -SUB b a by omega)
  rw [Int.neg_mul, Int.neg_mul] at h1
  have := rd_mono (d := 65536) (by decide) (show SUB b a * clamp u 0 65536 ≤ SUB b a * clamp t 0 65536 by omega)
  omega
theorem lerp_low {a b t : Int} (h : t ≤ 0) : LERP a b t = sat a := by
  rw [lerp_eq, show clamp t 0 65536 = 0 by unfold clamp; omega, Int.mul_zero, rd_zero (by decide), Int.add_zero]
theorem lerp_same (a t : Int) : LERP a a t = sat a := by rw [lerp_eq, sub_self', Int.zero_mul, rd_zero (by decide), Int.add_zero]
theorem lerp_high {a b t : Int} : LERP a b (max t 65536) = LERP a b 65536 := by
  rw [lerp_eq, lerp_eq, show clamp (max t 65536) 0 65536 = 65536 by unfold clamp; omega, show clamp 65536 0 65536 = 65536 by decide]
theorem last (a b t : Int) {k : Nat} (hk : 8 ≤ k) : frustumlaw01_FixedLerpBetween.j1 k a b t (sat a) false = some true := by
  obtain ⟨k, rfl⟩ : ∃ m, k = m + 1 := ⟨k - 1, by omega⟩
  simp only [frustumlaw01_FixedLerpBetween.j1]
  rw [if_neg (by simp), E_Lerp (by omega), Option.bind_some, E_Lerp (by omega), Option.bind_some, mx_eq, mn_eq, if_pos lerp_high, E_Lerp (by omega), Option.bind_some, if_pos (lerp_low (by omega)), E_example (by omega)]
  rfl
theorem mid (a b t u : Int) {k : Nat} (hk : 9 ≤ k) : frustumlaw01_FixedLerpBetween.j0 k a b t u (sat a) (sat b) (LERP a b t) (LERP a b u) false = some true := by
  obtain ⟨k, rfl⟩ : ∃ m, k = m + 1 := ⟨k - 1, by omega⟩
  have hl := last a b t (k := k) (by omega)
  simp only [frustumlaw01_FixedLerpBetween.j0]
  rw [if_neg (by simp)]
  by_cases c1 : t ≤ u
  · rw [if_pos c1]
    by_cases c2 : sat a ≤ sat b
    · have := lerp_mono c2 c1
      rw [if_pos c2, if_neg (by omega)]
      by_cases c3 : sat a ≥ sat b
      · have := lerp_anti c3 c1
        rw [if_pos c3, decide_eq_false (by omega)]; exact hl
      · rw [if_neg c3]; exact hl
    · have := lerp_anti (show sat b ≤ sat a by omega) c1
      rw [if_neg c2, if_pos (by omega), decide_eq_false (by omega)]; exact hl
  · rw [if_neg c1]; exact hl
theorem FixedLerpBetween (a b t u : Int) : frustumlaw01_FixedLerpBetween.f 40 a b t u = some true := by
  have h1 := lerp_between a b t
  unfold frustumlaw01_FixedLerpBetween.f
  rw [E_limited, Option.bind_some, E_limited, Option.bind_some, E_Lerp (by decide), Option.bind_some, E_Lerp (by decide), Option.bind_some, mn_eq, mx_eq, if_neg (by omega), if_neg (by omega),
    E_Lerp (by decide), Option.bind_some, if_pos (lerp_low (by decide)), E_Lerp (by decide), Option.bind_some, lerp_same, bne_self_eq_false]
  exact mid a b t u (by decide)
end Go.Proofs.Ytfghdcghgfehiaa.Pure
