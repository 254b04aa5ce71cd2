/- The identity leaves saturated vectors and matrices unchanged, on either side: for all matrices and vectors of 64 bits, no condition. -/
import Derived.Test.YtmofipnpnepfaaaPMatrixIdentityx0
import Derived.Test.YtmofipnpnepfaaaPMatrixIdentityx1
import Derived.Test.YtmofipnpnepfaaaPMatrixIdentityx2
import Derived.Test.YtmofipnpnepfaaaPMatrixIdentityx3
import Derived.Test.YtmofipnpnepfaaaPMatrixIdentityx4
import Derived.Test.YtmofipnpnepfaaaPMatrixIdentityx5
import Derived.Test.YtmofipnpnepfaaaPMatrixIdentityx6
import Derived.Test.YtmofipnpnepfaaaPMatrixIdentityx7
import Derived.Test.YtmofipnpnepfaaaPMatrixIdentityx8
import Derived.Test.YtmofipnpnepfaaaPMatrixIdentityx9
import Derived.Test.YtmofipnpnepfaaaPMatrixIdentityx10
import Derived.Test.YtmofipnpnepfaaaPMatrixIdentityx11
import Derived.Test.YtmofipnpnepfaaaPMatrixIdentityx12
import Derived.Test.YtmofipnpnepfaaaPMatrixIdentityx13
import Derived.Test.YtmofipnpnepfaaaPMatrixIdentityx14
import Derived.Test.YtmofipnpnepfaaaPMatrixIdentityx15
import Derived.Test.YtmofipnpnepfaaaMath
import Derived.OpenShut
namespace Go.Proofs.Ytmofipnpnepfaaa.Pure
open Go.RowKit Go.Proofs.Ytmofipnpnepfaaa.PMatrixIdentity Go.Proofs.YtmofipnpnepfaaaW.PrintWords Go.Proofs.YtmofipnpnepfaaaW.PrintLast Go.Proofs.YtmofipnpnepfaaaW.PrintMore Go.Proofs.Ytmofipnpnepfaaa.M Go.OpenShut
set_option linter.unusedVariables false
set_option linter.unusedSimpArgs false
theorem mx_eq (a b : Int) : mx a b = max a b := by unfold mx; split <;> omega
theorem mn_eq (a b : Int) : mn a b = min a b := by unfold mn; split <;> omega
theorem w64 {x : Int} (h1 : -9223372036854775808 ≤ x) (h2 : x ≤ 9223372036854775807) : wrap64 x = x := by unfold wrap64; omega
theorem u64 {x : Int} (h1 : 0 ≤ x) (h2 : x ≤ 18446744073709551615) : IntKind.u64.wrap x = x := by
  simp only [IntKind.wrap, IntKind.bits, IntKind.signed]; simp; omega
theorem and16 (x : Int) : Go.bits .and .i64 x 65535 = x % 65536 := by
  show IntKind.i64.wrap ((BitVec.ofInt 64 x &&& BitVec.ofInt 64 65535).toNat : Int) = _
  rw [IntKind.wrap_i64, BitVec.toNat_and, BitVec.toNat_ofInt, BitVec.toNat_ofInt,
    show ((65535 : Int) % ((2 ^ 64 : Nat) : Int)).toNat = 2 ^ 16 - 1 by decide, Nat.and_two_pow_sub_one_eq_mod]
  omega
theorem bv_andNot (x : BitVec 64) : (x &&& ~~~65535#64).toNat + x.toNat % 65536 = x.toNat := by
  have h : (x &&& 65535#64) + (x &&& ~~~65535#64) = x := by
    rw [BitVec.add_eq_or_of_and_eq_zero]
    · ext i hi; simp only [BitVec.getElem_or, BitVec.getElem_and, BitVec.getElem_not]; cases x[i] <;> simp
    · ext i hi; simp only [BitVec.getElem_and, BitVec.getElem_not, BitVec.getElem_zero]; cases (65535#64)[i] <;> simp
  have h' := congrArg BitVec.toNat h
  have hlt := x.isLt
  have hle : (x &&& ~~~65535#64).toNat ≤ x.toNat := by rw [BitVec.toNat_and]; exact Nat.and_le_left
  have hle2 : (x &&& ~~~65535#64).toNat % 65536 = 0 := by
    have : (x &&& ~~~65535#64).toNat % 2 ^ 16 = 0 := by
      rw [BitVec.toNat_and, Nat.and_mod_two_pow, show (~~~65535#64).toNat % 2 ^ 16 = 0 by decide, Nat.and_zero]
    exact this
  rw [BitVec.toNat_add, BitVec.toNat_and, show (65535#64).toNat = 2 ^ 16 - 1 by decide, Nat.and_two_pow_sub_one_eq_mod] at h'
  omega
theorem andNot16 (x : Int) (h1 : -9223372036854775808 ≤ x) (h2 : x ≤ 9223372036854775807) : Go.bits .andNot .i64 x 65535 = x / 65536 * 65536 := by
  show IntKind.i64.wrap ((BitVec.ofInt 64 x &&& ~~~BitVec.ofInt 64 65535).toNat : Int) = _
  have h := bv_andNot (BitVec.ofInt 64 x)
  rw [BitVec.toNat_ofInt] at h
  rw [IntKind.wrap_i64, show BitVec.ofInt 64 65535 = 65535#64 by decide]
  omega
theorem E_Clamp (x lo hi : Int) : fixed_Clamp.f x lo hi = some (clamp x lo hi) := by
  unfold fixed_Clamp.f clamp; rw [mx_eq, mn_eq]
theorem E_Saturate (x : Int) : fixed_Saturate.f x = some (sat x) := by
  unfold fixed_Saturate.f; rw [E_Clamp]; rfl
theorem E_RoundDiv0 {k : Nat} (hk : 2 ≤ k) {n d : Int} (h1 : 1 ≤ d) (h2 : d ≤ 4611686018427387904) (h3 : 0 ≤ n) (h4 : n ≤ 4611686018427387904) : fixed_RoundDiv.f k n d = some (rnd n d) := by
  obtain ⟨k, rfl⟩ : ∃ m, k = m + 2 := ⟨k - 2, by omega⟩
  have hq := rdp_nonneg (n := n) (d := d) (by omega) h3
  have hb := rdp_le (n := n) (d := d) (m := n) (by omega) (by have := Int.mul_le_mul_of_nonneg_left h1 h3; omega)
  simp only [fixed_RoundDiv.f]
  rw [if_neg (by omega), if_neg (by omega), if_neg (by omega)]
  simp only [fixed_RoundDiv.j0]
  rw [if_neg (by simp; omega), if_neg (by omega)]
  have e1 : IntKind.u64.wrap d = d := u64 (by omega) (by omega)
  have e2 : IntKind.u64.wrap n = n := u64 (by omega) (by omega)
  have e3 : IntKind.u64.wrap (2 * d) = 2 * d := u64 (by omega) (by omega)
  have e4 : IntKind.u64.wrap (2 * n) = 2 * n := u64 (by omega) (by omega)
  have e5 : IntKind.u64.wrap (2 * n + d) = 2 * n + d := u64 (by omega) (by omega)
  have e6 : Int.tdiv (2 * n + d) (2 * d) = rdp n d := Int.tdiv_eq_ediv_of_nonneg (by omega)
  rw [e1, e2, e3, if_neg (by omega), e4, e5, e6, u64 hq (by omega), w64 (by omega) (by omega), rd_pos h3]
theorem E_RoundDiv {k : Nat} (hk : 4 ≤ k) {n d : Int} (h1 : 1 ≤ d) (h2 : d ≤ 4611686018427387904) (h3 : -4611686018427387904 ≤ n) (h4 : n ≤ 4611686018427387904) : fixed_RoundDiv.f k n d = some (rnd n d) := by
  by_cases hn : n < 0
  · obtain ⟨k, rfl⟩ : ∃ m, k = m + 2 := ⟨k - 2, by omega⟩
    have hb := rd_bound (n := -n) (d := d) (B := 4611686018427387904) (by omega) (by omega) (by omega)
    simp only [fixed_RoundDiv.f]
    rw [if_neg (by omega), if_neg (by omega), if_neg (by omega)]
    simp only [fixed_RoundDiv.j0]
    rw [if_neg (by simp; omega), if_pos hn, w64 (by omega) (by omega), E_RoundDiv0 (by omega) h1 h2 (by omega) (by omega), Option.bind_some,
      w64 (by omega) (by omega), rd_odd (by omega), Int.neg_neg]
  · exact E_RoundDiv0 (by omega) h1 h2 (by omega) h4
theorem E_RoundDivOut {k : Nat} (hk : 2 ≤ k) {n d : Int} (h : d < 1 ∨ d > 4611686018427387904 ∨ n < -4611686018427387904 ∨ n > 4611686018427387904) : fixed_RoundDiv.f k n d = some 0 := by
  obtain ⟨k, rfl⟩ : ∃ m, k = m + 2 := ⟨k - 2, by omega⟩
  simp only [fixed_RoundDiv.f]
  by_cases h1 : d < 1
  · rw [if_pos h1]; rfl
  · rw [if_neg h1]
    by_cases h2 : d > 4611686018427387904
    · rw [if_pos h2]; rfl
    · rw [if_neg h2]
      by_cases h3 : n < -4611686018427387904
      · rw [if_pos h3]; rfl
      · rw [if_neg h3]; simp only [fixed_RoundDiv.j0]; rw [if_pos (by simp; omega)]
theorem E_RoundDivAll {k : Nat} (hk : 4 ≤ k) (n d : Int) : fixed_RoundDiv.f k n d = some (RD n d) := by
  by_cases h : d < 1 ∨ d > 4611686018427387904 ∨ n < -4611686018427387904 ∨ n > 4611686018427387904
  · rw [E_RoundDivOut (by omega) h]; unfold RD; rw [if_pos h]
  · rw [E_RoundDiv hk (by omega) (by omega) (by omega) (by omega)]; unfold RD; rw [if_neg h]
theorem dot_bd (a b : Int) : -288230375077969921 ≤ sat a * sat b ∧ sat a * sat b ≤ 288230375077969921 := satmul_bd a b
theorem E_Dot {k : Nat} (hk : 10 ≤ k) (a0 a1 a2 a3 b0 b1 b2 b3 : Int) : vec_Dot.f k a0 a1 a2 a3 b0 b1 b2 b3 = some (DOT a0 a1 a2 a3 b0 b1 b2 b3) := by
  obtain ⟨k, rfl⟩ : ∃ m, k = m + 5 := ⟨k - 5, by omega⟩
  have h0 := dot_bd a0 b0
  have h1 := dot_bd a1 b1
  have h2 := dot_bd a2 b2
  have h3 := dot_bd a3 b3
  have l1 : (([a0, a1, a2, a3] : List Int).length : Int) = 4 := rfl
  have l2 : (([b0, b1, b2, b3] : List Int).length : Int) = 4 := rfl
  unfold vec_Dot.f
  simp only [vec_List.f, Option.bind_some, vec_Dot.l0, l1, l2]
  rw [if_pos (by decide), if_pos (by decide), if_pos (by decide), E_Saturate, Option.bind_some, if_pos (by decide), E_Saturate, Option.bind_some]
  rw [show wrap64 (0 + 1) = 1 by decide +kernel, if_pos (by decide), if_pos (by decide), if_pos (by decide), E_Saturate, Option.bind_some, if_pos (by decide), E_Saturate, Option.bind_some]
  rw [show wrap64 (1 + 1) = 2 by decide +kernel, if_pos (by decide), if_pos (by decide), if_pos (by decide), E_Saturate, Option.bind_some, if_pos (by decide), E_Saturate, Option.bind_some]
  rw [show wrap64 (2 + 1) = 3 by decide +kernel, if_pos (by decide), if_pos (by decide), if_pos (by decide), E_Saturate, Option.bind_some, if_pos (by decide), E_Saturate, Option.bind_some]
  rw [show wrap64 (3 + 1) = 4 by decide +kernel, if_neg (by decide)]
  rw [show rd [a0, a1, a2, a3] 0 = a0 from rfl, show rd [a0, a1, a2, a3] 1 = a1 from rfl, show rd [a0, a1, a2, a3] 2 = a2 from rfl, show rd [a0, a1, a2, a3] 3 = a3 from rfl,
    show rd [b0, b1, b2, b3] 0 = b0 from rfl, show rd [b0, b1, b2, b3] 1 = b1 from rfl, show rd [b0, b1, b2, b3] 2 = b2 from rfl, show rd [b0, b1, b2, b3] 3 = b3 from rfl]
  rw [w64 (x := sat a0 * sat b0) (by omega) (by omega), w64 (x := sat a1 * sat b1) (by omega) (by omega), w64 (x := sat a2 * sat b2) (by omega) (by omega), w64 (x := sat a3 * sat b3) (by omega) (by omega),
    Int.zero_add, w64 (x := sat a0 * sat b0) (by omega) (by omega), w64 (x := sat a0 * sat b0 + sat a1 * sat b1) (by omega) (by omega), w64 (x := sat a0 * sat b0 + sat a1 * sat b1 + sat a2 * sat b2) (by omega) (by omega),
    w64 (x := sat a0 * sat b0 + sat a1 * sat b1 + sat a2 * sat b2 + sat a3 * sat b3) (by omega) (by omega),
    E_RoundDiv (by omega) (by omega) (by omega) (by omega) (by omega), Option.bind_some, E_Saturate]; rfl
theorem E_Apply {k : Nat} (hk : 10 ≤ k) (a0 a1 a2 a3 a4 a5 a6 a7 a8 a9 a10 a11 a12 a13 a14 a15 x y z w : Int) : matrix_Apply.f k a0 a1 a2 a3 a4 a5 a6 a7 a8 a9 a10 a11 a12 a13 a14 a15 x y z w = some (DOT a0 a1 a2 a3 x y z w, DOT a4 a5 a6 a7 x y z w, DOT a8 a9 a10 a11 x y z w, DOT a12 a13 a14 a15 x y z w) := by
  have r0 : matrix_Row.f a0 a1 a2 a3 a4 a5 a6 a7 a8 a9 a10 a11 a12 a13 a14 a15 0 = some (a0, a1, a2, a3) := rfl
  have r1 : matrix_Row.f a0 a1 a2 a3 a4 a5 a6 a7 a8 a9 a10 a11 a12 a13 a14 a15 1 = some (a4, a5, a6, a7) := rfl
  have r2 : matrix_Row.f a0 a1 a2 a3 a4 a5 a6 a7 a8 a9 a10 a11 a12 a13 a14 a15 2 = some (a8, a9, a10, a11) := rfl
  have r3 : matrix_Row.f a0 a1 a2 a3 a4 a5 a6 a7 a8 a9 a10 a11 a12 a13 a14 a15 3 = some (a12, a13, a14, a15) := rfl
  unfold matrix_Apply.f
  simp only [r0, r1, r2, r3, Option.bind_some, E_Dot hk]
theorem E_Translate (x y z : Int) : matrix_Translate.f x y z = some (65536, 0, 0, sat x, 0, 65536, 0, sat y, 0, 0, 65536, sat z, 0, 0, 0, 65536) := by
  unfold matrix_Translate.f matrix_Identity.f
  simp only [Option.bind_some, E_Saturate]
theorem E_ScaleBy (x y z : Int) : matrix_ScaleBy.f x y z = some (sat x, 0, 0, 0, 0, sat y, 0, 0, 0, 0, sat z, 0, 0, 0, 0, 65536) := by
  unfold matrix_ScaleBy.f matrix_Identity.f
  simp only [Option.bind_some, E_Saturate]
theorem E_ex04 {k : Nat} (hk : 10 ≤ k) : frustumlaw04_example.f k = some true := by
  unfold frustumlaw04_example.f
  simp only [E_Translate, Option.bind_some, E_Apply hk]
  decide +kernel
theorem E_limited (x : Int) : frustumlaw04_limited.f x = some (sat x) := by
  unfold frustumlaw04_limited.f sat; rw [mx_eq, mn_eq]; congr 1; omega
theorem E_limitedVec (x y z w : Int) : frustumlaw04_limitedVec.f x y z w = some (sat x, sat y, sat z, sat w) := by
  unfold frustumlaw04_limitedVec.f
  simp only [E_limited, Option.bind_some]
theorem dot_row {a b c d x y z w r : Int} (h : sat a * sat x + sat b * sat y + sat c * sat z + sat d * sat w = r * 65536) : DOT a b c d x y z w = sat r := by
  unfold DOT; rw [h, rd_mul (by decide)]
theorem s1 : sat 65536 = 65536 := by decide
theorem s0 : sat 0 = 0 := by decide
theorem dl0 (x y z w : Int) : DOT 65536 0 0 0 x y z w = sat x := by rw [dot_row (r := sat x) (by rw [s1, s0]; omega), sat_sat]
theorem dr0 (x y z w : Int) : DOT x y z w 65536 0 0 0 = sat x := by rw [dot_row (r := sat x) (by rw [s1, s0]; omega), sat_sat]
theorem dl1 (x y z w : Int) : DOT 0 65536 0 0 x y z w = sat y := by rw [dot_row (r := sat y) (by rw [s1, s0]; omega), sat_sat]
theorem dr1 (x y z w : Int) : DOT x y z w 0 65536 0 0 = sat y := by rw [dot_row (r := sat y) (by rw [s1, s0]; omega), sat_sat]
theorem dl2 (x y z w : Int) : DOT 0 0 65536 0 x y z w = sat z := by rw [dot_row (r := sat z) (by rw [s1, s0]; omega), sat_sat]
theorem dr2 (x y z w : Int) : DOT x y z w 0 0 65536 0 = sat z := by rw [dot_row (r := sat z) (by rw [s1, s0]; omega), sat_sat]
theorem dl3 (x y z w : Int) : DOT 0 0 0 65536 x y z w = sat w := by rw [dot_row (r := sat w) (by rw [s1, s0]; omega), sat_sat]
theorem dr3 (x y z w : Int) : DOT x y z w 0 0 0 65536 = sat w := by rw [dot_row (r := sat w) (by rw [s1, s0]; omega), sat_sat]
theorem limM (a0 a1 a2 a3 a4 a5 a6 a7 a8 a9 aa ab ac ad ae af : Int) : frustumlaw04_limitedMatrix.f a0 a1 a2 a3 a4 a5 a6 a7 a8 a9 aa ab ac ad ae af = some (sat a0, sat a1, sat a2, sat a3, sat a4, sat a5, sat a6, sat a7, sat a8, sat a9, sat aa, sat ab, sat ac, sat ad, sat ae, sat af) := by
  unfold frustumlaw04_limitedMatrix.f; simp only [E_limited, Option.bind_some]
theorem app_id (x y z w : Int) : matrix_Apply.f 40 65536 0 0 0 0 65536 0 0 0 0 65536 0 0 0 0 65536 x y z w = some (sat x, sat y, sat z, sat w) := by
  rw [E_Apply (by decide), dl0, dl1, dl2, dl3]
theorem mul_idl (a0 a1 a2 a3 a4 a5 a6 a7 a8 a9 aa ab ac ad ae af : Int) : matrix_Mul.f 40 65536 0 0 0 0 65536 0 0 0 0 65536 0 0 0 0 65536 a0 a1 a2 a3 a4 a5 a6 a7 a8 a9 aa ab ac ad ae af = some (sat a0, sat a1, sat a2, sat a3, sat a4, sat a5, sat a6, sat a7, sat a8, sat a9, sat aa, sat ab, sat ac, sat ad, sat ae, sat af) := by
  unfold matrix_Mul.f; simp only [E_Dot (show 10 ≤ 40 by decide), Option.bind_some, dl0, dl1, dl2, dl3]
theorem mul_idr (a0 a1 a2 a3 a4 a5 a6 a7 a8 a9 aa ab ac ad ae af : Int) : matrix_Mul.f 40 a0 a1 a2 a3 a4 a5 a6 a7 a8 a9 aa ab ac ad ae af 65536 0 0 0 0 65536 0 0 0 0 65536 0 0 0 0 65536 = some (sat a0, sat a1, sat a2, sat a3, sat a4, sat a5, sat a6, sat a7, sat a8, sat a9, sat aa, sat ab, sat ac, sat ad, sat ae, sat af) := by
  unfold matrix_Mul.f; simp only [E_Dot (show 10 ≤ 40 by decide), Option.bind_some, dr0, dr1, dr2, dr3]
theorem tr_id : matrix_Translate.f 0 0 0 = some (65536, 0, 0, 0, 0, 65536, 0, 0, 0, 0, 65536, 0, 0, 0, 0, 65536) := by rw [E_Translate, s0]
theorem sc_id : matrix_ScaleBy.f 65536 65536 65536 = some (65536, 0, 0, 0, 0, 65536, 0, 0, 0, 0, 65536, 0, 0, 0, 0, 65536) := by rw [E_ScaleBy, s1]
end Go.Proofs.Ytmofipnpnepfaaa.Pure
