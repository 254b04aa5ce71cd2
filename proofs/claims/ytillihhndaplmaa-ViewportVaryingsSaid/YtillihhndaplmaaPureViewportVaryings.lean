/- Transform does not change saturated varyings: for every viewport and vertex, no condition. -/
import Derived.Test.YtillihhndaplmaaPViewportVaryingsx4
import Derived.Test.YtillihhndaplmaaMath
import Derived.OpenShut
namespace Go.Proofs.Ytillihhndaplmaa.Pure
open Go.RowKit Go.Proofs.Ytillihhndaplmaa.PViewportVaryings Go.Proofs.YtillihhndaplmaaW.PrintWords Go.Proofs.YtillihhndaplmaaW.PrintLast Go.Proofs.YtillihhndaplmaaW.PrintMore Go.Proofs.Ytillihhndaplmaa.M Go.OpenShut
set_option linter.unusedVariables false
set_option linter.unusedSimpArgs false
theorem mx_eq (a b : Int) : mx a b = max a b := by unfold mx; split <;> omega
theorem mn_eq (a b : Int) : mn a b = min a b := by unfold mn; split <;> omega
theorem w64 {x : Int} (h1 : -9223372036854775808 ≤ x) (h2 : x ≤ 9223372036854775807) : wrap64 x = x := by unfold wrap64; omega
theorem u64 {x : Int} (h1 : 0 ≤ x) (h2 : x ≤ 18446744073709551615) : IntKind.u64.wrap x = x := by
  simp only [IntKind.wrap, IntKind.bits, IntKind.signed]; simp; omega
theorem and16 (x : Int) : Go.bits .and .i64 x 65535 = x % 65536 := by
  show IntKind.i64.wrap ((BitVec.ofInt 64 x &&& BitVec.ofInt 64 65535).toNat : Int) = _
  rw [IntKind.wrap_i64, BitVec.toNat_and, BitVec.toNat_ofInt, BitVec.toNat_ofInt,
    show ((65535 : Int) % ((2 ^ 64 : Nat) : Int)).toNat = 2 ^ 16 - 1 by decide, Nat.and_two_pow_sub_one_eq_mod]
  omega
theorem bv_andNot (x : BitVec 64) : (x &&& ~~~65535#64).toNat + x.toNat % 65536 = x.toNat := by
  have h : (x &&& 65535#64) + (x &&& ~~~65535#64) = x := by
    rw [BitVec.add_eq_or_of_and_eq_zero]
    · ext i hi; simp only [BitVec.getElem_or, BitVec.getElem_and, BitVec.getElem_not]; cases x[i] <;> simp
    · ext i hi; simp only [BitVec.getElem_and, BitVec.getElem_not, BitVec.getElem_zero]; cases (65535#64)[i] <;> simp
  have h' := congrArg BitVec.toNat h
  have hlt := x.isLt
  have hle : (x &&& ~~~65535#64).toNat ≤ x.toNat := by rw [BitVec.toNat_and]; exact Nat.and_le_left
  have hle2 : (x &&& ~~~65535#64).toNat % 65536 = 0 := by
    have : (x &&& ~~~65535#64).toNat % 2 ^ 16 = 0 := by
      rw [BitVec.toNat_and, Nat.and_mod_two_pow, show (~~~65535#64).toNat % 2 ^ 16 = 0 by decide, Nat.and_zero]
    exact this
  rw [BitVec.toNat_add, BitVec.toNat_and, show (65535#64).toNat = 2 ^ 16 - 1 by decide, Nat.and_two_pow_sub_one_eq_mod] at h'
  omega
theorem andNot16 (x : Int) (h1 : -9223372036854775808 ≤ x) (h2 : x ≤ 9223372036854775807) : Go.bits .andNot .i64 x 65535 = x / 65536 * 65536 := by
  show IntKind.i64.wrap ((BitVec.ofInt 64 x &&& ~~~BitVec.ofInt 64 65535).toNat : Int) = _
  have h := bv_andNot (BitVec.ofInt 64 x)
  rw [BitVec.toNat_ofInt] at h
  rw [IntKind.wrap_i64, show BitVec.ofInt 64 65535 = 65535#64 by decide]
  omega
theorem E_Clamp (x lo hi : Int) : fixed_Clamp.f x lo hi = some (clamp x lo hi) := by
  unfold fixed_Clamp.f clamp; rw [mx_eq, mn_eq]
theorem E_Saturate (x : Int) : fixed_Saturate.f x = some (sat x) := by
  unfold fixed_Saturate.f; rw [E_Clamp]; rfl
theorem E_Add (a b : Int) : fixed_Add.f a b = some (ADD a b) := by
  have h1 := sat_bd a
  have h2 := sat_bd b
  unfold fixed_Add.f
  simp only [E_Saturate, Option.bind_some]
  rw [w64 (by omega) (by omega)]; rfl
theorem E_RoundDiv0 {k : Nat} (hk : 2 ≤ k) {n d : Int} (h1 : 1 ≤ d) (h2 : d ≤ 4611686018427387904) (h3 : 0 ≤ n) (h4 : n ≤ 4611686018427387904) : fixed_RoundDiv.f k n d = some (rnd n d) := by
  obtain ⟨k, rfl⟩ : ∃ m, k = m + 2 := ⟨k - 2, by omega⟩
  have hq := rdp_nonneg (n := n) (d := d) (by omega) h3
  have hb := rdp_le (n := n) (d := d) (m := n) (by omega) (by have := Int.mul_le_mul_of_nonneg_left h1 h3; omega)
  simp only [fixed_RoundDiv.f]
  rw [if_neg (by omega), if_neg (by omega), if_neg (by omega)]
  simp only [fixed_RoundDiv.j0]
  rw [if_neg (by simp; omega), if_neg (by omega)]
  have e1 : IntKind.u64.wrap d = d := u64 (by omega) (by omega)
  have e2 : IntKind.u64.wrap n = n := u64 (by omega) (by omega)
  have e3 : IntKind.u64.wrap (2 * d) = 2 * d := u64 (by omega) (by omega)
  have e4 : IntKind.u64.wrap (2 * n) = 2 * n := u64 (by omega) (by omega)
  have e5 : IntKind.u64.wrap (2 * n + d) = 2 * n + d := u64 (by omega) (by omega)
  have e6 : Int.tdiv (2 * n + d) (2 * d) = rdp n d := Int.tdiv_eq_ediv_of_nonneg (by omega)
  rw [e1, e2, e3, if_neg (by omega), e4, e5, e6, u64 hq (by omega), w64 (by omega) (by omega), rd_pos h3]
theorem E_RoundDiv {k : Nat} (hk : 4 ≤ k) {n d : Int} (h1 : 1 ≤ d) (h2 : d ≤ 4611686018427387904) (h3 : -4611686018427387904 ≤ n) (h4 : n ≤ 4611686018427387904) : fixed_RoundDiv.f k n d = some (rnd n d) := by
  by_cases hn : n < 0
  · obtain ⟨k, rfl⟩ : ∃ m, k = m + 2 := ⟨k - 2, by omega⟩
    have hb := rd_bound (n := -n) (d := d) (B := 4611686018427387904) (by omega) (by omega) (by omega)
    simp only [fixed_RoundDiv.f]
    rw [if_neg (by omega), if_neg (by omega), if_neg (by omega)]
    simp only [fixed_RoundDiv.j0]
    rw [if_neg (by simp; omega), if_pos hn, w64 (by omega) (by omega), E_RoundDiv0 (by omega) h1 h2 (by omega) (by omega), Option.bind_some,
      w64 (by omega) (by omega), rd_odd (by omega), Int.neg_neg]
  · exact E_RoundDiv0 (by omega) h1 h2 (by omega) h4
theorem E_RoundDivOut {k : Nat} (hk : 2 ≤ k) {n d : Int} (h : d < 1 ∨ d > 4611686018427387904 ∨ n < -4611686018427387904 ∨ n > 4611686018427387904) : fixed_RoundDiv.f k n d = some 0 := by
  obtain ⟨k, rfl⟩ : ∃ m, k = m + 2 := ⟨k - 2, by omega⟩
  simp only [fixed_RoundDiv.f]
  by_cases h1 : d < 1
  · rw [if_pos h1]; rfl
  · rw [if_neg h1]
    by_cases h2 : d > 4611686018427387904
    · rw [if_pos h2]; rfl
    · rw [if_neg h2]
      by_cases h3 : n < -4611686018427387904
      · rw [if_pos h3]; rfl
      · rw [if_neg h3]; simp only [fixed_RoundDiv.j0]; rw [if_pos (by simp; omega)]
theorem E_RoundDivAll {k : Nat} (hk : 4 ≤ k) (n d : Int) : fixed_RoundDiv.f k n d = some (RD n d) := by
  by_cases h : d < 1 ∨ d > 4611686018427387904 ∨ n < -4611686018427387904 ∨ n > 4611686018427387904
  · rw [E_RoundDivOut (by omega) h]; unfold RD; rw [if_pos h]
  · rw [E_RoundDiv hk (by omega) (by omega) (by omega) (by omega)]; unfold RD; rw [if_neg h]
theorem E_Mul {k : Nat} (hk : 4 ≤ k) (a b : Int) : fixed_Mul.f k a b = some (MUL a b) := by
  have h := satmul_bd a b
  unfold fixed_Mul.f
  simp only [E_Saturate, Option.bind_some]
  rw [w64 (by omega) (by omega), E_RoundDiv hk (by omega) (by omega) (by omega) (by omega)]; rfl
theorem E_Div {k : Nat} (hk : 4 ≤ k) (a b : Int) : fixed_Div.f k a b = some (DIV a b) := by
  have h1 := sat_bd a
  have h2 := sat_bd b
  unfold fixed_Div.f DIV
  simp only [E_Saturate, Option.bind_some]
  by_cases c1 : sat b > 0
  · rw [if_pos c1, if_pos c1, w64 (by omega) (by omega), E_RoundDiv hk (by omega) (by omega) (by omega) (by omega)]; rfl
  · rw [if_neg c1, if_neg c1]
    by_cases c2 : sat b < 0
    · rw [if_pos c2, if_pos c2, w64 (x := -sat a) (by omega) (by omega), w64 (by omega) (by omega), w64 (by omega) (by omega), E_RoundDiv hk (by omega) (by omega) (by omega) (by omega)]; rfl
    · rw [if_neg c2, if_neg c2]
      repeat' split
      all_goals rfl
def COORD (low size n w : Int) : Int := clamp low 0 64 * 256 + rnd ((clamp (DIV n (max w 256)) (-65536) 65536 + 65536) * clamp size 0 64 * 256) 131072
theorem cl_bd (x lo hi : Int) (h : lo ≤ hi) : lo ≤ clamp x lo hi ∧ clamp x lo hi ≤ hi := by unfold clamp; omega
theorem prod_bd {d s : Int} (h0 : 0 ≤ d) (h1 : d ≤ 131072) (h2 : 0 ≤ s) (h3 : s ≤ 64) : 0 ≤ d * s ∧ d * s ≤ 131072 * s ∧ d * s ≤ 8388608 := by
  have a := Int.mul_nonneg h0 h2
  have b := Int.mul_le_mul_of_nonneg_right h1 h2
  omega
theorem coord_parts (low size n w : Int) : 0 ≤ rnd ((clamp (DIV n (max w 256)) (-65536) 65536 + 65536) * clamp size 0 64 * 256) 131072 ∧ rnd ((clamp (DIV n (max w 256)) (-65536) 65536 + 65536) * clamp size 0 64 * 256) 131072 ≤ clamp size 0 64 * 256 := by
  have h1 := cl_bd (DIV n (max w 256)) (-65536) 65536 (by decide)
  have h3 := cl_bd size 0 64 (by decide)
  have hp := prod_bd (d := clamp (DIV n (max w 256)) (-65536) 65536 + 65536) (by omega) (by omega) h3.1 h3.2
  exact ⟨rd_nonneg (by decide) (by omega), rd_le (by decide) (by omega)⟩
theorem E_Coord {k : Nat} (hk : 6 ≤ k) (low size n w : Int) : viewport_Coordinate.f k low size n w = some (COORD low size n w) := by
  have h1 := cl_bd (DIV n (max w 256)) (-65536) 65536 (by decide)
  have h2 := cl_bd low 0 64 (by decide)
  have h3 := cl_bd size 0 64 (by decide)
  have hp := prod_bd (d := clamp (DIV n (max w 256)) (-65536) 65536 + 65536) (by omega) (by omega) h3.1 h3.2
  have hc := coord_parts low size n w
  unfold viewport_Coordinate.f
  rw [mx_eq, E_Div (by omega), Option.bind_some, E_Clamp, Option.bind_some, E_Clamp, Option.bind_some, E_Clamp, Option.bind_some, w64 (x := clamp (DIV n (max w 256)) (-65536) 65536 + 65536) (by omega) (by omega),
    w64 (x := (clamp (DIV n (max w 256)) (-65536) 65536 + 65536) * clamp size 0 64) (by omega) (by omega), w64 (x := (clamp (DIV n (max w 256)) (-65536) 65536 + 65536) * clamp size 0 64 * 256) (by omega) (by omega),
    E_RoundDiv (by omega) (by decide) (by decide) (by omega) (by omega), Option.bind_some, w64 (x := clamp low 0 64 * 256) (by omega) (by omega), w64 (by omega) (by omega)]
  rfl
theorem E_diff {k : Nat} (hk : 2 ≤ k) {a b : Int} (a1 : -9223372036854775808 ≤ a) (a2 : a ≤ 9223372036854775807) (b1 : -9223372036854775808 ≤ b) (b2 : b ≤ 9223372036854775807) : viewport_difference.f k a b = some (sat (a - b)) := by
  obtain ⟨k, rfl⟩ : ∃ m, k = m + 1 := ⟨k - 1, by omega⟩
  have hw : wrap64 (a - b) = (a - b + 9223372036854775808) % 18446744073709551616 - 9223372036854775808 := by unfold wrap64; omega
  unfold viewport_difference.f
  simp only [viewport_difference.j0, E_Saturate, Option.bind_some]
  generalize wrap64 (a - b) = d at *
  by_cases c1 : a ≥ 0
  · rw [if_pos c1, if_neg (show ¬ a < 0 by omega)]
    by_cases c2 : b < 0
    · rw [if_pos c2]
      by_cases c3 : d < 0
      · rw [if_pos (by simpa using c3)]; congr 1; unfold sat; omega
      · rw [if_neg (by simpa using c3)]; congr 2; omega
    · rw [if_neg c2, if_neg (by simp)]; congr 2; omega
  · rw [if_neg c1, if_neg (by simp), if_pos (show a < 0 by omega)]
    by_cases c2 : b ≥ 0
    · rw [if_pos c2]
      by_cases c3 : d ≥ 0
      · rw [if_pos c3]; congr 1; unfold sat; omega
      · rw [if_neg c3]; congr 2; omega
    · rw [if_neg c2]; congr 2; omega
def DEPTH (mn_ mx_ z w : Int) : Int := ADD mn_ (MUL (clamp (DIV z (max w 256)) 0 65536) (sat (mx_ - mn_)))
theorem E_Depth {k : Nat} (hk : 6 ≤ k) (x y wd hg z w : Int) {a b : Int} (a1 : -9223372036854775808 ≤ a) (a2 : a ≤ 9223372036854775807) (b1 : -9223372036854775808 ≤ b) (b2 : b ≤ 9223372036854775807) :
    viewport_Depth.f k x y wd hg a b z w = some (DEPTH a b z w) := by
  unfold viewport_Depth.f
  rw [mx_eq, E_Div (by omega), Option.bind_some, E_Clamp, Option.bind_some, E_diff (by omega) b1 b2 a1 a2, Option.bind_some, E_Mul (by omega), Option.bind_some, E_Add]; rfl
def VALID (x y wd hg a b : Int) : Bool := decide (0 ≤ x ∧ 1 ≤ wd ∧ wd ≤ 64 ∧ x + wd ≤ 64 ∧ 0 ≤ y ∧ 1 ≤ hg ∧ hg ≤ 64 ∧ y + hg ≤ 64 ∧ 0 ≤ a ∧ a ≤ b ∧ b ≤ 65536)
def IN1 (at_ size : Int) : Bool := decide (0 ≤ at_ ∧ 1 ≤ size ∧ size ≤ 64 ∧ at_ + size ≤ 64)
theorem E_In1 (at_ size : Int) : viewport_Valid_1.f at_ size = some (IN1 at_ size) := by
  unfold viewport_Valid_1.f IN1
  by_cases c1 : at_ ≥ 0
  · rw [if_pos c1]
    by_cases c2 : size ≥ 1
    · rw [if_pos c2]
      by_cases c3 : size ≤ 64
      · rw [if_pos c3, w64 (by omega) (by omega)]; congr 1; exact decide_eq_decide.2 (by omega)
      · rw [if_neg c3]; congr 1; exact (decide_eq_false (by omega)).symm
    · rw [if_neg c2]; congr 1; exact (decide_eq_false (by omega)).symm
  · rw [if_neg c1]; congr 1; exact (decide_eq_false (by omega)).symm
theorem E_Valid (x y wd hg a b : Int) : viewport_Valid.f x y wd hg a b = some (VALID x y wd hg a b) := by
  unfold viewport_Valid.f VALID
  rw [E_In1, Option.bind_some]
  by_cases c1 : IN1 x wd = true
  · have d1 := of_decide_eq_true c1
    rw [if_pos c1, E_In1, Option.bind_some]
    by_cases c2 : IN1 y hg = true
    · have d2 := of_decide_eq_true c2
      rw [if_pos c2]
      by_cases c3 : a ≥ 0
      · rw [if_pos c3]
        by_cases c4 : a ≤ b
        · rw [if_pos c4]; congr 1; exact decide_eq_decide.2 (by omega)
        · rw [if_neg c4]; congr 1; exact (decide_eq_false (by omega)).symm
      · rw [if_neg c3]; congr 1; exact (decide_eq_false (by omega)).symm
    · have d2 := of_decide_eq_false (Bool.eq_false_iff.mpr c2)
      rw [if_neg c2]; congr 1; exact (decide_eq_false (by omega)).symm
  · have d1 := of_decide_eq_false (Bool.eq_false_iff.mpr c1)
    rw [if_neg c1]; congr 1; exact (decide_eq_false (by omega)).symm
theorem take_snoc' (l : List Int) (n : Nat) (h : n < l.length) : (l.take n).map sat ++ [sat (rd l n)] = (l.take (n + 1)).map sat := by
  have e : rd l n = l[n] := by unfold rd; simp [List.getD_eq_getElem?_getD, List.getElem?_eq_getElem h]
  rw [List.take_succ_eq_append_getElem h, List.map_append, e]; rfl
theorem tr_loop (l : List Int) (hn : l.length * 8 ≤ 140737488351232) (a b c d : Int) (m : Nat) : ∀ (k n : Nat), n + m = l.length → m < k → viewport_Transform.l0 k l (l.length : Int) (n : Int) a b c d ((l.take n).map sat) = some (a, b, c, d, l.map sat) := by
  induction m with
  | zero =>
    intro k n h1 hk
    obtain ⟨k, rfl⟩ : ∃ m, k = m + 1 := ⟨k - 1, by omega⟩
    simp only [viewport_Transform.l0]; rw [if_neg (by omega), show n = l.length by omega, List.take_length]
  | succ m ih =>
    intro k n h1 hk
    obtain ⟨k, rfl⟩ : ∃ m, k = m + 1 := ⟨k - 1, by omega⟩
    simp only [viewport_Transform.l0]
    rw [if_pos (by omega), if_pos (by omega), if_pos (by omega), E_Saturate, Option.bind_some, if_pos (by rw [List.length_map, List.length_take]; omega), w64 (by omega) (by omega), take_snoc' l n (by omega)]
    have := ih k (n + 1) (by omega) (by omega)
    rw [← this]; rfl
def TRANS (x y wd hg a b X Y Z W : Int) (l : List Int) : Int × Int × Int × Int × List Int :=
  if VALID x y wd hg a b = true then (COORD x wd (sat X) (sat W), COORD y hg (-sat Y) (sat W), DEPTH a b (sat Z) (sat W), DIV 65536 (max (sat W) 256), l.map sat) else (0, 0, 0, 0, [])
theorem E_Trans {k : Nat} {l : List Int} (hk : l.length + 10 ≤ k) (hn : l.length * 8 ≤ 140737488351232) (x y wd hg X Y Z W : Int) {a b : Int} (a1 : -9223372036854775808 ≤ a) (a2 : a ≤ 9223372036854775807) (b1 : -9223372036854775808 ≤ b) (b2 : b ≤ 9223372036854775807) :
    viewport_Transform.f k x y wd hg a b X Y Z W l = some (TRANS x y wd hg a b X Y Z W l) := by
  have hY := sat_bd Y
  unfold viewport_Transform.f TRANS
  rw [E_Valid, Option.bind_some]
  by_cases c : VALID x y wd hg a b = true
  · rw [if_pos c, if_pos c, E_Saturate, Option.bind_some, E_Saturate, Option.bind_some, E_Coord (by omega), Option.bind_some, E_Saturate, Option.bind_some, w64 (x := -sat Y) (by omega) (by omega), E_Coord (by omega), Option.bind_some,
      E_Saturate, Option.bind_some, E_Depth (by omega) x y wd hg _ _ a1 a2 b1 b2, Option.bind_some, mx_eq, E_Div (by omega), Option.bind_some]
    exact tr_loop l hn _ _ _ _ l.length k 0 (by omega) (by omega)
  · rw [if_neg c, if_neg c]
theorem rd_at (l : List Int) (n : Nat) (h : n < l.length) : rd l (n : Int) = l[n] := by unfold rd; simp [List.getD_eq_getElem?_getD, List.getElem?_eq_getElem h]
theorem drop_eq (l m : List Int) (n : Nat) (h : n < l.length) (g : n < m.length) : (l.drop n = m.drop n) ↔ (l[n] = m[n] ∧ l.drop (n + 1) = m.drop (n + 1)) := by
  rw [List.drop_eq_getElem_cons h, List.drop_eq_getElem_cons g, List.cons.injEq]
theorem sameints_loop (l m : List Int) (he : l.length = m.length) (hn : (l.length : Int) ≤ 140737488355328) (d : Nat) : ∀ (k n : Nat), n + d = l.length → d < k → frustumref05_SameInts.l0 k l m (n : Int) = some (decide (l.drop n = m.drop n)) := by
  induction d with
  | zero =>
    intro k n h1 hk
    obtain ⟨k, rfl⟩ : ∃ m, k = m + 1 := ⟨k - 1, by omega⟩
    simp only [frustumref05_SameInts.l0]; rw [if_neg (by omega), List.drop_eq_nil_of_le (by omega), List.drop_eq_nil_of_le (by omega)]; rfl
  | succ d ih =>
    intro k n h1 hk
    obtain ⟨k, rfl⟩ : ∃ m, k = m + 1 := ⟨k - 1, by omega⟩
    simp only [frustumref05_SameInts.l0]
    have hd := drop_eq l m n (by omega) (by omega)
    rw [if_pos (by omega), if_pos (by omega), if_pos (by omega), rd_at l n (by omega), rd_at m n (by omega)]
    by_cases c : l[n] = m[n]
    · rw [if_pos c, w64 (by omega) (by omega)]
      have := ih k (n + 1) (by omega) (by omega)
      rw [show ((n : Int) + 1) = ((n + 1 : Nat) : Int) by omega, this]
      congr 1; exact decide_eq_decide.2 (by rw [hd]; exact ⟨fun h => ⟨c, h⟩, fun h => h.2⟩)
    · rw [if_neg c]; congr 1; exact (decide_eq_false (fun h => c (hd.1 h).1)).symm
theorem E_Same {k : Nat} (l m : List Int) (hn : (l.length : Int) ≤ 140737488355328) (hk : l.length < k) : frustumref05_SameInts.f k l m = some (decide (l = m)) := by
  unfold frustumref05_SameInts.f
  by_cases c : l.length = m.length
  · rw [if_pos (by omega)]
    exact sameints_loop l m c hn l.length k 0 (by omega) hk
  · rw [if_neg (by omega)]; congr 1; exact (decide_eq_false (fun h => c (by rw [h]))).symm
theorem E_ex32 {k : Nat} (hk : 12 ≤ k) : frustumlaw32_example.f k = some true := by
  unfold frustumlaw32_example.f
  rw [E_Trans (by simp; omega) (by simp) _ _ _ _ _ _ _ _ (by decide) (by decide) (by decide) (by decide), Option.bind_some, E_Valid, Option.bind_some, if_pos (by decide), if_pos (by decide), if_pos (by decide), if_pos (by decide)]
  congr 1
theorem take_step {l : List Int} {n : Nat} (h : n < l.length) (hs : ∀ v ∈ l.take n, sat v = v) (he : sat l[n] = l[n]) : ∀ v ∈ l.take (n + 1), sat v = v := by
  intro v hv
  rw [List.take_succ_eq_append_getElem h, List.mem_append] at hv
  rcases hv with hv | hv
  · exact hs v hv
  · rw [List.mem_singleton] at hv; rw [hv]; exact he
theorem map_sat_id : ∀ (l : List Int), (∀ v ∈ l, sat v = v) → l.map sat = l
  | [], _ => rfl
  | x :: l, h => by rw [List.map_cons, h x (by simp), map_sat_id l (fun v hv => h v (by simp [hv]))]
theorem vary_loop (x y wd hg X Y Z W : Int) {a b : Int} (l : List Int) (ha : -9223372036854775808 ≤ a ∧ a ≤ 9223372036854775807) (hb : -9223372036854775808 ≤ b ∧ b ≤ 9223372036854775807) (hn : l.length * 8 ≤ 140737488351232) (hv : VALID x y wd hg a b = true) (m : Nat) :
    ∀ (k n : Nat), n + m = l.length → m + l.length + 20 ≤ k → (∀ v ∈ l.take n, sat v = v) → frustumlaw32_ViewportVaryings.l0 k (l.length : Int) (n : Int) x y wd hg a b X Y Z W l = some true := by
  induction m with
  | zero =>
    intro k n h1 hk hs
    obtain ⟨k, rfl⟩ : ∃ m, k = m + 1 := ⟨k - 1, by omega⟩
    have e : l.map sat = l := map_sat_id l (by rw [show n = l.length by omega, List.take_length] at hs; exact hs)
    have ht : TRANS x y wd hg a b X Y Z W l = (COORD x wd (sat X) (sat W), COORD y hg (-sat Y) (sat W), DEPTH a b (sat Z) (sat W), DIV 65536 (max (sat W) 256), l) := by unfold TRANS; rw [if_pos hv, e]
    simp only [frustumlaw32_ViewportVaryings.l0]
    rw [if_neg (by omega), E_Trans (by omega) hn x y wd hg X Y Z W ha.1 ha.2 hb.1 hb.2, Option.bind_some, ht, E_Same l l (by omega) (by omega), Option.bind_some, if_pos (decide_eq_true rfl), E_ex32 (by omega)]; rfl
  | succ m ih =>
    intro k n h1 hk hs
    obtain ⟨k, rfl⟩ : ∃ m, k = m + 1 := ⟨k - 1, by omega⟩
    simp only [frustumlaw32_ViewportVaryings.l0]
    rw [if_pos (by omega), if_pos (by omega), if_pos (by omega), rd_at l n (by omega)]
    by_cases c1 : l[n] < -536870911
    · rw [if_pos c1, E_ex32 (by omega)]; rfl
    rw [if_neg c1]
    by_cases c2 : l[n] > 536870911
    · rw [if_pos c2, E_ex32 (by omega)]; rfl
    rw [if_neg c2, w64 (by omega) (by omega), show ((n : Int) + 1) = ((n + 1 : Nat) : Int) by omega]
    exact ih k (n + 1) (by omega) (by omega) (take_step (by omega) hs (sat_id (by omega) (by omega)))
theorem ViewportVaryings (x y wd hg X Y Z W : Int) {a b : Int} (l : List Int) (wa : (Lit.int .i64 a).wf = true) (wb : (Lit.int .i64 b).wf = true) (hn : l.length * 8 ≤ 140737488351232) : frustumlaw32_ViewportVaryings.f (l.length + l.length + 40) x y wd hg a b X Y Z W l = some true := by
  unfold frustumlaw32_ViewportVaryings.f
  rw [E_Valid, Option.bind_some]
  by_cases c : VALID x y wd hg a b = true
  · rw [if_pos c]
    exact vary_loop x y wd hg X Y Z W l (bounds_i64 wa) (bounds_i64 wb) hn c l.length _ 0 (by omega) (by omega) (by simp)
  · rw [if_neg c, E_ex32 (by omega)]; rfl
end Go.Proofs.Ytillihhndaplmaa.Pure
