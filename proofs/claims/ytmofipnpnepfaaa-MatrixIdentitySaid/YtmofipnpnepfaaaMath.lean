/- Plain facts on rounding to the nearest integer, saturation and the functions of chapter 1. No condition but those that each theorem states. -/
namespace Go.Proofs.Ytmofipnpnepfaaa.M

def sat (x : Int) : Int := max (min x 536870911) (-536870911)
def clamp (x lo hi : Int) : Int := max (min x hi) lo
def rdp (n d : Int) : Int := (2 * n + d) / (2 * d)
def rnd (n d : Int) : Int := if n < 0 then -rdp (-n) d else rdp n d

theorem rdp_spec (n d : Int) (hd : 0 < d) : 2 * (rdp n d * d) ≤ 2 * n + d ∧ 2 * n + d < 2 * (rdp n d * d) + 2 * d := by
  have h1 := Int.mul_ediv_add_emod (2 * n + d) (2 * d)
  have h2 := Int.emod_nonneg (2 * n + d) (show 2 * d ≠ 0 by omega)
  have h3 := Int.emod_lt_of_pos (2 * n + d) (show 0 < 2 * d by omega)
  have h4 : 2 * d * ((2 * n + d) / (2 * d)) = 2 * (rdp n d * d) := by
    unfold rdp; rw [Int.mul_assoc, Int.mul_comm d]
  omega

theorem lt_of_mul {a b d : Int} (hd : 0 < d) (h : a * d < b * d) : a < b := Int.lt_of_mul_lt_mul_right h (by omega)

theorem rdp_unique {n d q : Int} (hd : 0 < d) (h1 : 2 * (q * d) ≤ 2 * n + d) (h2 : 2 * n + d < 2 * (q * d) + 2 * d) : rdp n d = q := by
  have ⟨h3, h4⟩ := rdp_spec n d hd
  have a1 : rdp n d * d < (q + 1) * d := by rw [Int.add_mul, Int.one_mul]; omega
  have a2 : q * d < (rdp n d + 1) * d := by rw [Int.add_mul, Int.one_mul]; omega
  have b1 := lt_of_mul hd a1
  have b2 := lt_of_mul hd a2
  omega

theorem rdp_nonneg {n d : Int} (hd : 0 < d) (hn : 0 ≤ n) : 0 ≤ rdp n d :=
  Int.ediv_nonneg (by omega) (by omega)

theorem rdp_mono {n m d : Int} (hd : 0 < d) (h : n ≤ m) : rdp n d ≤ rdp m d :=
  Int.ediv_le_ediv (by omega) (by omega)

theorem rdp_mul {m d : Int} (hd : 0 < d) : rdp (m * d) d = m := rdp_unique hd (by omega) (by omega)

theorem rdp_zero {d : Int} (hd : 0 < d) : rdp 0 d = 0 := by
  have := rdp_mul (m := 0) hd; rwa [Int.zero_mul] at this

theorem rdp_le {n d m : Int} (hd : 0 < d) (h : n ≤ m * d) : rdp n d ≤ m := by
  have := rdp_mono hd h; rwa [rdp_mul hd] at this

theorem rdp_ge {n d m : Int} (hd : 0 < d) (h : m * d ≤ n) : m ≤ rdp n d := by
  have := rdp_mono hd h; rwa [rdp_mul hd] at this

theorem rd_pos {n d : Int} (h : 0 ≤ n) : rnd n d = rdp n d := by unfold rnd; rw [if_neg (by omega)]
theorem rd_neg {n d : Int} (h : n < 0) : rnd n d = -rdp (-n) d := by unfold rnd; rw [if_pos h]

theorem rd_zero {d : Int} (hd : 0 < d) : rnd 0 d = 0 := by rw [rd_pos (by omega), rdp_zero hd]

theorem rd_odd {n d : Int} (hd : 0 < d) : rnd (-n) d = -rnd n d := by
  rcases Int.lt_trichotomy n 0 with h | h | h
  · rw [rd_neg h, rd_pos (show 0 ≤ -n by omega)]; omega
  · subst h; rw [show -(0 : Int) = 0 from rfl, rd_zero hd]; rfl
  · rw [rd_neg (show -n < 0 by omega), rd_pos (show 0 ≤ n by omega), Int.neg_neg]

theorem rd_mono {n m d : Int} (hd : 0 < d) (h : n ≤ m) : rnd n d ≤ rnd m d := by
  by_cases h1 : n < 0
  · by_cases h2 : m < 0
    · rw [rd_neg h1, rd_neg h2]; have := rdp_mono hd (show -m ≤ -n by omega); omega
    · rw [rd_neg h1, rd_pos (by omega)]
      have := rdp_nonneg hd (show 0 ≤ -n by omega)
      have := rdp_nonneg hd (show 0 ≤ m by omega)
      omega
  · rw [rd_pos (by omega), rd_pos (by omega)]; exact rdp_mono hd h

theorem rd_mul {m d : Int} (hd : 0 < d) : rnd (m * d) d = m := by
  by_cases h : m * d < 0
  · rw [rd_neg h, show -(m * d) = (-m) * d from (Int.neg_mul m d).symm, rdp_mul hd]; omega
  · rw [rd_pos (by omega), rdp_mul hd]

theorem rd_le {n d m : Int} (hd : 0 < d) (h : n ≤ m * d) : rnd n d ≤ m := by
  have := rd_mono hd h; rwa [rd_mul hd] at this
theorem rd_ge {n d m : Int} (hd : 0 < d) (h : m * d ≤ n) : m ≤ rnd n d := by
  have := rd_mono hd h; rwa [rd_mul hd] at this

theorem rd_nonneg {n d : Int} (hd : 0 < d) (h : 0 ≤ n) : 0 ≤ rnd n d := by rw [rd_pos h]; exact rdp_nonneg hd h
theorem rd_nonpos {n d : Int} (hd : 0 < d) (h : n ≤ 0) : rnd n d ≤ 0 := by
  have := rd_mono hd h; rwa [rd_zero hd] at this

/-- the error is at most one half -/
theorem rd_err (n d : Int) (hd : 0 < d) : -d ≤ 2 * (n - rnd n d * d) ∧ 2 * (n - rnd n d * d) ≤ d := by
  by_cases h : n < 0
  · have ⟨h3, h4⟩ := rdp_spec (-n) d hd
    rw [rd_neg h, Int.neg_mul]; omega
  · have ⟨h3, h4⟩ := rdp_spec n d hd
    rw [rd_pos (by omega)]; omega

/-- and just one half only away from zero -/
theorem rd_tie {n d : Int} (hd : 0 < d) : (0 ≤ n → 2 * (n - rnd n d * d) < d) ∧ (n < 0 → -d < 2 * (n - rnd n d * d)) := by
  refine ⟨fun h => ?_, fun h => ?_⟩
  · have ⟨h3, h4⟩ := rdp_spec n d hd
    rw [rd_pos (by omega)]; omega
  · have ⟨h3, h4⟩ := rdp_spec (-n) d hd
    rw [rd_neg h, Int.neg_mul]; omega

theorem rd_bound {n d B : Int} (hd : 0 < d) (h1 : -B ≤ n) (h2 : n ≤ B) : -B ≤ rnd n d ∧ rnd n d ≤ B := by
  have hB : 0 ≤ B := by omega
  have hm : B * 1 ≤ B * d := Int.mul_le_mul_of_nonneg_left (by omega) hB
  rw [Int.mul_one] at hm
  refine ⟨rd_ge hd (by rw [Int.neg_mul]; omega), rd_le hd (by omega)⟩

theorem sat_bd (x : Int) : -536870911 ≤ sat x ∧ sat x ≤ 536870911 := by unfold sat; omega
theorem sat_id {x : Int} (h1 : -536870911 ≤ x) (h2 : x ≤ 536870911) : sat x = x := by unfold sat; omega
theorem sat_sat (x : Int) : sat (sat x) = sat x := sat_id (sat_bd x).1 (sat_bd x).2
theorem sat_neg (x : Int) : sat (-x) = -sat x := by unfold sat; omega
theorem sat_mono {x y : Int} (h : x ≤ y) : sat x ≤ sat y := by unfold sat; omega

theorem mul_bd {a b A B : Int} (ha1 : -A ≤ a) (ha2 : a ≤ A) (hb1 : -B ≤ b) (hb2 : b ≤ B) : -(A * B) ≤ a * b ∧ a * b ≤ A * B := by
  have hA : 0 ≤ A := by omega
  have hB : 0 ≤ B := by omega
  have key : ∀ x y : Int, 0 ≤ x → x ≤ A → 0 ≤ y → y ≤ B → x * y ≤ A * B := fun x y h1 h2 h3 h4 =>
    Int.le_trans (Int.mul_le_mul_of_nonneg_right h2 h3) (Int.mul_le_mul_of_nonneg_left h4 hA)
  have pos : ∀ x y : Int, 0 ≤ x → 0 ≤ y → 0 ≤ x * y := fun x y h1 h2 => Int.mul_nonneg h1 h2
  by_cases h1 : 0 ≤ a <;> by_cases h2 : 0 ≤ b
  · have := key a b h1 ha2 h2 hb2; have := pos a b h1 h2; have := pos A B hA hB; omega
  · have h := key a (-b) h1 ha2 (by omega) (by omega); have h' := pos a (-b) h1 (by omega); rw [Int.mul_neg] at h h'; have := pos A B hA hB; omega
  · have h := key (-a) b (by omega) (by omega) h2 hb2; have h' := pos (-a) b (by omega) h2; rw [Int.neg_mul] at h h'; have := pos A B hA hB; omega
  · have h := key (-a) (-b) (by omega) (by omega) (by omega) (by omega); have h' := pos (-a) (-b) (by omega) (by omega); rw [Int.neg_mul_neg] at h h'; have := pos A B hA hB; omega

theorem satmul_bd (a b : Int) : -288230375077969921 ≤ sat a * sat b ∧ sat a * sat b ≤ 288230375077969921 := by
  have h := mul_bd (sat_bd a).1 (sat_bd a).2 (sat_bd b).1 (sat_bd b).2
  exact h

def ADD (a b : Int) : Int := sat (sat a + sat b)
def SUB (a b : Int) : Int := sat (sat a - sat b)
def MUL (a b : Int) : Int := sat (rnd (sat a * sat b) 65536)
def DIV (a b : Int) : Int :=
  if sat b > 0 then sat (rnd (sat a * 65536) (sat b)) else if sat b < 0 then sat (rnd (-sat a * 65536) (-sat b)) else if sat a > 0 then 536870911 else if sat a < 0 then -536870911 else 0
def RD (n d : Int) : Int := if d < 1 ∨ d > 4611686018427387904 ∨ n < -4611686018427387904 ∨ n > 4611686018427387904 then 0 else rnd n d
def FLOOR (x : Int) : Int := sat (sat x / 65536 * 65536)
def FRACT (x : Int) : Int := sat x % 65536
def LERP (a b t : Int) : Int := ADD a (MUL (SUB b a) (clamp t 0 65536))
def RATIO (n d : Int) : Int :=
  if d < 1 ∨ d > 4611686018427387904 ∨ n < 1 then 0 else if n ≥ d then 65536 else if d < 70368744177664 then rnd (n * 65536) d else min 65536 (rnd n (rnd d 65536))
def WRAP (x : Int) : Int := (x + 2147483648) % 4294967296 - 2147483648

theorem RD_in {n d : Int} (h1 : 1 ≤ d) (h2 : d ≤ 4611686018427387904) (h3 : -4611686018427387904 ≤ n) (h4 : n ≤ 4611686018427387904) : RD n d = rnd n d := by
  unfold RD; rw [if_neg (by omega)]

def DOT (a0 a1 a2 a3 b0 b1 b2 b3 : Int) : Int := sat (rnd (sat a0 * sat b0 + sat a1 * sat b1 + sat a2 * sat b2 + sat a3 * sat b3) 65536)
theorem dot_comm (a0 a1 a2 a3 b0 b1 b2 b3 : Int) : DOT a0 a1 a2 a3 b0 b1 b2 b3 = DOT b0 b1 b2 b3 a0 a1 a2 a3 := by
  unfold DOT; rw [Int.mul_comm (sat a0), Int.mul_comm (sat a1), Int.mul_comm (sat a2), Int.mul_comm (sat a3)]

theorem add_comm' (a b : Int) : ADD a b = ADD b a := by unfold ADD; rw [Int.add_comm]
theorem mul_comm' (a b : Int) : MUL a b = MUL b a := by unfold MUL; rw [Int.mul_comm]
theorem sub_anti (a b : Int) : SUB a b = -SUB b a := by unfold SUB; rw [← sat_neg]; congr 1; omega
theorem add_zero' (a : Int) : ADD a 0 = sat a := by unfold ADD; rw [show sat 0 = 0 by decide, Int.add_zero, sat_sat]
theorem sub_self' (a : Int) : SUB a a = 0 := by unfold SUB; rw [Int.sub_self]; decide
theorem mul_one' (a : Int) : MUL a 65536 = sat a := by unfold MUL; rw [show sat 65536 = 65536 by decide, rd_mul (by decide), sat_sat]
theorem mul_neg_one (a : Int) : MUL a (-65536) = -sat a := by
  unfold MUL; rw [show sat (-65536) = -65536 by decide, show sat a * (-65536) = -sat a * 65536 by omega, rd_mul (by decide), sat_neg, sat_sat]
theorem mul_zero' (a : Int) : MUL a 0 = 0 := by unfold MUL; rw [show sat 0 = 0 by decide, Int.mul_zero, rd_zero (by decide)]; decide
theorem div_one' (a : Int) : DIV a 65536 = sat a := by
  unfold DIV; rw [show sat 65536 = 65536 by decide, if_pos (by decide), rd_mul (by decide), sat_sat]
theorem mul_neg' (a b : Int) : MUL (-a) b = -MUL a b := by
  unfold MUL; rw [sat_neg, Int.neg_mul, rd_odd (by decide), sat_neg]
theorem div_neg' (a b : Int) : DIV (-a) b = -DIV a b := by
  unfold DIV
  rw [sat_neg]
  by_cases c1 : sat b > 0
  · rw [if_pos c1, if_pos c1, Int.neg_mul, rd_odd (by omega), sat_neg]
  · rw [if_neg c1, if_neg c1]
    by_cases c2 : sat b < 0
    · rw [if_pos c2, if_pos c2, show - -sat a * 65536 = -(-sat a * 65536) by omega, rd_odd (by omega), sat_neg]
    · rw [if_neg c2, if_neg c2]
      by_cases c3 : sat a > 0
      · rw [if_neg (by omega), if_pos (by omega), if_pos c3]
      · by_cases c4 : sat a < 0
        · rw [if_pos (by omega), if_neg c3, if_pos c4]; rfl
        · rw [if_neg (by omega), if_neg (by omega), if_neg c3, if_neg c4]; rfl
theorem add_bd (a b : Int) : -536870911 ≤ ADD a b ∧ ADD a b ≤ 536870911 := sat_bd _
theorem sub_bd (a b : Int) : -536870911 ≤ SUB a b ∧ SUB a b ≤ 536870911 := sat_bd _
theorem mul_bd' (a b : Int) : -536870911 ≤ MUL a b ∧ MUL a b ≤ 536870911 := sat_bd _
theorem div_bd (a b : Int) : -536870911 ≤ DIV a b ∧ DIV a b ≤ 536870911 := by
  unfold DIV
  by_cases c1 : sat b > 0
  · rw [if_pos c1]; exact sat_bd _
  · rw [if_neg c1]
    by_cases c2 : sat b < 0
    · rw [if_pos c2]; exact sat_bd _
    · rw [if_neg c2]; repeat' split
      all_goals omega
theorem lerp_bd (a b t : Int) : -536870911 ≤ LERP a b t ∧ LERP a b t ≤ 536870911 := sat_bd _

end Go.Proofs.Ytmofipnpnepfaaa.M
