/- Chapter 31: what stays inside and what stays outside, in plain arithmetic. No condition beyond those that each theorem states. -/
import Derived.Test.YtljndeeahnpnjaaC8
namespace Go.Proofs.Ytljndeeahnpnjaa.Cl
open Go Go.RowKit Go.Proofs.Ytljndeeahnpnjaa.Am
set_option linter.unusedVariables false
set_option linter.unusedSimpArgs false
/-! ### All inside -/
theorem dist_plane (v : V) {k : Nat} (hk : k < 7) : distF v k = planeF k v.p := by
  unfold distF; rw [if_neg (by omega), if_neg (by omega)]; rfl
theorem ins_iff (v : V) : insF v = true ↔ ∀ k : Nat, k < 7 → distF v k ≥ 0 := by
  unfold insF
  rw [List.all_eq_true]
  constructor
  · intro h k hk
    rw [dist_plane v hk]
    exact of_decide_eq_true (h k (List.mem_range.2 hk))
  · intro h k hk
    have := h k (List.mem_range.1 hk)
    rw [dist_plane v (List.mem_range.1 hk)] at this
    exact decide_eq_true this
theorem edge_in {a b : V} {k : Int} (ha : distF a k ≥ 0) (hb : distF b k ≥ 0) : edgeF a b k = [satV b] := by
  unfold edgeF
  rw [dist_sat, dist_sat, if_pos ha, if_pos hb]
theorem edge_out {a b : V} {k : Int} (ha : distF a k < 0) (hb : distF b k < 0) : edgeF a b k = [] := by
  unfold edgeF
  rw [dist_sat, dist_sat, if_neg (by omega), if_neg (by omega)]
theorem against3 (a b c : V) (k : Int) : againstF [a, b, c] k = edgeF c a k ++ (edgeF a b k ++ edgeF b c k) := by
  unfold againstF
  generalize edgeF = E
  rw [show List.range [a, b, c].length = [0, 1, 2] from rfl]
  simp only [List.flatMap_cons, List.flatMap_nil, List.append_nil, List.length_cons, List.length_nil]
  rw [show prevI (0 + 1 + 1 + 1) 0 = 2 from rfl, show prevI (0 + 1 + 1 + 1) 1 = 0 from rfl, show prevI (0 + 1 + 1 + 1) 2 = 1 from rfl]
  simp
theorem tris3 (a b c : V) : trisF [a, b, c] = [(satV a, satV b, satV c)] := by
  unfold trisF
  generalize satV = E
  rfl
theorem poly_in {t : T3} (h0 : insF t.1 = true) (h1 : insF t.2.1 = true) (h2 : insF t.2.2 = true) : ∀ i, i ≤ 7 → polyF t i = [satV t.1, satV t.2.1, satV t.2.2]
  | 0, _ => rfl
  | i + 1, hi => by
    have d0 := (ins_iff _).1 h0 i (by omega)
    have d1 := (ins_iff _).1 h1 i (by omega)
    have d2 := (ins_iff _).1 h2 i (by omega)
    rw [← dist_sat] at d0 d1 d2
    show againstF (polyF t i) i = _
    rw [poly_in h0 h1 h2 i (by omega), against3, edge_in d2 d0, edge_in d0 d1, edge_in d1 d2, satV_satV, satV_satV, satV_satV]; rfl
theorem clip_in {t : T3} (h0 : insF t.1 = true) (h1 : insF t.2.1 = true) (h2 : insF t.2.2 = true) : clipF t = [(satV t.1, satV t.2.1, satV t.2.2)] := by
  unfold clipF
  rw [poly_in h0 h1 h2 7 (by omega)]
  rw [tris3, satV_satV, satV_satV, satV_satV]
/-! ### All outside of one plane -/
/-- Rounding of a 16-bit fraction. -/
def rnd (p : Int) : Int := if p < 0 then -((2 * (-p) + 65536) / 131072) else (2 * p + 65536) / 131072
theorem rdF_rnd {p : Int} (h1 : -4611686018427387904 ≤ p) (h2 : p ≤ 4611686018427387904) : rdF p 65536 = rnd p := by
  unfold rdF rnd
  rw [if_neg (by omega)]; rfl
def inR (x : Int) : Prop := -536870911 ≤ x ∧ x ≤ 536870911
theorem mul_lt {A T : Int} (hA0 : 0 ≤ A) (hT0 : 0 ≤ T) (hT1 : T ≤ 65536) : 0 ≤ A * T ∧ A * T ≤ A * 65536 :=
  ⟨Int.mul_nonneg hA0 hT0, Int.mul_le_mul_of_nonneg_left hT1 hA0⟩
theorem rnd_between {A T : Int} (hT0 : 0 ≤ T) (hT1 : T ≤ 65536) : (0 ≤ A → 0 ≤ rnd (A * T) ∧ rnd (A * T) ≤ A) ∧ (A ≤ 0 → A ≤ rnd (A * T) ∧ rnd (A * T) ≤ 0) := by
  constructor
  · intro h
    have := mul_lt h hT0 hT1
    generalize A * T = p at *
    unfold rnd; rw [if_neg (by omega)]; omega
  · intro h
    have h' := mul_lt (A := -A) (by omega) hT0 hT1
    rw [Int.neg_mul] at h'
    generalize A * T = p at *
    unfold rnd; split <;> omega
theorem clampT (t : Int) : 0 ≤ clampF t 0 65536 ∧ clampF t 0 65536 ≤ 65536 := by
  unfold clampF; split <;> first | omega | (split <;> omega)
/-- What Lerp comes to between numbers in range. -/
theorem lerp_eq {a b : Int} (ha : inR a) (hb : inR b) (t : Int) : lerpF a b t = a + rnd (satF (b - a) * clampF t 0 65536) ∧ inR (lerpF a b t) := by
  obtain ⟨a1, a2⟩ := ha
  obtain ⟨b1, b2⟩ := hb
  obtain ⟨T0, T1⟩ := clampT t
  have hs : subF b a = satF (b - a) := by
    unfold subF; rw [sat_of_in b1 b2, sat_of_in a1 a2, i64_w' (by omega) (by omega)]
  have hin := sat_in (b - a)
  have hsg : (0 ≤ b - a → 0 ≤ satF (b - a) ∧ satF (b - a) ≤ b - a) ∧ (b - a ≤ 0 → b - a ≤ satF (b - a) ∧ satF (b - a) ≤ 0) := by
    unfold satF clampF; constructor <;> intro h <;> split <;> first | omega | (split <;> omega)
  have hm : mulF (satF (b - a)) (clampF t 0 65536) = rnd (satF (b - a) * clampF t 0 65536) ∧ inR (a + rnd (satF (b - a) * clampF t 0 65536)) := by
    generalize satF (b - a) = A at *
    generalize hT : clampF t 0 65536 = T at *
    have hr := rnd_between (A := A) T0 T1
    have hp : -35184372023296 ≤ A * T ∧ A * T ≤ 35184372023296 := by
      by_cases h : 0 ≤ A
      · have := mul_lt h T0 T1; omega
      · have := mul_lt (A := -A) (by omega) T0 T1
        rw [Int.neg_mul] at this; omega
    have hb' : -536870911 ≤ rnd (A * T) ∧ rnd (A * T) ≤ 536870911 := by
      by_cases h : 0 ≤ A
      · have := hr.1 h; omega
      · have := hr.2 (by omega); omega
    constructor
    · unfold mulF
      rw [sat_of_in hin.1 hin.2, sat_of_in (x := T) (by omega) (by omega), i64_w' (by omega) (by omega), rdF_rnd (by omega) (by omega), sat_of_in hb'.1 hb'.2]
    · by_cases h : 0 ≤ b - a
      · have h1 := hsg.1 h; have h2 := hr.1 h1.1; exact ⟨by omega, by omega⟩
      · have h1 := hsg.2 (by omega); have h2 := hr.2 h1.2; exact ⟨by omega, by omega⟩
  have hrr : inR (rnd (satF (b - a) * clampF t 0 65536)) := by
    have hr := rnd_between (A := satF (b - a)) T0 T1
    by_cases h : 0 ≤ satF (b - a)
    · have := hr.1 h; exact ⟨by omega, by omega⟩
    · have := hr.2 (by omega); exact ⟨by omega, by omega⟩
  have e : lerpF a b t = a + rnd (satF (b - a) * clampF t 0 65536) := by
    unfold lerpF
    rw [hs, hm.1]
    obtain ⟨r1, r2⟩ := hrr
    obtain ⟨m1, m2⟩ := hm.2
    generalize rnd (satF (b - a) * clampF t 0 65536) = m at *
    unfold addF
    rw [sat_of_in a1 a2, sat_of_in r1 r2, i64_w' (by omega) (by omega), sat_of_in m1 m2]
  rw [e]; exact ⟨rfl, hm.2⟩
theorem rnd_neg (p : Int) : rnd (-p) = -rnd p := by
  unfold rnd; split <;> split <;> omega
theorem rnd_sum {A B C T : Int} (h0 : 0 ≤ T) (h1 : T ≤ 65536) (hC0 : 0 ≤ C) (hC : A + B ≤ C) : rnd (A * T) + rnd (B * T) ≤ C := by
  have e : A * T + B * T = (A + B) * T := (Int.add_mul _ _ _).symm
  by_cases hT : T = 65536
  · subst hT
    unfold rnd; split <;> split <;> omega
  by_cases hs : A + B ≤ 0
  · have : (A + B) * T ≤ 0 := by
      have := mul_lt (A := -(A + B)) (by omega) h0 h1
      rw [Int.neg_mul] at this; omega
    generalize A * T = p at *
    generalize B * T = q at *
    have : p + q ≤ 0 := by omega
    unfold rnd; split <;> split <;> omega
  · have : (A + B) * T ≤ (A + B) * 65535 := Int.mul_le_mul_of_nonneg_left (by omega) (by omega)
    generalize A * T = p at *
    generalize B * T = q at *
    have : p + q ≤ (A + B) * 65535 := by omega
    unfold rnd; split <;> split <;> omega
/-- A sum that is negative at both ends is negative between. -/
theorem lerp_sum {a b c d : Int} (ha : inR a) (hb : inR b) (hc : inR c) (hd : inR d) (t m : Int) (h1 : a + c ≤ m) (h2 : b + d ≤ m) : lerpF a b t + lerpF c d t ≤ m := by
  rw [(lerp_eq ha hb t).1, (lerp_eq hc hd t).1]
  obtain ⟨T0, T1⟩ := clampT t
  obtain ⟨a1, a2⟩ := ha
  obtain ⟨b1, b2⟩ := hb
  obtain ⟨c1, c2⟩ := hc
  obtain ⟨d1, d2⟩ := hd
  have hAB : satF (b - a) + satF (d - c) ≤ m - (a + c) := by
    unfold satF clampF
    split <;> split <;> (first | omega | (split <;> first | omega | (split <;> omega)))
  have := rnd_sum T0 T1 (show 0 ≤ m - (a + c) by omega) hAB
  omega
theorem lerp_diff {a b c d : Int} (ha : inR a) (hb : inR b) (hc : inR c) (hd : inR d) (t m : Int) (h1 : a - c ≤ m) (h2 : b - d ≤ m) : lerpF a b t - lerpF c d t ≤ m := by
  rw [(lerp_eq ha hb t).1, (lerp_eq hc hd t).1]
  obtain ⟨T0, T1⟩ := clampT t
  obtain ⟨a1, a2⟩ := ha
  obtain ⟨b1, b2⟩ := hb
  obtain ⟨c1, c2⟩ := hc
  obtain ⟨d1, d2⟩ := hd
  have hAB : satF (b - a) + -satF (d - c) ≤ m - (a - c) := by
    unfold satF clampF
    split <;> split <;> (first | omega | (split <;> first | omega | (split <;> omega)))
  have := rnd_sum T0 T1 (show 0 ≤ m - (a - c) by omega) hAB
  rw [Int.neg_mul, rnd_neg] at this
  omega
theorem lerp_one {a b : Int} (ha : inR a) (hb : inR b) (t m : Int) (h1 : a ≤ m) (h2 : b ≤ m) : lerpF a b t ≤ m := by
  rw [(lerp_eq ha hb t).1]
  obtain ⟨T0, T1⟩ := clampT t
  obtain ⟨a1, a2⟩ := ha
  obtain ⟨b1, b2⟩ := hb
  have hr := rnd_between (A := satF (b - a)) T0 T1
  have hsg : (0 ≤ b - a → 0 ≤ satF (b - a) ∧ satF (b - a) ≤ b - a) ∧ (b - a ≤ 0 → b - a ≤ satF (b - a) ∧ satF (b - a) ≤ 0) := by
    unfold satF clampF; constructor <;> intro h <;> split <;> first | omega | (split <;> omega)
  by_cases h : 0 ≤ b - a
  · have h1 := hsg.1 h; have h2 := hr.1 h1.1; omega
  · have h1 := hsg.2 (by omega); have h2 := hr.2 h1.2; omega
/-- A plane's distance is negative: in sums. -/
def negP (k : Nat) (x y z w : Int) : Prop := match k with
  | 0 => w ≤ 255
  | 1 => w + x ≤ -1
  | 2 => w - x ≤ -1
  | 3 => w + y ≤ -1
  | 4 => w - y ≤ -1
  | 5 => z ≤ -1
  | 6 => w - z ≤ -1
  | _ => False
theorem satF_neg {x : Int} : satF x < 0 ↔ x ≤ -1 := by
  unfold satF clampF; constructor <;> intro h <;> revert h <;> split <;> first | omega | (split <;> omega)
theorem plane_neg {k : Nat} (hk : k < 7) {x y z w : Int} (hx : inR x) (hy : inR y) (hz : inR z) (hw : inR w) : planeF k (x, y, z, w) < 0 ↔ negP k x y z w := by
  obtain ⟨x1, x2⟩ := hx
  obtain ⟨y1, y2⟩ := hy
  obtain ⟨z1, z2⟩ := hz
  obtain ⟨w1, w2⟩ := hw
  have : k = 0 ∨ k = 1 ∨ k = 2 ∨ k = 3 ∨ k = 4 ∨ k = 5 ∨ k = 6 := by omega
  rcases this with rfl | rfl | rfl | rfl | rfl | rfl | rfl <;>
    simp only [planeF, negP, addF, subF, satF_neg, sat_of_in x1 x2, sat_of_in y1 y2, sat_of_in z1 z2, sat_of_in w1 w2]
  · rw [sat_of_in (by omega) (by omega), i64_w' (by omega) (by omega)]; omega
  · rw [i64_w' (by omega) (by omega)]
  · rw [i64_w' (by omega) (by omega)]
  · rw [i64_w' (by omega) (by omega)]
  · rw [i64_w' (by omega) (by omega)]
  · omega
  · rw [i64_w' (by omega) (by omega)]
theorem cut_neg {k : Nat} (hk : k < 7) {a b : V} (di d : Int) (ha : planeF k a.p < 0) (hb : planeF k b.p < 0) : planeF k (cutF (satV a) (satV b) di d).p < 0 := by
  rw [← plane_sat] at ha hb
  have hin : ∀ x, inR (satF x) := sat_in
  unfold cutF
  obtain ⟨t, ht⟩ : ∃ t, t = ratioF di (IntKind.i64.wrap (di - d)) := ⟨_, rfl⟩
  rw [← ht]
  have ha := (plane_neg hk (hin a.x) (hin a.y) (hin a.z) (hin a.w)).1 ha
  have hb := (plane_neg hk (hin b.x) (hin b.y) (hin b.z) (hin b.w)).1 hb
  have lx := (lerp_eq (hin a.x) (hin b.x) t).2
  have ly := (lerp_eq (hin a.y) (hin b.y) t).2
  have lz := (lerp_eq (hin a.z) (hin b.z) t).2
  have lw := (lerp_eq (hin a.w) (hin b.w) t).2
  refine (plane_neg hk lx ly lz lw).2 ?_
  have : k = 0 ∨ k = 1 ∨ k = 2 ∨ k = 3 ∨ k = 4 ∨ k = 5 ∨ k = 6 := by omega
  rcases this with rfl | rfl | rfl | rfl | rfl | rfl | rfl
  · exact lerp_one (hin _) (hin _) t _ ha hb
  · exact lerp_sum (hin _) (hin _) (hin _) (hin _) t _ ha hb
  · exact lerp_diff (hin _) (hin _) (hin _) (hin _) t _ ha hb
  · exact lerp_sum (hin _) (hin _) (hin _) (hin _) t _ ha hb
  · exact lerp_diff (hin _) (hin _) (hin _) (hin _) t _ ha hb
  · exact lerp_one (hin _) (hin _) t _ ha hb
  · exact lerp_diff (hin _) (hin _) (hin _) (hin _) t _ ha hb
theorem inter_neg {k : Nat} (hk : k < 7) {a b : V} (q : Int) (ha : planeF k a.p < 0) (hb : planeF k b.p < 0) : planeF k (interF a b q).p < 0 := by
  unfold interF
  split
  · rw [plane_sat]; exact ha
  · split
    · exact cut_neg hk _ _ hb ha
    · exact cut_neg hk _ _ ha hb
def allNeg (k : Nat) (l : List V) : Prop := ∀ v ∈ l, planeF k v.p < 0
theorem edge_neg {k : Nat} (hk : k < 7) {a b : V} (q : Int) (ha : planeF k a.p < 0) (hb : planeF k b.p < 0) : allNeg k (edgeF a b q) := by
  have h1 : planeF k (satV a).p < 0 := by rw [plane_sat]; exact ha
  have h2 : planeF k (satV b).p < 0 := by rw [plane_sat]; exact hb
  have h3 := inter_neg hk q h1 h2
  intro v hv
  unfold edgeF at hv
  split at hv
  · split at hv
    · simp at hv; subst hv; exact h2
    · simp at hv; subst hv; exact h3
  · split at hv
    · simp at hv; rcases hv with rfl | rfl
      · exact h3
      · exact h2
    · simp at hv
theorem prev_lt {n i : Nat} (h : i < n) : prevI n i < n := Nat.mod_lt _ (by omega)
theorem against_neg {k : Nat} (hk : k < 7) {l : List V} (q : Int) (h : allNeg k l) : allNeg k (againstF l q) := by
  intro v hv
  unfold againstF at hv
  rw [List.mem_flatMap] at hv
  obtain ⟨i, hi, hv⟩ := hv
  have hi := List.mem_range.1 hi
  have key : ∀ j, j < l.length → planeF k (l.getD j default).p < 0 := fun j hj => by
    rw [show l.getD j default = l[j] by simp [List.getD, hj]]
    exact h _ (List.getElem_mem _)
  exact edge_neg hk q (key _ (prev_lt hi)) (key _ hi) v hv
theorem against_out {k : Nat} (hk : k < 7) {l : List V} (h : allNeg k l) : againstF l k = [] := by
  unfold againstF
  rw [List.flatMap_eq_nil_iff]
  intro i hi
  have hi := List.mem_range.1 hi
  have key : ∀ j, j < l.length → distF (l.getD j default) k < 0 := fun j hj => by
    rw [dist_plane _ hk, show l.getD j default = l[j] by simp [List.getD, hj]]
    exact h _ (List.getElem_mem _)
  exact edge_out (key _ (prev_lt hi)) (key _ hi)
theorem poly_neg {k : Nat} (hk : k < 7) {t : T3} (h0 : planeF k t.1.p < 0) (h1 : planeF k t.2.1.p < 0) (h2 : planeF k t.2.2.p < 0) : ∀ i, allNeg k (polyF t i)
  | 0 => fun v hv => by
    simp only [polyF, List.mem_cons, List.not_mem_nil, or_false] at hv
    rcases hv with rfl | rfl | rfl <;> rw [plane_sat] <;> assumption
  | i + 1 => against_neg hk _ (poly_neg hk h0 h1 h2 i)
theorem poly_nil {k : Nat} (hk : k < 7) {t : T3} (h0 : planeF k t.1.p < 0) (h1 : planeF k t.2.1.p < 0) (h2 : planeF k t.2.2.p < 0) : ∀ i, polyF t (k + 1 + i) = []
  | 0 => against_out hk (poly_neg hk h0 h1 h2 k)
  | i + 1 => by
    show againstF (polyF t (k + 1 + i)) _ = []
    rw [poly_nil hk h0 h1 h2 i]; rfl
theorem clip_out {k : Nat} (hk : k < 7) {t : T3} (h0 : distF t.1 k < 0) (h1 : distF t.2.1 k < 0) (h2 : distF t.2.2 k < 0) : clipF t = [] := by
  rw [dist_plane _ hk] at h0 h1 h2
  unfold clipF
  rw [show 7 = k + 1 + (6 - k) by omega, poly_nil hk h0 h1 h2]; rfl
end Go.Proofs.Ytljndeeahnpnjaa.Cl
