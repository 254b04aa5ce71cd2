/- The positions refer to the original indices, a negative index has the position -1, and no index occurs twice: for all lists of indices of 64 bits, no condition. -/
import Derived.Test.YtincgennmjoidaaRRPFetchPositionsx2
import Derived.Test.YtincgennmjoidaaRRMath
import Derived.OpenShut
namespace Go.Proofs.YtincgennmjoidaaRR.Pure
open Go.RowKit Go.Proofs.YtincgennmjoidaaRR.PFetchPositions Go.Proofs.YtincgennmjoidaaRRW.PrintWords Go.Proofs.YtincgennmjoidaaRRW.PrintLast Go.Proofs.YtincgennmjoidaaRRW.PrintMore Go.Proofs.YtincgennmjoidaaRR.M Go.OpenShut
set_option linter.unusedVariables false
set_option linter.unusedSimpArgs false
theorem mx_eq (a b : Int) : mx a b = max a b := by unfold mx; split <;> omega
theorem mn_eq (a b : Int) : mn a b = min a b := by unfold mn; split <;> omega
theorem w64 {x : Int} (h1 : -9223372036854775808 ≤ x) (h2 : x ≤ 9223372036854775807) : wrap64 x = x := by unfold wrap64; omega
theorem u64 {x : Int} (h1 : 0 ≤ x) (h2 : x ≤ 18446744073709551615) : IntKind.u64.wrap x = x := by
  simp only [IntKind.wrap, IntKind.bits, IntKind.signed]; simp; omega
theorem and16 (x : Int) : Go.bits .and .i64 x 65535 = x % 65536 := by
  show IntKind.i64.wrap ((BitVec.ofInt 64 x &&& BitVec.ofInt 64 65535).toNat : Int) = _
  rw [IntKind.wrap_i64, BitVec.toNat_and, BitVec.toNat_ofInt, BitVec.toNat_ofInt,
    show ((65535 : Int) % ((2 ^ 64 : Nat) : Int)).toNat = 2 ^ 16 - 1 by decide, Nat.and_two_pow_sub_one_eq_mod]
  omega
theorem bv_andNot (x : BitVec 64) : (x &&& ~~~65535#64).toNat + x.toNat % 65536 = x.toNat := by
  have h : (x &&& 65535#64) + (x &&& ~~~65535#64) = x := by
    rw [BitVec.add_eq_or_of_and_eq_zero]
    · ext i hi; simp only [BitVec.getElem_or, BitVec.getElem_and, BitVec.getElem_not]; cases x[i] <;> simp
    · ext i hi; simp only [BitVec.getElem_and, BitVec.getElem_not, BitVec.getElem_zero]; cases (65535#64)[i] <;> simp
  have h' := congrArg BitVec.toNat h
  have hlt := x.isLt
  have hle : (x &&& ~~~65535#64).toNat ≤ x.toNat := by rw [BitVec.toNat_and]; exact Nat.and_le_left
  have hle2 : (x &&& ~~~65535#64).toNat % 65536 = 0 := by
    have : (x &&& ~~~65535#64).toNat % 2 ^ 16 = 0 := by
      rw [BitVec.toNat_and, Nat.and_mod_two_pow, show (~~~65535#64).toNat % 2 ^ 16 = 0 by decide, Nat.and_zero]
    exact this
  rw [BitVec.toNat_add, BitVec.toNat_and, show (65535#64).toNat = 2 ^ 16 - 1 by decide, Nat.and_two_pow_sub_one_eq_mod] at h'
  omega
theorem andNot16 (x : Int) (h1 : -9223372036854775808 ≤ x) (h2 : x ≤ 9223372036854775807) : Go.bits .andNot .i64 x 65535 = x / 65536 * 65536 := by
  show IntKind.i64.wrap ((BitVec.ofInt 64 x &&& ~~~BitVec.ofInt 64 65535).toNat : Int) = _
  have h := bv_andNot (BitVec.ofInt 64 x)
  rw [BitVec.toNat_ofInt] at h
  rw [IntKind.wrap_i64, show BitVec.ofInt 64 65535 = 65535#64 by decide]
  omega
def LE4 (l : List Int) (at_ : Int) : Int := rd l at_ + 256 * rd l (at_ + 1) + 65536 * rd l (at_ + 2) + 16777216 * rd l (at_ + 3)
theorem byte_rd {l : List Int} (hl : ∀ x ∈ l, 0 ≤ x ∧ x ≤ 255) (i : Int) : 0 ≤ rd l i ∧ rd l i ≤ 255 := by
  unfold rd
  by_cases h : i.toNat < l.length
  · rw [List.getD_eq_getElem?_getD, List.getElem?_eq_getElem h]; exact hl _ (List.getElem_mem h)
  · rw [List.getD_eq_getElem?_getD, List.getElem?_eq_none (by omega)]; exact ⟨by decide, by decide⟩
theorem or8 {x y : Int} (hx₀ : 0 ≤ x) (hx₁ : x < 36028797018963968) (h₀ : 0 ≤ y) (h₁ : y ≤ 255) : Go.bits .or .i64 (x * 256) y = x * 256 + y :=
  bits_join .i64 63 (by decide) (fun n h1 h2 => by rw [IntKind.wrap_i64]; omega) 8 (x * 256) y (by omega) (by omega) (by omega) h₀ (by omega) (by omega)
theorem E_LittleStep {k : Nat} {l : List Int} (hl : ∀ x ∈ l, 0 ≤ x ∧ x ≤ 255) (hn : (l.length : Int) ≤ 140737488355328) {at_ n i : Int} (ha : 0 ≤ at_) (hi0 : 0 ≤ i) (hi : at_ + i < l.length) (hn0 : 0 ≤ n) (hn1 : n < 4294967296) :
    codec_Little.l0 (k + 1) l at_ n i = codec_Little.l0 k l at_ (n * 256 + rd l (at_ + i)) (i - 1) := by
  have hb := byte_rd hl (at_ + i)
  simp only [codec_Little.l0]
  rw [if_pos (by omega), w64 (x := at_ + i) (by omega) (by omega), if_pos (by omega), if_pos (by omega), w64 (x := n * 256) (by omega) (by omega), w64 (x := rd l (at_ + i)) (by omega) (by omega), w64 (x := i - 1) (by omega) (by omega),
    or8 hn0 (by omega) hb.1 hb.2]
theorem E_Little4 {k : Nat} (hk : 6 ≤ k) {l : List Int} (hl : ∀ x ∈ l, 0 ≤ x ∧ x ≤ 255) (hn : (l.length : Int) ≤ 140737488355328) {at_ : Int} (ha : 0 ≤ at_) (hi : at_ + 4 ≤ l.length) : codec_Little.f k l at_ 4 = some (LE4 l at_) := by
  obtain ⟨k, rfl⟩ : ∃ m, k = m + 5 := ⟨k - 5, by omega⟩
  have h0 := byte_rd hl (at_ + 0)
  have h1 := byte_rd hl (at_ + 1)
  have h2 := byte_rd hl (at_ + 2)
  have h3 := byte_rd hl (at_ + 3)
  unfold codec_Little.f codec_exist.f
  rw [if_pos (by decide), if_pos (by decide), if_pos (by omega), w64 (by omega) (by omega), Option.bind_some, decide_eq_true (by omega), if_pos rfl, show wrap64 (4 - 1) = 3 by decide +kernel,
    E_LittleStep hl hn ha (by decide) (by omega) (by decide) (by decide), show (3 : Int) - 1 = 2 by decide, E_LittleStep hl hn ha (by decide) (by omega) (by omega) (by omega), show (2 : Int) - 1 = 1 by decide,
    E_LittleStep hl hn ha (by decide) (by omega) (by omega) (by omega), show (1 : Int) - 1 = 0 by decide, E_LittleStep hl hn ha (by decide) (by omega) (by omega) (by omega), show (0 : Int) - 1 = -1 by decide]
  simp only [codec_Little.l0]
  rw [if_neg (by decide)]
  unfold LE4
  rw [show at_ + 0 = at_ by omega] at *
  congr 1; omega
theorem up15 {α : Type} {f : Nat → Option α} (mono : ∀ k, LeO (f k) (f (k + 1))) {r : α} {n : Nat} (h : f n = some r) : ∀ {k : Nat}, n ≤ k → f k = some r := by
  intro k hk
  obtain ⟨d, rfl⟩ : ∃ d, k = n + d := ⟨k - n, by omega⟩
  clear hk
  induction d with
  | zero => exact h
  | succ d ih => exact mono _ _ ih
theorem rd_at (l : List Int) (n : Nat) (h : n < l.length) : rd l (n : Int) = l[n] := by unfold rd; simp [List.getD_eq_getElem?_getD, List.getElem?_eq_getElem h]
theorem rd_of {l : List Int} {n : Nat} {v : Int} (h : l[n]? = some v) : rd l (n : Int) = v := by unfold rd; simp [List.getD_eq_getElem?_getD, h]
theorem lt_of_get {α : Type} {l : List α} {n : Nat} {v : α} (h : l[n]? = some v) : n < l.length := by
  rw [List.getElem?_eq_some_iff] at h; exact h.1
theorem drop_eq (l m : List Int) (n : Nat) (h : n < l.length) (g : n < m.length) : (l.drop n = m.drop n) ↔ (l[n] = m[n] ∧ l.drop (n + 1) = m.drop (n + 1)) := by
  rw [List.drop_eq_getElem_cons h, List.drop_eq_getElem_cons g, List.cons.injEq]
theorem same_loop (l m : List Int) (he : l.length = m.length) (hn : (l.length : Int) ≤ 140737488355328) (d : Nat) : ∀ (k n : Nat), n + d = l.length → d < k → frustumlaw15_same.l0 k l m (n : Int) = some (decide (l.drop n = m.drop n)) := by
  induction d with
  | zero =>
    intro k n h1 hk
    obtain ⟨k, rfl⟩ : ∃ m, k = m + 1 := ⟨k - 1, by omega⟩
    simp only [frustumlaw15_same.l0]; rw [if_neg (by omega), List.drop_eq_nil_of_le (by omega), List.drop_eq_nil_of_le (by omega)]; rfl
  | succ d ih =>
    intro k n h1 hk
    obtain ⟨k, rfl⟩ : ∃ m, k = m + 1 := ⟨k - 1, by omega⟩
    simp only [frustumlaw15_same.l0]
    have hd := drop_eq l m n (by omega) (by omega)
    rw [if_pos (by omega), if_pos (by omega), if_pos (by omega), rd_at l n (by omega), rd_at m n (by omega)]
    by_cases c : l[n] = m[n]
    · rw [if_pos c, w64 (by omega) (by omega)]
      have := ih k (n + 1) (by omega) (by omega)
      rw [show ((n : Int) + 1) = ((n + 1 : Nat) : Int) by omega, this]
      congr 1; exact decide_eq_decide.2 (by rw [hd]; exact ⟨fun h => ⟨c, h⟩, fun h => h.2⟩)
    · rw [if_neg c]; congr 1; exact (decide_eq_false (fun h => c (hd.1 h).1)).symm
theorem E_same {k : Nat} (l m : List Int) (hn : (l.length : Int) ≤ 140737488355328) (hk : l.length < k) : frustumlaw15_same.f k l m = some (decide (l = m)) := by
  unfold frustumlaw15_same.f
  by_cases c : l.length = m.length
  · rw [if_pos (by omega)]
    exact same_loop l m c hn l.length k 0 (by omega) hk
  · rw [if_neg (by omega)]; congr 1; exact (decide_eq_false (fun h => c (by rw [h]))).symm
theorem E_ex15 {k : Nat} (hk : 20 ≤ k) : frustumlaw15_example.f k = some true := up15 (fun k => frustumlaw15_example.mono k) (n := 20) (by decide +kernel) hk
def UNI : List Int → List Int → List Int → List Int × List Int
  | [], d, p => (d, p)
  | x :: r, d, p => if x < 0 then UNI r d (p ++ [-1]) else if x ∈ d then UNI r d (p ++ [((d.idxOf x : Nat) : Int)]) else UNI r (d ++ [x]) (p ++ [(d.length : Int)])
theorem uni_loop (l : List Int) (hw : ∀ x ∈ l, x ≤ 9223372036854775807) (hn : l.length ≤ 1000) (m : Nat) : ∀ (k n : Nat) (d p : List Int), n + m = l.length → m < k → d.length ≤ n → p.length = n → fetch_Unique.l0 k l d p (n : Int) = some (UNI (l.drop n) d p) := by
  induction m with
  | zero =>
    intro k n d p h1 hk hd hp
    obtain ⟨k, rfl⟩ : ∃ m, k = m + 1 := ⟨k - 1, by omega⟩
    simp only [fetch_Unique.l0]; rw [if_neg (by omega), List.drop_eq_nil_of_le (by omega)]; rfl
  | succ m ih =>
    intro k n d p h1 hk hd hp
    obtain ⟨k, rfl⟩ : ∃ m, k = m + 1 := ⟨k - 1, by omega⟩
    simp only [fetch_Unique.l0]
    have hx := hw l[n] (List.getElem_mem (by omega))
    rw [if_pos (by omega), if_pos (by omega), rd_at l n (by omega), w64 (by omega) (by omega), show ((n : Int) + 1) = ((n + 1 : Nat) : Int) by omega, List.drop_eq_getElem_cons (show n < l.length by omega)]
    unfold UNI
    by_cases c1 : l[n] < 0
    · rw [if_pos c1, if_pos c1, if_pos (by omega)]; exact ih k (n + 1) _ _ (by omega) (by omega) (by omega) (by simp; omega)
    rw [if_neg c1, if_neg c1, if_pos hx, if_pos (by omega), if_pos (by omega)]
    by_cases c2 : l[n] ∈ d
    · rw [if_pos c2, if_pos c2]; exact ih k (n + 1) _ _ (by omega) (by omega) (by omega) (by simp; omega)
    · rw [if_neg c2, if_neg c2]; exact ih k (n + 1) _ _ (by omega) (by omega) (by simp; omega) (by simp; omega)
theorem E_Unique {k : Nat} (l : List Int) (hw : ∀ x ∈ l, (Lit.int .i64 x).wf = true) (hn : l.length ≤ 1000) (hk : l.length < k) : fetch_Unique.f k l = some (UNI l [] []) :=
  uni_loop l (fun x hx => (bounds_i64 (hw x hx)).2) hn l.length k 0 [] [] (by omega) hk (by simp) rfl
theorem uni_len : ∀ (r d p : List Int), (UNI r d p).1.length ≤ d.length + r.length ∧ (UNI r d p).2.length = p.length + r.length
  | [], d, p => by unfold UNI; simp
  | x :: r, d, p => by
    unfold UNI
    split
    · have := uni_len r d (p ++ [-1]); simp at this ⊢; omega
    split
    · have := uni_len r d (p ++ [((d.idxOf x : Nat) : Int)]); simp at this ⊢; omega
    · have := uni_len r (d ++ [x]) (p ++ [(d.length : Int)]); simp at this ⊢; omega
def ISIZE (t : Int) : Int := if t = 1 then 0 else if t = 2 then 1 else if t = 3 then 2 else if t = 4 then 4 else -1
theorem E_ISize (t : Int) : fetch_IndexSize.f t = some (ISIZE t) := by
  unfold fetch_IndexSize.f ISIZE; repeat' split
  all_goals rfl
theorem isize_cases (t : Int) : ISIZE t = -1 ∨ ISIZE t = 0 ∨ ISIZE t = 1 ∨ ISIZE t = 2 ∨ ISIZE t = 4 := by
  unfold ISIZE; repeat' split
  all_goals omega
def GOOD (l d p : List Int) : Prop := d.Nodup ∧ p.length = l.length ∧ ∀ (i : Nat) (v : Int), l[i]? = some v → (v < 0 → p[i]? = some (-1)) ∧ (0 ≤ v → ∃ j : Nat, p[i]? = some (j : Int) ∧ d[j]? = some v)
theorem good_snoc {l d p : List Int} {x y : Int} {e : List Int} (h : GOOD l d p) (hn : (d ++ e).Nodup) (h1 : x < 0 → y = -1) (h2 : 0 ≤ x → ∃ j : Nat, y = (j : Int) ∧ (d ++ e)[j]? = some x) : GOOD (l ++ [x]) (d ++ e) (p ++ [y]) := by
  obtain ⟨_, hp, hg⟩ := h
  refine ⟨hn, by simp [hp], fun i v hv => ?_⟩
  by_cases c : i < l.length
  · rw [List.getElem?_append_left c] at hv
    rw [List.getElem?_append_left (by omega)]
    obtain ⟨g1, g2⟩ := hg i v hv
    refine ⟨g1, fun h0 => ?_⟩
    obtain ⟨j, e1, e2⟩ := g2 h0
    exact ⟨j, e1, by rw [List.getElem?_append_left (lt_of_get e2)]; exact e2⟩
  · have hlt := lt_of_get hv
    simp at hlt
    have hi : i = l.length := by omega
    subst hi
    have : x = v := by simpa using hv
    subst this
    have e0 : (p ++ [y])[l.length]? = some y := by rw [← hp]; simp
    rw [e0]
    refine ⟨fun h => by rw [h1 h], fun h => ?_⟩
    obtain ⟨j, e1, e2⟩ := h2 h
    exact ⟨j, by rw [e1], e2⟩
theorem uni_good : ∀ (r l d p : List Int), GOOD l d p → GOOD (l ++ r) (UNI r d p).1 (UNI r d p).2
  | [], l, d, p, h => by unfold UNI; rw [List.append_nil]; exact h
  | x :: r, l, d, p, h => by
    rw [show l ++ x :: r = (l ++ [x]) ++ r by simp]
    unfold UNI
    by_cases c1 : x < 0
    · rw [if_pos c1]
      have g := good_snoc (x := x) (y := -1) (e := []) h (by simpa using h.1) (fun _ => rfl) (fun h => absurd h (by omega))
      rw [List.append_nil] at g
      exact uni_good r _ _ _ g
    rw [if_neg c1]
    by_cases c2 : x ∈ d
    · rw [if_pos c2]
      have hi := List.idxOf_lt_length_iff.2 c2
      have g := good_snoc (x := x) (y := ((d.idxOf x : Nat) : Int)) (e := []) h (by simpa using h.1) (fun h => absurd h c1) (fun _ => ⟨d.idxOf x, rfl, by rw [List.append_nil, List.getElem?_eq_getElem hi, List.getElem_idxOf hi]⟩)
      rw [List.append_nil] at g
      exact uni_good r _ _ _ g
    · rw [if_neg c2]
      have hnd : (d ++ [x]).Nodup := by
        rw [List.nodup_append]
        refine ⟨h.1, by simp, fun a ha b hb => ?_⟩
        rw [List.mem_singleton] at hb
        intro e
        exact c2 (by rw [← hb, ← e]; exact ha)
      exact uni_good r _ _ _ (good_snoc (x := x) (y := (d.length : Int)) (e := [x]) h hnd (fun h => absurd h c1) (fun _ => ⟨d.length, rfl, by simp⟩))
theorem pos_l12 (d : List Int) (hd : d.Nodup) (hn : d.length ≤ 300) (B : Nat → Nat) (hB0 : 100 ≤ B 0) (hBs : ∀ m, B m + 400 ≤ B (m + 1)) : (m : Nat) → (∀ (k n : Nat), n + m = d.length → B m < k → frustumlaw15_FetchPositions.l1 k d (n : Int) = some true) := by
  intro m
  induction m with
  | zero =>
    intro k n h1 hk
    obtain ⟨k, rfl⟩ : ∃ m, k = m + 1 := ⟨k - 1, by omega⟩
    simp only [frustumlaw15_FetchPositions.l1]; rw [if_neg (by omega), E_ex15 (by omega)]; rfl
  | succ m ih =>
    intro k n h1 hk
    have hBm := hBs m
    obtain ⟨k, rfl⟩ : ∃ m, k = m + 1 := ⟨k - 1, by omega⟩
    simp only [frustumlaw15_FetchPositions.l1]; rw [if_pos (by omega)]
    have inner : ∀ (q k i : Nat), i + q = n → q + B m + 2 ≤ k → frustumlaw15_FetchPositions.l2 k d (n : Int) (i : Int) = some true := by
      intro q
      induction q with
      | zero =>
        intro k i h2 hk2
        obtain ⟨k, rfl⟩ : ∃ m, k = m + 1 := ⟨k - 1, by omega⟩
        simp only [frustumlaw15_FetchPositions.l2]; rw [if_neg (by omega), w64 (by omega) (by omega), show ((n : Int) + 1) = ((n + 1 : Nat) : Int) by omega]
        exact ih k (n + 1) (by omega) (by omega)
      | succ q ihq =>
        intro k i h2 hk2
        obtain ⟨k, rfl⟩ : ∃ m, k = m + 1 := ⟨k - 1, by omega⟩
        simp only [frustumlaw15_FetchPositions.l2]
        have hne : ¬ d[i] = d[n] := fun e => by
          have := (List.getElem_inj hd).1 e
          omega
        rw [if_pos (by omega), if_pos (by omega), if_pos (by omega), if_pos (by omega), if_pos (by omega), rd_at d i (by omega), rd_at d n (by omega), if_neg hne, w64 (by omega) (by omega), show ((i : Int) + 1) = ((i + 1 : Nat) : Int) by omega]
        exact ihq k (i + 1) (by omega) (by omega)
    exact inner n k 0 (by omega) (by omega)
theorem pos_l0 (l d p : List Int) (h : GOOD l d p) (hn : l.length ≤ 300) (hd : d.length ≤ 300) (m : Nat) : ∀ (k n : Nat), n + m = l.length → m + 130000 < k → frustumlaw15_FetchPositions.l0 k l d p (n : Int) = some true := by
  induction m with
  | zero =>
    intro k n h1 hk
    obtain ⟨k, rfl⟩ : ∃ m, k = m + 1 := ⟨k - 1, by omega⟩
    simp only [frustumlaw15_FetchPositions.l0]; rw [if_neg (by omega)]
    exact pos_l12 d h.1 hd (fun m => 400 * m + 100) (by decide) (fun m => by omega) d.length k 0 (by omega) (by show 400 * d.length + 100 < k; omega)
  | succ m ih =>
    intro k n h1 hk
    obtain ⟨k, rfl⟩ : ∃ m, k = m + 1 := ⟨k - 1, by omega⟩
    simp only [frustumlaw15_FetchPositions.l0]
    obtain ⟨g1, g2⟩ := h.2.2 n l[n] (List.getElem?_eq_getElem (by omega))
    have hp := h.2.1
    have nx := ih k (n + 1) (by omega) (by omega)
    rw [if_pos (by omega), if_pos (by omega), rd_at l n (by omega), w64 (by omega) (by omega), show ((n : Int) + 1) = ((n + 1 : Nat) : Int) by omega]
    by_cases c : l[n] < 0
    · rw [if_pos c, if_pos (by omega), rd_of (g1 c), if_pos rfl]; exact nx
    · obtain ⟨j, e1, e2⟩ := g2 (by omega)
      have hj := lt_of_get e2
      rw [if_neg c, if_pos (by omega), rd_of e1, if_neg (by omega), if_neg (by omega), if_pos (by omega), if_pos (by omega), rd_of e2, if_pos rfl]; exact nx
theorem FetchPositions : frustumlaw15_FetchPositions.Pure := by
  intro l _ _ hw
  obtain ⟨K, hK⟩ : ∃ K, 200000 ≤ K := ⟨_, Nat.le_refl _⟩
  refine ⟨K, ?_⟩
  unfold frustumlaw15_FetchPositions.f
  by_cases c : (l.length : Int) > 300
  · rw [if_pos c, E_ex15 (by omega)]; rfl
  have hl := uni_len l [] []
  rw [List.length_nil] at hl
  have hg := uni_good l [] [] [] ⟨List.nodup_nil, rfl, fun i v h => by simp at h⟩
  rw [List.nil_append] at hg
  rw [if_neg c, E_Unique l hw (by omega) (by omega), Option.bind_some, if_pos (by omega)]
  exact pos_l0 l _ _ hg (by omega) (by omega) l.length K 0 (by omega) (by omega)
end Go.Proofs.YtincgennmjoidaaRR.Pure
