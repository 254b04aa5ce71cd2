/- Indices returns what the reference returns: for every buffer, type and range, no condition. -/
import Derived.Test.YtincgennmjoidaaRRPFetchIndicesx3
import Derived.Test.YtincgennmjoidaaRRMath
import Derived.OpenShut
namespace Go.Proofs.YtincgennmjoidaaRR.Pure
open Go.RowKit Go.Proofs.YtincgennmjoidaaRR.PFetchIndices Go.Proofs.YtincgennmjoidaaRRW.PrintWords Go.Proofs.YtincgennmjoidaaRRW.PrintLast Go.Proofs.YtincgennmjoidaaRRW.PrintMore Go.Proofs.YtincgennmjoidaaRR.M Go.OpenShut
set_option linter.unusedVariables false
set_option linter.unusedSimpArgs false
theorem mx_eq (a b : Int) : mx a b = max a b := by unfold mx; split <;> omega
theorem mn_eq (a b : Int) : mn a b = min a b := by unfold mn; split <;> omega
theorem w64 {x : Int} (h1 : -9223372036854775808 ≤ x) (h2 : x ≤ 9223372036854775807) : wrap64 x = x := by unfold wrap64; omega
theorem u64 {x : Int} (h1 : 0 ≤ x) (h2 : x ≤ 18446744073709551615) : IntKind.u64.wrap x = x := by
  simp only [IntKind.wrap, IntKind.bits, IntKind.signed]; simp; omega
theorem and16 (x : Int) : Go.bits .and .i64 x 65535 = x % 65536 := by
  show IntKind.i64.wrap ((BitVec.ofInt 64 x &&& BitVec.ofInt 64 65535).toNat : Int) = _
  rw [IntKind.wrap_i64, BitVec.toNat_and, BitVec.toNat_ofInt, BitVec.toNat_ofInt,
    show ((65535 : Int) % ((2 ^ 64 : Nat) : Int)).toNat = 2 ^ 16 - 1 by decide, Nat.and_two_pow_sub_one_eq_mod]
  omega
theorem bv_andNot (x : BitVec 64) : (x &&& ~~~65535#64).toNat + x.toNat % 65536 = x.toNat := by
  have h : (x &&& 65535#64) + (x &&& ~~~65535#64) = x := by
    rw [BitVec.add_eq_or_of_and_eq_zero]
    · ext i hi; simp only [BitVec.getElem_or, BitVec.getElem_and, BitVec.getElem_not]; cases x[i] <;> simp
    · ext i hi; simp only [BitVec.getElem_and, BitVec.getElem_not, BitVec.getElem_zero]; cases (65535#64)[i] <;> simp
  have h' := congrArg BitVec.toNat h
  have hlt := x.isLt
  have hle : (x &&& ~~~65535#64).toNat ≤ x.toNat := by rw [BitVec.toNat_and]; exact Nat.and_le_left
  have hle2 : (x &&& ~~~65535#64).toNat % 65536 = 0 := by
    have : (x &&& ~~~65535#64).toNat % 2 ^ 16 = 0 := by
      rw [BitVec.toNat_and, Nat.and_mod_two_pow, show (~~~65535#64).toNat % 2 ^ 16 = 0 by decide, Nat.and_zero]
    exact this
  rw [BitVec.toNat_add, BitVec.toNat_and, show (65535#64).toNat = 2 ^ 16 - 1 by decide, Nat.and_two_pow_sub_one_eq_mod] at h'
  omega
theorem andNot16 (x : Int) (h1 : -9223372036854775808 ≤ x) (h2 : x ≤ 9223372036854775807) : Go.bits .andNot .i64 x 65535 = x / 65536 * 65536 := by
  show IntKind.i64.wrap ((BitVec.ofInt 64 x &&& ~~~BitVec.ofInt 64 65535).toNat : Int) = _
  have h := bv_andNot (BitVec.ofInt 64 x)
  rw [BitVec.toNat_ofInt] at h
  rw [IntKind.wrap_i64, show BitVec.ofInt 64 65535 = 65535#64 by decide]
  omega
def LE4 (l : List Int) (at_ : Int) : Int := rd l at_ + 256 * rd l (at_ + 1) + 65536 * rd l (at_ + 2) + 16777216 * rd l (at_ + 3)
theorem byte_rd {l : List Int} (hl : ∀ x ∈ l, 0 ≤ x ∧ x ≤ 255) (i : Int) : 0 ≤ rd l i ∧ rd l i ≤ 255 := by
  unfold rd
  by_cases h : i.toNat < l.length
  · rw [List.getD_eq_getElem?_getD, List.getElem?_eq_getElem h]; exact hl _ (List.getElem_mem h)
  · rw [List.getD_eq_getElem?_getD, List.getElem?_eq_none (by omega)]; exact ⟨by decide, by decide⟩
theorem or8 {x y : Int} (hx₀ : 0 ≤ x) (hx₁ : x < 36028797018963968) (h₀ : 0 ≤ y) (h₁ : y ≤ 255) : Go.bits .or .i64 (x * 256) y = x * 256 + y :=
  bits_join .i64 63 (by decide) (fun n h1 h2 => by rw [IntKind.wrap_i64]; omega) 8 (x * 256) y (by omega) (by omega) (by omega) h₀ (by omega) (by omega)
theorem E_LittleStep {k : Nat} {l : List Int} (hl : ∀ x ∈ l, 0 ≤ x ∧ x ≤ 255) (hn : (l.length : Int) ≤ 140737488355328) {at_ n i : Int} (ha : 0 ≤ at_) (hi0 : 0 ≤ i) (hi : at_ + i < l.length) (hn0 : 0 ≤ n) (hn1 : n < 4294967296) :
    codec_Little.l0 (k + 1) l at_ n i = codec_Little.l0 k l at_ (n * 256 + rd l (at_ + i)) (i - 1) := by
  have hb := byte_rd hl (at_ + i)
  simp only [codec_Little.l0]
  rw [if_pos (by omega), w64 (x := at_ + i) (by omega) (by omega), if_pos (by omega), if_pos (by omega), w64 (x := n * 256) (by omega) (by omega), w64 (x := rd l (at_ + i)) (by omega) (by omega), w64 (x := i - 1) (by omega) (by omega),
    or8 hn0 (by omega) hb.1 hb.2]
theorem E_Little4 {k : Nat} (hk : 6 ≤ k) {l : List Int} (hl : ∀ x ∈ l, 0 ≤ x ∧ x ≤ 255) (hn : (l.length : Int) ≤ 140737488355328) {at_ : Int} (ha : 0 ≤ at_) (hi : at_ + 4 ≤ l.length) : codec_Little.f k l at_ 4 = some (LE4 l at_) := by
  obtain ⟨k, rfl⟩ : ∃ m, k = m + 5 := ⟨k - 5, by omega⟩
  have h0 := byte_rd hl (at_ + 0)
  have h1 := byte_rd hl (at_ + 1)
  have h2 := byte_rd hl (at_ + 2)
  have h3 := byte_rd hl (at_ + 3)
  unfold codec_Little.f codec_exist.f
  rw [if_pos (by decide), if_pos (by decide), if_pos (by omega), w64 (by omega) (by omega), Option.bind_some, decide_eq_true (by omega), if_pos rfl, show wrap64 (4 - 1) = 3 by decide +kernel,
    E_LittleStep hl hn ha (by decide) (by omega) (by decide) (by decide), show (3 : Int) - 1 = 2 by decide, E_LittleStep hl hn ha (by decide) (by omega) (by omega) (by omega), show (2 : Int) - 1 = 1 by decide,
    E_LittleStep hl hn ha (by decide) (by omega) (by omega) (by omega), show (1 : Int) - 1 = 0 by decide, E_LittleStep hl hn ha (by decide) (by omega) (by omega) (by omega), show (0 : Int) - 1 = -1 by decide]
  simp only [codec_Little.l0]
  rw [if_neg (by decide)]
  unfold LE4
  rw [show at_ + 0 = at_ by omega] at *
  congr 1; omega
theorem F_LittleStep {k : Nat} {l : List Int} (hl : ∀ x ∈ l, 0 ≤ x ∧ x ≤ 255) (hn : (l.length : Int) ≤ 140737488355328) {at_ n i : Int} (ha : 0 ≤ at_) (hi0 : 0 ≤ i) (hi : at_ + i < l.length) (hn0 : 0 ≤ n) (hn1 : n < 4294967296) :
    frustumref05_Little.l0 (k + 1) l at_ n i = frustumref05_Little.l0 k l at_ (n * 256 + rd l (at_ + i)) (i - 1) := by
  have hb := byte_rd hl (at_ + i)
  simp only [frustumref05_Little.l0]
  rw [if_pos (by omega), w64 (x := at_ + i) (by omega) (by omega), if_pos (by omega), if_pos (by omega), w64 (x := n * 256) (by omega) (by omega), w64 (x := rd l (at_ + i)) (by omega) (by omega), w64 (x := i - 1) (by omega) (by omega),
    w64 (by omega) (by omega)]
theorem F_Little4 {k : Nat} (hk : 6 ≤ k) {l : List Int} (hl : ∀ x ∈ l, 0 ≤ x ∧ x ≤ 255) (hn : (l.length : Int) ≤ 140737488355328) {at_ : Int} (ha : 0 ≤ at_) (hi : at_ + 4 ≤ l.length) : frustumref05_Little.f k l at_ 4 = some (LE4 l at_) := by
  obtain ⟨k, rfl⟩ : ∃ m, k = m + 5 := ⟨k - 5, by omega⟩
  have h0 := byte_rd hl (at_ + 0)
  have h1 := byte_rd hl (at_ + 1)
  have h2 := byte_rd hl (at_ + 2)
  have h3 := byte_rd hl (at_ + 3)
  unfold frustumref05_Little.f frustumref05_inside.f
  rw [if_pos (by decide), if_pos (by decide), if_pos (by omega), w64 (by omega) (by omega), Option.bind_some, decide_eq_true (by omega), if_pos rfl, show wrap64 (4 - 1) = 3 by decide +kernel,
    F_LittleStep hl hn ha (by decide) (by omega) (by decide) (by decide), show (3 : Int) - 1 = 2 by decide, F_LittleStep hl hn ha (by decide) (by omega) (by omega) (by omega), show (2 : Int) - 1 = 1 by decide,
    F_LittleStep hl hn ha (by decide) (by omega) (by omega) (by omega), show (1 : Int) - 1 = 0 by decide, F_LittleStep hl hn ha (by decide) (by omega) (by omega) (by omega), show (0 : Int) - 1 = -1 by decide]
  simp only [frustumref05_Little.l0]
  rw [if_neg (by decide)]
  unfold LE4
  rw [show at_ + 0 = at_ by omega] at *
  congr 1; omega
theorem up15 {α : Type} {f : Nat → Option α} (mono : ∀ k, LeO (f k) (f (k + 1))) {r : α} {n : Nat} (h : f n = some r) : ∀ {k : Nat}, n ≤ k → f k = some r := by
  intro k hk
  obtain ⟨d, rfl⟩ : ∃ d, k = n + d := ⟨k - n, by omega⟩
  clear hk
  induction d with
  | zero => exact h
  | succ d ih => exact mono _ _ ih
theorem rd_at (l : List Int) (n : Nat) (h : n < l.length) : rd l (n : Int) = l[n] := by unfold rd; simp [List.getD_eq_getElem?_getD, List.getElem?_eq_getElem h]
theorem rd_of {l : List Int} {n : Nat} {v : Int} (h : l[n]? = some v) : rd l (n : Int) = v := by unfold rd; simp [List.getD_eq_getElem?_getD, h]
theorem lt_of_get {α : Type} {l : List α} {n : Nat} {v : α} (h : l[n]? = some v) : n < l.length := by
  rw [List.getElem?_eq_some_iff] at h; exact h.1
theorem drop_eq (l m : List Int) (n : Nat) (h : n < l.length) (g : n < m.length) : (l.drop n = m.drop n) ↔ (l[n] = m[n] ∧ l.drop (n + 1) = m.drop (n + 1)) := by
  rw [List.drop_eq_getElem_cons h, List.drop_eq_getElem_cons g, List.cons.injEq]
theorem same_loop (l m : List Int) (he : l.length = m.length) (hn : (l.length : Int) ≤ 140737488355328) (d : Nat) : ∀ (k n : Nat), n + d = l.length → d < k → frustumlaw15_same.l0 k l m (n : Int) = some (decide (l.drop n = m.drop n)) := by
  induction d with
  | zero =>
    intro k n h1 hk
    obtain ⟨k, rfl⟩ : ∃ m, k = m + 1 := ⟨k - 1, by omega⟩
    simp only [frustumlaw15_same.l0]; rw [if_neg (by omega), List.drop_eq_nil_of_le (by omega), List.drop_eq_nil_of_le (by omega)]; rfl
  | succ d ih =>
    intro k n h1 hk
    obtain ⟨k, rfl⟩ : ∃ m, k = m + 1 := ⟨k - 1, by omega⟩
    simp only [frustumlaw15_same.l0]
    have hd := drop_eq l m n (by omega) (by omega)
    rw [if_pos (by omega), if_pos (by omega), if_pos (by omega), rd_at l n (by omega), rd_at m n (by omega)]
    by_cases c : l[n] = m[n]
    · rw [if_pos c, w64 (by omega) (by omega)]
      have := ih k (n + 1) (by omega) (by omega)
      rw [show ((n : Int) + 1) = ((n + 1 : Nat) : Int) by omega, this]
      congr 1; exact decide_eq_decide.2 (by rw [hd]; exact ⟨fun h => ⟨c, h⟩, fun h => h.2⟩)
    · rw [if_neg c]; congr 1; exact (decide_eq_false (fun h => c (hd.1 h).1)).symm
theorem E_same {k : Nat} (l m : List Int) (hn : (l.length : Int) ≤ 140737488355328) (hk : l.length < k) : frustumlaw15_same.f k l m = some (decide (l = m)) := by
  unfold frustumlaw15_same.f
  by_cases c : l.length = m.length
  · rw [if_pos (by omega)]
    exact same_loop l m c hn l.length k 0 (by omega) hk
  · rw [if_neg (by omega)]; congr 1; exact (decide_eq_false (fun h => c (by rw [h]))).symm
theorem E_ex15 {k : Nat} (hk : 20 ≤ k) : frustumlaw15_example.f k = some true := up15 (fun k => frustumlaw15_example.mono k) (n := 20) (by decide +kernel) hk
def UNI : List Int → List Int → List Int → List Int × List Int
  | [], d, p => (d, p)
  | x :: r, d, p => if x < 0 then UNI r d (p ++ [-1]) else if x ∈ d then UNI r d (p ++ [((d.idxOf x : Nat) : Int)]) else UNI r (d ++ [x]) (p ++ [(d.length : Int)])
theorem uni_loop (l : List Int) (hw : ∀ x ∈ l, x ≤ 9223372036854775807) (hn : l.length ≤ 1000) (m : Nat) : ∀ (k n : Nat) (d p : List Int), n + m = l.length → m < k → d.length ≤ n → p.length = n → fetch_Unique.l0 k l d p (n : Int) = some (UNI (l.drop n) d p) := by
  induction m with
  | zero =>
    intro k n d p h1 hk hd hp
    obtain ⟨k, rfl⟩ : ∃ m, k = m + 1 := ⟨k - 1, by omega⟩
    simp only [fetch_Unique.l0]; rw [if_neg (by omega), List.drop_eq_nil_of_le (by omega)]; rfl
  | succ m ih =>
    intro k n d p h1 hk hd hp
    obtain ⟨k, rfl⟩ : ∃ m, k = m + 1 := ⟨k - 1, by omega⟩
    simp only [fetch_Unique.l0]
    have hx := hw l[n] (List.getElem_mem (by omega))
    rw [if_pos (by omega), if_pos (by omega), rd_at l n (by omega), w64 (by omega) (by omega), show ((n : Int) + 1) = ((n + 1 : Nat) : Int) by omega, List.drop_eq_getElem_cons (show n < l.length by omega)]
    unfold UNI
    by_cases c1 : l[n] < 0
    · rw [if_pos c1, if_pos c1, if_pos (by omega)]; exact ih k (n + 1) _ _ (by omega) (by omega) (by omega) (by simp; omega)
    rw [if_neg c1, if_neg c1, if_pos hx, if_pos (by omega), if_pos (by omega)]
    by_cases c2 : l[n] ∈ d
    · rw [if_pos c2, if_pos c2]; exact ih k (n + 1) _ _ (by omega) (by omega) (by omega) (by simp; omega)
    · rw [if_neg c2, if_neg c2]; exact ih k (n + 1) _ _ (by omega) (by omega) (by simp; omega) (by simp; omega)
theorem E_Unique {k : Nat} (l : List Int) (hw : ∀ x ∈ l, (Lit.int .i64 x).wf = true) (hn : l.length ≤ 1000) (hk : l.length < k) : fetch_Unique.f k l = some (UNI l [] []) :=
  uni_loop l (fun x hx => (bounds_i64 (hw x hx)).2) hn l.length k 0 [] [] (by omega) hk (by simp) rfl
theorem uni_len : ∀ (r d p : List Int), (UNI r d p).1.length ≤ d.length + r.length ∧ (UNI r d p).2.length = p.length + r.length
  | [], d, p => by unfold UNI; simp
  | x :: r, d, p => by
    unfold UNI
    split
    · have := uni_len r d (p ++ [-1]); simp at this ⊢; omega
    split
    · have := uni_len r d (p ++ [((d.idxOf x : Nat) : Int)]); simp at this ⊢; omega
    · have := uni_len r (d ++ [x]) (p ++ [(d.length : Int)]); simp at this ⊢; omega
def ISIZE (t : Int) : Int := if t = 1 then 0 else if t = 2 then 1 else if t = 3 then 2 else if t = 4 then 4 else -1
theorem E_ISize (t : Int) : fetch_IndexSize.f t = some (ISIZE t) := by
  unfold fetch_IndexSize.f ISIZE; repeat' split
  all_goals rfl
theorem isize_cases (t : Int) : ISIZE t = -1 ∨ ISIZE t = 0 ∨ ISIZE t = 1 ∨ ISIZE t = 2 ∨ ISIZE t = 4 := by
  unfold ISIZE; repeat' split
  all_goals omega
theorem F_ISize (t : Int) : frustumref15_IndexSize.f t = some (ISIZE t) := by
  unfold frustumref15_IndexSize.f ISIZE; repeat' split
  all_goals rfl
theorem little_same {k : Nat} (hk : 6 ≤ k) {l : List Int} (hl : ∀ x ∈ l, 0 ≤ x ∧ x ≤ 255) (hn : (l.length : Int) ≤ 140737488355328) {at_ s : Int} (hs : s = 1 ∨ s = 2 ∨ s = 4) (ha : 0 ≤ at_) (hi : at_ + s ≤ l.length) : ∃ r, codec_Little.f k l at_ s = some r ∧ frustumref05_Little.f k l at_ s = some r := by
  rcases hs with rfl | rfl | rfl
  · obtain ⟨k, rfl⟩ : ∃ m, k = m + 5 := ⟨k - 5, by omega⟩
    have h0 := byte_rd hl (at_ + 0)
    refine ⟨0 * 256 + rd l (at_ + 0), ?_, ?_⟩
    · unfold codec_Little.f codec_exist.f
      rw [if_pos (by decide), if_pos (by decide), if_pos (by omega), w64 (by omega) (by omega), Option.bind_some, decide_eq_true (by omega), if_pos rfl, show wrap64 (1 - 1) = 0 by decide +kernel,
        E_LittleStep hl hn ha (by decide) (by omega) (by decide) (by decide), show (0 : Int) - 1 = -1 by decide]
      simp only [codec_Little.l0]; rw [if_neg (by decide)]
    · unfold frustumref05_Little.f frustumref05_inside.f
      rw [if_pos (by decide), if_pos (by decide), if_pos (by omega), w64 (by omega) (by omega), Option.bind_some, decide_eq_true (by omega), if_pos rfl, show wrap64 (1 - 1) = 0 by decide +kernel,
        F_LittleStep hl hn ha (by decide) (by omega) (by decide) (by decide), show (0 : Int) - 1 = -1 by decide]
      simp only [frustumref05_Little.l0]; rw [if_neg (by decide)]
  · obtain ⟨k, rfl⟩ : ∃ m, k = m + 5 := ⟨k - 5, by omega⟩
    have h0 := byte_rd hl (at_ + 0)
    have h1 := byte_rd hl (at_ + 1)
    refine ⟨(0 * 256 + rd l (at_ + 1)) * 256 + rd l (at_ + 0), ?_, ?_⟩
    · unfold codec_Little.f codec_exist.f
      rw [if_pos (by decide), if_pos (by decide), if_pos (by omega), w64 (by omega) (by omega), Option.bind_some, decide_eq_true (by omega), if_pos rfl, show wrap64 (2 - 1) = 1 by decide +kernel,
        E_LittleStep hl hn ha (by decide) (by omega) (by decide) (by decide), show (1 : Int) - 1 = 0 by decide, E_LittleStep hl hn ha (by decide) (by omega) (by omega) (by omega), show (0 : Int) - 1 = -1 by decide]
      simp only [codec_Little.l0]; rw [if_neg (by decide)]
    · unfold frustumref05_Little.f frustumref05_inside.f
      rw [if_pos (by decide), if_pos (by decide), if_pos (by omega), w64 (by omega) (by omega), Option.bind_some, decide_eq_true (by omega), if_pos rfl, show wrap64 (2 - 1) = 1 by decide +kernel,
        F_LittleStep hl hn ha (by decide) (by omega) (by decide) (by decide), show (1 : Int) - 1 = 0 by decide, F_LittleStep hl hn ha (by decide) (by omega) (by omega) (by omega), show (0 : Int) - 1 = -1 by decide]
      simp only [frustumref05_Little.l0]; rw [if_neg (by decide)]
  · exact ⟨_, E_Little4 hk hl hn ha hi, F_Little4 hk hl hn ha hi⟩
theorem index_in {k : Nat} (hk : 8 ≤ k) {l : List Int} (hl : ∀ x ∈ l, 0 ≤ x ∧ x ≤ 255) (hn : (l.length : Int) ≤ 140737488355328) {s i : Int} (hs : s = 1 ∨ s = 2 ∨ s = 4) (hi : 0 ≤ i) : ∃ r, fetch_Index.j0 k l i s false = some r ∧ frustumref15_Index.j0 k l i s false = some r := by
  obtain ⟨k, rfl⟩ : ∃ m, k = m + 1 := ⟨k - 1, by omega⟩
  have hd : 0 ≤ (l.length : Int) / s ∧ (l.length : Int) / s ≤ l.length := by rcases hs with rfl | rfl | rfl <;> omega
  by_cases c : i ≥ (l.length : Int) / s
  · refine ⟨0, ?_, ?_⟩
    · simp only [fetch_Index.j0]; rw [if_neg (by simp), if_neg (by omega), w64 (x := (l.length : Int) / s) (by omega) (by omega), if_pos c]
    · simp only [frustumref15_Index.j0]; rw [if_neg (by simp), if_neg (by omega), w64 (x := (l.length : Int) / s) (by omega) (by omega), if_pos c]
  have hm : 0 ≤ i * s ∧ i * s + s ≤ l.length := by rcases hs with rfl | rfl | rfl <;> omega
  obtain ⟨r, h1, h2⟩ := little_same (k := k) (by omega) hl hn hs hm.1 hm.2
  have h8 : 0 ≤ wrap64 (8 * s) := by rcases hs with rfl | rfl | rfl <;> decide +kernel
  refine ⟨if r = wrap64 (shl .i64 1 (wrap64 (8 * s)) - 1) then -1 else r, ?_, ?_⟩
  · simp only [fetch_Index.j0]; rw [if_neg (by simp), if_neg (by omega), w64 (x := (l.length : Int) / s) (by omega) (by omega), if_neg c, w64 (x := i * s) (by omega) (by omega), h1, Option.bind_some, if_pos h8]; split <;> rfl
  · simp only [frustumref15_Index.j0]; rw [if_neg (by simp), if_neg (by omega), w64 (x := (l.length : Int) / s) (by omega) (by omega), if_neg c, w64 (x := i * s) (by omega) (by omega), h2, Option.bind_some, if_pos h8]; split <;> rfl
theorem index_same {k : Nat} (hk : 8 ≤ k) {l : List Int} (hl : ∀ x ∈ l, 0 ≤ x ∧ x ≤ 255) (hn : (l.length : Int) ≤ 140737488355328) (t i : Int) : ∃ r, fetch_Index.f k l t i = some r ∧ frustumref15_Index.f k l t i = some r := by
  unfold fetch_Index.f frustumref15_Index.f
  rw [E_ISize, F_ISize, Option.bind_some, Option.bind_some]
  obtain ⟨k', rfl⟩ : ∃ m, k = m + 1 := ⟨k - 1, by omega⟩
  have out : ∀ s, fetch_Index.j0 (k' + 1) l i s true = some 0 ∧ frustumref15_Index.j0 (k' + 1) l i s true = some 0 := fun s => ⟨by simp only [fetch_Index.j0]; rw [if_pos trivial], by simp only [frustumref15_Index.j0]; rw [if_pos trivial]⟩
  by_cases c : i < 0
  · rw [if_pos c, if_pos c]; exact ⟨0, (out _).1, (out _).2⟩
  rw [if_neg c, if_neg c]
  rcases isize_cases t with e | e | e
  · rw [e, decide_eq_true (by decide)]; exact ⟨0, (out _).1, (out _).2⟩
  · rw [e, decide_eq_false (by decide)]
    refine ⟨i, ?_, ?_⟩
    · simp only [fetch_Index.j0]; rw [if_neg (by simp), if_pos trivial]
    · simp only [frustumref15_Index.j0]; rw [if_neg (by simp), if_pos trivial]
  · rw [decide_eq_false (by omega)]; exact index_in hk hl hn e (by omega)
theorem indices_loop {l : List Int} (hl : ∀ x ∈ l, 0 ≤ x ∧ x ≤ 255) (hn : (l.length : Int) ≤ 140737488355328) (t f c : Int) (hf : 0 ≤ f ∧ f ≤ 65536) (hc : 0 ≤ c ∧ c ≤ 1024) (m : Nat) : ∀ (k n : Nat) (acc : List Int), c - n ≤ m → acc.length = n → n ≤ c → m + 10 < k →
    ∃ r, fetch_Indices.l0 k l t f acc c (n : Int) = some r ∧ frustumref15_Indices.l0 k l t f c acc (n : Int) = some r ∧ (r.length : Int) ≤ 1024 := by
  induction m with
  | zero =>
    intro k n acc h1 h2 h3 hk
    obtain ⟨k, rfl⟩ : ∃ m, k = m + 1 := ⟨k - 1, by omega⟩
    simp only [fetch_Indices.l0, frustumref15_Indices.l0]
    rw [if_neg (by omega), if_neg (by omega)]; exact ⟨acc, rfl, rfl, by omega⟩
  | succ m ih =>
    intro k n acc h1 h2 h3 hk
    obtain ⟨k, rfl⟩ : ∃ m, k = m + 1 := ⟨k - 1, by omega⟩
    simp only [fetch_Indices.l0, frustumref15_Indices.l0]
    by_cases c1 : (n : Int) < c
    · rw [if_pos c1, if_pos c1, w64 (x := f + n) (by omega) (by omega)]
      obtain ⟨r, e1, e2⟩ := index_same (k := k) (by omega) hl hn t (f + n)
      rw [e1, e2, Option.bind_some, Option.bind_some, if_pos (by omega), if_pos (by omega), w64 (by omega) (by omega), show ((n : Int) + 1) = ((n + 1 : Nat) : Int) by omega]
      exact ih k (n + 1) _ (by omega) (by simp; omega) (by omega) (by omega)
    · rw [if_neg c1, if_neg c1]; exact ⟨acc, rfl, rfl, by omega⟩
theorem mxmn (f B : Int) (hB : 0 ≤ B) : mx 0 (mn B f) = mn (mx f 0) B ∧ 0 ≤ mn (mx f 0) B ∧ mn (mx f 0) B ≤ B := by
  unfold mx mn
  by_cases h1 : f < B <;> by_cases h2 : f < 0 <;> simp only [h1, h2, if_true, if_false] <;> (repeat' split) <;> omega
theorem indices_same {k : Nat} (hk : 1040 ≤ k) {l : List Int} (hl : ∀ x ∈ l, 0 ≤ x ∧ x ≤ 255) (hn : (l.length : Int) ≤ 140737488355328) (t f c : Int) : ∃ r, fetch_Indices.f k l t f c = some r ∧ frustumref15_Indices.f k l t f c = some r ∧ (r.length : Int) ≤ 1024 := by
  unfold fetch_Indices.f frustumref15_Indices.f
  rw [E_ISize, F_ISize, Option.bind_some, Option.bind_some]
  by_cases c1 : ISIZE t < 0
  · rw [if_pos c1, if_pos c1]; exact ⟨[], rfl, rfl, by simp⟩
  have hf := mxmn f 65536 (by decide)
  have hc := mxmn c 1024 (by decide)
  rw [if_neg c1, if_neg c1, hf.1, hc.1]
  exact indices_loop hl hn t _ _ hf.2 hc.2 1024 k 0 [] (by omega) rfl (by omega) (by omega)
theorem FetchIndices {l : List Int} (t f c : Int) (m : List S46) (b : List (List Int)) (v : Int) (hw : ∀ x ∈ l, (Lit.int .u8 x).wf = true) (hn : l.length * 1 ≤ 140737488351232) : frustumlaw15_FetchIndices.f 1200 l t f c m b v = some true := by
  have hl : ∀ x ∈ l, 0 ≤ x ∧ x ≤ 255 := fun x hx => bounds_u8 (hw x hx)
  obtain ⟨r, h1, h2, h3⟩ := indices_same (k := 1200) (by decide) hl (by omega) t f c
  unfold frustumlaw15_FetchIndices.f
  rw [h1, Option.bind_some, h2, Option.bind_some, E_same _ _ (by omega) (by omega), Option.bind_some, if_pos (decide_eq_true rfl), E_ex15 (by decide)]; rfl
end Go.Proofs.YtincgennmjoidaaRR.Pure
