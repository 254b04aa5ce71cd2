/- IndexSize, Components and Valid return what the reference returns: for every index type and all attributes, no condition. -/
import Derived.Test.YtincgennmjoidaaRRPFetchLayoutx3
import Derived.Test.YtincgennmjoidaaRRMath
import Derived.OpenShut
namespace Go.Proofs.YtincgennmjoidaaRR.Pure
open Go.RowKit Go.Proofs.YtincgennmjoidaaRR.PFetchLayout Go.Proofs.YtincgennmjoidaaRRW.PrintWords Go.Proofs.YtincgennmjoidaaRRW.PrintLast Go.Proofs.YtincgennmjoidaaRRW.PrintMore Go.Proofs.YtincgennmjoidaaRR.M Go.OpenShut
set_option linter.unusedVariables false
set_option linter.unusedSimpArgs false
theorem mx_eq (a b : Int) : mx a b = max a b := by unfold mx; split <;> omega
theorem mn_eq (a b : Int) : mn a b = min a b := by unfold mn; split <;> omega
theorem w64 {x : Int} (h1 : -9223372036854775808 ≤ x) (h2 : x ≤ 9223372036854775807) : wrap64 x = x := by unfold wrap64; omega
theorem u64 {x : Int} (h1 : 0 ≤ x) (h2 : x ≤ 18446744073709551615) : IntKind.u64.wrap x = x := by
  simp only [IntKind.wrap, IntKind.bits, IntKind.signed]; simp; omega
theorem and16 (x : Int) : Go.bits .and .i64 x 65535 = x % 65536 := by
  show IntKind.i64.wrap ((BitVec.ofInt 64 x &&& BitVec.ofInt 64 65535).toNat : Int) = _
  rw [IntKind.wrap_i64, BitVec.toNat_and, BitVec.toNat_ofInt, BitVec.toNat_ofInt,
    show ((65535 : Int) % ((2 ^ 64 : Nat) : Int)).toNat = 2 ^ 16 - 1 by decide, Nat.and_two_pow_sub_one_eq_mod]
  omega
theorem bv_andNot (x : BitVec 64) : (x &&& ~~~65535#64).toNat + x.toNat % 65536 = x.toNat := by
  have h : (x &&& 65535#64) + (x &&& ~~~65535#64) = x := by
    rw [BitVec.add_eq_or_of_and_eq_zero]
    · ext i hi; simp only [BitVec.getElem_or, BitVec.getElem_and, BitVec.getElem_not]; cases x[i] <;> simp
    · ext i hi; simp only [BitVec.getElem_and, BitVec.getElem_not, BitVec.getElem_zero]; cases (65535#64)[i] <;> simp
  have h' := congrArg BitVec.toNat h
  have hlt := x.isLt
  have hle : (x &&& ~~~65535#64).toNat ≤ x.toNat := by rw [BitVec.toNat_and]; exact Nat.and_le_left
  have hle2 : (x &&& ~~~65535#64).toNat % 65536 = 0 := by
    have : (x &&& ~~~65535#64).toNat % 2 ^ 16 = 0 := by
      rw [BitVec.toNat_and, Nat.and_mod_two_pow, show (~~~65535#64).toNat % 2 ^ 16 = 0 by decide, Nat.and_zero]
    exact this
  rw [BitVec.toNat_add, BitVec.toNat_and, show (65535#64).toNat = 2 ^ 16 - 1 by decide, Nat.and_two_pow_sub_one_eq_mod] at h'
  omega
theorem andNot16 (x : Int) (h1 : -9223372036854775808 ≤ x) (h2 : x ≤ 9223372036854775807) : Go.bits .andNot .i64 x 65535 = x / 65536 * 65536 := by
  show IntKind.i64.wrap ((BitVec.ofInt 64 x &&& ~~~BitVec.ofInt 64 65535).toNat : Int) = _
  have h := bv_andNot (BitVec.ofInt 64 x)
  rw [BitVec.toNat_ofInt] at h
  rw [IntKind.wrap_i64, show BitVec.ofInt 64 65535 = 65535#64 by decide]
  omega
def LE4 (l : List Int) (at_ : Int) : Int := rd l at_ + 256 * rd l (at_ + 1) + 65536 * rd l (at_ + 2) + 16777216 * rd l (at_ + 3)
theorem byte_rd {l : List Int} (hl : ∀ x ∈ l, 0 ≤ x ∧ x ≤ 255) (i : Int) : 0 ≤ rd l i ∧ rd l i ≤ 255 := by
  unfold rd
  by_cases h : i.toNat < l.length
  · rw [List.getD_eq_getElem?_getD, List.getElem?_eq_getElem h]; exact hl _ (List.getElem_mem h)
  · rw [List.getD_eq_getElem?_getD, List.getElem?_eq_none (by omega)]; exact ⟨by decide, by decide⟩
theorem or8 {x y : Int} (hx₀ : 0 ≤ x) (hx₁ : x < 36028797018963968) (h₀ : 0 ≤ y) (h₁ : y ≤ 255) : Go.bits .or .i64 (x * 256) y = x * 256 + y :=
  bits_join .i64 63 (by decide) (fun n h1 h2 => by rw [IntKind.wrap_i64]; omega) 8 (x * 256) y (by omega) (by omega) (by omega) h₀ (by omega) (by omega)
theorem E_LittleStep {k : Nat} {l : List Int} (hl : ∀ x ∈ l, 0 ≤ x ∧ x ≤ 255) (hn : (l.length : Int) ≤ 140737488355328) {at_ n i : Int} (ha : 0 ≤ at_) (hi0 : 0 ≤ i) (hi : at_ + i < l.length) (hn0 : 0 ≤ n) (hn1 : n < 4294967296) :
    codec_Little.l0 (k + 1) l at_ n i = codec_Little.l0 k l at_ (n * 256 + rd l (at_ + i)) (i - 1) := by
  have hb := byte_rd hl (at_ + i)
  simp only [codec_Little.l0]
  rw [if_pos (by omega), w64 (x := at_ + i) (by omega) (by omega), if_pos (by omega), if_pos (by omega), w64 (x := n * 256) (by omega) (by omega), w64 (x := rd l (at_ + i)) (by omega) (by omega), w64 (x := i - 1) (by omega) (by omega),
    or8 hn0 (by omega) hb.1 hb.2]
theorem E_Little4 {k : Nat} (hk : 6 ≤ k) {l : List Int} (hl : ∀ x ∈ l, 0 ≤ x ∧ x ≤ 255) (hn : (l.length : Int) ≤ 140737488355328) {at_ : Int} (ha : 0 ≤ at_) (hi : at_ + 4 ≤ l.length) : codec_Little.f k l at_ 4 = some (LE4 l at_) := by
  obtain ⟨k, rfl⟩ : ∃ m, k = m + 5 := ⟨k - 5, by omega⟩
  have h0 := byte_rd hl (at_ + 0)
  have h1 := byte_rd hl (at_ + 1)
  have h2 := byte_rd hl (at_ + 2)
  have h3 := byte_rd hl (at_ + 3)
  unfold codec_Little.f codec_exist.f
  rw [if_pos (by decide), if_pos (by decide), if_pos (by omega), w64 (by omega) (by omega), Option.bind_some, decide_eq_true (by omega), if_pos rfl, show wrap64 (4 - 1) = 3 by decide +kernel,
    E_LittleStep hl hn ha (by decide) (by omega) (by decide) (by decide), show (3 : Int) - 1 = 2 by decide, E_LittleStep hl hn ha (by decide) (by omega) (by omega) (by omega), show (2 : Int) - 1 = 1 by decide,
    E_LittleStep hl hn ha (by decide) (by omega) (by omega) (by omega), show (1 : Int) - 1 = 0 by decide, E_LittleStep hl hn ha (by decide) (by omega) (by omega) (by omega), show (0 : Int) - 1 = -1 by decide]
  simp only [codec_Little.l0]
  rw [if_neg (by decide)]
  unfold LE4
  rw [show at_ + 0 = at_ by omega] at *
  congr 1; omega
theorem up15 {α : Type} {f : Nat → Option α} (mono : ∀ k, LeO (f k) (f (k + 1))) {r : α} {n : Nat} (h : f n = some r) : ∀ {k : Nat}, n ≤ k → f k = some r := by
  intro k hk
  obtain ⟨d, rfl⟩ : ∃ d, k = n + d := ⟨k - n, by omega⟩
  clear hk
  induction d with
  | zero => exact h
  | succ d ih => exact mono _ _ ih
theorem rd_at (l : List Int) (n : Nat) (h : n < l.length) : rd l (n : Int) = l[n] := by unfold rd; simp [List.getD_eq_getElem?_getD, List.getElem?_eq_getElem h]
theorem rd_of {l : List Int} {n : Nat} {v : Int} (h : l[n]? = some v) : rd l (n : Int) = v := by unfold rd; simp [List.getD_eq_getElem?_getD, h]
theorem lt_of_get {α : Type} {l : List α} {n : Nat} {v : α} (h : l[n]? = some v) : n < l.length := by
  rw [List.getElem?_eq_some_iff] at h; exact h.1
theorem drop_eq (l m : List Int) (n : Nat) (h : n < l.length) (g : n < m.length) : (l.drop n = m.drop n) ↔ (l[n] = m[n] ∧ l.drop (n + 1) = m.drop (n + 1)) := by
  rw [List.drop_eq_getElem_cons h, List.drop_eq_getElem_cons g, List.cons.injEq]
theorem same_loop (l m : List Int) (he : l.length = m.length) (hn : (l.length : Int) ≤ 140737488355328) (d : Nat) : ∀ (k n : Nat), n + d = l.length → d < k → frustumlaw15_same.l0 k l m (n : Int) = some (decide (l.drop n = m.drop n)) := by
  induction d with
  | zero =>
    intro k n h1 hk
    obtain ⟨k, rfl⟩ : ∃ m, k = m + 1 := ⟨k - 1, by omega⟩
    simp only [frustumlaw15_same.l0]; rw [if_neg (by omega), List.drop_eq_nil_of_le (by omega), List.drop_eq_nil_of_le (by omega)]; rfl
  | succ d ih =>
    intro k n h1 hk
    obtain ⟨k, rfl⟩ : ∃ m, k = m + 1 := ⟨k - 1, by omega⟩
    simp only [frustumlaw15_same.l0]
    have hd := drop_eq l m n (by omega) (by omega)
    rw [if_pos (by omega), if_pos (by omega), if_pos (by omega), rd_at l n (by omega), rd_at m n (by omega)]
    by_cases c : l[n] = m[n]
    · rw [if_pos c, w64 (by omega) (by omega)]
      have := ih k (n + 1) (by omega) (by omega)
      rw [show ((n : Int) + 1) = ((n + 1 : Nat) : Int) by omega, this]
      congr 1; exact decide_eq_decide.2 (by rw [hd]; exact ⟨fun h => ⟨c, h⟩, fun h => h.2⟩)
    · rw [if_neg c]; congr 1; exact (decide_eq_false (fun h => c (hd.1 h).1)).symm
theorem E_same {k : Nat} (l m : List Int) (hn : (l.length : Int) ≤ 140737488355328) (hk : l.length < k) : frustumlaw15_same.f k l m = some (decide (l = m)) := by
  unfold frustumlaw15_same.f
  by_cases c : l.length = m.length
  · rw [if_pos (by omega)]
    exact same_loop l m c hn l.length k 0 (by omega) hk
  · rw [if_neg (by omega)]; congr 1; exact (decide_eq_false (fun h => c (by rw [h]))).symm
theorem E_ex15 {k : Nat} (hk : 20 ≤ k) : frustumlaw15_example.f k = some true := up15 (fun k => frustumlaw15_example.mono k) (n := 20) (by decide +kernel) hk
def UNI : List Int → List Int → List Int → List Int × List Int
  | [], d, p => (d, p)
  | x :: r, d, p => if x < 0 then UNI r d (p ++ [-1]) else if x ∈ d then UNI r d (p ++ [((d.idxOf x : Nat) : Int)]) else UNI r (d ++ [x]) (p ++ [(d.length : Int)])
theorem uni_loop (l : List Int) (hw : ∀ x ∈ l, x ≤ 9223372036854775807) (hn : l.length ≤ 1000) (m : Nat) : ∀ (k n : Nat) (d p : List Int), n + m = l.length → m < k → d.length ≤ n → p.length = n → fetch_Unique.l0 k l d p (n : Int) = some (UNI (l.drop n) d p) := by
  induction m with
  | zero =>
    intro k n d p h1 hk hd hp
    obtain ⟨k, rfl⟩ : ∃ m, k = m + 1 := ⟨k - 1, by omega⟩
    simp only [fetch_Unique.l0]; rw [if_neg (by omega), List.drop_eq_nil_of_le (by omega)]; rfl
  | succ m ih =>
    intro k n d p h1 hk hd hp
    obtain ⟨k, rfl⟩ : ∃ m, k = m + 1 := ⟨k - 1, by omega⟩
    simp only [fetch_Unique.l0]
    have hx := hw l[n] (List.getElem_mem (by omega))
    rw [if_pos (by omega), if_pos (by omega), rd_at l n (by omega), w64 (by omega) (by omega), show ((n : Int) + 1) = ((n + 1 : Nat) : Int) by omega, List.drop_eq_getElem_cons (show n < l.length by omega)]
    unfold UNI
    by_cases c1 : l[n] < 0
    · rw [if_pos c1, if_pos c1, if_pos (by omega)]; exact ih k (n + 1) _ _ (by omega) (by omega) (by omega) (by simp; omega)
    rw [if_neg c1, if_neg c1, if_pos hx, if_pos (by omega), if_pos (by omega)]
    by_cases c2 : l[n] ∈ d
    · rw [if_pos c2, if_pos c2]; exact ih k (n + 1) _ _ (by omega) (by omega) (by omega) (by simp; omega)
    · rw [if_neg c2, if_neg c2]; exact ih k (n + 1) _ _ (by omega) (by omega) (by simp; omega) (by simp; omega)
theorem E_Unique {k : Nat} (l : List Int) (hw : ∀ x ∈ l, (Lit.int .i64 x).wf = true) (hn : l.length ≤ 1000) (hk : l.length < k) : fetch_Unique.f k l = some (UNI l [] []) :=
  uni_loop l (fun x hx => (bounds_i64 (hw x hx)).2) hn l.length k 0 [] [] (by omega) hk (by simp) rfl
theorem uni_len : ∀ (r d p : List Int), (UNI r d p).1.length ≤ d.length + r.length ∧ (UNI r d p).2.length = p.length + r.length
  | [], d, p => by unfold UNI; simp
  | x :: r, d, p => by
    unfold UNI
    split
    · have := uni_len r d (p ++ [-1]); simp at this ⊢; omega
    split
    · have := uni_len r d (p ++ [((d.idxOf x : Nat) : Int)]); simp at this ⊢; omega
    · have := uni_len r (d ++ [x]) (p ++ [(d.length : Int)]); simp at this ⊢; omega
def ISIZE (t : Int) : Int := if t = 1 then 0 else if t = 2 then 1 else if t = 3 then 2 else if t = 4 then 4 else -1
theorem E_ISize (t : Int) : fetch_IndexSize.f t = some (ISIZE t) := by
  unfold fetch_IndexSize.f ISIZE; repeat' split
  all_goals rfl
theorem isize_cases (t : Int) : ISIZE t = -1 ∨ ISIZE t = 0 ∨ ISIZE t = 1 ∨ ISIZE t = 2 ∨ ISIZE t = 4 := by
  unfold ISIZE; repeat' split
  all_goals omega
theorem F_ISize (t : Int) : frustumref15_IndexSize.f t = some (ISIZE t) := by
  unfold frustumref15_IndexSize.f ISIZE; repeat' split
  all_goals rfl
def COMP (f : Int) : Int := if f = 1 ∨ f = 8 then 1 else if f = 2 ∨ f = 6 then 2 else if f = 3 then 3 else if f = 4 ∨ f = 5 ∨ f = 7 then 4 else 0
theorem fmt_cases (f : Int) : f = 1 ∨ f = 2 ∨ f = 3 ∨ f = 4 ∨ f = 5 ∨ f = 6 ∨ f = 7 ∨ f = 8 ∨ (f ≠ 1 ∧ f ≠ 2 ∧ f ≠ 3 ∧ f ≠ 4 ∧ f ≠ 5 ∧ f ≠ 6 ∧ f ≠ 7 ∧ f ≠ 8) := by omega
theorem E_Comp (f : Int) {k : Nat} (hk : 6 ≤ k) : buffer_Components.f k f = some (COMP f) := by
  obtain ⟨k, rfl⟩ : ∃ m, k = m + 6 := ⟨k - 6, by omega⟩
  rcases fmt_cases f with rfl | rfl | rfl | rfl | rfl | rfl | rfl | rfl | ⟨h1, h2, h3, h4, h5, h6, h7, h8⟩
  all_goals first | rfl | simp [buffer_Components.f, buffer_Components.j0, buffer_Components.j1, COMP, *]
theorem F_Comp (f : Int) {k : Nat} (hk : 6 ≤ k) : frustumref14_Components.f k f = some (COMP f) := by
  obtain ⟨k, rfl⟩ : ∃ m, k = m + 6 := ⟨k - 6, by omega⟩
  rcases fmt_cases f with rfl | rfl | rfl | rfl | rfl | rfl | rfl | rfl | ⟨h1, h2, h3, h4, h5, h6, h7, h8⟩
  all_goals first | rfl | simp [frustumref14_Components.f, frustumref14_Components.j0, frustumref14_Components.j1, COMP, *]
theorem comp_bd (f : Int) : 0 ≤ COMP f ∧ COMP f ≤ 4 := by unfold COMP; repeat' split
                                                          all_goals omega
def SIZE (f : Int) : Int := if f = 5 then 4 else if f = 6 ∨ f = 7 then 2 * COMP f else 4 * COMP f
theorem E_Size (f : Int) {k : Nat} (hk : 6 ≤ k) : buffer_Size.f k f = some (SIZE f) := by
  have hb := comp_bd f
  unfold buffer_Size.f buffer_width.f SIZE
  rw [E_Comp f hk, Option.bind_some]
  by_cases c5 : f = 5
  · subst c5; rw [if_pos rfl, if_pos rfl]; simp only [Option.bind_some]; rw [w64 (by omega) (by omega)]; rfl
  rw [if_neg c5, if_neg c5]
  by_cases c6 : f = 6
  · subst c6; rw [if_pos rfl, if_pos (by omega)]; simp only [Option.bind_some]; rw [w64 (by omega) (by omega), Int.mul_comm]
  rw [if_neg c6]
  by_cases c7 : f = 7
  · subst c7; rw [if_pos rfl, if_pos (by omega)]; simp only [Option.bind_some]; rw [w64 (by omega) (by omega), Int.mul_comm]
  rw [if_neg c7, if_neg (by omega)]; simp only [Option.bind_some]; rw [w64 (by omega) (by omega)]; congr 1; omega
theorem size_pos (f : Int) : decide (SIZE f > 0) = decide (COMP f > 0) := by
  have hb := comp_bd f
  apply decide_eq_decide.2
  unfold SIZE
  by_cases c5 : f = 5
  · subst c5; decide
  rw [if_neg c5]; split <;> omega
def VAB (b o s f : Int) : Bool := decide (0 ≤ b ∧ b ≤ 3 ∧ 0 ≤ o ∧ o ≤ 4096 ∧ 0 ≤ s ∧ s ≤ 256 ∧ COMP f > 0)
theorem F_VA (b o s f : Int) {k : Nat} (hk : 8 ≤ k) : frustumref14_ValidAttribute.f k b o s f = some (VAB b o s f) := by
  unfold frustumref14_ValidAttribute.f VAB
  rw [F_Comp f (by omega), Option.bind_some]
  by_cases c1 : b ≥ 0
  · rw [if_pos c1]
    by_cases c2 : b ≤ 3
    · rw [if_pos c2]
      by_cases c3 : o ≥ 0
      · rw [if_pos c3]
        by_cases c4 : o ≤ 4096
        · rw [if_pos c4]
          by_cases c5 : s ≥ 0
          · rw [if_pos c5]
            by_cases c6 : s ≤ 256
            · rw [if_pos c6]; congr 1; exact decide_eq_decide.2 (by omega)
            · rw [if_neg c6]; congr 1; exact (decide_eq_false (by omega)).symm
          · rw [if_neg c5]; congr 1; exact (decide_eq_false (by omega)).symm
        · rw [if_neg c4]; congr 1; exact (decide_eq_false (by omega)).symm
      · rw [if_neg c3]; congr 1; exact (decide_eq_false (by omega)).symm
    · rw [if_neg c2]; congr 1; exact (decide_eq_false (by omega)).symm
  · rw [if_neg c1]; congr 1; exact (decide_eq_false (by omega)).symm
theorem E_VA (b o s f : Int) {k : Nat} (hk : 8 ≤ k) : buffer_ValidAttribute.f k b o s f = some (VAB b o s f) := by
  rw [← F_VA b o s f hk]
  unfold buffer_ValidAttribute.f frustumref14_ValidAttribute.f
  rw [E_Size f (by omega), F_Comp f (by omega)]
  simp only [Option.bind_some, size_pos]
  by_cases c1 : b ≥ 0
  · by_cases c2 : b < 4
    · rw [if_pos c1, if_pos c2, if_pos c1, if_pos (show b ≤ 3 by omega)]
    · rw [if_pos c1, if_neg c2, if_pos c1, if_neg (by omega)]
  · rw [if_neg c1, if_neg c1]
theorem rdT (l : List S46) (n : Nat) (h : n < l.length) : rd_T46 l (n : Int) = l[n] := by unfold rd_T46; simp [List.getD_eq_getElem?_getD, List.getElem?_eq_getElem h]
theorem comps_loop (l : List S46) (hn : l.length ≤ 1000) (m : Nat) : ∀ (k n : Nat) (acc : Int), n + m = l.length → m + 10 < k → 0 ≤ acc → acc ≤ 4 * n → ∃ r, fetch_Components.l0 k acc l (l.length : Int) (n : Int) = some r ∧ frustumref15_Components.l0 k l acc (n : Int) = some r := by
  induction m with
  | zero =>
    intro k n acc h1 hk h2 h3
    obtain ⟨k, rfl⟩ : ∃ m, k = m + 1 := ⟨k - 1, by omega⟩
    simp only [fetch_Components.l0, frustumref15_Components.l0]
    rw [if_neg (by omega), if_neg (by omega)]; exact ⟨acc, rfl, rfl⟩
  | succ m ih =>
    intro k n acc h1 hk h2 h3
    obtain ⟨k, rfl⟩ : ∃ m, k = m + 1 := ⟨k - 1, by omega⟩
    simp only [fetch_Components.l0, frustumref15_Components.l0]
    have hb := comp_bd (rd_T46 l n).f3
    rw [if_pos (by omega), if_pos (by omega), if_pos (by omega), if_pos (by omega), if_pos (by omega), E_Comp _ (by omega), F_Comp _ (by omega), Option.bind_some, Option.bind_some, w64 (by omega) (by omega), w64 (by omega) (by omega), show ((n : Int) + 1) = ((n + 1 : Nat) : Int) by omega]
    exact ih k (n + 1) _ (by omega) (by omega) (by omega) (by omega)
theorem comps_same {k : Nat} (l : List S46) (hn : l.length ≤ 1000) (hk : l.length + 10 < k) : ∃ r, fetch_Components.f k l = some r ∧ frustumref15_Components.f k l = some r :=
  comps_loop l hn l.length k 0 0 (by omega) hk (by decide) (by decide)
theorem evalid_loop (l : List S46) (hn : l.length ≤ 1000) (m : Nat) : ∀ (k n : Nat), n + m = l.length → m + 10 < k → fetch_Valid.l0 k l (l.length : Int) (n : Int) = some ((l.drop n).all fun s => VAB s.f0 s.f1 s.f2 s.f3) := by
  induction m with
  | zero =>
    intro k n h1 hk
    obtain ⟨k, rfl⟩ : ∃ m, k = m + 1 := ⟨k - 1, by omega⟩
    simp only [fetch_Valid.l0]; rw [if_neg (by omega), List.drop_eq_nil_of_le (by omega)]; rfl
  | succ m ih =>
    intro k n h1 hk
    obtain ⟨k, rfl⟩ : ∃ m, k = m + 1 := ⟨k - 1, by omega⟩
    simp only [fetch_Valid.l0]
    rw [if_pos (by omega), if_pos (by omega), if_pos (by omega), E_VA _ _ _ _ (by omega), Option.bind_some, rdT l n (by omega), List.drop_eq_getElem_cons (show n < l.length by omega), List.all_cons]
    by_cases c : VAB l[n].f0 l[n].f1 l[n].f2 l[n].f3 = true
    · rw [if_pos c, c, Bool.true_and, w64 (by omega) (by omega), show ((n : Int) + 1) = ((n + 1 : Nat) : Int) by omega]; exact ih k (n + 1) (by omega) (by omega)
    · rw [if_neg c, Bool.eq_false_iff.mpr c, Bool.false_and]
theorem fvalid_loop (l : List S46) (hn : l.length ≤ 1000) {r : Int} (m : Nat) : ∀ (k n : Nat), n + m = l.length → m + 1020 < k → (∀ k, 1015 ≤ k → frustumref15_Components.f k l = some r) → frustumref15_Valid.l0 k l (n : Int) = some (((l.drop n).all fun s => VAB s.f0 s.f1 s.f2 s.f3) && decide (r ≤ 32)) := by
  induction m with
  | zero =>
    intro k n h1 hk hr
    obtain ⟨k, rfl⟩ : ∃ m, k = m + 1 := ⟨k - 1, by omega⟩
    simp only [frustumref15_Valid.l0]; rw [if_neg (by omega), hr k (by omega), Option.bind_some, List.drop_eq_nil_of_le (by omega)]; rfl
  | succ m ih =>
    intro k n h1 hk hr
    obtain ⟨k, rfl⟩ : ∃ m, k = m + 1 := ⟨k - 1, by omega⟩
    simp only [frustumref15_Valid.l0]
    rw [if_pos (by omega), if_pos (by omega), F_VA _ _ _ _ (by omega), Option.bind_some, rdT l n (by omega), List.drop_eq_getElem_cons (show n < l.length by omega), List.all_cons]
    by_cases c : VAB l[n].f0 l[n].f1 l[n].f2 l[n].f3 = true
    · rw [if_pos c, c, Bool.true_and, w64 (by omega) (by omega), show ((n : Int) + 1) = ((n + 1 : Nat) : Int) by omega]; exact ih k (n + 1) (by omega) (by omega) hr
    · rw [if_neg c, Bool.eq_false_iff.mpr c, Bool.false_and, Bool.false_and]
theorem valid_same {k : Nat} (l : List S46) (hn : l.length ≤ 1000) (hk : 2040 ≤ k) : ∃ r, fetch_Valid.f k l = some r ∧ frustumref15_Valid.f k l = some r := by
  obtain ⟨k, rfl⟩ : ∃ m, k = m + 1 := ⟨k - 1, by omega⟩
  unfold fetch_Valid.f frustumref15_Valid.f
  by_cases c : (l.length : Int) > 8
  · rw [if_pos c, if_pos c]; exact ⟨false, by simp only [fetch_Valid.j0]; rw [if_pos trivial], rfl⟩
  rw [if_neg c, if_neg c]
  obtain ⟨r, h1, h2⟩ := comps_same (k := 1015) l hn (by omega)
  have e1 : ∀ k, 1015 ≤ k → fetch_Components.f k l = some r := fun k hk => up15 (fun k => fetch_Components.mono l k) h1 hk
  have e2 : ∀ k, 1015 ≤ k → frustumref15_Components.f k l = some r := fun k hk => up15 (fun k => frustumref15_Components.mono l k) h2 hk
  have ef := fvalid_loop l hn l.length (k + 1) 0 (by omega) (by omega) e2
  have ee := evalid_loop l hn l.length k 0 (by omega) (by omega)
  rw [e1 _ (by omega), Option.bind_some]
  refine ⟨_, ?_, ef⟩
  simp only [fetch_Valid.j0]
  rw [List.drop_zero] at *
  by_cases c2 : r > 32
  · rw [decide_eq_true c2, if_pos rfl, decide_eq_false (show ¬ r ≤ 32 by omega), Bool.and_false]
  · rw [decide_eq_false c2, if_neg (by simp), decide_eq_true (show r ≤ 32 by omega), Bool.and_true]; exact ee
theorem FetchLayout (t : Int) (l : List S46) : frustumlaw15_FetchLayout.f 3000 t l = some true := by
  unfold frustumlaw15_FetchLayout.f
  by_cases c : (l.length : Int) > 1000
  · rw [if_pos c, E_ex15 (by decide)]; rfl
  obtain ⟨r, h1, h2⟩ := comps_same (k := 3000) l (by omega) (by omega)
  obtain ⟨v, g1, g2⟩ := valid_same (k := 3000) l (by omega) (by omega)
  rw [if_neg c, E_ISize, Option.bind_some, F_ISize, Option.bind_some, if_pos rfl, h1, Option.bind_some, h2, Option.bind_some, if_pos rfl, g1, Option.bind_some, g2, Option.bind_some, if_pos (by simp), E_ex15 (by decide)]; rfl
end Go.Proofs.YtincgennmjoidaaRR.Pure
