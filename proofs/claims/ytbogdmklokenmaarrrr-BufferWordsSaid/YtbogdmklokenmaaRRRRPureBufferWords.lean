/- A number of 32 bits that is stored inside of a buffer is loaded again: for all bytes, indices and numbers of 64 bits, no condition. -/
import Derived.Test.YtbogdmklokenmaaRRRRPBufferWordsx2
import Derived.Test.YtbogdmklokenmaaRRRRMath
import Derived.OpenShut
namespace Go.Proofs.YtbogdmklokenmaaRRRR.Pure
open Go.RowKit Go.Proofs.YtbogdmklokenmaaRRRR.PBufferWords Go.Proofs.YtbogdmklokenmaaRRRRW.PrintWords Go.Proofs.YtbogdmklokenmaaRRRRW.PrintLast Go.Proofs.YtbogdmklokenmaaRRRRW.PrintMore Go.Proofs.YtbogdmklokenmaaRRRR.M Go.OpenShut
set_option linter.unusedVariables false
set_option linter.unusedSimpArgs false
theorem mx_eq (a b : Int) : mx a b = max a b := by unfold mx; split <;> omega
theorem mn_eq (a b : Int) : mn a b = min a b := by unfold mn; split <;> omega
theorem w64 {x : Int} (h1 : -9223372036854775808 ≤ x) (h2 : x ≤ 9223372036854775807) : wrap64 x = x := by unfold wrap64; omega
theorem u64 {x : Int} (h1 : 0 ≤ x) (h2 : x ≤ 18446744073709551615) : IntKind.u64.wrap x = x := by
  simp only [IntKind.wrap, IntKind.bits, IntKind.signed]; simp; omega
theorem and16 (x : Int) : Go.bits .and .i64 x 65535 = x % 65536 := by
  show IntKind.i64.wrap ((BitVec.ofInt 64 x &&& BitVec.ofInt 64 65535).toNat : Int) = _
  rw [IntKind.wrap_i64, BitVec.toNat_and, BitVec.toNat_ofInt, BitVec.toNat_ofInt,
    show ((65535 : Int) % ((2 ^ 64 : Nat) : Int)).toNat = 2 ^ 16 - 1 by decide, Nat.and_two_pow_sub_one_eq_mod]
  omega
theorem bv_andNot (x : BitVec 64) : (x &&& ~~~65535#64).toNat + x.toNat % 65536 = x.toNat := by
  have h : (x &&& 65535#64) + (x &&& ~~~65535#64) = x := by
    rw [BitVec.add_eq_or_of_and_eq_zero]
    · ext i hi; simp only [BitVec.getElem_or, BitVec.getElem_and, BitVec.getElem_not]; cases x[i] <;> simp
    · ext i hi; simp only [BitVec.getElem_and, BitVec.getElem_not, BitVec.getElem_zero]; cases (65535#64)[i] <;> simp
  have h' := congrArg BitVec.toNat h
  have hlt := x.isLt
  have hle : (x &&& ~~~65535#64).toNat ≤ x.toNat := by rw [BitVec.toNat_and]; exact Nat.and_le_left
  have hle2 : (x &&& ~~~65535#64).toNat % 65536 = 0 := by
    have : (x &&& ~~~65535#64).toNat % 2 ^ 16 = 0 := by
      rw [BitVec.toNat_and, Nat.and_mod_two_pow, show (~~~65535#64).toNat % 2 ^ 16 = 0 by decide, Nat.and_zero]
    exact this
  rw [BitVec.toNat_add, BitVec.toNat_and, show (65535#64).toNat = 2 ^ 16 - 1 by decide, Nat.and_two_pow_sub_one_eq_mod] at h'
  omega
theorem andNot16 (x : Int) (h1 : -9223372036854775808 ≤ x) (h2 : x ≤ 9223372036854775807) : Go.bits .andNot .i64 x 65535 = x / 65536 * 65536 := by
  show IntKind.i64.wrap ((BitVec.ofInt 64 x &&& ~~~BitVec.ofInt 64 65535).toNat : Int) = _
  have h := bv_andNot (BitVec.ofInt 64 x)
  rw [BitVec.toNat_ofInt] at h
  rw [IntKind.wrap_i64, show BitVec.ofInt 64 65535 = 65535#64 by decide]
  omega
theorem wrap32_eq (x : Int) : wrap32 x = (x + 2147483648) % 4294967296 - 2147483648 := by unfold wrap32; omega
theorem E_Wrap (x : Int) : fixed_Wrap.f x = some (WRAP x) := by
  unfold fixed_Wrap.f WRAP
  rw [wrap32_eq, show IntKind.u64.wrap x = x % 18446744073709551616 by simp [IntKind.wrap, IntKind.bits, IntKind.signed], w64 (by omega) (by omega)]
  congr 1; omega
def LE4 (l : List Int) (at_ : Int) : Int := rd l at_ + 256 * rd l (at_ + 1) + 65536 * rd l (at_ + 2) + 16777216 * rd l (at_ + 3)
theorem byte_rd {l : List Int} (hl : ∀ x ∈ l, 0 ≤ x ∧ x ≤ 255) (i : Int) : 0 ≤ rd l i ∧ rd l i ≤ 255 := by
  unfold rd
  by_cases h : i.toNat < l.length
  · rw [List.getD_eq_getElem?_getD, List.getElem?_eq_getElem h]; exact hl _ (List.getElem_mem h)
  · rw [List.getD_eq_getElem?_getD, List.getElem?_eq_none (by omega)]; exact ⟨by decide, by decide⟩
theorem or8 {x y : Int} (hx₀ : 0 ≤ x) (hx₁ : x < 36028797018963968) (h₀ : 0 ≤ y) (h₁ : y ≤ 255) : Go.bits .or .i64 (x * 256) y = x * 256 + y :=
  bits_join .i64 63 (by decide) (fun n h1 h2 => by rw [IntKind.wrap_i64]; omega) 8 (x * 256) y (by omega) (by omega) (by omega) h₀ (by omega) (by omega)
theorem E_LittleStep {k : Nat} {l : List Int} (hl : ∀ x ∈ l, 0 ≤ x ∧ x ≤ 255) (hn : (l.length : Int) ≤ 140737488355328) {at_ n i : Int} (ha : 0 ≤ at_) (hi0 : 0 ≤ i) (hi : at_ + i < l.length) (hn0 : 0 ≤ n) (hn1 : n < 4294967296) :
    codec_Little.l0 (k + 1) l at_ n i = codec_Little.l0 k l at_ (n * 256 + rd l (at_ + i)) (i - 1) := by
  have hb := byte_rd hl (at_ + i)
  simp only [codec_Little.l0]
  rw [if_pos (by omega), w64 (x := at_ + i) (by omega) (by omega), if_pos (by omega), if_pos (by omega), w64 (x := n * 256) (by omega) (by omega), w64 (x := rd l (at_ + i)) (by omega) (by omega), w64 (x := i - 1) (by omega) (by omega),
    or8 hn0 (by omega) hb.1 hb.2]
theorem E_Little4 {k : Nat} (hk : 6 ≤ k) {l : List Int} (hl : ∀ x ∈ l, 0 ≤ x ∧ x ≤ 255) (hn : (l.length : Int) ≤ 140737488355328) {at_ : Int} (ha : 0 ≤ at_) (hi : at_ + 4 ≤ l.length) : codec_Little.f k l at_ 4 = some (LE4 l at_) := by
  obtain ⟨k, rfl⟩ : ∃ m, k = m + 5 := ⟨k - 5, by omega⟩
  have h0 := byte_rd hl (at_ + 0)
  have h1 := byte_rd hl (at_ + 1)
  have h2 := byte_rd hl (at_ + 2)
  have h3 := byte_rd hl (at_ + 3)
  unfold codec_Little.f codec_exist.f
  rw [if_pos (by decide), if_pos (by decide), if_pos (by omega), w64 (by omega) (by omega), Option.bind_some, decide_eq_true (by omega), if_pos rfl, show wrap64 (4 - 1) = 3 by decide +kernel,
    E_LittleStep hl hn ha (by decide) (by omega) (by decide) (by decide), show (3 : Int) - 1 = 2 by decide, E_LittleStep hl hn ha (by decide) (by omega) (by omega) (by omega), show (2 : Int) - 1 = 1 by decide,
    E_LittleStep hl hn ha (by decide) (by omega) (by omega) (by omega), show (1 : Int) - 1 = 0 by decide, E_LittleStep hl hn ha (by decide) (by omega) (by omega) (by omega), show (0 : Int) - 1 = -1 by decide]
  simp only [codec_Little.l0]
  rw [if_neg (by decide)]
  unfold LE4
  rw [show at_ + 0 = at_ by omega] at *
  congr 1; omega
def LOAD (l : List Int) (i : Int) : Int := if i < 0 ∨ i ≥ (l.length : Int) / 4 then 0 else WRAP (LE4 l (4 * i))
theorem E_LoadInt {k : Nat} (hk : 8 ≤ k) {l : List Int} (hl : ∀ x ∈ l, 0 ≤ x ∧ x ≤ 255) (hn : (l.length : Int) ≤ 140737488355328) (i : Int) : buffer_LoadInt.f k l i = some (LOAD l i) := by
  obtain ⟨k, rfl⟩ : ∃ m, k = m + 1 := ⟨k - 1, by omega⟩
  unfold buffer_LoadInt.f LOAD
  by_cases c1 : i < 0
  · rw [if_pos c1, if_pos (by omega)]; rfl
  rw [if_neg c1, w64 (x := (l.length : Int) / 4) (by omega) (by omega)]
  by_cases c2 : i ≥ (l.length : Int) / 4
  · rw [decide_eq_true c2, if_pos (by omega)]; rfl
  rw [decide_eq_false c2, if_neg (by omega)]
  simp only [buffer_LoadInt.j0]
  rw [if_neg (by simp), w64 (x := 4 * i) (by omega) (by omega), E_Little4 (by omega) hl hn (by omega) (by omega), Option.bind_some, E_Wrap]; rfl
theorem p2 : (2 : Int) ^ min (0 : Int).toNat IntKind.i64.bits = 1 ∧ (2 : Int) ^ min (8 : Int).toNat IntKind.i64.bits = 256 ∧ (2 : Int) ^ min (16 : Int).toNat IntKind.i64.bits = 65536 ∧ (2 : Int) ^ min (24 : Int).toNat IntKind.i64.bits = 16777216 := by decide
def PUT (l : List Int) (at_ v : Int) : List Int := (((l.set at_.toNat (v % 256)).set (at_ + 1).toNat (v / 256 % 256)).set (at_ + 2).toNat (v / 65536 % 256)).set (at_ + 3).toNat (v / 16777216 % 256)
theorem E_PutStep {k : Nat} {l : List Int} (hn : (l.length : Int) ≤ 140737488355328) {at_ v i s : Int} (ha : 0 ≤ at_) (hi0 : 0 ≤ i) (hi4 : i < 4) (hi : at_ + i < l.length) (hs : s = 8 * i) :
    codec_PutLittle.l0 (k + 1) at_ v l 4 i = codec_PutLittle.l0 k at_ v (l.set (at_ + i).toNat (shr .i64 v s % 256)) 4 (i + 1) := by
  simp only [codec_PutLittle.l0]
  rw [if_pos (by omega), w64 (x := 8 * i) (by omega) (by omega), if_pos (by omega), w64 (x := at_ + i) (by omega) (by omega), if_pos (by omega), if_pos (by omega), w64 (x := i + 1) (by omega) (by omega), hs]
theorem E_Put4 {k : Nat} (hk : 6 ≤ k) {l : List Int} (hn : (l.length : Int) ≤ 140737488351232) {at_ : Int} (v : Int) (ha : 0 ≤ at_) (hi : at_ + 4 ≤ l.length) : codec_PutLittle.f k l at_ 4 v = some (PUT l at_ v) := by
  obtain ⟨k, rfl⟩ : ∃ m, k = m + 5 := ⟨k - 5, by omega⟩
  unfold codec_PutLittle.f codec_exist.f
  rw [if_pos (by simp; omega)]
  simp only [Option.bind_some, List.nil_append]
  rw [if_pos (by decide), if_pos (by decide), if_pos (by omega), w64 (by omega) (by omega), Option.bind_some, decide_eq_true (by omega), if_pos rfl,
    E_PutStep (by omega) ha (by decide) (by decide) (by omega) (show (0 : Int) = 8 * 0 by decide), show (0 : Int) + 1 = 1 by decide, E_PutStep (by simp; omega) ha (by decide) (by decide) (by simp; omega) (show (8 : Int) = 8 * 1 by decide), show (1 : Int) + 1 = 2 by decide,
    E_PutStep (by simp; omega) ha (by decide) (by decide) (by simp; omega) (show (16 : Int) = 8 * 2 by decide), show (2 : Int) + 1 = 3 by decide, E_PutStep (by simp; omega) ha (by decide) (by decide) (by simp; omega) (show (24 : Int) = 8 * 3 by decide), show (3 : Int) + 1 = 4 by decide]
  simp only [codec_PutLittle.l0]
  rw [if_neg (by decide)]
  unfold PUT shr
  rw [p2.1, p2.2.1, p2.2.2.1, p2.2.2.2, show at_ + 0 = at_ by omega, Int.ediv_one]
def STORE (l : List Int) (i v : Int) : List Int := if i < 0 ∨ i ≥ (l.length : Int) / 4 then l else PUT l (4 * i) v
theorem E_StoreInt {k : Nat} (hk : 8 ≤ k) {l : List Int} (hn : (l.length : Int) ≤ 140737488351232) (i v : Int) : buffer_StoreInt.f k l i v = some (STORE l i v) := by
  have hl : ([] : List Int).length + l.length < 140737488355328 := by simp; omega
  unfold buffer_StoreInt.f STORE
  by_cases c1 : i < 0
  · rw [if_pos c1, if_pos hl, if_pos (by omega)]; rfl
  rw [if_neg c1, w64 (x := (l.length : Int) / 4) (by omega) (by omega)]
  by_cases c2 : i ≥ (l.length : Int) / 4
  · rw [if_pos c2, if_pos hl, if_pos (by omega)]; rfl
  rw [if_neg c2, if_neg (by omega), w64 (x := 4 * i) (by omega) (by omega), E_Put4 (by omega) hn v (by omega) (by omega)]; rfl
theorem same_loop (l : List Int) (hn : (l.length : Int) ≤ 140737488355328) (d : Nat) : ∀ (k : Nat) (i : Int), 0 ≤ i → (l.length : Int) - i ≤ d → d < k → frustumref05_Same.l0 k l l i = some true := by
  induction d with
  | zero =>
    intro k i h0 h1 hk
    obtain ⟨k, rfl⟩ : ∃ m, k = m + 1 := ⟨k - 1, by omega⟩
    simp only [frustumref05_Same.l0]; rw [if_neg (by omega)]
  | succ d ih =>
    intro k i h0 h1 hk
    obtain ⟨k, rfl⟩ : ∃ m, k = m + 1 := ⟨k - 1, by omega⟩
    simp only [frustumref05_Same.l0]
    by_cases c : i < (l.length : Int)
    · rw [if_pos c, if_pos h0, if_pos c, if_pos trivial, w64 (by omega) (by omega)]
      exact ih k (i + 1) (by omega) (by omega) (by omega)
    · rw [if_neg c]
theorem E_Same {k : Nat} (l : List Int) (hn : (l.length : Int) ≤ 140737488355328) (hk : l.length < k) : frustumref05_Same.f k l l = some true := by
  unfold frustumref05_Same.f
  rw [if_pos rfl]
  exact same_loop l hn l.length k 0 (by omega) (by omega) hk
theorem put_len (l : List Int) (a v : Int) : (PUT l a v).length = l.length := by unfold PUT; simp
theorem store_len (l : List Int) (i v : Int) : (STORE l i v).length = l.length := by unfold STORE; split <;> simp [put_len]
theorem E_ex14 {k : Nat} (hk : 8 ≤ k) : frustumlaw14_example.f k = some true := by
  have hl : ∀ x ∈ ([255, 255, 255, 255] : List Int), 0 ≤ x ∧ x ≤ 255 := by decide
  unfold frustumlaw14_example.f
  rw [Option.bind_some, E_LoadInt hk hl (by decide), Option.bind_some, if_pos (by decide), E_LoadInt hk hl (by decide), Option.bind_some, if_pos (by decide), E_StoreInt hk (by decide), Option.bind_some,
    show STORE [255, 255, 255, 255] 0 1 = [1, 0, 0, 0] by decide, E_Same _ (by decide) (by simp; omega)]; rfl
theorem rd_set_ne (l : List Int) (a b : Int) (v : Int) (ha : 0 ≤ a) (hb : 0 ≤ b) (h : a ≠ b) : rd (l.set a.toNat v) b = rd l b := by
  unfold rd; rw [List.getD_eq_getElem?_getD, List.getElem?_set_ne (by omega), List.getD_eq_getElem?_getD]
theorem rd_set_eq (l : List Int) (a : Int) (v : Int) (ha : 0 ≤ a) (h : a < l.length) : rd (l.set a.toNat v) a = v := by
  unfold rd; rw [List.getD_eq_getElem?_getD, List.getElem?_set_self (by omega)]; rfl
theorem put_bytes {l : List Int} (hl : ∀ x ∈ l, 0 ≤ x ∧ x ≤ 255) (a v : Int) : ∀ x ∈ PUT l a v, 0 ≤ x ∧ x ≤ 255 := by
  intro x hx
  unfold PUT at hx
  rcases List.mem_or_eq_of_mem_set hx with hx | rfl
  · rcases List.mem_or_eq_of_mem_set hx with hx | rfl
    · rcases List.mem_or_eq_of_mem_set hx with hx | rfl
      · rcases List.mem_or_eq_of_mem_set hx with hx | rfl
        · exact hl x hx
        · omega
      · omega
    · omega
  · omega
theorem le_put (l : List Int) (a v : Int) (ha : 0 ≤ a) (h : a + 4 ≤ l.length) : LE4 (PUT l a v) a = v % 4294967296 := by
  unfold LE4 PUT
  rw [rd_set_ne _ _ _ _ (by omega) ha (by omega), rd_set_ne _ _ _ _ (by omega) ha (by omega), rd_set_ne _ _ _ _ (by omega) ha (by omega), rd_set_eq _ _ _ ha (by omega),
    rd_set_ne _ _ (a + 1) _ (by omega) (by omega) (by omega), rd_set_ne _ _ (a + 1) _ (by omega) (by omega) (by omega), rd_set_eq _ (a + 1) _ (by omega) (by simp; omega),
    rd_set_ne _ _ (a + 2) _ (by omega) (by omega) (by omega), rd_set_eq _ (a + 2) _ (by omega) (by simp; omega), rd_set_eq _ (a + 3) _ (by omega) (by simp; omega)]
  omega
theorem BufferWords : frustumlaw14_BufferWords.Pure := by
  intro l i v _ hn hw _ _
  have hl : ∀ x ∈ l, 0 ≤ x ∧ x ≤ 255 := fun x hx => bounds_u8 (hw x hx)
  refine ⟨40, ?_⟩
  have hE : frustumlaw14_example.f 39 = some true := E_ex14 (by decide)
  have out : frustumlaw14_BufferWords.j0 40 l i v true = some true := by
    simp only [frustumlaw14_BufferWords.j0]; rw [if_pos trivial, hE]; rfl
  unfold frustumlaw14_BufferWords.f
  by_cases c1 : i < 0
  · rw [if_pos c1]; exact out
  rw [if_neg c1, w64 (x := (l.length : Int) / 4) (by omega) (by omega)]
  by_cases c2 : i ≥ (l.length : Int) / 4
  · rw [if_pos c2]; exact out
  rw [if_neg c2]
  by_cases c3 : v < -2147483648
  · rw [if_pos c3]; exact out
  rw [if_neg c3]
  by_cases c4 : v > 2147483647
  · rw [decide_eq_true c4]; exact out
  rw [decide_eq_false c4]
  simp only [frustumlaw14_BufferWords.j0]
  have hs : STORE l i v = PUT l (4 * i) v := by unfold STORE; rw [if_neg (by omega)]
  rw [if_neg (by simp), E_StoreInt (by decide) (by omega), Option.bind_some, hs, E_LoadInt (by decide) (put_bytes hl _ _) (by rw [put_len]; omega), Option.bind_some,
    if_pos (by unfold LOAD; rw [put_len, if_neg (by omega), le_put _ _ _ (by omega) (by omega)]; unfold WRAP; omega), hE]; rfl
end Go.Proofs.YtbogdmklokenmaaRRRR.Pure
