/- Chapter 43, for PipelineDefault: the law's code in parts; the two regions that store through slices. Conditions: where the pointers lead, that the cells are there and not frozen. -/
import Derived.Test.YtjbhhdocbejccaaBd
import Derived.WalkKit
import Derived.WalkSpells
import Derived.WalkSmall
import Derived.BigQuiet
import Derived.Deep.QuietTactic
import Derived.StillTailTactics
namespace Go.Proofs.Ytjbhhdocbejccaa.Bl
open Go Go.RowKit Go.Proofs.Ytjbhhdocbejccaa.Bm
set_option linter.unusedVariables false
set_option linter.unusedSimpArgs false
set_option maxRecDepth 100000
def sq1 : Code → Code
  | .seq a _ => a
  | c => c
def sq2 : Code → Code
  | .seq _ b => b
  | c => c
noncomputable def bodyD : Code := (Try.f5.body).getD .skip
noncomputable def t1 : Code := sq2 bodyD
noncomputable def t2 : Code := sq2 t1
noncomputable def t3 : Code := sq2 t2
noncomputable def t4 : Code := sq2 t3
noncomputable def t5 : Code := sq2 t4
noncomputable def t6 : Code := sq2 t5
theorem body_eq : Try.f5.body = some (.seq (sq1 bodyD) (.seq (sq1 t1) (.seq (sq1 t2) (.seq (sq1 t3) (.seq (sq1 t4) (.seq (sq1 t5) t6)))))) := by kernel_rfl
def opsOf : Code → Array Oper
  | .region _ o _ => o
  | _ => #[]
def idOf : Code → Nat
  | .region i _ _ => i
  | _ => 0
theorem r1_eq : sq1 t1 = .region (idOf (sq1 t1)) (opsOf (sq1 t1)) false := by kernel_rfl
theorem tr0 : trC Try.prog [60, 55, 30, 33, 38, 42] (basesC bodyD []) 62 (sq1 bodyD) = some (.reg PipelineDefault.r0) := by kernel_rfl
theorem tr1 : trL Try.prog [60, 55, 30, 33, 38, 42] (basesC bodyD []) 62 (opsOf (sq1 t1)) (opsOf (sq1 t1)).toList = some PipelineDefault.r1 := by kernel_rfl
theorem tr2 : trC Try.prog [60, 55, 30, 33, 38, 42] (basesC bodyD []) 62 (sq1 t2) = some (.seq (.reg PipelineDefault.r2) (.cond (.tmp 24) (.seq (.reg PipelineDefault.r3) .ret) .skip)) := by kernel_rfl
theorem tr4 : trC Try.prog [60, 55, 30, 33, 38, 42] (basesC bodyD []) 62 (sq1 t3) = some (.reg PipelineDefault.r4) := by kernel_rfl
theorem tr7 : trC Try.prog [60, 55, 30, 33, 38, 42] (basesC bodyD []) 62 t6 = some (.seq (.reg PipelineDefault.r7) .ret) := by kernel_rfl
theorem ex_one {l : List Value} {n : Nat} (h : l.length = n + 1) : ∃ x r, l = x :: r ∧ r.length = n := by
  cases l with
  | nil => cases h
  | cons x r => exact ⟨x, r, rfl, by simpa using h⟩
theorem ex_all {l : List Value} (h : l.length = 62) : ∃ x0 x1 x2 x3 x4 x5 x6 x7 x8 x9 x10 x11 x12 x13 x14 x15 x16 x17 x18 x19 x20 x21 x22 x23 x24 x25 x26 x27 x28 x29 x30 x31 x32 x33 x34 x35 x36 x37 x38 x39 x40 x41 x42 x43 x44 x45 x46 x47 x48 x49 x50 x51 x52 x53 x54 x55 x56 x57 x58 x59 x60 x61, l = [x0, x1, x2, x3, x4, x5, x6, x7, x8, x9, x10, x11, x12, x13, x14, x15, x16, x17, x18, x19, x20, x21, x22, x23, x24, x25, x26, x27, x28, x29, x30, x31, x32, x33, x34, x35, x36, x37, x38, x39, x40, x41, x42, x43, x44, x45, x46, x47, x48, x49, x50, x51, x52, x53, x54, x55, x56, x57, x58, x59, x60, x61] := by
  obtain ⟨x0, l1, e1, h1⟩ := ex_one h
  obtain ⟨x1, l2, e2, h2⟩ := ex_one h1
  obtain ⟨x2, l3, e3, h3⟩ := ex_one h2
  obtain ⟨x3, l4, e4, h4⟩ := ex_one h3
  obtain ⟨x4, l5, e5, h5⟩ := ex_one h4
  obtain ⟨x5, l6, e6, h6⟩ := ex_one h5
  obtain ⟨x6, l7, e7, h7⟩ := ex_one h6
  obtain ⟨x7, l8, e8, h8⟩ := ex_one h7
  obtain ⟨x8, l9, e9, h9⟩ := ex_one h8
  obtain ⟨x9, l10, e10, h10⟩ := ex_one h9
  obtain ⟨x10, l11, e11, h11⟩ := ex_one h10
  obtain ⟨x11, l12, e12, h12⟩ := ex_one h11
  obtain ⟨x12, l13, e13, h13⟩ := ex_one h12
  obtain ⟨x13, l14, e14, h14⟩ := ex_one h13
  obtain ⟨x14, l15, e15, h15⟩ := ex_one h14
  obtain ⟨x15, l16, e16, h16⟩ := ex_one h15
  obtain ⟨x16, l17, e17, h17⟩ := ex_one h16
  obtain ⟨x17, l18, e18, h18⟩ := ex_one h17
  obtain ⟨x18, l19, e19, h19⟩ := ex_one h18
  obtain ⟨x19, l20, e20, h20⟩ := ex_one h19
  obtain ⟨x20, l21, e21, h21⟩ := ex_one h20
  obtain ⟨x21, l22, e22, h22⟩ := ex_one h21
  obtain ⟨x22, l23, e23, h23⟩ := ex_one h22
  obtain ⟨x23, l24, e24, h24⟩ := ex_one h23
  obtain ⟨x24, l25, e25, h25⟩ := ex_one h24
  obtain ⟨x25, l26, e26, h26⟩ := ex_one h25
  obtain ⟨x26, l27, e27, h27⟩ := ex_one h26
  obtain ⟨x27, l28, e28, h28⟩ := ex_one h27
  obtain ⟨x28, l29, e29, h29⟩ := ex_one h28
  obtain ⟨x29, l30, e30, h30⟩ := ex_one h29
  obtain ⟨x30, l31, e31, h31⟩ := ex_one h30
  obtain ⟨x31, l32, e32, h32⟩ := ex_one h31
  obtain ⟨x32, l33, e33, h33⟩ := ex_one h32
  obtain ⟨x33, l34, e34, h34⟩ := ex_one h33
  obtain ⟨x34, l35, e35, h35⟩ := ex_one h34
  obtain ⟨x35, l36, e36, h36⟩ := ex_one h35
  obtain ⟨x36, l37, e37, h37⟩ := ex_one h36
  obtain ⟨x37, l38, e38, h38⟩ := ex_one h37
  obtain ⟨x38, l39, e39, h39⟩ := ex_one h38
  obtain ⟨x39, l40, e40, h40⟩ := ex_one h39
  obtain ⟨x40, l41, e41, h41⟩ := ex_one h40
  obtain ⟨x41, l42, e42, h42⟩ := ex_one h41
  obtain ⟨x42, l43, e43, h43⟩ := ex_one h42
  obtain ⟨x43, l44, e44, h44⟩ := ex_one h43
  obtain ⟨x44, l45, e45, h45⟩ := ex_one h44
  obtain ⟨x45, l46, e46, h46⟩ := ex_one h45
  obtain ⟨x46, l47, e47, h47⟩ := ex_one h46
  obtain ⟨x47, l48, e48, h48⟩ := ex_one h47
  obtain ⟨x48, l49, e49, h49⟩ := ex_one h48
  obtain ⟨x49, l50, e50, h50⟩ := ex_one h49
  obtain ⟨x50, l51, e51, h51⟩ := ex_one h50
  obtain ⟨x51, l52, e52, h52⟩ := ex_one h51
  obtain ⟨x52, l53, e53, h53⟩ := ex_one h52
  obtain ⟨x53, l54, e54, h54⟩ := ex_one h53
  obtain ⟨x54, l55, e55, h55⟩ := ex_one h54
  obtain ⟨x55, l56, e56, h56⟩ := ex_one h55
  obtain ⟨x56, l57, e57, h57⟩ := ex_one h56
  obtain ⟨x57, l58, e58, h58⟩ := ex_one h57
  obtain ⟨x58, l59, e59, h59⟩ := ex_one h58
  obtain ⟨x59, l60, e60, h60⟩ := ex_one h59
  obtain ⟨x60, l61, e61, h61⟩ := ex_one h60
  obtain ⟨x61, l62, e62, h62⟩ := ex_one h61
  have e := List.eq_nil_of_length_eq_zero h62
  exact ⟨x0, x1, x2, x3, x4, x5, x6, x7, x8, x9, x10, x11, x12, x13, x14, x15, x16, x17, x18, x19, x20, x21, x22, x23, x24, x25, x26, x27, x28, x29, x30, x31, x32, x33, x34, x35, x36, x37, x38, x39, x40, x41, x42, x43, x44, x45, x46, x47, x48, x49, x50, x51, x52, x53, x54, x55, x56, x57, x58, x59, x60, x61, by rw [e1, e2, e3, e4, e5, e6, e7, e8, e9, e10, e11, e12, e13, e14, e15, e16, e17, e18, e19, e20, e21, e22, e23, e24, e25, e26, e27, e28, e29, e30, e31, e32, e33, e34, e35, e36, e37, e38, e39, e40, e41, e42, e43, e44, e45, e46, e47, e48, e49, e50, e51, e52, e53, e54, e55, e56, e57, e58, e59, e60, e61, e62, e]⟩
set_option maxHeartbeats 4000000 in
set_option maxRecDepth 1000000 in
theorem r5_lit (x0 x1 x2 x4 x6 x7 x8 x9 x10 x11 x12 x13 x14 x15 x16 x17 x18 x19 x20 x21 x22 x23 x24 x25 x26 x27 x28 x29 x30 x31 x32 x33 x34 x35 x36 x37 x38 x39 x40 x41 x42 x43 x44 x45 x46 x47 x48 x49 x50 x51 x52 x53 x54 x55 x56 x57 x58 x59 x60 x61 : Value) (w : World) (b3 c3 o3 cap k : Nat) (x : Int) (hk : k < 8) (hx : IntKind.i64.wrap (x + 1) = x + 1)
    (hs : w.cell? ⟨b3, 7, none⟩ = some (.slice (some ⟨c3, o3, none⟩) 8 cap)) (hc : w.cell? ⟨c3, o3 + k * 6 + 5, none⟩ = some (.int .i64 x)) (hf : w.frozen? ⟨c3, o3 + k * 6 + 5, none⟩ = false) :
    (sq1 t4).wp Try.prog (fun e a' w' => e = .normal ∧ a'.tmps.size = 62 ∧ a'.defers = [] ∧ a'.tmps[3]? = some (.pointer (some ⟨b3, 0, none⟩)) ∧ a'.tmps[4]? = some x4 ∧
      w' = w.drew.setCell ⟨c3, o3 + k * 6 + 5, none⟩ (.int .i64 (x + 1))) { tmps := #[x0, x1, x2, .pointer (some ⟨b3, 0, none⟩), x4, .int .i64 k, x6, x7, x8, x9, x10, x11, x12, x13, x14, x15, x16, x17, x18, x19, x20, x21, x22, x23, x24, x25, x26, x27, x28, x29, x30, x31, x32, x33, x34, x35, x36, x37, x38, x39, x40, x41, x42, x43, x44, x45, x46, x47, x48, x49, x50, x51, x52, x53, x54, x55, x56, x57, x58, x59, x60, x61], defers := [] } w := by
  have hs : w.drew.cell? ⟨b3, 7, none⟩ = some (.slice (some ⟨c3, o3, none⟩) 8 cap) := hs
  have hc : w.drew.cell? ⟨c3, o3 + k * 6 + 5, none⟩ = some (.int .i64 x) := hc
  have hf : w.drew.frozen? ⟨c3, o3 + k * 6 + 5, none⟩ = false := hf
  have hix0 : (0 : Int) ≤ (k : Int) := by omega
  have hix1 : (k : Int) < 8 := by omega
  unfold t4 t3 t2 t1 bodyD Try.f5
  simp only [Option.getD_some, sq1, sq2]
  go_still_tail 14, (by kernel_rfl)
  change wpList _ _ _ _ _ w.drew
  generalize w.drew = w2 at hs hc hf ⊢
  go_wp2
set_option maxHeartbeats 4000000 in
set_option maxRecDepth 1000000 in
theorem r6_lit (x0 x1 x2 x4 x5 x6 x7 x8 x9 x10 x11 x12 x13 x14 x15 x16 x17 x18 x19 x20 x21 x22 x23 x24 x25 x26 x27 x28 x29 x30 x31 x32 x33 x34 x35 x36 x37 x38 x39 x40 x41 x42 x43 x44 x45 x46 x47 x48 x49 x50 x51 x52 x53 x54 x55 x56 x57 x58 x59 x60 x61 : Value) (w : World) (b3 c3 o3 cap : Nat) (x : Int)
    (hs : w.cell? ⟨b3, 25, none⟩ = some (.slice (some ⟨c3, o3, none⟩) 1 cap)) (hc : w.cell? ⟨c3, o3 + 2, none⟩ = some (.int .i64 x)) (hf : w.frozen? ⟨c3, o3 + 2, none⟩ = false) :
    (sq1 t5).wp Try.prog (fun e a' w' => e = .normal ∧ a'.tmps.size = 62 ∧ a'.defers = [] ∧ a'.tmps[3]? = some (.pointer (some ⟨b3, 0, none⟩)) ∧ a'.tmps[4]? = some x4 ∧
      w' = w.setCell ⟨c3, o3 + 2, none⟩ (.int .i64 99)) { tmps := #[x0, x1, x2, .pointer (some ⟨b3, 0, none⟩), x4, x5, x6, x7, x8, x9, x10, x11, x12, x13, x14, x15, x16, x17, x18, x19, x20, x21, x22, x23, x24, x25, x26, x27, x28, x29, x30, x31, x32, x33, x34, x35, x36, x37, x38, x39, x40, x41, x42, x43, x44, x45, x46, x47, x48, x49, x50, x51, x52, x53, x54, x55, x56, x57, x58, x59, x60, x61], defers := [] } w := by
  unfold t5 t4 t3 t2 t1 bodyD Try.f5
  simp only [Option.getD_some, sq1, sq2]
  go_wp2
theorem r5_walk (a : Act) (w : World) (b3 c3 o3 cap k : Nat) (x : Int) (v4 : Value) (hk : k < 8) (hx : IntKind.i64.wrap (x + 1) = x + 1) (hz : a.tmps.size = 62) (hd : a.defers = [])
    (h3 : a.tmps[3]? = some (.pointer (some ⟨b3, 0, none⟩))) (h4 : a.tmps[4]? = some v4) (h5 : a.tmps[5]? = some (.int .i64 k))
    (hs : w.cell? ⟨b3, 7, none⟩ = some (.slice (some ⟨c3, o3, none⟩) 8 cap)) (hc : w.cell? ⟨c3, o3 + k * 6 + 5, none⟩ = some (.int .i64 x)) (hf : w.frozen? ⟨c3, o3 + k * 6 + 5, none⟩ = false) :
    (sq1 t4).wp Try.prog (fun e a' w' => e = .normal ∧ a'.tmps.size = 62 ∧ a'.defers = [] ∧ a'.tmps[3]? = some (.pointer (some ⟨b3, 0, none⟩)) ∧ a'.tmps[4]? = some v4 ∧
      w' = w.drew.setCell ⟨c3, o3 + k * 6 + 5, none⟩ (.int .i64 (x + 1))) a w := by
  obtain ⟨⟨l⟩, d⟩ := a
  obtain ⟨x0, x1, x2, x3, x4, x5, x6, x7, x8, x9, x10, x11, x12, x13, x14, x15, x16, x17, x18, x19, x20, x21, x22, x23, x24, x25, x26, x27, x28, x29, x30, x31, x32, x33, x34, x35, x36, x37, x38, x39, x40, x41, x42, x43, x44, x45, x46, x47, x48, x49, x50, x51, x52, x53, x54, x55, x56, x57, x58, x59, x60, x61, rfl⟩ := ex_all (l := l) hz
  obtain rfl : d = [] := hd
  obtain rfl : x3 = _ := Option.some.inj h3
  obtain rfl : x4 = v4 := Option.some.inj h4
  obtain rfl : x5 = _ := Option.some.inj h5
  exact r5_lit x0 x1 x2 x4 x6 x7 x8 x9 x10 x11 x12 x13 x14 x15 x16 x17 x18 x19 x20 x21 x22 x23 x24 x25 x26 x27 x28 x29 x30 x31 x32 x33 x34 x35 x36 x37 x38 x39 x40 x41 x42 x43 x44 x45 x46 x47 x48 x49 x50 x51 x52 x53 x54 x55 x56 x57 x58 x59 x60 x61 w b3 c3 o3 cap k x hk hx hs hc hf
theorem r6_walk (a : Act) (w : World) (b3 c3 o3 cap : Nat) (x : Int) (v4 : Value) (hz : a.tmps.size = 62) (hd : a.defers = [])
    (h3 : a.tmps[3]? = some (.pointer (some ⟨b3, 0, none⟩))) (h4 : a.tmps[4]? = some v4)
    (hs : w.cell? ⟨b3, 25, none⟩ = some (.slice (some ⟨c3, o3, none⟩) 1 cap)) (hc : w.cell? ⟨c3, o3 + 2, none⟩ = some (.int .i64 x)) (hf : w.frozen? ⟨c3, o3 + 2, none⟩ = false) :
    (sq1 t5).wp Try.prog (fun e a' w' => e = .normal ∧ a'.tmps.size = 62 ∧ a'.defers = [] ∧ a'.tmps[3]? = some (.pointer (some ⟨b3, 0, none⟩)) ∧ a'.tmps[4]? = some v4 ∧
      w' = w.setCell ⟨c3, o3 + 2, none⟩ (.int .i64 99)) a w := by
  obtain ⟨⟨l⟩, d⟩ := a
  obtain ⟨x0, x1, x2, x3, x4, x5, x6, x7, x8, x9, x10, x11, x12, x13, x14, x15, x16, x17, x18, x19, x20, x21, x22, x23, x24, x25, x26, x27, x28, x29, x30, x31, x32, x33, x34, x35, x36, x37, x38, x39, x40, x41, x42, x43, x44, x45, x46, x47, x48, x49, x50, x51, x52, x53, x54, x55, x56, x57, x58, x59, x60, x61, rfl⟩ := ex_all (l := l) hz
  obtain rfl : d = [] := hd
  obtain rfl : x3 = _ := Option.some.inj h3
  obtain rfl : x4 = v4 := Option.some.inj h4
  exact r6_lit x0 x1 x2 x4 x5 x6 x7 x8 x9 x10 x11 x12 x13 x14 x15 x16 x17 x18 x19 x20 x21 x22 x23 x24 x25 x26 x27 x28 x29 x30 x31 x32 x33 x34 x35 x36 x37 x38 x39 x40 x41 x42 x43 x44 x45 x46 x47 x48 x49 x50 x51 x52 x53 x54 x55 x56 x57 x58 x59 x60 x61 w b3 c3 o3 cap x hs hc hf
end Go.Proofs.Ytjbhhdocbejccaa.Bl
