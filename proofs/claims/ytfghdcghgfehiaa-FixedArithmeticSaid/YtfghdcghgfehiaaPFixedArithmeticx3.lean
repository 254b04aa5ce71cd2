-- PRINTED BY print.sh 35421559b90ae4d0a3588c463048766b98c2df88dd9212a6774a882060cdf62d: not written by this session
import Derived.Test.YtfghdcghgfehiaaPFixedArithmeticx0
import Derived.Test.YtfghdcghgfehiaaPFixedArithmeticx1
import Derived.Test.YtfghdcghgfehiaaPFixedArithmeticx2
namespace Go.Proofs.Ytfghdcghgfehiaa.PFixedArithmetic
open Go.RowKit Go.Proofs.YtfghdcghgfehiaaW.PrintWords Go.Proofs.YtfghdcghgfehiaaW.PrintLast Go.Proofs.YtfghdcghgfehiaaW.PrintMore
attribute [local go_sem] max2_int min2_int max_two min_two max_three min_three max_four min_four   -- for this text's walks alone
set_option linter.unusedVariables false
set_option linter.unusedSimpArgs false

/-! ### frustumlaw01_FixedArithmetic: function 10 -/
mutual
def frustumlaw01_FixedArithmetic.j0 : Nat → Int → Int → Int → Bool → Option (Bool)
  | 0, _, _, _, _ => none
  | k + 1, x0, x1, x2, x47 => if x47 = true then (some false) else ((fixed_Clamp.f x0 x1 x2).bind fun t167 => ((frustumref01_Clamp.f k x0 x1 x2).bind fun t168 => (if t167 = t168 then ((fixed_Wrap.f x0).bind fun t169 => ((frustumref01_Wrap.f x0).bind fun t170 => (if t169 = t170 then ((fixed_Floor.f x0).bind fun t171 => ((frustumref01_Floor.f k x0).bind fun t172 => (if t171 = t172 then ((fixed_Fract.f x0).bind fun t173 => ((frustumref01_Fract.f k x0).bind fun t174 => (if t173 = t174 then ((fixed_Sqrt.f k x0).bind fun t175 => ((frustumref01_Sqrt.f k x0).bind fun t176 => (frustumlaw01_FixedArithmetic.j1 k x0 x1 x2 (t175 != t176)))) else (frustumlaw01_FixedArithmetic.j1 k x0 x1 x2 true)))) else (frustumlaw01_FixedArithmetic.j1 k x0 x1 x2 true)))) else (frustumlaw01_FixedArithmetic.j1 k x0 x1 x2 true)))) else (frustumlaw01_FixedArithmetic.j1 k x0 x1 x2 true))))
def frustumlaw01_FixedArithmetic.j1 : Nat → Int → Int → Int → Bool → Option (Bool)
  | 0, _, _, _, _ => none
  | k + 1, x0, x1, x2, x84 => if x84 = true then (some false) else ((fixed_Lerp.f k x0 x1 x2).bind fun t177 => ((frustumref01_Lerp.f k x0 x1 x2).bind fun t178 => (if t177 = t178 then ((frustumlaw01_example.f k).bind fun t179 => (some t179)) else (some false))))
end
def frustumlaw01_FixedArithmetic.f (k : Nat) (a0 : Int) (a1 : Int) (a2 : Int) : Option (Bool) := (fixed_Saturate.f a0).bind fun t157 => ((frustumref01_Saturate.f k a0).bind fun t158 => (if t157 = t158 then ((fixed_Add.f a0 a1).bind fun t159 => ((frustumref01_Add.f k a0 a1).bind fun t160 => (if t159 = t160 then ((fixed_Sub.f a0 a1).bind fun t161 => ((frustumref01_Sub.f k a0 a1).bind fun t162 => (if t161 = t162 then ((fixed_Mul.f k a0 a1).bind fun t163 => ((frustumref01_Mul.f k a0 a1).bind fun t164 => (if t163 = t164 then ((fixed_Div.f k a0 a1).bind fun t165 => ((frustumref01_Div.f k a0 a1).bind fun t166 => (frustumlaw01_FixedArithmetic.j0 k a0 a1 a2 (t165 != t166)))) else (frustumlaw01_FixedArithmetic.j0 k a0 a1 a2 true)))) else (frustumlaw01_FixedArithmetic.j0 k a0 a1 a2 true)))) else (frustumlaw01_FixedArithmetic.j0 k a0 a1 a2 true)))) else (frustumlaw01_FixedArithmetic.j0 k a0 a1 a2 true)))
theorem frustumlaw01_FixedArithmetic.mono_l : ∀ k, (∀ y0 y1 y2 y3, LeO (frustumlaw01_FixedArithmetic.j0 k y0 y1 y2 y3) (frustumlaw01_FixedArithmetic.j0 (k + 1) y0 y1 y2 y3)) ∧ (∀ y0 y1 y2 y3, LeO (frustumlaw01_FixedArithmetic.j1 k y0 y1 y2 y3) (frustumlaw01_FixedArithmetic.j1 (k + 1) y0 y1 y2 y3))
  | 0 => ⟨fun _ _ _ _ r h => by simp [frustumlaw01_FixedArithmetic.j0] at h, fun _ _ _ _ r h => by simp [frustumlaw01_FixedArithmetic.j1] at h⟩
  | k + 1 => by
    obtain ⟨ih0, ih1⟩ := frustumlaw01_FixedArithmetic.mono_l k
    refine ⟨?_, ?_⟩
    · intro y0 y1 y2 y3
      unfold frustumlaw01_FixedArithmetic.j0
      repeat' first
      | (with_reducible exact ih0 _ _ _ _)
      | (with_reducible exact ih1 _ _ _ _)
      | (with_reducible exact fixed_Div.mono _ _ _)
      | (with_reducible exact fixed_Lerp.mono _ _ _ _)
      | (with_reducible exact fixed_Mul.mono _ _ _)
      | (with_reducible exact fixed_Sqrt.mono _ _)
      | (with_reducible exact frustumlaw01_example.mono _)
      | (with_reducible exact frustumref01_Add.mono _ _ _)
      | (with_reducible exact frustumref01_Clamp.mono _ _ _ _)
      | (with_reducible exact frustumref01_Div.mono _ _ _)
      | (with_reducible exact frustumref01_Floor.mono _ _)
      | (with_reducible exact frustumref01_Fract.mono _ _)
      | (with_reducible exact frustumref01_Lerp.mono _ _ _ _)
      | (with_reducible exact frustumref01_Mul.mono _ _ _)
      | (with_reducible exact frustumref01_Saturate.mono _ _)
      | (with_reducible exact frustumref01_Sqrt.mono _ _)
      | (with_reducible exact frustumref01_Sub.mono _ _ _)
      | (with_reducible exact LeO.refl _)
      | (with_reducible exact LeO.none _)
      | (with_reducible refine LeO.ite ?_ ?_)
      | (with_reducible refine LeO.bind ?_ (fun _ => ?_))
      | exact ih0 _ _ _ _
      | exact ih1 _ _ _ _
      | exact fixed_Div.mono _ _ _
      | exact fixed_Lerp.mono _ _ _ _
      | exact fixed_Mul.mono _ _ _
      | exact fixed_Sqrt.mono _ _
      | exact frustumlaw01_example.mono _
      | exact frustumref01_Add.mono _ _ _
      | exact frustumref01_Clamp.mono _ _ _ _
      | exact frustumref01_Div.mono _ _ _
      | exact frustumref01_Floor.mono _ _
      | exact frustumref01_Fract.mono _ _
      | exact frustumref01_Lerp.mono _ _ _ _
      | exact frustumref01_Mul.mono _ _ _
      | exact frustumref01_Saturate.mono _ _
      | exact frustumref01_Sqrt.mono _ _
      | exact frustumref01_Sub.mono _ _ _
      | exact LeO.none _
      | refine LeO.ite ?_ ?_
      | refine LeO.bind ?_ (fun _ => ?_)
    · intro y0 y1 y2 y3
      unfold frustumlaw01_FixedArithmetic.j1
      repeat' first
      | (with_reducible exact ih0 _ _ _ _)
      | (with_reducible exact ih1 _ _ _ _)
      | (with_reducible exact fixed_Div.mono _ _ _)
      | (with_reducible exact fixed_Lerp.mono _ _ _ _)
      | (with_reducible exact fixed_Mul.mono _ _ _)
      | (with_reducible exact fixed_Sqrt.mono _ _)
      | (with_reducible exact frustumlaw01_example.mono _)
      | (with_reducible exact frustumref01_Add.mono _ _ _)
      | (with_reducible exact frustumref01_Clamp.mono _ _ _ _)
      | (with_reducible exact frustumref01_Div.mono _ _ _)
      | (with_reducible exact frustumref01_Floor.mono _ _)
      | (with_reducible exact frustumref01_Fract.mono _ _)
      | (with_reducible exact frustumref01_Lerp.mono _ _ _ _)
      | (with_reducible exact frustumref01_Mul.mono _ _ _)
      | (with_reducible exact frustumref01_Saturate.mono _ _)
      | (with_reducible exact frustumref01_Sqrt.mono _ _)
      | (with_reducible exact frustumref01_Sub.mono _ _ _)
      | (with_reducible exact LeO.refl _)
      | (with_reducible exact LeO.none _)
      | (with_reducible refine LeO.ite ?_ ?_)
      | (with_reducible refine LeO.bind ?_ (fun _ => ?_))
      | exact ih0 _ _ _ _
      | exact ih1 _ _ _ _
      | exact fixed_Div.mono _ _ _
      | exact fixed_Lerp.mono _ _ _ _
      | exact fixed_Mul.mono _ _ _
      | exact fixed_Sqrt.mono _ _
      | exact frustumlaw01_example.mono _
      | exact frustumref01_Add.mono _ _ _
      | exact frustumref01_Clamp.mono _ _ _ _
      | exact frustumref01_Div.mono _ _ _
      | exact frustumref01_Floor.mono _ _
      | exact frustumref01_Fract.mono _ _
      | exact frustumref01_Lerp.mono _ _ _ _
      | exact frustumref01_Mul.mono _ _ _
      | exact frustumref01_Saturate.mono _ _
      | exact frustumref01_Sqrt.mono _ _
      | exact frustumref01_Sub.mono _ _ _
      | exact LeO.none _
      | refine LeO.ite ?_ ?_
      | refine LeO.bind ?_ (fun _ => ?_)
theorem frustumlaw01_FixedArithmetic.mono : ∀ a0 a1 a2 k, LeO (frustumlaw01_FixedArithmetic.f k a0 a1 a2) (frustumlaw01_FixedArithmetic.f (k + 1) a0 a1 a2) := by
  intro a0 a1 a2 k
  obtain ⟨ih0, ih1⟩ := frustumlaw01_FixedArithmetic.mono_l k
  unfold frustumlaw01_FixedArithmetic.f
  repeat' first
      | (with_reducible exact ih0 _ _ _ _)
      | (with_reducible exact ih1 _ _ _ _)
      | (with_reducible exact fixed_Div.mono _ _ _)
      | (with_reducible exact fixed_Lerp.mono _ _ _ _)
      | (with_reducible exact fixed_Mul.mono _ _ _)
      | (with_reducible exact fixed_Sqrt.mono _ _)
      | (with_reducible exact frustumlaw01_example.mono _)
      | (with_reducible exact frustumref01_Add.mono _ _ _)
      | (with_reducible exact frustumref01_Clamp.mono _ _ _ _)
      | (with_reducible exact frustumref01_Div.mono _ _ _)
      | (with_reducible exact frustumref01_Floor.mono _ _)
      | (with_reducible exact frustumref01_Fract.mono _ _)
      | (with_reducible exact frustumref01_Lerp.mono _ _ _ _)
      | (with_reducible exact frustumref01_Mul.mono _ _ _)
      | (with_reducible exact frustumref01_Saturate.mono _ _)
      | (with_reducible exact frustumref01_Sqrt.mono _ _)
      | (with_reducible exact frustumref01_Sub.mono _ _ _)
      | (with_reducible exact LeO.refl _)
      | (with_reducible exact LeO.none _)
      | (with_reducible refine LeO.ite ?_ ?_)
      | (with_reducible refine LeO.bind ?_ (fun _ => ?_))
      | exact ih0 _ _ _ _
      | exact ih1 _ _ _ _
      | exact fixed_Div.mono _ _ _
      | exact fixed_Lerp.mono _ _ _ _
      | exact fixed_Mul.mono _ _ _
      | exact fixed_Sqrt.mono _ _
      | exact frustumlaw01_example.mono _
      | exact frustumref01_Add.mono _ _ _
      | exact frustumref01_Clamp.mono _ _ _ _
      | exact frustumref01_Div.mono _ _ _
      | exact frustumref01_Floor.mono _ _
      | exact frustumref01_Fract.mono _ _
      | exact frustumref01_Lerp.mono _ _ _ _
      | exact frustumref01_Mul.mono _ _ _
      | exact frustumref01_Saturate.mono _ _
      | exact frustumref01_Sqrt.mono _ _
      | exact frustumref01_Sub.mono _ _ _
      | exact LeO.none _
      | refine LeO.ite ?_ ?_
      | refine LeO.bind ?_ (fun _ => ?_)
set_option maxHeartbeats 8000000 in
set_option maxRecDepth 100000 in
theorem frustumlaw01_FixedArithmetic.calls (k : Nat) (a0 : Int) (a1 : Int) (a2 : Int) (r : Bool) (w : World) (h : frustumlaw01_FixedArithmetic.f k a0 a1 a2 = some r) :
    Calls Try.prog 10 #[.int .i64 a0, .int .i64 a1, .int .i64 a2] w fun e w' => e = .returned (.bool r) ∧ Below w.heap.size w w' := by
  have HB := Aside0.mk (Below.refl w.heap.size w)
  have H : ((fixed_Saturate.f a0).bind fun t157 => ((frustumref01_Saturate.f k a0).bind fun t158 => (if t157 = t158 then ((fixed_Add.f a0 a1).bind fun t159 => ((frustumref01_Add.f k a0 a1).bind fun t160 => (if t159 = t160 then ((fixed_Sub.f a0 a1).bind fun t161 => ((frustumref01_Sub.f k a0 a1).bind fun t162 => (if t161 = t162 then ((fixed_Mul.f k a0 a1).bind fun t163 => ((frustumref01_Mul.f k a0 a1).bind fun t164 => (if t163 = t164 then ((fixed_Div.f k a0 a1).bind fun t165 => ((frustumref01_Div.f k a0 a1).bind fun t166 => (frustumlaw01_FixedArithmetic.j0 k a0 a1 a2 (t165 != t166)))) else (frustumlaw01_FixedArithmetic.j0 k a0 a1 a2 true)))) else (frustumlaw01_FixedArithmetic.j0 k a0 a1 a2 true)))) else (frustumlaw01_FixedArithmetic.j0 k a0 a1 a2 true)))) else (frustumlaw01_FixedArithmetic.j0 k a0 a1 a2 true)))) = some r := h
  clear h
  have HC4 := Aside0.mk H
  clear H
  go_enter Try.func10, Try.ntmps10
  go_upto_region 1 with (fail)
  go_cut [47] (fun v47 wc => ∃ (kq : Nat) (x47_3 : Bool), v47 = .bool x47_3 ∧ Aside0 (frustumlaw01_FixedArithmetic.j0 kq a0 a1 a2 x47_3 = some r) ∧ Aside0 (kq ≤ k) ∧ Aside0 (Below w.heap.size w wc))
  case first =>
    have H := HC4.out
    clear HC4
    replace H := Option.bind_eq_some_iff.mp H
    obtain ⟨t157, A50, H⟩ := H
    replace H : ((frustumref01_Saturate.f k a0).bind fun t158 => (if t157 = t158 then ((fixed_Add.f a0 a1).bind fun t159 => ((frustumref01_Add.f k a0 a1).bind fun t160 => (if t159 = t160 then ((fixed_Sub.f a0 a1).bind fun t161 => ((frustumref01_Sub.f k a0 a1).bind fun t162 => (if t161 = t162 then ((fixed_Mul.f k a0 a1).bind fun t163 => ((frustumref01_Mul.f k a0 a1).bind fun t164 => (if t163 = t164 then ((fixed_Div.f k a0 a1).bind fun t165 => ((frustumref01_Div.f k a0 a1).bind fun t166 => (frustumlaw01_FixedArithmetic.j0 k a0 a1 a2 (t165 != t166)))) else (frustumlaw01_FixedArithmetic.j0 k a0 a1 a2 true)))) else (frustumlaw01_FixedArithmetic.j0 k a0 a1 a2 true)))) else (frustumlaw01_FixedArithmetic.j0 k a0 a1 a2 true)))) else (frustumlaw01_FixedArithmetic.j0 k a0 a1 a2 true))) = some r := H
    have A5 := Aside0.mk A50
    clear A50
    replace H := Option.bind_eq_some_iff.mp H
    obtain ⟨t158, A60, H⟩ := H
    replace H : (if t157 = t158 then ((fixed_Add.f a0 a1).bind fun t159 => ((frustumref01_Add.f k a0 a1).bind fun t160 => (if t159 = t160 then ((fixed_Sub.f a0 a1).bind fun t161 => ((frustumref01_Sub.f k a0 a1).bind fun t162 => (if t161 = t162 then ((fixed_Mul.f k a0 a1).bind fun t163 => ((frustumref01_Mul.f k a0 a1).bind fun t164 => (if t163 = t164 then ((fixed_Div.f k a0 a1).bind fun t165 => ((frustumref01_Div.f k a0 a1).bind fun t166 => (frustumlaw01_FixedArithmetic.j0 k a0 a1 a2 (t165 != t166)))) else (frustumlaw01_FixedArithmetic.j0 k a0 a1 a2 true)))) else (frustumlaw01_FixedArithmetic.j0 k a0 a1 a2 true)))) else (frustumlaw01_FixedArithmetic.j0 k a0 a1 a2 true)))) else (frustumlaw01_FixedArithmetic.j0 k a0 a1 a2 true)) = some r := H
    have A6 := Aside0.mk A60
    clear A60
    by_cases c7 : t157 = t158
    · rw [if_pos c7] at H
      have c7b0 : (t157 == t158) = true := beq_iff_eq.mpr c7
      have c7b1 : (t157 != t158) = false := bne_eq_false_iff_eq.mpr c7
      clear c7
      (first | rw [c7b0] | (simp only [i64_w, i32_w]; rw [c7b0]) | skip)
      replace H := Option.bind_eq_some_iff.mp H
      obtain ⟨t159, A80, H⟩ := H
      replace H : ((frustumref01_Add.f k a0 a1).bind fun t160 => (if t159 = t160 then ((fixed_Sub.f a0 a1).bind fun t161 => ((frustumref01_Sub.f k a0 a1).bind fun t162 => (if t161 = t162 then ((fixed_Mul.f k a0 a1).bind fun t163 => ((frustumref01_Mul.f k a0 a1).bind fun t164 => (if t163 = t164 then ((fixed_Div.f k a0 a1).bind fun t165 => ((frustumref01_Div.f k a0 a1).bind fun t166 => (frustumlaw01_FixedArithmetic.j0 k a0 a1 a2 (t165 != t166)))) else (frustumlaw01_FixedArithmetic.j0 k a0 a1 a2 true)))) else (frustumlaw01_FixedArithmetic.j0 k a0 a1 a2 true)))) else (frustumlaw01_FixedArithmetic.j0 k a0 a1 a2 true))) = some r := H
      have A8 := Aside0.mk A80
      clear A80
      replace H := Option.bind_eq_some_iff.mp H
      obtain ⟨t160, A90, H⟩ := H
      replace H : (if t159 = t160 then ((fixed_Sub.f a0 a1).bind fun t161 => ((frustumref01_Sub.f k a0 a1).bind fun t162 => (if t161 = t162 then ((fixed_Mul.f k a0 a1).bind fun t163 => ((frustumref01_Mul.f k a0 a1).bind fun t164 => (if t163 = t164 then ((fixed_Div.f k a0 a1).bind fun t165 => ((frustumref01_Div.f k a0 a1).bind fun t166 => (frustumlaw01_FixedArithmetic.j0 k a0 a1 a2 (t165 != t166)))) else (frustumlaw01_FixedArithmetic.j0 k a0 a1 a2 true)))) else (frustumlaw01_FixedArithmetic.j0 k a0 a1 a2 true)))) else (frustumlaw01_FixedArithmetic.j0 k a0 a1 a2 true)) = some r := H
      have A9 := Aside0.mk A90
      clear A90
      by_cases c10 : t159 = t160
      · rw [if_pos c10] at H
        have c10b0 : (t159 == t160) = true := beq_iff_eq.mpr c10
        have c10b1 : (t159 != t160) = false := bne_eq_false_iff_eq.mpr c10
        clear c10
        replace H := Option.bind_eq_some_iff.mp H
        obtain ⟨t161, A110, H⟩ := H
        replace H : ((frustumref01_Sub.f k a0 a1).bind fun t162 => (if t161 = t162 then ((fixed_Mul.f k a0 a1).bind fun t163 => ((frustumref01_Mul.f k a0 a1).bind fun t164 => (if t163 = t164 then ((fixed_Div.f k a0 a1).bind fun t165 => ((frustumref01_Div.f k a0 a1).bind fun t166 => (frustumlaw01_FixedArithmetic.j0 k a0 a1 a2 (t165 != t166)))) else (frustumlaw01_FixedArithmetic.j0 k a0 a1 a2 true)))) else (frustumlaw01_FixedArithmetic.j0 k a0 a1 a2 true))) = some r := H
        have A11 := Aside0.mk A110
        clear A110
        replace H := Option.bind_eq_some_iff.mp H
        obtain ⟨t162, A120, H⟩ := H
        replace H : (if t161 = t162 then ((fixed_Mul.f k a0 a1).bind fun t163 => ((frustumref01_Mul.f k a0 a1).bind fun t164 => (if t163 = t164 then ((fixed_Div.f k a0 a1).bind fun t165 => ((frustumref01_Div.f k a0 a1).bind fun t166 => (frustumlaw01_FixedArithmetic.j0 k a0 a1 a2 (t165 != t166)))) else (frustumlaw01_FixedArithmetic.j0 k a0 a1 a2 true)))) else (frustumlaw01_FixedArithmetic.j0 k a0 a1 a2 true)) = some r := H
        have A12 := Aside0.mk A120
        clear A120
        by_cases c13 : t161 = t162
        · rw [if_pos c13] at H
          have c13b0 : (t161 == t162) = true := beq_iff_eq.mpr c13
          have c13b1 : (t161 != t162) = false := bne_eq_false_iff_eq.mpr c13
          clear c13
          replace H := Option.bind_eq_some_iff.mp H
          obtain ⟨t163, A140, H⟩ := H
          replace H : ((frustumref01_Mul.f k a0 a1).bind fun t164 => (if t163 = t164 then ((fixed_Div.f k a0 a1).bind fun t165 => ((frustumref01_Div.f k a0 a1).bind fun t166 => (frustumlaw01_FixedArithmetic.j0 k a0 a1 a2 (t165 != t166)))) else (frustumlaw01_FixedArithmetic.j0 k a0 a1 a2 true))) = some r := H
          have A14 := Aside0.mk A140
          clear A140
          replace H := Option.bind_eq_some_iff.mp H
          obtain ⟨t164, A150, H⟩ := H
          replace H : (if t163 = t164 then ((fixed_Div.f k a0 a1).bind fun t165 => ((frustumref01_Div.f k a0 a1).bind fun t166 => (frustumlaw01_FixedArithmetic.j0 k a0 a1 a2 (t165 != t166)))) else (frustumlaw01_FixedArithmetic.j0 k a0 a1 a2 true)) = some r := H
          have A15 := Aside0.mk A150
          clear A150
          by_cases c16 : t163 = t164
          · rw [if_pos c16] at H
            have c16b0 : (t163 == t164) = true := beq_iff_eq.mpr c16
            have c16b1 : (t163 != t164) = false := bne_eq_false_iff_eq.mpr c16
            clear c16
            replace H := Option.bind_eq_some_iff.mp H
            obtain ⟨t165, A170, H⟩ := H
            replace H : ((frustumref01_Div.f k a0 a1).bind fun t166 => (frustumlaw01_FixedArithmetic.j0 k a0 a1 a2 (t165 != t166))) = some r := H
            have A17 := Aside0.mk A170
            clear A170
            replace H := Option.bind_eq_some_iff.mp H
            obtain ⟨t166, A180, H⟩ := H
            replace H : (frustumlaw01_FixedArithmetic.j0 k a0 a1 a2 (t165 != t166)) = some r := H
            have A18 := Aside0.mk A180
            clear A180
            have H' := Aside0.mk H
            clear H
            go_wp2_with (first | ((with_reducible refine gate_callee (f := 25) rfl ?_); refine goesL_ (some 8) rfl rfl Try.func25 (by kernel_rfl) rfl #[.int .i64 a0] rfl (by (try simp only [List.map_toArray, List.map_cons, List.map_nil]); first | done | rfl | (simp only [List.length_drop, List.length_take]; rfl)) ?_; (with_reducible refine (fixed_Saturate.calls a0 t157 _ A5.out).mono ?_); rintro e w19 ⟨rfl, hb⟩; refine ⟨_, rfl, ?_⟩; have n0_ := Aside0.mk (below_step (by repeat (first | (with_reducible first | exact HB.out | apply below_alloc | apply pw_below_drewN | apply below_drew1) | exact HB.out)) hb); clear HB; have HB := n0_; clear n0_; (try clear hb); (try clear hb2); (try clear hk); (try clear hi)) | ((with_reducible refine gate_callee (f := 26) rfl ?_); refine goesL_ (some 10) rfl rfl Try.func26 (by kernel_rfl) rfl #[.int .i64 a0] rfl (by (try simp only [List.map_toArray, List.map_cons, List.map_nil]); first | done | rfl | (simp only [List.length_drop, List.length_take]; rfl)) ?_; (with_reducible refine (frustumref01_Saturate.calls k a0 t158 _ A6.out).mono ?_); rintro e w' ⟨rfl, ⟨nd, rfl⟩⟩; refine ⟨_, rfl, ?_⟩) | (go_at_call 21; (with_reducible refine (fixed_Add.calls a0 a1 t159 _ A8.out).mono ?_); rintro e w20 ⟨rfl, hb⟩; have n0_ := Aside0.mk (below_step (by repeat (first | (with_reducible first | exact HB.out | apply below_alloc | apply pw_below_drewN | apply below_drew1) | exact HB.out)) hb); clear HB; have HB := n0_; clear n0_; (try clear hb); (try clear hb2); (try clear hk); (try clear hi)) | (go_at_call 27; (with_reducible refine (frustumref01_Add.calls k a0 a1 t160 _ A9.out).mono ?_); rintro e w' ⟨rfl, ⟨nd, rfl⟩⟩) | (go_at_call 23; (with_reducible refine (fixed_Sub.calls a0 a1 t161 _ A11.out).mono ?_); rintro e w21 ⟨rfl, hb⟩; have n0_ := Aside0.mk (below_step (by repeat (first | (with_reducible first | exact HB.out | apply below_alloc | apply pw_below_drewN | apply below_drew1) | exact HB.out)) hb); clear HB; have HB := n0_; clear n0_; (try clear hb); (try clear hb2); (try clear hk); (try clear hi)) | (go_at_call 28; (with_reducible refine (frustumref01_Sub.calls k a0 a1 t162 _ A12.out).mono ?_); rintro e w' ⟨rfl, ⟨nd, rfl⟩⟩) | (go_at_call 22; (with_reducible refine (fixed_Mul.calls k a0 a1 t163 _ A14.out).mono ?_); rintro e w22 ⟨rfl, hb⟩; have n0_ := Aside0.mk (below_step (by repeat (first | (with_reducible first | exact HB.out | apply below_alloc | apply pw_below_drewN | apply below_drew1) | exact HB.out)) hb); clear HB; have HB := n0_; clear n0_; (try clear hb); (try clear hb2); (try clear hk); (try clear hi)) | (go_at_call 29; (with_reducible refine (frustumref01_Mul.calls k a0 a1 t164 _ A15.out).mono ?_); rintro e w' ⟨rfl, ⟨nd, rfl⟩⟩) | (go_at_call 24; (with_reducible refine (fixed_Div.calls k a0 a1 t165 _ A17.out).mono ?_); rintro e w23 ⟨rfl, hb⟩; have n0_ := Aside0.mk (below_step (by repeat (first | (with_reducible first | exact HB.out | apply below_alloc | apply pw_below_drewN | apply below_drew1) | exact HB.out)) hb); clear HB; have HB := n0_; clear n0_; (try clear hb); (try clear hb2); (try clear hk); (try clear hi)) | (go_at_call 30; (with_reducible refine (frustumref01_Div.calls k a0 a1 t166 _ A18.out).mono ?_); rintro e w' ⟨rfl, ⟨nd, rfl⟩⟩))
            go_meet
            case rel => exact ⟨_, ((t165 != t166)), (by first | rfl | (simp; done) | (simp [*]; done)), H', ⟨by first | omega | exact Nat.le_refl _⟩, ⟨by repeat (first | (with_reducible first | exact HB.out | apply below_alloc | apply pw_below_drewN | apply below_drew1) | exact HB.out)⟩⟩
          · rw [if_neg c16] at H
            have c16b0 : (t163 == t164) = false := beq_eq_false_iff_ne.mpr c16
            have c16b1 : (t163 != t164) = true := bne_iff_ne.mpr c16
            have H' := Aside0.mk H
            clear H
            go_wp2_with (first | ((with_reducible refine gate_callee (f := 25) rfl ?_); refine goesL_ (some 8) rfl rfl Try.func25 (by kernel_rfl) rfl #[.int .i64 a0] rfl (by (try simp only [List.map_toArray, List.map_cons, List.map_nil]); first | done | rfl | (simp only [List.length_drop, List.length_take]; rfl)) ?_; (with_reducible refine (fixed_Saturate.calls a0 t157 _ A5.out).mono ?_); rintro e w24 ⟨rfl, hb⟩; refine ⟨_, rfl, ?_⟩; have n0_ := Aside0.mk (below_step (by repeat (first | (with_reducible first | exact HB.out | apply below_alloc | apply pw_below_drewN | apply below_drew1) | exact HB.out)) hb); clear HB; have HB := n0_; clear n0_; (try clear hb); (try clear hb2); (try clear hk); (try clear hi)) | ((with_reducible refine gate_callee (f := 26) rfl ?_); refine goesL_ (some 10) rfl rfl Try.func26 (by kernel_rfl) rfl #[.int .i64 a0] rfl (by (try simp only [List.map_toArray, List.map_cons, List.map_nil]); first | done | rfl | (simp only [List.length_drop, List.length_take]; rfl)) ?_; (with_reducible refine (frustumref01_Saturate.calls k a0 t158 _ A6.out).mono ?_); rintro e w' ⟨rfl, ⟨nd, rfl⟩⟩; refine ⟨_, rfl, ?_⟩) | (go_at_call 21; (with_reducible refine (fixed_Add.calls a0 a1 t159 _ A8.out).mono ?_); rintro e w25 ⟨rfl, hb⟩; have n0_ := Aside0.mk (below_step (by repeat (first | (with_reducible first | exact HB.out | apply below_alloc | apply pw_below_drewN | apply below_drew1) | exact HB.out)) hb); clear HB; have HB := n0_; clear n0_; (try clear hb); (try clear hb2); (try clear hk); (try clear hi)) | (go_at_call 27; (with_reducible refine (frustumref01_Add.calls k a0 a1 t160 _ A9.out).mono ?_); rintro e w' ⟨rfl, ⟨nd, rfl⟩⟩) | (go_at_call 23; (with_reducible refine (fixed_Sub.calls a0 a1 t161 _ A11.out).mono ?_); rintro e w26 ⟨rfl, hb⟩; have n0_ := Aside0.mk (below_step (by repeat (first | (with_reducible first | exact HB.out | apply below_alloc | apply pw_below_drewN | apply below_drew1) | exact HB.out)) hb); clear HB; have HB := n0_; clear n0_; (try clear hb); (try clear hb2); (try clear hk); (try clear hi)) | (go_at_call 28; (with_reducible refine (frustumref01_Sub.calls k a0 a1 t162 _ A12.out).mono ?_); rintro e w' ⟨rfl, ⟨nd, rfl⟩⟩) | (go_at_call 22; (with_reducible refine (fixed_Mul.calls k a0 a1 t163 _ A14.out).mono ?_); rintro e w27 ⟨rfl, hb⟩; have n0_ := Aside0.mk (below_step (by repeat (first | (with_reducible first | exact HB.out | apply below_alloc | apply pw_below_drewN | apply below_drew1) | exact HB.out)) hb); clear HB; have HB := n0_; clear n0_; (try clear hb); (try clear hb2); (try clear hk); (try clear hi)) | (go_at_call 29; (with_reducible refine (frustumref01_Mul.calls k a0 a1 t164 _ A15.out).mono ?_); rintro e w' ⟨rfl, ⟨nd, rfl⟩⟩))
            go_meet
            case rel => exact ⟨_, (true), (by first | rfl | (simp; done) | (simp [*]; done)), H', ⟨by first | omega | exact Nat.le_refl _⟩, ⟨by repeat (first | (with_reducible first | exact HB.out | apply below_alloc | apply pw_below_drewN | apply below_drew1) | exact HB.out)⟩⟩
        · rw [if_neg c13] at H
          have c13b0 : (t161 == t162) = false := beq_eq_false_iff_ne.mpr c13
          have c13b1 : (t161 != t162) = true := bne_iff_ne.mpr c13
          have H' := Aside0.mk H
          clear H
          go_wp2_with (first | ((with_reducible refine gate_callee (f := 25) rfl ?_); refine goesL_ (some 8) rfl rfl Try.func25 (by kernel_rfl) rfl #[.int .i64 a0] rfl (by (try simp only [List.map_toArray, List.map_cons, List.map_nil]); first | done | rfl | (simp only [List.length_drop, List.length_take]; rfl)) ?_; (with_reducible refine (fixed_Saturate.calls a0 t157 _ A5.out).mono ?_); rintro e w28 ⟨rfl, hb⟩; refine ⟨_, rfl, ?_⟩; have n0_ := Aside0.mk (below_step (by repeat (first | (with_reducible first | exact HB.out | apply below_alloc | apply pw_below_drewN | apply below_drew1) | exact HB.out)) hb); clear HB; have HB := n0_; clear n0_; (try clear hb); (try clear hb2); (try clear hk); (try clear hi)) | ((with_reducible refine gate_callee (f := 26) rfl ?_); refine goesL_ (some 10) rfl rfl Try.func26 (by kernel_rfl) rfl #[.int .i64 a0] rfl (by (try simp only [List.map_toArray, List.map_cons, List.map_nil]); first | done | rfl | (simp only [List.length_drop, List.length_take]; rfl)) ?_; (with_reducible refine (frustumref01_Saturate.calls k a0 t158 _ A6.out).mono ?_); rintro e w' ⟨rfl, ⟨nd, rfl⟩⟩; refine ⟨_, rfl, ?_⟩) | (go_at_call 21; (with_reducible refine (fixed_Add.calls a0 a1 t159 _ A8.out).mono ?_); rintro e w29 ⟨rfl, hb⟩; have n0_ := Aside0.mk (below_step (by repeat (first | (with_reducible first | exact HB.out | apply below_alloc | apply pw_below_drewN | apply below_drew1) | exact HB.out)) hb); clear HB; have HB := n0_; clear n0_; (try clear hb); (try clear hb2); (try clear hk); (try clear hi)) | (go_at_call 27; (with_reducible refine (frustumref01_Add.calls k a0 a1 t160 _ A9.out).mono ?_); rintro e w' ⟨rfl, ⟨nd, rfl⟩⟩) | (go_at_call 23; (with_reducible refine (fixed_Sub.calls a0 a1 t161 _ A11.out).mono ?_); rintro e w30 ⟨rfl, hb⟩; have n0_ := Aside0.mk (below_step (by repeat (first | (with_reducible first | exact HB.out | apply below_alloc | apply pw_below_drewN | apply below_drew1) | exact HB.out)) hb); clear HB; have HB := n0_; clear n0_; (try clear hb); (try clear hb2); (try clear hk); (try clear hi)) | (go_at_call 28; (with_reducible refine (frustumref01_Sub.calls k a0 a1 t162 _ A12.out).mono ?_); rintro e w' ⟨rfl, ⟨nd, rfl⟩⟩))
          go_meet
          case rel => exact ⟨_, (true), (by first | rfl | (simp; done) | (simp [*]; done)), H', ⟨by first | omega | exact Nat.le_refl _⟩, ⟨by repeat (first | (with_reducible first | exact HB.out | apply below_alloc | apply pw_below_drewN | apply below_drew1) | exact HB.out)⟩⟩
      · rw [if_neg c10] at H
        have c10b0 : (t159 == t160) = false := beq_eq_false_iff_ne.mpr c10
        have c10b1 : (t159 != t160) = true := bne_iff_ne.mpr c10
        have H' := Aside0.mk H
        clear H
        go_wp2_with (first | ((with_reducible refine gate_callee (f := 25) rfl ?_); refine goesL_ (some 8) rfl rfl Try.func25 (by kernel_rfl) rfl #[.int .i64 a0] rfl (by (try simp only [List.map_toArray, List.map_cons, List.map_nil]); first | done | rfl | (simp only [List.length_drop, List.length_take]; rfl)) ?_; (with_reducible refine (fixed_Saturate.calls a0 t157 _ A5.out).mono ?_); rintro e w31 ⟨rfl, hb⟩; refine ⟨_, rfl, ?_⟩; have n0_ := Aside0.mk (below_step (by repeat (first | (with_reducible first | exact HB.out | apply below_alloc | apply pw_below_drewN | apply below_drew1) | exact HB.out)) hb); clear HB; have HB := n0_; clear n0_; (try clear hb); (try clear hb2); (try clear hk); (try clear hi)) | ((with_reducible refine gate_callee (f := 26) rfl ?_); refine goesL_ (some 10) rfl rfl Try.func26 (by kernel_rfl) rfl #[.int .i64 a0] rfl (by (try simp only [List.map_toArray, List.map_cons, List.map_nil]); first | done | rfl | (simp only [List.length_drop, List.length_take]; rfl)) ?_; (with_reducible refine (frustumref01_Saturate.calls k a0 t158 _ A6.out).mono ?_); rintro e w' ⟨rfl, ⟨nd, rfl⟩⟩; refine ⟨_, rfl, ?_⟩) | (go_at_call 21; (with_reducible refine (fixed_Add.calls a0 a1 t159 _ A8.out).mono ?_); rintro e w32 ⟨rfl, hb⟩; have n0_ := Aside0.mk (below_step (by repeat (first | (with_reducible first | exact HB.out | apply below_alloc | apply pw_below_drewN | apply below_drew1) | exact HB.out)) hb); clear HB; have HB := n0_; clear n0_; (try clear hb); (try clear hb2); (try clear hk); (try clear hi)) | (go_at_call 27; (with_reducible refine (frustumref01_Add.calls k a0 a1 t160 _ A9.out).mono ?_); rintro e w' ⟨rfl, ⟨nd, rfl⟩⟩))
        go_meet
        case rel => exact ⟨_, (true), (by first | rfl | (simp; done) | (simp [*]; done)), H', ⟨by first | omega | exact Nat.le_refl _⟩, ⟨by repeat (first | (with_reducible first | exact HB.out | apply below_alloc | apply pw_below_drewN | apply below_drew1) | exact HB.out)⟩⟩
    · rw [if_neg c7] at H
      have c7b0 : (t157 == t158) = false := beq_eq_false_iff_ne.mpr c7
      have c7b1 : (t157 != t158) = true := bne_iff_ne.mpr c7
      (first | rw [c7b0] | (simp only [i64_w, i32_w]; rw [c7b0]) | skip)
      have H' := Aside0.mk H
      clear H
      go_wp2_with (first | ((with_reducible refine gate_callee (f := 25) rfl ?_); refine goesL_ (some 8) rfl rfl Try.func25 (by kernel_rfl) rfl #[.int .i64 a0] rfl (by (try simp only [List.map_toArray, List.map_cons, List.map_nil]); first | done | rfl | (simp only [List.length_drop, List.length_take]; rfl)) ?_; (with_reducible refine (fixed_Saturate.calls a0 t157 _ A5.out).mono ?_); rintro e w33 ⟨rfl, hb⟩; refine ⟨_, rfl, ?_⟩; have n0_ := Aside0.mk (below_step (by repeat (first | (with_reducible first | exact HB.out | apply below_alloc | apply pw_below_drewN | apply below_drew1) | exact HB.out)) hb); clear HB; have HB := n0_; clear n0_; (try clear hb); (try clear hb2); (try clear hk); (try clear hi)) | ((with_reducible refine gate_callee (f := 26) rfl ?_); refine goesL_ (some 10) rfl rfl Try.func26 (by kernel_rfl) rfl #[.int .i64 a0] rfl (by (try simp only [List.map_toArray, List.map_cons, List.map_nil]); first | done | rfl | (simp only [List.length_drop, List.length_take]; rfl)) ?_; (with_reducible refine (frustumref01_Saturate.calls k a0 t158 _ A6.out).mono ?_); rintro e w' ⟨rfl, ⟨nd, rfl⟩⟩; refine ⟨_, rfl, ?_⟩))
      go_meet
      case rel => exact ⟨_, (true), (by first | rfl | (simp; done) | (simp [*]; done)), H', ⟨by first | omega | exact Nat.le_refl _⟩, ⟨by repeat (first | (with_reducible first | exact HB.out | apply below_alloc | apply pw_below_drewN | apply below_drew1) | exact HB.out)⟩⟩
  case rest =>
    clear HC4
    try clear c1
    try clear c2
    try clear p2
    try clear c7
    try clear c7b0
    try clear c7b1
    try clear c10
    try clear c10b0
    try clear c10b1
    try clear c13
    try clear c13b0
    try clear c13b1
    try clear c16
    try clear c16b0
    try clear c16b1
    try clear c25
    try clear c26
    obtain ⟨kq, x47_3, rfl, HA, HJ3, HB⟩ := hcut
    cases kq with
    | zero => exact absurd HA.out (by simp [frustumlaw01_FixedArithmetic.j0])
    | succ kj3 =>
      have H := HA.out
      clear HA
      simp only [frustumlaw01_FixedArithmetic.j0] at H
      by_cases c34 : x47_3 = true
      · subst c34
        have H1 : (some false) = some r := by rw [if_pos rfl] at H; exact H
        clear H
        have H := H1
        clear H1
        obtain rfl := Option.some.inj H
        go_wp2
        go_ret
        exact ⟨by first | rfl | (simp [errW_none, errW_some] <;> rfl) | (simp [*, errW_none, errW_some] <;> rfl), by repeat (first | (with_reducible first | exact HB.out | apply below_alloc | apply pw_below_drewN | apply below_drew1) | exact HB.out)⟩
      · replace c34 := Bool.eq_false_iff.mpr c34
        subst c34
        have H1 : ((fixed_Clamp.f a0 a1 a2).bind fun t167 => ((frustumref01_Clamp.f kj3 a0 a1 a2).bind fun t168 => (if t167 = t168 then ((fixed_Wrap.f a0).bind fun t169 => ((frustumref01_Wrap.f a0).bind fun t170 => (if t169 = t170 then ((fixed_Floor.f a0).bind fun t171 => ((frustumref01_Floor.f kj3 a0).bind fun t172 => (if t171 = t172 then ((fixed_Fract.f a0).bind fun t173 => ((frustumref01_Fract.f kj3 a0).bind fun t174 => (if t173 = t174 then ((fixed_Sqrt.f kj3 a0).bind fun t175 => ((frustumref01_Sqrt.f kj3 a0).bind fun t176 => (frustumlaw01_FixedArithmetic.j1 kj3 a0 a1 a2 (t175 != t176)))) else (frustumlaw01_FixedArithmetic.j1 kj3 a0 a1 a2 true)))) else (frustumlaw01_FixedArithmetic.j1 kj3 a0 a1 a2 true)))) else (frustumlaw01_FixedArithmetic.j1 kj3 a0 a1 a2 true)))) else (frustumlaw01_FixedArithmetic.j1 kj3 a0 a1 a2 true)))) = some r := by rw [if_neg (show ¬ (false = true) by decide)] at H; exact H
        clear H
        have H := H1
        clear H1
        have HC35 := Aside0.mk H
        clear H
        go_upto_region 3 with (fail)
        go_cut [84] (fun v84 wc => ∃ (kq : Nat) (x84_34 : Bool), v84 = .bool x84_34 ∧ Aside0 (frustumlaw01_FixedArithmetic.j1 kq a0 a1 a2 x84_34 = some r) ∧ Aside0 (kq ≤ kj3) ∧ Aside0 (Below w.heap.size w wc))
        case first =>
          have H := HC35.out
          clear HC35
          replace H := Option.bind_eq_some_iff.mp H
          obtain ⟨t167, A360, H⟩ := H
          replace H : ((frustumref01_Clamp.f kj3 a0 a1 a2).bind fun t168 => (if t167 = t168 then ((fixed_Wrap.f a0).bind fun t169 => ((frustumref01_Wrap.f a0).bind fun t170 => (if t169 = t170 then ((fixed_Floor.f a0).bind fun t171 => ((frustumref01_Floor.f kj3 a0).bind fun t172 => (if t171 = t172 then ((fixed_Fract.f a0).bind fun t173 => ((frustumref01_Fract.f kj3 a0).bind fun t174 => (if t173 = t174 then ((fixed_Sqrt.f kj3 a0).bind fun t175 => ((frustumref01_Sqrt.f kj3 a0).bind fun t176 => (frustumlaw01_FixedArithmetic.j1 kj3 a0 a1 a2 (t175 != t176)))) else (frustumlaw01_FixedArithmetic.j1 kj3 a0 a1 a2 true)))) else (frustumlaw01_FixedArithmetic.j1 kj3 a0 a1 a2 true)))) else (frustumlaw01_FixedArithmetic.j1 kj3 a0 a1 a2 true)))) else (frustumlaw01_FixedArithmetic.j1 kj3 a0 a1 a2 true))) = some r := H
          have A36 := Aside0.mk A360
          clear A360
          replace H := Option.bind_eq_some_iff.mp H
          obtain ⟨t168, A370, H⟩ := H
          replace H : (if t167 = t168 then ((fixed_Wrap.f a0).bind fun t169 => ((frustumref01_Wrap.f a0).bind fun t170 => (if t169 = t170 then ((fixed_Floor.f a0).bind fun t171 => ((frustumref01_Floor.f kj3 a0).bind fun t172 => (if t171 = t172 then ((fixed_Fract.f a0).bind fun t173 => ((frustumref01_Fract.f kj3 a0).bind fun t174 => (if t173 = t174 then ((fixed_Sqrt.f kj3 a0).bind fun t175 => ((frustumref01_Sqrt.f kj3 a0).bind fun t176 => (frustumlaw01_FixedArithmetic.j1 kj3 a0 a1 a2 (t175 != t176)))) else (frustumlaw01_FixedArithmetic.j1 kj3 a0 a1 a2 true)))) else (frustumlaw01_FixedArithmetic.j1 kj3 a0 a1 a2 true)))) else (frustumlaw01_FixedArithmetic.j1 kj3 a0 a1 a2 true)))) else (frustumlaw01_FixedArithmetic.j1 kj3 a0 a1 a2 true)) = some r := H
          have A37 := Aside0.mk A370
          clear A370
          by_cases c38 : t167 = t168
          · rw [if_pos c38] at H
            have c38b0 : (t167 == t168) = true := beq_iff_eq.mpr c38
            have c38b1 : (t167 != t168) = false := bne_eq_false_iff_eq.mpr c38
            clear c38
            (first | rw [c38b0] | (simp only [i64_w, i32_w]; rw [c38b0]) | skip)
            replace H := Option.bind_eq_some_iff.mp H
            obtain ⟨t169, A390, H⟩ := H
            replace H : ((frustumref01_Wrap.f a0).bind fun t170 => (if t169 = t170 then ((fixed_Floor.f a0).bind fun t171 => ((frustumref01_Floor.f kj3 a0).bind fun t172 => (if t171 = t172 then ((fixed_Fract.f a0).bind fun t173 => ((frustumref01_Fract.f kj3 a0).bind fun t174 => (if t173 = t174 then ((fixed_Sqrt.f kj3 a0).bind fun t175 => ((frustumref01_Sqrt.f kj3 a0).bind fun t176 => (frustumlaw01_FixedArithmetic.j1 kj3 a0 a1 a2 (t175 != t176)))) else (frustumlaw01_FixedArithmetic.j1 kj3 a0 a1 a2 true)))) else (frustumlaw01_FixedArithmetic.j1 kj3 a0 a1 a2 true)))) else (frustumlaw01_FixedArithmetic.j1 kj3 a0 a1 a2 true))) = some r := H
            have A39 := Aside0.mk A390
            clear A390
            replace H := Option.bind_eq_some_iff.mp H
            obtain ⟨t170, A400, H⟩ := H
            replace H : (if t169 = t170 then ((fixed_Floor.f a0).bind fun t171 => ((frustumref01_Floor.f kj3 a0).bind fun t172 => (if t171 = t172 then ((fixed_Fract.f a0).bind fun t173 => ((frustumref01_Fract.f kj3 a0).bind fun t174 => (if t173 = t174 then ((fixed_Sqrt.f kj3 a0).bind fun t175 => ((frustumref01_Sqrt.f kj3 a0).bind fun t176 => (frustumlaw01_FixedArithmetic.j1 kj3 a0 a1 a2 (t175 != t176)))) else (frustumlaw01_FixedArithmetic.j1 kj3 a0 a1 a2 true)))) else (frustumlaw01_FixedArithmetic.j1 kj3 a0 a1 a2 true)))) else (frustumlaw01_FixedArithmetic.j1 kj3 a0 a1 a2 true)) = some r := H
            have A40 := Aside0.mk A400
            clear A400
            by_cases c41 : t169 = t170
            · rw [if_pos c41] at H
              have c41b0 : (t169 == t170) = true := beq_iff_eq.mpr c41
              have c41b1 : (t169 != t170) = false := bne_eq_false_iff_eq.mpr c41
              clear c41
              replace H := Option.bind_eq_some_iff.mp H
              obtain ⟨t171, A420, H⟩ := H
              replace H : ((frustumref01_Floor.f kj3 a0).bind fun t172 => (if t171 = t172 then ((fixed_Fract.f a0).bind fun t173 => ((frustumref01_Fract.f kj3 a0).bind fun t174 => (if t173 = t174 then ((fixed_Sqrt.f kj3 a0).bind fun t175 => ((frustumref01_Sqrt.f kj3 a0).bind fun t176 => (frustumlaw01_FixedArithmetic.j1 kj3 a0 a1 a2 (t175 != t176)))) else (frustumlaw01_FixedArithmetic.j1 kj3 a0 a1 a2 true)))) else (frustumlaw01_FixedArithmetic.j1 kj3 a0 a1 a2 true))) = some r := H
              have A42 := Aside0.mk A420
              clear A420
              replace H := Option.bind_eq_some_iff.mp H
              obtain ⟨t172, A430, H⟩ := H
              replace H : (if t171 = t172 then ((fixed_Fract.f a0).bind fun t173 => ((frustumref01_Fract.f kj3 a0).bind fun t174 => (if t173 = t174 then ((fixed_Sqrt.f kj3 a0).bind fun t175 => ((frustumref01_Sqrt.f kj3 a0).bind fun t176 => (frustumlaw01_FixedArithmetic.j1 kj3 a0 a1 a2 (t175 != t176)))) else (frustumlaw01_FixedArithmetic.j1 kj3 a0 a1 a2 true)))) else (frustumlaw01_FixedArithmetic.j1 kj3 a0 a1 a2 true)) = some r := H
              have A43 := Aside0.mk A430
              clear A430
              by_cases c44 : t171 = t172
              · rw [if_pos c44] at H
                have c44b0 : (t171 == t172) = true := beq_iff_eq.mpr c44
                have c44b1 : (t171 != t172) = false := bne_eq_false_iff_eq.mpr c44
                clear c44
                replace H := Option.bind_eq_some_iff.mp H
                obtain ⟨t173, A450, H⟩ := H
                replace H : ((frustumref01_Fract.f kj3 a0).bind fun t174 => (if t173 = t174 then ((fixed_Sqrt.f kj3 a0).bind fun t175 => ((frustumref01_Sqrt.f kj3 a0).bind fun t176 => (frustumlaw01_FixedArithmetic.j1 kj3 a0 a1 a2 (t175 != t176)))) else (frustumlaw01_FixedArithmetic.j1 kj3 a0 a1 a2 true))) = some r := H
                have A45 := Aside0.mk A450
                clear A450
                replace H := Option.bind_eq_some_iff.mp H
                obtain ⟨t174, A460, H⟩ := H
                replace H : (if t173 = t174 then ((fixed_Sqrt.f kj3 a0).bind fun t175 => ((frustumref01_Sqrt.f kj3 a0).bind fun t176 => (frustumlaw01_FixedArithmetic.j1 kj3 a0 a1 a2 (t175 != t176)))) else (frustumlaw01_FixedArithmetic.j1 kj3 a0 a1 a2 true)) = some r := H
                have A46 := Aside0.mk A460
                clear A460
                by_cases c47 : t173 = t174
                · rw [if_pos c47] at H
                  have c47b0 : (t173 == t174) = true := beq_iff_eq.mpr c47
                  have c47b1 : (t173 != t174) = false := bne_eq_false_iff_eq.mpr c47
                  clear c47
                  replace H := Option.bind_eq_some_iff.mp H
                  obtain ⟨t175, A480, H⟩ := H
                  replace H : ((frustumref01_Sqrt.f kj3 a0).bind fun t176 => (frustumlaw01_FixedArithmetic.j1 kj3 a0 a1 a2 (t175 != t176))) = some r := H
                  have A48 := Aside0.mk A480
                  clear A480
                  replace H := Option.bind_eq_some_iff.mp H
                  obtain ⟨t176, A490, H⟩ := H
                  replace H : (frustumlaw01_FixedArithmetic.j1 kj3 a0 a1 a2 (t175 != t176)) = some r := H
                  have A49 := Aside0.mk A490
                  clear A490
                  have H' := Aside0.mk H
                  clear H
                  go_wp2_with (first | ((with_reducible refine gate_callee (f := 31) rfl ?_); refine goesL_ (some 51) rfl rfl Try.func31 (by kernel_rfl) rfl #[.int .i64 a0, .int .i64 a1, .int .i64 a2] rfl (by (try simp only [List.map_toArray, List.map_cons, List.map_nil]); first | done | rfl | (simp only [List.length_drop, List.length_take]; rfl)) ?_; (with_reducible refine (fixed_Clamp.calls a0 a1 a2 t167 _ A36.out).mono ?_); rintro e w50 ⟨rfl, hb⟩; refine ⟨_, rfl, ?_⟩; have n0_ := Aside0.mk (below_step (by repeat (first | (with_reducible first | exact HB.out | apply below_alloc | apply pw_below_drewN | apply below_drew1) | exact HB.out)) hb); clear HB; have HB := n0_; clear n0_; (try clear hb); (try clear hb2); (try clear hk); (try clear hi)) | ((with_reducible refine gate_callee (f := 32) rfl ?_); refine goesL_ (some 55) rfl rfl Try.func32 (by kernel_rfl) rfl #[.int .i64 a0, .int .i64 a1, .int .i64 a2] rfl (by (try simp only [List.map_toArray, List.map_cons, List.map_nil]); first | done | rfl | (simp only [List.length_drop, List.length_take]; rfl)) ?_; (with_reducible refine (frustumref01_Clamp.calls kj3 a0 a1 a2 t168 _ A37.out).mono ?_); rintro e w' ⟨rfl, ⟨nd, rfl⟩⟩; refine ⟨_, rfl, ?_⟩) | (go_at_call 33; (with_reducible refine (fixed_Wrap.calls a0 t169 _ A39.out).mono ?_); rintro e w' ⟨rfl, ⟨nd, rfl⟩⟩) | (go_at_call 34; (with_reducible refine (frustumref01_Wrap.calls a0 t170 _ A40.out).mono ?_); rintro e w' ⟨rfl, ⟨nd, rfl⟩⟩) | (go_at_call 14; (with_reducible refine (fixed_Floor.calls a0 t171 _ A42.out).mono ?_); rintro e w51 ⟨rfl, hb⟩; have n0_ := Aside0.mk (below_step (by repeat (first | (with_reducible first | exact HB.out | apply below_alloc | apply pw_below_drewN | apply below_drew1) | exact HB.out)) hb); clear HB; have HB := n0_; clear n0_; (try clear hb); (try clear hb2); (try clear hk); (try clear hi)) | (go_at_call 35; (with_reducible refine (frustumref01_Floor.calls kj3 a0 t172 _ A43.out).mono ?_); rintro e w' ⟨rfl, ⟨nd, rfl⟩⟩) | (go_at_call 15; (with_reducible refine (fixed_Fract.calls a0 t173 _ A45.out).mono ?_); rintro e w52 ⟨rfl, hb⟩; have n0_ := Aside0.mk (below_step (by repeat (first | (with_reducible first | exact HB.out | apply below_alloc | apply pw_below_drewN | apply below_drew1) | exact HB.out)) hb); clear HB; have HB := n0_; clear n0_; (try clear hb); (try clear hb2); (try clear hk); (try clear hi)) | (go_at_call 36; (with_reducible refine (frustumref01_Fract.calls kj3 a0 t174 _ A46.out).mono ?_); rintro e w' ⟨rfl, ⟨nd, rfl⟩⟩) | (go_at_call 17; (with_reducible refine (fixed_Sqrt.calls kj3 a0 t175 _ A48.out).mono ?_); rintro e w53 ⟨rfl, hb⟩; have n0_ := Aside0.mk (below_step (by repeat (first | (with_reducible first | exact HB.out | apply below_alloc | apply pw_below_drewN | apply below_drew1) | exact HB.out)) hb); clear HB; have HB := n0_; clear n0_; (try clear hb); (try clear hb2); (try clear hk); (try clear hi)) | (go_at_call 37; (with_reducible refine (frustumref01_Sqrt.calls kj3 a0 t176 _ A49.out).mono ?_); rintro e w' ⟨rfl, ⟨nd, rfl⟩⟩))
                  go_meet
                  case rel => exact ⟨_, ((t175 != t176)), (by first | rfl | (simp; done) | (simp [*]; done)), H', ⟨by have := HJ3.out; first | omega | exact Nat.le_refl _⟩, ⟨by repeat (first | (with_reducible first | exact HB.out | apply below_alloc | apply pw_below_drewN | apply below_drew1) | exact HB.out)⟩⟩
                · rw [if_neg c47] at H
                  have c47b0 : (t173 == t174) = false := beq_eq_false_iff_ne.mpr c47
                  have c47b1 : (t173 != t174) = true := bne_iff_ne.mpr c47
                  have H' := Aside0.mk H
                  clear H
                  go_wp2_with (first | ((with_reducible refine gate_callee (f := 31) rfl ?_); refine goesL_ (some 51) rfl rfl Try.func31 (by kernel_rfl) rfl #[.int .i64 a0, .int .i64 a1, .int .i64 a2] rfl (by (try simp only [List.map_toArray, List.map_cons, List.map_nil]); first | done | rfl | (simp only [List.length_drop, List.length_take]; rfl)) ?_; (with_reducible refine (fixed_Clamp.calls a0 a1 a2 t167 _ A36.out).mono ?_); rintro e w54 ⟨rfl, hb⟩; refine ⟨_, rfl, ?_⟩; have n0_ := Aside0.mk (below_step (by repeat (first | (with_reducible first | exact HB.out | apply below_alloc | apply pw_below_drewN | apply below_drew1) | exact HB.out)) hb); clear HB; have HB := n0_; clear n0_; (try clear hb); (try clear hb2); (try clear hk); (try clear hi)) | ((with_reducible refine gate_callee (f := 32) rfl ?_); refine goesL_ (some 55) rfl rfl Try.func32 (by kernel_rfl) rfl #[.int .i64 a0, .int .i64 a1, .int .i64 a2] rfl (by (try simp only [List.map_toArray, List.map_cons, List.map_nil]); first | done | rfl | (simp only [List.length_drop, List.length_take]; rfl)) ?_; (with_reducible refine (frustumref01_Clamp.calls kj3 a0 a1 a2 t168 _ A37.out).mono ?_); rintro e w' ⟨rfl, ⟨nd, rfl⟩⟩; refine ⟨_, rfl, ?_⟩) | (go_at_call 33; (with_reducible refine (fixed_Wrap.calls a0 t169 _ A39.out).mono ?_); rintro e w' ⟨rfl, ⟨nd, rfl⟩⟩) | (go_at_call 34; (with_reducible refine (frustumref01_Wrap.calls a0 t170 _ A40.out).mono ?_); rintro e w' ⟨rfl, ⟨nd, rfl⟩⟩) | (go_at_call 14; (with_reducible refine (fixed_Floor.calls a0 t171 _ A42.out).mono ?_); rintro e w55 ⟨rfl, hb⟩; have n0_ := Aside0.mk (below_step (by repeat (first | (with_reducible first | exact HB.out | apply below_alloc | apply pw_below_drewN | apply below_drew1) | exact HB.out)) hb); clear HB; have HB := n0_; clear n0_; (try clear hb); (try clear hb2); (try clear hk); (try clear hi)) | (go_at_call 35; (with_reducible refine (frustumref01_Floor.calls kj3 a0 t172 _ A43.out).mono ?_); rintro e w' ⟨rfl, ⟨nd, rfl⟩⟩) | (go_at_call 15; (with_reducible refine (fixed_Fract.calls a0 t173 _ A45.out).mono ?_); rintro e w56 ⟨rfl, hb⟩; have n0_ := Aside0.mk (below_step (by repeat (first | (with_reducible first | exact HB.out | apply below_alloc | apply pw_below_drewN | apply below_drew1) | exact HB.out)) hb); clear HB; have HB := n0_; clear n0_; (try clear hb); (try clear hb2); (try clear hk); (try clear hi)) | (go_at_call 36; (with_reducible refine (frustumref01_Fract.calls kj3 a0 t174 _ A46.out).mono ?_); rintro e w' ⟨rfl, ⟨nd, rfl⟩⟩))
                  go_meet
                  case rel => exact ⟨_, (true), (by first | rfl | (simp; done) | (simp [*]; done)), H', ⟨by have := HJ3.out; first | omega | exact Nat.le_refl _⟩, ⟨by repeat (first | (with_reducible first | exact HB.out | apply below_alloc | apply pw_below_drewN | apply below_drew1) | exact HB.out)⟩⟩
              · rw [if_neg c44] at H
                have c44b0 : (t171 == t172) = false := beq_eq_false_iff_ne.mpr c44
                have c44b1 : (t171 != t172) = true := bne_iff_ne.mpr c44
                have H' := Aside0.mk H
                clear H
                go_wp2_with (first | ((with_reducible refine gate_callee (f := 31) rfl ?_); refine goesL_ (some 51) rfl rfl Try.func31 (by kernel_rfl) rfl #[.int .i64 a0, .int .i64 a1, .int .i64 a2] rfl (by (try simp only [List.map_toArray, List.map_cons, List.map_nil]); first | done | rfl | (simp only [List.length_drop, List.length_take]; rfl)) ?_; (with_reducible refine (fixed_Clamp.calls a0 a1 a2 t167 _ A36.out).mono ?_); rintro e w57 ⟨rfl, hb⟩; refine ⟨_, rfl, ?_⟩; have n0_ := Aside0.mk (below_step (by repeat (first | (with_reducible first | exact HB.out | apply below_alloc | apply pw_below_drewN | apply below_drew1) | exact HB.out)) hb); clear HB; have HB := n0_; clear n0_; (try clear hb); (try clear hb2); (try clear hk); (try clear hi)) | ((with_reducible refine gate_callee (f := 32) rfl ?_); refine goesL_ (some 55) rfl rfl Try.func32 (by kernel_rfl) rfl #[.int .i64 a0, .int .i64 a1, .int .i64 a2] rfl (by (try simp only [List.map_toArray, List.map_cons, List.map_nil]); first | done | rfl | (simp only [List.length_drop, List.length_take]; rfl)) ?_; (with_reducible refine (frustumref01_Clamp.calls kj3 a0 a1 a2 t168 _ A37.out).mono ?_); rintro e w' ⟨rfl, ⟨nd, rfl⟩⟩; refine ⟨_, rfl, ?_⟩) | (go_at_call 33; (with_reducible refine (fixed_Wrap.calls a0 t169 _ A39.out).mono ?_); rintro e w' ⟨rfl, ⟨nd, rfl⟩⟩) | (go_at_call 34; (with_reducible refine (frustumref01_Wrap.calls a0 t170 _ A40.out).mono ?_); rintro e w' ⟨rfl, ⟨nd, rfl⟩⟩) | (go_at_call 14; (with_reducible refine (fixed_Floor.calls a0 t171 _ A42.out).mono ?_); rintro e w58 ⟨rfl, hb⟩; have n0_ := Aside0.mk (below_step (by repeat (first | (with_reducible first | exact HB.out | apply below_alloc | apply pw_below_drewN | apply below_drew1) | exact HB.out)) hb); clear HB; have HB := n0_; clear n0_; (try clear hb); (try clear hb2); (try clear hk); (try clear hi)) | (go_at_call 35; (with_reducible refine (frustumref01_Floor.calls kj3 a0 t172 _ A43.out).mono ?_); rintro e w' ⟨rfl, ⟨nd, rfl⟩⟩))
                go_meet
                case rel => exact ⟨_, (true), (by first | rfl | (simp; done) | (simp [*]; done)), H', ⟨by have := HJ3.out; first | omega | exact Nat.le_refl _⟩, ⟨by repeat (first | (with_reducible first | exact HB.out | apply below_alloc | apply pw_below_drewN | apply below_drew1) | exact HB.out)⟩⟩
            · rw [if_neg c41] at H
              have c41b0 : (t169 == t170) = false := beq_eq_false_iff_ne.mpr c41
              have c41b1 : (t169 != t170) = true := bne_iff_ne.mpr c41
              have H' := Aside0.mk H
              clear H
              go_wp2_with (first | ((with_reducible refine gate_callee (f := 31) rfl ?_); refine goesL_ (some 51) rfl rfl Try.func31 (by kernel_rfl) rfl #[.int .i64 a0, .int .i64 a1, .int .i64 a2] rfl (by (try simp only [List.map_toArray, List.map_cons, List.map_nil]); first | done | rfl | (simp only [List.length_drop, List.length_take]; rfl)) ?_; (with_reducible refine (fixed_Clamp.calls a0 a1 a2 t167 _ A36.out).mono ?_); rintro e w59 ⟨rfl, hb⟩; refine ⟨_, rfl, ?_⟩; have n0_ := Aside0.mk (below_step (by repeat (first | (with_reducible first | exact HB.out | apply below_alloc | apply pw_below_drewN | apply below_drew1) | exact HB.out)) hb); clear HB; have HB := n0_; clear n0_; (try clear hb); (try clear hb2); (try clear hk); (try clear hi)) | ((with_reducible refine gate_callee (f := 32) rfl ?_); refine goesL_ (some 55) rfl rfl Try.func32 (by kernel_rfl) rfl #[.int .i64 a0, .int .i64 a1, .int .i64 a2] rfl (by (try simp only [List.map_toArray, List.map_cons, List.map_nil]); first | done | rfl | (simp only [List.length_drop, List.length_take]; rfl)) ?_; (with_reducible refine (frustumref01_Clamp.calls kj3 a0 a1 a2 t168 _ A37.out).mono ?_); rintro e w' ⟨rfl, ⟨nd, rfl⟩⟩; refine ⟨_, rfl, ?_⟩) | (go_at_call 33; (with_reducible refine (fixed_Wrap.calls a0 t169 _ A39.out).mono ?_); rintro e w' ⟨rfl, ⟨nd, rfl⟩⟩) | (go_at_call 34; (with_reducible refine (frustumref01_Wrap.calls a0 t170 _ A40.out).mono ?_); rintro e w' ⟨rfl, ⟨nd, rfl⟩⟩))
              go_meet
              case rel => exact ⟨_, (true), (by first | rfl | (simp; done) | (simp [*]; done)), H', ⟨by have := HJ3.out; first | omega | exact Nat.le_refl _⟩, ⟨by repeat (first | (with_reducible first | exact HB.out | apply below_alloc | apply pw_below_drewN | apply below_drew1) | exact HB.out)⟩⟩
          · rw [if_neg c38] at H
            have c38b0 : (t167 == t168) = false := beq_eq_false_iff_ne.mpr c38
            have c38b1 : (t167 != t168) = true := bne_iff_ne.mpr c38
            (first | rw [c38b0] | (simp only [i64_w, i32_w]; rw [c38b0]) | skip)
            have H' := Aside0.mk H
            clear H
            go_wp2_with (first | ((with_reducible refine gate_callee (f := 31) rfl ?_); refine goesL_ (some 51) rfl rfl Try.func31 (by kernel_rfl) rfl #[.int .i64 a0, .int .i64 a1, .int .i64 a2] rfl (by (try simp only [List.map_toArray, List.map_cons, List.map_nil]); first | done | rfl | (simp only [List.length_drop, List.length_take]; rfl)) ?_; (with_reducible refine (fixed_Clamp.calls a0 a1 a2 t167 _ A36.out).mono ?_); rintro e w60 ⟨rfl, hb⟩; refine ⟨_, rfl, ?_⟩; have n0_ := Aside0.mk (below_step (by repeat (first | (with_reducible first | exact HB.out | apply below_alloc | apply pw_below_drewN | apply below_drew1) | exact HB.out)) hb); clear HB; have HB := n0_; clear n0_; (try clear hb); (try clear hb2); (try clear hk); (try clear hi)) | ((with_reducible refine gate_callee (f := 32) rfl ?_); refine goesL_ (some 55) rfl rfl Try.func32 (by kernel_rfl) rfl #[.int .i64 a0, .int .i64 a1, .int .i64 a2] rfl (by (try simp only [List.map_toArray, List.map_cons, List.map_nil]); first | done | rfl | (simp only [List.length_drop, List.length_take]; rfl)) ?_; (with_reducible refine (frustumref01_Clamp.calls kj3 a0 a1 a2 t168 _ A37.out).mono ?_); rintro e w' ⟨rfl, ⟨nd, rfl⟩⟩; refine ⟨_, rfl, ?_⟩))
            go_meet
            case rel => exact ⟨_, (true), (by first | rfl | (simp; done) | (simp [*]; done)), H', ⟨by have := HJ3.out; first | omega | exact Nat.le_refl _⟩, ⟨by repeat (first | (with_reducible first | exact HB.out | apply below_alloc | apply pw_below_drewN | apply below_drew1) | exact HB.out)⟩⟩
        case rest =>
          clear HC35
          try clear c1
          try clear c2
          try clear p2
          try clear c3
          try clear c4
          try clear c7
          try clear c7b0
          try clear c7b1
          try clear c10
          try clear c10b0
          try clear c10b1
          try clear c13
          try clear c13b0
          try clear c13b1
          try clear c16
          try clear c16b0
          try clear c16b1
          try clear c25
          try clear c26
          try clear c31
          try clear c32
          try clear c34
          try clear c38
          try clear c38b0
          try clear c38b1
          try clear c41
          try clear c41b0
          try clear c41b1
          try clear c44
          try clear c44b0
          try clear c44b1
          try clear c47
          try clear c47b0
          try clear c47b1
          try clear p2
          obtain ⟨kq, x84_34, rfl, HA, HJ34, HB⟩ := hcut
          cases kq with
          | zero => exact absurd HA.out (by simp [frustumlaw01_FixedArithmetic.j1])
          | succ kj34 =>
            have H := HA.out
            clear HA
            simp only [frustumlaw01_FixedArithmetic.j1] at H
            by_cases c61 : x84_34 = true
            · subst c61
              have H1 : (some false) = some r := by rw [if_pos rfl] at H; exact H
              clear H
              have H := H1
              clear H1
              obtain rfl := Option.some.inj H
              go_wp2
              go_ret
              exact ⟨by first | rfl | (simp [errW_none, errW_some] <;> rfl) | (simp [*, errW_none, errW_some] <;> rfl), by repeat (first | (with_reducible first | exact HB.out | apply below_alloc | apply pw_below_drewN | apply below_drew1) | exact HB.out)⟩
            · replace c61 := Bool.eq_false_iff.mpr c61
              subst c61
              have H1 : ((fixed_Lerp.f kj34 a0 a1 a2).bind fun t177 => ((frustumref01_Lerp.f kj34 a0 a1 a2).bind fun t178 => (if t177 = t178 then ((frustumlaw01_example.f kj34).bind fun t179 => (some t179)) else (some false)))) = some r := by rw [if_neg (show ¬ (false = true) by decide)] at H; exact H
              clear H
              have H := H1
              clear H1
              replace H := Option.bind_eq_some_iff.mp H
              obtain ⟨t177, A620, H⟩ := H
              replace H : ((frustumref01_Lerp.f kj34 a0 a1 a2).bind fun t178 => (if t177 = t178 then ((frustumlaw01_example.f kj34).bind fun t179 => (some t179)) else (some false))) = some r := H
              have A62 := Aside0.mk A620
              clear A620
              replace H := Option.bind_eq_some_iff.mp H
              obtain ⟨t178, A630, H⟩ := H
              replace H : (if t177 = t178 then ((frustumlaw01_example.f kj34).bind fun t179 => (some t179)) else (some false)) = some r := H
              have A63 := Aside0.mk A630
              clear A630
              by_cases c64 : t177 = t178
              · rw [if_pos c64] at H
                have c64b0 : (t177 == t178) = true := beq_iff_eq.mpr c64
                have c64b1 : (t177 != t178) = false := bne_eq_false_iff_eq.mpr c64
                clear c64
                replace H := Option.bind_eq_some_iff.mp H
                obtain ⟨t179, A650, H⟩ := H
                replace H : (some t179) = some r := H
                have A65 := Aside0.mk A650
                clear A650
                obtain rfl := Option.some.inj H
                go_wp2_with (first | ((with_reducible refine gate_callee (f := 16) rfl ?_); refine goesL_ (some 88) rfl rfl Try.func16 (by kernel_rfl) rfl #[.int .i64 a0, .int .i64 a1, .int .i64 a2] rfl (by (try simp only [List.map_toArray, List.map_cons, List.map_nil]); first | done | rfl | (simp only [List.length_drop, List.length_take]; rfl)) ?_; (with_reducible refine (fixed_Lerp.calls kj34 a0 a1 a2 t177 _ A62.out).mono ?_); rintro e w66 ⟨rfl, hb⟩; refine ⟨_, rfl, ?_⟩; have n0_ := Aside0.mk (below_step (by repeat (first | (with_reducible first | exact HB.out | apply below_alloc | apply pw_below_drewN | apply below_drew1) | exact HB.out)) hb); clear HB; have HB := n0_; clear n0_; (try clear hb); (try clear hb2); (try clear hk); (try clear hi)) | ((with_reducible refine gate_callee (f := 38) rfl ?_); refine goesL_ (some 92) rfl rfl Try.func38 (by kernel_rfl) rfl #[.int .i64 a0, .int .i64 a1, .int .i64 a2] rfl (by (try simp only [List.map_toArray, List.map_cons, List.map_nil]); first | done | rfl | (simp only [List.length_drop, List.length_take]; rfl)) ?_; (with_reducible refine (frustumref01_Lerp.calls kj34 a0 a1 a2 t178 _ A63.out).mono ?_); rintro e w' ⟨rfl, ⟨nd, rfl⟩⟩; refine ⟨_, rfl, ?_⟩) | (go_at_call 12; (with_reducible refine (frustumlaw01_example.calls kj34  t179 _ A65.out).mono ?_); rintro e w67 ⟨rfl, hb⟩; have n0_ := Aside0.mk (below_step (by repeat (first | (with_reducible first | exact HB.out | apply below_alloc | apply pw_below_drewN | apply below_drew1) | exact HB.out)) hb); clear HB; have HB := n0_; clear n0_; (try clear hb); (try clear hb2); (try clear hk); (try clear hi)))
                go_ret
                exact ⟨by first | rfl | (simp [errW_none, errW_some] <;> rfl) | (simp [*, errW_none, errW_some] <;> rfl), by repeat (first | (with_reducible first | exact HB.out | apply below_alloc | apply pw_below_drewN | apply below_drew1) | exact HB.out)⟩
              · rw [if_neg c64] at H
                have c64b0 : (t177 == t178) = false := beq_eq_false_iff_ne.mpr c64
                have c64b1 : (t177 != t178) = true := bne_iff_ne.mpr c64
                obtain rfl := Option.some.inj H
                go_wp2_with (first | ((with_reducible refine gate_callee (f := 16) rfl ?_); refine goesL_ (some 88) rfl rfl Try.func16 (by kernel_rfl) rfl #[.int .i64 a0, .int .i64 a1, .int .i64 a2] rfl (by (try simp only [List.map_toArray, List.map_cons, List.map_nil]); first | done | rfl | (simp only [List.length_drop, List.length_take]; rfl)) ?_; (with_reducible refine (fixed_Lerp.calls kj34 a0 a1 a2 t177 _ A62.out).mono ?_); rintro e w68 ⟨rfl, hb⟩; refine ⟨_, rfl, ?_⟩; have n0_ := Aside0.mk (below_step (by repeat (first | (with_reducible first | exact HB.out | apply below_alloc | apply pw_below_drewN | apply below_drew1) | exact HB.out)) hb); clear HB; have HB := n0_; clear n0_; (try clear hb); (try clear hb2); (try clear hk); (try clear hi)) | ((with_reducible refine gate_callee (f := 38) rfl ?_); refine goesL_ (some 92) rfl rfl Try.func38 (by kernel_rfl) rfl #[.int .i64 a0, .int .i64 a1, .int .i64 a2] rfl (by (try simp only [List.map_toArray, List.map_cons, List.map_nil]); first | done | rfl | (simp only [List.length_drop, List.length_take]; rfl)) ?_; (with_reducible refine (frustumref01_Lerp.calls kj34 a0 a1 a2 t178 _ A63.out).mono ?_); rintro e w' ⟨rfl, ⟨nd, rfl⟩⟩; refine ⟨_, rfl, ?_⟩))
                go_ret
                exact ⟨by first | rfl | (simp [errW_none, errW_some] <;> rfl) | (simp [*, errW_none, errW_some] <;> rfl), by repeat (first | (with_reducible first | exact HB.out | apply below_alloc | apply pw_below_drewN | apply below_drew1) | exact HB.out)⟩

/-- THE ONE PURE STATEMENT of frustumlaw01_FixedArithmetic: yours. -/
def frustumlaw01_FixedArithmetic.Pure : Prop := ∀ (a0 : Int) (a1 : Int) (a2 : Int), (Lit.int .i64 a0).wf = true → (Lit.int .i64 a1).wf = true → (Lit.int .i64 a2).wf = true → ∃ k, frustumlaw01_FixedArithmetic.f k a0 a1 a2 = some true
theorem frustumlaw01_FixedArithmetic.walk (P : frustumlaw01_FixedArithmetic.Pure) (a0 : Int) (a1 : Int) (a2 : Int) (w : World) (w0 : (Lit.int .i64 a0).wf = true) (w1 : (Lit.int .i64 a1).wf = true) (w2 : (Lit.int .i64 a2).wf = true) :
    Calls Try.prog 10 #[.int .i64 a0, .int .i64 a1, .int .i64 a2] w fun e w' => e = .returned (.bool true) ∧ Below w.heap.size w w' := by
  obtain ⟨k, h⟩ := P a0 a1 a2 w0 w1 w2
  refine (frustumlaw01_FixedArithmetic.calls k a0 a1 a2 true w h).mono ?_
  rintro e w' ⟨rfl, hd⟩
  exact ⟨rfl, hd⟩

end Go.Proofs.Ytfghdcghgfehiaa.PFixedArithmetic
