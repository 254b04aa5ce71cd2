-- PRINTED BY print.sh 35421559b90ae4d0a3588c463048766b98c2df88dd9212a6774a882060cdf62d: not written by this session
import Derived.Test.YtfghdcghgfehiaaPFixedRatioMonotonicx0
import Derived.Test.YtfghdcghgfehiaaPFixedRatioMonotonicx1
namespace Go.Proofs.Ytfghdcghgfehiaa.PFixedRatioMonotonic
open Go.RowKit Go.Proofs.YtfghdcghgfehiaaW.PrintWords Go.Proofs.YtfghdcghgfehiaaW.PrintLast Go.Proofs.YtfghdcghgfehiaaW.PrintMore
attribute [local go_sem] max2_int min2_int max_two min_two max_three min_three max_four min_four   -- for this text's walks alone
set_option linter.unusedVariables false
set_option linter.unusedSimpArgs false

/-! ### frustumlaw01_FixedRatioMonotonic: function 8 -/
mutual
def frustumlaw01_FixedRatioMonotonic.j0 : Nat → Int → Int → Int → Int → Bool → Option (Bool)
  | 0, _, _, _, _, _ => none
  | k + 1, x0, x2, x7, x8, x48 => if x48 = true then (some false) else (if x2 < 1 then (frustumlaw01_FixedRatioMonotonic.j1 k x0 x2 x7 x8 true) else (frustumlaw01_FixedRatioMonotonic.j1 k x0 x2 x7 x8 (decide (x2 > 4611686018427387904))))
def frustumlaw01_FixedRatioMonotonic.j1 : Nat → Int → Int → Int → Int → Bool → Option (Bool)
  | 0, _, _, _, _, _ => none
  | k + 1, x0, x2, x7, x8, x54 => if x54 = true then (if x7 = 0 then (if x8 = 0 then ((frustumlaw01_example.f k).bind fun t119 => (some t119)) else (some false)) else (some false)) else ((fixed_Ratio.f k 0 x2).bind fun t120 => (if t120 = 0 then ((fixed_Ratio.f k x2 x2).bind fun t121 => (if t121 = 65536 then (if x0 < x2 then (if x0 > 0 then ((frustumlaw01_example.f k).bind fun t122 => (some t122)) else (if x7 = 0 then ((frustumlaw01_example.f k).bind fun t123 => (some t123)) else (some false))) else (if x7 = 65536 then (if x0 > 0 then ((frustumlaw01_example.f k).bind fun t124 => (some t124)) else (if x7 = 0 then ((frustumlaw01_example.f k).bind fun t125 => (some t125)) else (some false))) else (some false))) else (some false))) else (some false)))
end
def frustumlaw01_FixedRatioMonotonic.f (k : Nat) (a0 : Int) (a1 : Int) (a2 : Int) : Option (Bool) := (fixed_Ratio.f k a0 a2).bind fun t117 => ((fixed_Ratio.f k a1 a2).bind fun t118 => (if t117 < 0 then (frustumlaw01_FixedRatioMonotonic.j0 k a0 a2 t117 t118 true) else (if t117 > 65536 then (frustumlaw01_FixedRatioMonotonic.j0 k a0 a2 t117 t118 true) else (if t118 < 0 then (frustumlaw01_FixedRatioMonotonic.j0 k a0 a2 t117 t118 true) else (if t118 > 65536 then (frustumlaw01_FixedRatioMonotonic.j0 k a0 a2 t117 t118 true) else (if a0 ≤ a1 then (if t117 > t118 then (frustumlaw01_FixedRatioMonotonic.j0 k a0 a2 t117 t118 true) else (if a0 ≥ a1 then (frustumlaw01_FixedRatioMonotonic.j0 k a0 a2 t117 t118 (decide (t117 < t118))) else (frustumlaw01_FixedRatioMonotonic.j0 k a0 a2 t117 t118 false))) else (if a0 ≥ a1 then (frustumlaw01_FixedRatioMonotonic.j0 k a0 a2 t117 t118 (decide (t117 < t118))) else (frustumlaw01_FixedRatioMonotonic.j0 k a0 a2 t117 t118 false))))))))
theorem frustumlaw01_FixedRatioMonotonic.mono_l : ∀ k, (∀ y0 y1 y2 y3 y4, LeO (frustumlaw01_FixedRatioMonotonic.j0 k y0 y1 y2 y3 y4) (frustumlaw01_FixedRatioMonotonic.j0 (k + 1) y0 y1 y2 y3 y4)) ∧ (∀ y0 y1 y2 y3 y4, LeO (frustumlaw01_FixedRatioMonotonic.j1 k y0 y1 y2 y3 y4) (frustumlaw01_FixedRatioMonotonic.j1 (k + 1) y0 y1 y2 y3 y4))
  | 0 => ⟨fun _ _ _ _ _ r h => by simp [frustumlaw01_FixedRatioMonotonic.j0] at h, fun _ _ _ _ _ r h => by simp [frustumlaw01_FixedRatioMonotonic.j1] at h⟩
  | k + 1 => by
    obtain ⟨ih0, ih1⟩ := frustumlaw01_FixedRatioMonotonic.mono_l k
    refine ⟨?_, ?_⟩
    · intro y0 y1 y2 y3 y4
      unfold frustumlaw01_FixedRatioMonotonic.j0
      repeat' first
      | (with_reducible exact ih0 _ _ _ _ _)
      | (with_reducible exact ih1 _ _ _ _ _)
      | (with_reducible exact fixed_Ratio.mono _ _ _)
      | (with_reducible exact frustumlaw01_example.mono _)
      | (with_reducible exact LeO.refl _)
      | (with_reducible exact LeO.none _)
      | (with_reducible refine LeO.ite ?_ ?_)
      | (with_reducible refine LeO.bind ?_ (fun _ => ?_))
      | exact ih0 _ _ _ _ _
      | exact ih1 _ _ _ _ _
      | exact fixed_Ratio.mono _ _ _
      | exact frustumlaw01_example.mono _
      | exact LeO.none _
      | refine LeO.ite ?_ ?_
      | refine LeO.bind ?_ (fun _ => ?_)
    · intro y0 y1 y2 y3 y4
      unfold frustumlaw01_FixedRatioMonotonic.j1
      repeat' first
      | (with_reducible exact ih0 _ _ _ _ _)
      | (with_reducible exact ih1 _ _ _ _ _)
      | (with_reducible exact fixed_Ratio.mono _ _ _)
      | (with_reducible exact frustumlaw01_example.mono _)
      | (with_reducible exact LeO.refl _)
      | (with_reducible exact LeO.none _)
      | (with_reducible refine LeO.ite ?_ ?_)
      | (with_reducible refine LeO.bind ?_ (fun _ => ?_))
      | exact ih0 _ _ _ _ _
      | exact ih1 _ _ _ _ _
      | exact fixed_Ratio.mono _ _ _
      | exact frustumlaw01_example.mono _
      | exact LeO.none _
      | refine LeO.ite ?_ ?_
      | refine LeO.bind ?_ (fun _ => ?_)
theorem frustumlaw01_FixedRatioMonotonic.mono : ∀ a0 a1 a2 k, LeO (frustumlaw01_FixedRatioMonotonic.f k a0 a1 a2) (frustumlaw01_FixedRatioMonotonic.f (k + 1) a0 a1 a2) := by
  intro a0 a1 a2 k
  obtain ⟨ih0, ih1⟩ := frustumlaw01_FixedRatioMonotonic.mono_l k
  unfold frustumlaw01_FixedRatioMonotonic.f
  repeat' first
      | (with_reducible exact ih0 _ _ _ _ _)
      | (with_reducible exact ih1 _ _ _ _ _)
      | (with_reducible exact fixed_Ratio.mono _ _ _)
      | (with_reducible exact frustumlaw01_example.mono _)
      | (with_reducible exact LeO.refl _)
      | (with_reducible exact LeO.none _)
      | (with_reducible refine LeO.ite ?_ ?_)
      | (with_reducible refine LeO.bind ?_ (fun _ => ?_))
      | exact ih0 _ _ _ _ _
      | exact ih1 _ _ _ _ _
      | exact fixed_Ratio.mono _ _ _
      | exact frustumlaw01_example.mono _
      | exact LeO.none _
      | refine LeO.ite ?_ ?_
      | refine LeO.bind ?_ (fun _ => ?_)
set_option maxHeartbeats 8000000 in
set_option maxRecDepth 100000 in
theorem frustumlaw01_FixedRatioMonotonic.calls (k : Nat) (a0 : Int) (a1 : Int) (a2 : Int) (r : Bool) (w : World) (h : frustumlaw01_FixedRatioMonotonic.f k a0 a1 a2 = some r) :
    Calls Try.prog 8 #[.int .i64 a0, .int .i64 a1, .int .i64 a2] w fun e w' => e = .returned (.bool r) ∧ Below w.heap.size w w' := by
  have HB := Aside0.mk (Below.refl w.heap.size w)
  have H : ((fixed_Ratio.f k a0 a2).bind fun t117 => ((fixed_Ratio.f k a1 a2).bind fun t118 => (if t117 < 0 then (frustumlaw01_FixedRatioMonotonic.j0 k a0 a2 t117 t118 true) else (if t117 > 65536 then (frustumlaw01_FixedRatioMonotonic.j0 k a0 a2 t117 t118 true) else (if t118 < 0 then (frustumlaw01_FixedRatioMonotonic.j0 k a0 a2 t117 t118 true) else (if t118 > 65536 then (frustumlaw01_FixedRatioMonotonic.j0 k a0 a2 t117 t118 true) else (if a0 ≤ a1 then (if t117 > t118 then (frustumlaw01_FixedRatioMonotonic.j0 k a0 a2 t117 t118 true) else (if a0 ≥ a1 then (frustumlaw01_FixedRatioMonotonic.j0 k a0 a2 t117 t118 (decide (t117 < t118))) else (frustumlaw01_FixedRatioMonotonic.j0 k a0 a2 t117 t118 false))) else (if a0 ≥ a1 then (frustumlaw01_FixedRatioMonotonic.j0 k a0 a2 t117 t118 (decide (t117 < t118))) else (frustumlaw01_FixedRatioMonotonic.j0 k a0 a2 t117 t118 false))))))))) = some r := h
  clear h
  replace H := Option.bind_eq_some_iff.mp H
  obtain ⟨t117, A40, H⟩ := H
  replace H : ((fixed_Ratio.f k a1 a2).bind fun t118 => (if t117 < 0 then (frustumlaw01_FixedRatioMonotonic.j0 k a0 a2 t117 t118 true) else (if t117 > 65536 then (frustumlaw01_FixedRatioMonotonic.j0 k a0 a2 t117 t118 true) else (if t118 < 0 then (frustumlaw01_FixedRatioMonotonic.j0 k a0 a2 t117 t118 true) else (if t118 > 65536 then (frustumlaw01_FixedRatioMonotonic.j0 k a0 a2 t117 t118 true) else (if a0 ≤ a1 then (if t117 > t118 then (frustumlaw01_FixedRatioMonotonic.j0 k a0 a2 t117 t118 true) else (if a0 ≥ a1 then (frustumlaw01_FixedRatioMonotonic.j0 k a0 a2 t117 t118 (decide (t117 < t118))) else (frustumlaw01_FixedRatioMonotonic.j0 k a0 a2 t117 t118 false))) else (if a0 ≥ a1 then (frustumlaw01_FixedRatioMonotonic.j0 k a0 a2 t117 t118 (decide (t117 < t118))) else (frustumlaw01_FixedRatioMonotonic.j0 k a0 a2 t117 t118 false)))))))) = some r := H
  have A4 := Aside0.mk A40
  clear A40
  replace H := Option.bind_eq_some_iff.mp H
  obtain ⟨t118, A50, H⟩ := H
  replace H : (if t117 < 0 then (frustumlaw01_FixedRatioMonotonic.j0 k a0 a2 t117 t118 true) else (if t117 > 65536 then (frustumlaw01_FixedRatioMonotonic.j0 k a0 a2 t117 t118 true) else (if t118 < 0 then (frustumlaw01_FixedRatioMonotonic.j0 k a0 a2 t117 t118 true) else (if t118 > 65536 then (frustumlaw01_FixedRatioMonotonic.j0 k a0 a2 t117 t118 true) else (if a0 ≤ a1 then (if t117 > t118 then (frustumlaw01_FixedRatioMonotonic.j0 k a0 a2 t117 t118 true) else (if a0 ≥ a1 then (frustumlaw01_FixedRatioMonotonic.j0 k a0 a2 t117 t118 (decide (t117 < t118))) else (frustumlaw01_FixedRatioMonotonic.j0 k a0 a2 t117 t118 false))) else (if a0 ≥ a1 then (frustumlaw01_FixedRatioMonotonic.j0 k a0 a2 t117 t118 (decide (t117 < t118))) else (frustumlaw01_FixedRatioMonotonic.j0 k a0 a2 t117 t118 false))))))) = some r := H
  have A5 := Aside0.mk A50
  clear A50
  have HC6 := Aside0.mk H
  clear H
  go_enter Try.func8, Try.ntmps8
  go_upto_region 2 with (first | ((with_reducible refine gate_callee (f := 19) rfl ?_); refine goesL_ (some 11) rfl rfl Try.func19 (by kernel_rfl) rfl #[.int .i64 a0, .int .i64 a2] rfl (by (try simp only [List.map_toArray, List.map_cons, List.map_nil]); first | done | rfl | (simp only [List.length_drop, List.length_take]; rfl)) ?_; (with_reducible refine (fixed_Ratio.calls k a0 a2 t117 _ A4.out).mono ?_); rintro e w7 ⟨rfl, hb⟩; refine ⟨_, rfl, ?_⟩; have n0_ := Aside0.mk (below_step (by repeat (first | (with_reducible first | exact HB.out | apply below_alloc | apply pw_below_drewN | apply below_drew1) | exact HB.out)) hb); clear HB; have HB := n0_; clear n0_; (try clear hb); (try clear hb2); (try clear hk); (try clear hi)) | ((with_reducible refine gate_callee (f := 19) rfl ?_); refine goesL_ (some 14) rfl rfl Try.func19 (by kernel_rfl) rfl #[.int .i64 a1, .int .i64 a2] rfl (by (try simp only [List.map_toArray, List.map_cons, List.map_nil]); first | done | rfl | (simp only [List.length_drop, List.length_take]; rfl)) ?_; (with_reducible refine (fixed_Ratio.calls k a1 a2 t118 _ A5.out).mono ?_); rintro e w8 ⟨rfl, hb⟩; refine ⟨_, rfl, ?_⟩; have n0_ := Aside0.mk (below_step (by repeat (first | (with_reducible first | exact HB.out | apply below_alloc | apply pw_below_drewN | apply below_drew1) | exact HB.out)) hb); clear HB; have HB := n0_; clear n0_; (try clear hb); (try clear hb2); (try clear hk); (try clear hi)))
  (try simp only [Act.put, List.setIfInBounds_toArray, List.set_cons_zero, List.set_cons_succ])
  go_cut [48] (fun v48 wc => ∃ (kq : Nat) (x48_5 : Bool), v48 = .bool x48_5 ∧ Aside0 (frustumlaw01_FixedRatioMonotonic.j0 kq a0 a2 t117 t118 x48_5 = some r) ∧ Aside0 (kq ≤ k) ∧ Aside0 (Below w.heap.size w wc))
  case first =>
    have H := HC6.out
    clear HC6
    by_cases c9 : t117 < 0
    · rw [if_pos c9] at H
      have c9b0 : decide (t117 < 0) = true := decide_eq_true c9
      clear c9
      (first | rw [c9b0] | (simp only [i64_w, i32_w]; rw [c9b0]) | skip)
      have H' := Aside0.mk H
      clear H
      go_wp2
      go_meet
      case rel => exact ⟨_, (true), (by first | rfl | (simp; done) | (simp [*]; done)), H', ⟨by first | omega | exact Nat.le_refl _⟩, ⟨by repeat (first | (with_reducible first | exact HB.out | apply below_alloc | apply pw_below_drewN | apply below_drew1) | exact HB.out)⟩⟩
    · rw [if_neg c9] at H
      have c9b0 : decide (t117 < 0) = false := decide_eq_false c9
      clear c9
      (first | rw [c9b0] | (simp only [i64_w, i32_w]; rw [c9b0]) | skip)
      by_cases c10 : t117 > 65536
      · rw [if_pos c10] at H
        have c10b0 : decide (65536 < t117) = true := decide_eq_true c10
        clear c10
        have H' := Aside0.mk H
        clear H
        go_wp2
        go_meet
        case rel => exact ⟨_, (true), (by first | rfl | (simp; done) | (simp [*]; done)), H', ⟨by first | omega | exact Nat.le_refl _⟩, ⟨by repeat (first | (with_reducible first | exact HB.out | apply below_alloc | apply pw_below_drewN | apply below_drew1) | exact HB.out)⟩⟩
      · rw [if_neg c10] at H
        have c10b0 : decide (65536 < t117) = false := decide_eq_false c10
        clear c10
        by_cases c11 : t118 < 0
        · rw [if_pos c11] at H
          have c11b0 : decide (t118 < 0) = true := decide_eq_true c11
          clear c11
          have H' := Aside0.mk H
          clear H
          go_wp2
          go_meet
          case rel => exact ⟨_, (true), (by first | rfl | (simp; done) | (simp [*]; done)), H', ⟨by first | omega | exact Nat.le_refl _⟩, ⟨by repeat (first | (with_reducible first | exact HB.out | apply below_alloc | apply pw_below_drewN | apply below_drew1) | exact HB.out)⟩⟩
        · rw [if_neg c11] at H
          have c11b0 : decide (t118 < 0) = false := decide_eq_false c11
          clear c11
          by_cases c12 : t118 > 65536
          · rw [if_pos c12] at H
            have c12b0 : decide (65536 < t118) = true := decide_eq_true c12
            clear c12
            have H' := Aside0.mk H
            clear H
            go_wp2
            go_meet
            case rel => exact ⟨_, (true), (by first | rfl | (simp; done) | (simp [*]; done)), H', ⟨by first | omega | exact Nat.le_refl _⟩, ⟨by repeat (first | (with_reducible first | exact HB.out | apply below_alloc | apply pw_below_drewN | apply below_drew1) | exact HB.out)⟩⟩
          · rw [if_neg c12] at H
            have c12b0 : decide (65536 < t118) = false := decide_eq_false c12
            clear c12
            by_cases c13 : a0 ≤ a1
            · rw [if_pos c13] at H
              have c13b0 : decide (a0 ≤ a1) = true := decide_eq_true c13
              clear c13
              by_cases c14 : t117 > t118
              · rw [if_pos c14] at H
                have c14b0 : decide (t118 < t117) = true := decide_eq_true c14
                clear c14
                have H' := Aside0.mk H
                clear H
                go_wp2
                go_meet
                case rel => exact ⟨_, (true), (by first | rfl | (simp; done) | (simp [*]; done)), H', ⟨by first | omega | exact Nat.le_refl _⟩, ⟨by repeat (first | (with_reducible first | exact HB.out | apply below_alloc | apply pw_below_drewN | apply below_drew1) | exact HB.out)⟩⟩
              · rw [if_neg c14] at H
                have c14b0 : decide (t118 < t117) = false := decide_eq_false c14
                clear c14
                by_cases c15 : a0 ≥ a1
                · rw [if_pos c15] at H
                  have c15b0 : decide (a1 ≤ a0) = true := decide_eq_true c15
                  clear c15
                  have H' := Aside0.mk H
                  clear H
                  go_wp2
                  go_meet
                  case rel => exact ⟨_, (decide (t117 < t118)), (by first | rfl | (simp; done) | (simp [*]; done)), H', ⟨by first | omega | exact Nat.le_refl _⟩, ⟨by repeat (first | (with_reducible first | exact HB.out | apply below_alloc | apply pw_below_drewN | apply below_drew1) | exact HB.out)⟩⟩
                · rw [if_neg c15] at H
                  have c15b0 : decide (a1 ≤ a0) = false := decide_eq_false c15
                  clear c15
                  have H' := Aside0.mk H
                  clear H
                  go_wp2
                  go_meet
                  case rel => exact ⟨_, (false), (by first | rfl | (simp; done) | (simp [*]; done)), H', ⟨by first | omega | exact Nat.le_refl _⟩, ⟨by repeat (first | (with_reducible first | exact HB.out | apply below_alloc | apply pw_below_drewN | apply below_drew1) | exact HB.out)⟩⟩
            · rw [if_neg c13] at H
              have c13b0 : decide (a0 ≤ a1) = false := decide_eq_false c13
              clear c13
              by_cases c16 : a0 ≥ a1
              · rw [if_pos c16] at H
                have c16b0 : decide (a1 ≤ a0) = true := decide_eq_true c16
                clear c16
                have H' := Aside0.mk H
                clear H
                go_wp2
                go_meet
                case rel => exact ⟨_, (decide (t117 < t118)), (by first | rfl | (simp; done) | (simp [*]; done)), H', ⟨by first | omega | exact Nat.le_refl _⟩, ⟨by repeat (first | (with_reducible first | exact HB.out | apply below_alloc | apply pw_below_drewN | apply below_drew1) | exact HB.out)⟩⟩
              · rw [if_neg c16] at H
                have c16b0 : decide (a1 ≤ a0) = false := decide_eq_false c16
                clear c16
                have H' := Aside0.mk H
                clear H
                go_wp2
                go_meet
                case rel => exact ⟨_, (false), (by first | rfl | (simp; done) | (simp [*]; done)), H', ⟨by first | omega | exact Nat.le_refl _⟩, ⟨by repeat (first | (with_reducible first | exact HB.out | apply below_alloc | apply pw_below_drewN | apply below_drew1) | exact HB.out)⟩⟩
  case rest =>
    clear HC6
    try clear c1
    try clear p2
    try clear c8
    try clear c9
    try clear c9b0
    try clear c10
    try clear c10b0
    try clear c11
    try clear c11b0
    try clear c12
    try clear c12b0
    try clear c13
    try clear c13b0
    try clear c14
    try clear c14b0
    try clear c15
    try clear c15b0
    try clear c16
    try clear c16b0
    obtain ⟨kq, x48_5, rfl, HA, HJ5, HB⟩ := hcut
    cases kq with
    | zero => exact absurd HA.out (by simp [frustumlaw01_FixedRatioMonotonic.j0])
    | succ kj5 =>
      have H := HA.out
      clear HA
      simp only [frustumlaw01_FixedRatioMonotonic.j0] at H
      by_cases c17 : x48_5 = true
      · subst c17
        have H1 : (some false) = some r := by rw [if_pos rfl] at H; exact H
        clear H
        have H := H1
        clear H1
        obtain rfl := Option.some.inj H
        go_wp2
        go_ret
        exact ⟨by first | rfl | (simp [errW_none, errW_some] <;> rfl) | (simp [*, errW_none, errW_some] <;> rfl), by repeat (first | (with_reducible first | exact HB.out | apply below_alloc | apply pw_below_drewN | apply below_drew1) | exact HB.out)⟩
      · replace c17 := Bool.eq_false_iff.mpr c17
        subst c17
        have H1 : (if a2 < 1 then (frustumlaw01_FixedRatioMonotonic.j1 kj5 a0 a2 t117 t118 true) else (frustumlaw01_FixedRatioMonotonic.j1 kj5 a0 a2 t117 t118 (decide (a2 > 4611686018427387904)))) = some r := by rw [if_neg (show ¬ (false = true) by decide)] at H; exact H
        clear H
        have H := H1
        clear H1
        have HC18 := Aside0.mk H
        clear H
        go_upto_region 4 with (fail)
        go_cut [54] (fun v54 wc => ∃ (kq : Nat) (x54_17 : Bool), v54 = .bool x54_17 ∧ Aside0 (frustumlaw01_FixedRatioMonotonic.j1 kq a0 a2 t117 t118 x54_17 = some r) ∧ Aside0 (kq ≤ kj5) ∧ Aside0 (Below w.heap.size w wc))
        case first =>
          have H := HC18.out
          clear HC18
          by_cases c19 : a2 < 1
          · rw [if_pos c19] at H
            have c19b0 : decide (a2 < 1) = true := decide_eq_true c19
            clear c19
            (first | rw [c19b0] | (simp only [i64_w, i32_w]; rw [c19b0]) | skip)
            have H' := Aside0.mk H
            clear H
            go_wp2
            go_meet
            case rel => exact ⟨_, (true), (by first | rfl | (simp; done) | (simp [*]; done)), H', ⟨by have := HJ5.out; first | omega | exact Nat.le_refl _⟩, ⟨by repeat (first | (with_reducible first | exact HB.out | apply below_alloc | apply pw_below_drewN | apply below_drew1) | exact HB.out)⟩⟩
          · rw [if_neg c19] at H
            have c19b0 : decide (a2 < 1) = false := decide_eq_false c19
            clear c19
            (first | rw [c19b0] | (simp only [i64_w, i32_w]; rw [c19b0]) | skip)
            have H' := Aside0.mk H
            clear H
            go_wp2
            go_meet
            case rel => exact ⟨_, (decide (a2 > 4611686018427387904)), (by first | rfl | (simp; done) | (simp [*]; done)), H', ⟨by have := HJ5.out; first | omega | exact Nat.le_refl _⟩, ⟨by repeat (first | (with_reducible first | exact HB.out | apply below_alloc | apply pw_below_drewN | apply below_drew1) | exact HB.out)⟩⟩
        case rest =>
          clear HC18
          try clear c1
          try clear p2
          try clear c8
          try clear c9
          try clear c9b0
          try clear c10
          try clear c10b0
          try clear c11
          try clear c11b0
          try clear c12
          try clear c12b0
          try clear c13
          try clear c13b0
          try clear c14
          try clear c14b0
          try clear c15
          try clear c15b0
          try clear c16
          try clear c16b0
          try clear c17
          try clear c19
          try clear c19b0
          try clear p2
          obtain ⟨kq, x54_17, rfl, HA, HJ17, HB⟩ := hcut
          cases kq with
          | zero => exact absurd HA.out (by simp [frustumlaw01_FixedRatioMonotonic.j1])
          | succ kj17 =>
            have H := HA.out
            clear HA
            simp only [frustumlaw01_FixedRatioMonotonic.j1] at H
            by_cases c20 : x54_17 = true
            · subst c20
              have H1 : (if t117 = 0 then (if t118 = 0 then ((frustumlaw01_example.f kj17).bind fun t119 => (some t119)) else (some false)) else (some false)) = some r := by rw [if_pos rfl] at H; exact H
              clear H
              have H := H1
              clear H1
              by_cases c21 : t117 = 0
              · rw [if_pos c21] at H
                have c21b0 : (t117 == 0) = true := beq_iff_eq.mpr c21
                have c21b1 : (t117 != 0) = false := bne_eq_false_iff_eq.mpr c21
                clear c21
                by_cases c22 : t118 = 0
                · rw [if_pos c22] at H
                  have c22b0 : (t118 == 0) = true := beq_iff_eq.mpr c22
                  have c22b1 : (t118 != 0) = false := bne_eq_false_iff_eq.mpr c22
                  clear c22
                  replace H := Option.bind_eq_some_iff.mp H
                  obtain ⟨t119, A230, H⟩ := H
                  replace H : (some t119) = some r := H
                  have A23 := Aside0.mk A230
                  clear A230
                  obtain rfl := Option.some.inj H
                  go_wp2_with (first | (go_at_call 12; (with_reducible refine (frustumlaw01_example.calls kj17  t119 _ A23.out).mono ?_); rintro e w24 ⟨rfl, hb⟩; have n0_ := Aside0.mk (below_step (by repeat (first | (with_reducible first | exact HB.out | apply below_alloc | apply pw_below_drewN | apply below_drew1) | exact HB.out)) hb); clear HB; have HB := n0_; clear n0_; (try clear hb); (try clear hb2); (try clear hk); (try clear hi)))
                  go_ret
                  exact ⟨by first | rfl | (simp [errW_none, errW_some] <;> rfl) | (simp [*, errW_none, errW_some] <;> rfl), by repeat (first | (with_reducible first | exact HB.out | apply below_alloc | apply pw_below_drewN | apply below_drew1) | exact HB.out)⟩
                · rw [if_neg c22] at H
                  have c22b0 : (t118 == 0) = false := beq_eq_false_iff_ne.mpr c22
                  have c22b1 : (t118 != 0) = true := bne_iff_ne.mpr c22
                  obtain rfl := Option.some.inj H
                  go_wp2
                  go_ret
                  exact ⟨by first | rfl | (simp [errW_none, errW_some] <;> rfl) | (simp [*, errW_none, errW_some] <;> rfl), by repeat (first | (with_reducible first | exact HB.out | apply below_alloc | apply pw_below_drewN | apply below_drew1) | exact HB.out)⟩
              · rw [if_neg c21] at H
                have c21b0 : (t117 == 0) = false := beq_eq_false_iff_ne.mpr c21
                have c21b1 : (t117 != 0) = true := bne_iff_ne.mpr c21
                obtain rfl := Option.some.inj H
                go_wp2
                go_ret
                exact ⟨by first | rfl | (simp [errW_none, errW_some] <;> rfl) | (simp [*, errW_none, errW_some] <;> rfl), by repeat (first | (with_reducible first | exact HB.out | apply below_alloc | apply pw_below_drewN | apply below_drew1) | exact HB.out)⟩
            · replace c20 := Bool.eq_false_iff.mpr c20
              subst c20
              have H1 : ((fixed_Ratio.f kj17 0 a2).bind fun t120 => (if t120 = 0 then ((fixed_Ratio.f kj17 a2 a2).bind fun t121 => (if t121 = 65536 then (if a0 < a2 then (if a0 > 0 then ((frustumlaw01_example.f kj17).bind fun t122 => (some t122)) else (if t117 = 0 then ((frustumlaw01_example.f kj17).bind fun t123 => (some t123)) else (some false))) else (if t117 = 65536 then (if a0 > 0 then ((frustumlaw01_example.f kj17).bind fun t124 => (some t124)) else (if t117 = 0 then ((frustumlaw01_example.f kj17).bind fun t125 => (some t125)) else (some false))) else (some false))) else (some false))) else (some false))) = some r := by rw [if_neg (show ¬ (false = true) by decide)] at H; exact H
              clear H
              have H := H1
              clear H1
              replace H := Option.bind_eq_some_iff.mp H
              obtain ⟨t120, A250, H⟩ := H
              replace H : (if t120 = 0 then ((fixed_Ratio.f kj17 a2 a2).bind fun t121 => (if t121 = 65536 then (if a0 < a2 then (if a0 > 0 then ((frustumlaw01_example.f kj17).bind fun t122 => (some t122)) else (if t117 = 0 then ((frustumlaw01_example.f kj17).bind fun t123 => (some t123)) else (some false))) else (if t117 = 65536 then (if a0 > 0 then ((frustumlaw01_example.f kj17).bind fun t124 => (some t124)) else (if t117 = 0 then ((frustumlaw01_example.f kj17).bind fun t125 => (some t125)) else (some false))) else (some false))) else (some false))) else (some false)) = some r := H
              have A25 := Aside0.mk A250
              clear A250
              by_cases c26 : t120 = 0
              · rw [if_pos c26] at H
                have c26b0 : (t120 == 0) = true := beq_iff_eq.mpr c26
                have c26b1 : (t120 != 0) = false := bne_eq_false_iff_eq.mpr c26
                clear c26
                replace H := Option.bind_eq_some_iff.mp H
                obtain ⟨t121, A270, H⟩ := H
                replace H : (if t121 = 65536 then (if a0 < a2 then (if a0 > 0 then ((frustumlaw01_example.f kj17).bind fun t122 => (some t122)) else (if t117 = 0 then ((frustumlaw01_example.f kj17).bind fun t123 => (some t123)) else (some false))) else (if t117 = 65536 then (if a0 > 0 then ((frustumlaw01_example.f kj17).bind fun t124 => (some t124)) else (if t117 = 0 then ((frustumlaw01_example.f kj17).bind fun t125 => (some t125)) else (some false))) else (some false))) else (some false)) = some r := H
                have A27 := Aside0.mk A270
                clear A270
                by_cases c28 : t121 = 65536
                · rw [if_pos c28] at H
                  have c28b0 : (t121 == 65536) = true := beq_iff_eq.mpr c28
                  have c28b1 : (t121 != 65536) = false := bne_eq_false_iff_eq.mpr c28
                  clear c28
                  by_cases c29 : a0 < a2
                  · rw [if_pos c29] at H
                    have c29b0 : decide (a0 < a2) = true := decide_eq_true c29
                    clear c29
                    by_cases c30 : a0 > 0
                    · rw [if_pos c30] at H
                      have c30b0 : decide (0 < a0) = true := decide_eq_true c30
                      clear c30
                      replace H := Option.bind_eq_some_iff.mp H
                      obtain ⟨t122, A310, H⟩ := H
                      replace H : (some t122) = some r := H
                      have A31 := Aside0.mk A310
                      clear A310
                      obtain rfl := Option.some.inj H
                      go_wp2_with (first | ((with_reducible refine gate_callee (f := 19) rfl ?_); refine goesL_ (some 65) rfl rfl Try.func19 (by kernel_rfl) rfl #[.int .i64 0, .int .i64 a2] rfl (by (try simp only [List.map_toArray, List.map_cons, List.map_nil]); first | done | rfl | (simp only [List.length_drop, List.length_take]; rfl)) ?_; (with_reducible refine (fixed_Ratio.calls kj17 0 a2 t120 _ A25.out).mono ?_); rintro e w32 ⟨rfl, hb⟩; refine ⟨_, rfl, ?_⟩; have n0_ := Aside0.mk (below_step (by repeat (first | (with_reducible first | exact HB.out | apply below_alloc | apply pw_below_drewN | apply below_drew1) | exact HB.out)) hb); clear HB; have HB := n0_; clear n0_; (try clear hb); (try clear hb2); (try clear hk); (try clear hi)) | (go_at_call 19; (with_reducible refine (fixed_Ratio.calls kj17 a2 a2 t121 _ A27.out).mono ?_); rintro e w33 ⟨rfl, hb⟩; have n0_ := Aside0.mk (below_step (by repeat (first | (with_reducible first | exact HB.out | apply below_alloc | apply pw_below_drewN | apply below_drew1) | exact HB.out)) hb); clear HB; have HB := n0_; clear n0_; (try clear hb); (try clear hb2); (try clear hk); (try clear hi)) | (go_at_call 12; (with_reducible refine (frustumlaw01_example.calls kj17  t122 _ A31.out).mono ?_); rintro e w34 ⟨rfl, hb⟩; have n0_ := Aside0.mk (below_step (by repeat (first | (with_reducible first | exact HB.out | apply below_alloc | apply pw_below_drewN | apply below_drew1) | exact HB.out)) hb); clear HB; have HB := n0_; clear n0_; (try clear hb); (try clear hb2); (try clear hk); (try clear hi)))
                      go_ret
                      exact ⟨by first | rfl | (simp [errW_none, errW_some] <;> rfl) | (simp [*, errW_none, errW_some] <;> rfl), by repeat (first | (with_reducible first | exact HB.out | apply below_alloc | apply pw_below_drewN | apply below_drew1) | exact HB.out)⟩
                    · rw [if_neg c30] at H
                      have c30b0 : decide (0 < a0) = false := decide_eq_false c30
                      clear c30
                      by_cases c35 : t117 = 0
                      · rw [if_pos c35] at H
                        have c35b0 : (t117 == 0) = true := beq_iff_eq.mpr c35
                        have c35b1 : (t117 != 0) = false := bne_eq_false_iff_eq.mpr c35
                        clear c35
                        replace H := Option.bind_eq_some_iff.mp H
                        obtain ⟨t123, A360, H⟩ := H
                        replace H : (some t123) = some r := H
                        have A36 := Aside0.mk A360
                        clear A360
                        obtain rfl := Option.some.inj H
                        go_wp2_with (first | ((with_reducible refine gate_callee (f := 19) rfl ?_); refine goesL_ (some 65) rfl rfl Try.func19 (by kernel_rfl) rfl #[.int .i64 0, .int .i64 a2] rfl (by (try simp only [List.map_toArray, List.map_cons, List.map_nil]); first | done | rfl | (simp only [List.length_drop, List.length_take]; rfl)) ?_; (with_reducible refine (fixed_Ratio.calls kj17 0 a2 t120 _ A25.out).mono ?_); rintro e w37 ⟨rfl, hb⟩; refine ⟨_, rfl, ?_⟩; have n0_ := Aside0.mk (below_step (by repeat (first | (with_reducible first | exact HB.out | apply below_alloc | apply pw_below_drewN | apply below_drew1) | exact HB.out)) hb); clear HB; have HB := n0_; clear n0_; (try clear hb); (try clear hb2); (try clear hk); (try clear hi)) | (go_at_call 19; (with_reducible refine (fixed_Ratio.calls kj17 a2 a2 t121 _ A27.out).mono ?_); rintro e w38 ⟨rfl, hb⟩; have n0_ := Aside0.mk (below_step (by repeat (first | (with_reducible first | exact HB.out | apply below_alloc | apply pw_below_drewN | apply below_drew1) | exact HB.out)) hb); clear HB; have HB := n0_; clear n0_; (try clear hb); (try clear hb2); (try clear hk); (try clear hi)) | (go_at_call 12; (with_reducible refine (frustumlaw01_example.calls kj17  t123 _ A36.out).mono ?_); rintro e w39 ⟨rfl, hb⟩; have n0_ := Aside0.mk (below_step (by repeat (first | (with_reducible first | exact HB.out | apply below_alloc | apply pw_below_drewN | apply below_drew1) | exact HB.out)) hb); clear HB; have HB := n0_; clear n0_; (try clear hb); (try clear hb2); (try clear hk); (try clear hi)))
                        go_ret
                        exact ⟨by first | rfl | (simp [errW_none, errW_some] <;> rfl) | (simp [*, errW_none, errW_some] <;> rfl), by repeat (first | (with_reducible first | exact HB.out | apply below_alloc | apply pw_below_drewN | apply below_drew1) | exact HB.out)⟩
                      · rw [if_neg c35] at H
                        have c35b0 : (t117 == 0) = false := beq_eq_false_iff_ne.mpr c35
                        have c35b1 : (t117 != 0) = true := bne_iff_ne.mpr c35
                        obtain rfl := Option.some.inj H
                        go_wp2_with (first | ((with_reducible refine gate_callee (f := 19) rfl ?_); refine goesL_ (some 65) rfl rfl Try.func19 (by kernel_rfl) rfl #[.int .i64 0, .int .i64 a2] rfl (by (try simp only [List.map_toArray, List.map_cons, List.map_nil]); first | done | rfl | (simp only [List.length_drop, List.length_take]; rfl)) ?_; (with_reducible refine (fixed_Ratio.calls kj17 0 a2 t120 _ A25.out).mono ?_); rintro e w40 ⟨rfl, hb⟩; refine ⟨_, rfl, ?_⟩; have n0_ := Aside0.mk (below_step (by repeat (first | (with_reducible first | exact HB.out | apply below_alloc | apply pw_below_drewN | apply below_drew1) | exact HB.out)) hb); clear HB; have HB := n0_; clear n0_; (try clear hb); (try clear hb2); (try clear hk); (try clear hi)) | (go_at_call 19; (with_reducible refine (fixed_Ratio.calls kj17 a2 a2 t121 _ A27.out).mono ?_); rintro e w41 ⟨rfl, hb⟩; have n0_ := Aside0.mk (below_step (by repeat (first | (with_reducible first | exact HB.out | apply below_alloc | apply pw_below_drewN | apply below_drew1) | exact HB.out)) hb); clear HB; have HB := n0_; clear n0_; (try clear hb); (try clear hb2); (try clear hk); (try clear hi)))
                        go_ret
                        exact ⟨by first | rfl | (simp [errW_none, errW_some] <;> rfl) | (simp [*, errW_none, errW_some] <;> rfl), by repeat (first | (with_reducible first | exact HB.out | apply below_alloc | apply pw_below_drewN | apply below_drew1) | exact HB.out)⟩
                  · rw [if_neg c29] at H
                    have c29b0 : decide (a0 < a2) = false := decide_eq_false c29
                    clear c29
                    by_cases c42 : t117 = 65536
                    · rw [if_pos c42] at H
                      have c42b0 : (t117 == 65536) = true := beq_iff_eq.mpr c42
                      have c42b1 : (t117 != 65536) = false := bne_eq_false_iff_eq.mpr c42
                      clear c42
                      by_cases c43 : a0 > 0
                      · rw [if_pos c43] at H
                        have c43b0 : decide (0 < a0) = true := decide_eq_true c43
                        clear c43
                        replace H := Option.bind_eq_some_iff.mp H
                        obtain ⟨t124, A440, H⟩ := H
                        replace H : (some t124) = some r := H
                        have A44 := Aside0.mk A440
                        clear A440
                        obtain rfl := Option.some.inj H
                        go_wp2_with (first | ((with_reducible refine gate_callee (f := 19) rfl ?_); refine goesL_ (some 65) rfl rfl Try.func19 (by kernel_rfl) rfl #[.int .i64 0, .int .i64 a2] rfl (by (try simp only [List.map_toArray, List.map_cons, List.map_nil]); first | done | rfl | (simp only [List.length_drop, List.length_take]; rfl)) ?_; (with_reducible refine (fixed_Ratio.calls kj17 0 a2 t120 _ A25.out).mono ?_); rintro e w45 ⟨rfl, hb⟩; refine ⟨_, rfl, ?_⟩; have n0_ := Aside0.mk (below_step (by repeat (first | (with_reducible first | exact HB.out | apply below_alloc | apply pw_below_drewN | apply below_drew1) | exact HB.out)) hb); clear HB; have HB := n0_; clear n0_; (try clear hb); (try clear hb2); (try clear hk); (try clear hi)) | (go_at_call 19; (with_reducible refine (fixed_Ratio.calls kj17 a2 a2 t121 _ A27.out).mono ?_); rintro e w46 ⟨rfl, hb⟩; have n0_ := Aside0.mk (below_step (by repeat (first | (with_reducible first | exact HB.out | apply below_alloc | apply pw_below_drewN | apply below_drew1) | exact HB.out)) hb); clear HB; have HB := n0_; clear n0_; (try clear hb); (try clear hb2); (try clear hk); (try clear hi)) | (go_at_call 12; (with_reducible refine (frustumlaw01_example.calls kj17  t124 _ A44.out).mono ?_); rintro e w47 ⟨rfl, hb⟩; have n0_ := Aside0.mk (below_step (by repeat (first | (with_reducible first | exact HB.out | apply below_alloc | apply pw_below_drewN | apply below_drew1) | exact HB.out)) hb); clear HB; have HB := n0_; clear n0_; (try clear hb); (try clear hb2); (try clear hk); (try clear hi)))
                        go_ret
                        exact ⟨by first | rfl | (simp [errW_none, errW_some] <;> rfl) | (simp [*, errW_none, errW_some] <;> rfl), by repeat (first | (with_reducible first | exact HB.out | apply below_alloc | apply pw_below_drewN | apply below_drew1) | exact HB.out)⟩
                      · rw [if_neg c43] at H
                        have c43b0 : decide (0 < a0) = false := decide_eq_false c43
                        clear c43
                        by_cases c48 : t117 = 0
                        · rw [if_pos c48] at H
                          have c48b0 : (t117 == 0) = true := beq_iff_eq.mpr c48
                          have c48b1 : (t117 != 0) = false := bne_eq_false_iff_eq.mpr c48
                          clear c48
                          replace H := Option.bind_eq_some_iff.mp H
                          obtain ⟨t125, A490, H⟩ := H
                          replace H : (some t125) = some r := H
                          have A49 := Aside0.mk A490
                          clear A490
                          obtain rfl := Option.some.inj H
                          go_wp2_with (first | ((with_reducible refine gate_callee (f := 19) rfl ?_); refine goesL_ (some 65) rfl rfl Try.func19 (by kernel_rfl) rfl #[.int .i64 0, .int .i64 a2] rfl (by (try simp only [List.map_toArray, List.map_cons, List.map_nil]); first | done | rfl | (simp only [List.length_drop, List.length_take]; rfl)) ?_; (with_reducible refine (fixed_Ratio.calls kj17 0 a2 t120 _ A25.out).mono ?_); rintro e w50 ⟨rfl, hb⟩; refine ⟨_, rfl, ?_⟩; have n0_ := Aside0.mk (below_step (by repeat (first | (with_reducible first | exact HB.out | apply below_alloc | apply pw_below_drewN | apply below_drew1) | exact HB.out)) hb); clear HB; have HB := n0_; clear n0_; (try clear hb); (try clear hb2); (try clear hk); (try clear hi)) | (go_at_call 19; (with_reducible refine (fixed_Ratio.calls kj17 a2 a2 t121 _ A27.out).mono ?_); rintro e w51 ⟨rfl, hb⟩; have n0_ := Aside0.mk (below_step (by repeat (first | (with_reducible first | exact HB.out | apply below_alloc | apply pw_below_drewN | apply below_drew1) | exact HB.out)) hb); clear HB; have HB := n0_; clear n0_; (try clear hb); (try clear hb2); (try clear hk); (try clear hi)) | (go_at_call 12; (with_reducible refine (frustumlaw01_example.calls kj17  t125 _ A49.out).mono ?_); rintro e w52 ⟨rfl, hb⟩; have n0_ := Aside0.mk (below_step (by repeat (first | (with_reducible first | exact HB.out | apply below_alloc | apply pw_below_drewN | apply below_drew1) | exact HB.out)) hb); clear HB; have HB := n0_; clear n0_; (try clear hb); (try clear hb2); (try clear hk); (try clear hi)))
                          go_ret
                          exact ⟨by first | rfl | (simp [errW_none, errW_some] <;> rfl) | (simp [*, errW_none, errW_some] <;> rfl), by repeat (first | (with_reducible first | exact HB.out | apply below_alloc | apply pw_below_drewN | apply below_drew1) | exact HB.out)⟩
                        · rw [if_neg c48] at H
                          have c48b0 : (t117 == 0) = false := beq_eq_false_iff_ne.mpr c48
                          have c48b1 : (t117 != 0) = true := bne_iff_ne.mpr c48
                          obtain rfl := Option.some.inj H
                          go_wp2_with (first | ((with_reducible refine gate_callee (f := 19) rfl ?_); refine goesL_ (some 65) rfl rfl Try.func19 (by kernel_rfl) rfl #[.int .i64 0, .int .i64 a2] rfl (by (try simp only [List.map_toArray, List.map_cons, List.map_nil]); first | done | rfl | (simp only [List.length_drop, List.length_take]; rfl)) ?_; (with_reducible refine (fixed_Ratio.calls kj17 0 a2 t120 _ A25.out).mono ?_); rintro e w53 ⟨rfl, hb⟩; refine ⟨_, rfl, ?_⟩; have n0_ := Aside0.mk (below_step (by repeat (first | (with_reducible first | exact HB.out | apply below_alloc | apply pw_below_drewN | apply below_drew1) | exact HB.out)) hb); clear HB; have HB := n0_; clear n0_; (try clear hb); (try clear hb2); (try clear hk); (try clear hi)) | (go_at_call 19; (with_reducible refine (fixed_Ratio.calls kj17 a2 a2 t121 _ A27.out).mono ?_); rintro e w54 ⟨rfl, hb⟩; have n0_ := Aside0.mk (below_step (by repeat (first | (with_reducible first | exact HB.out | apply below_alloc | apply pw_below_drewN | apply below_drew1) | exact HB.out)) hb); clear HB; have HB := n0_; clear n0_; (try clear hb); (try clear hb2); (try clear hk); (try clear hi)))
                          go_ret
                          exact ⟨by first | rfl | (simp [errW_none, errW_some] <;> rfl) | (simp [*, errW_none, errW_some] <;> rfl), by repeat (first | (with_reducible first | exact HB.out | apply below_alloc | apply pw_below_drewN | apply below_drew1) | exact HB.out)⟩
                    · rw [if_neg c42] at H
                      have c42b0 : (t117 == 65536) = false := beq_eq_false_iff_ne.mpr c42
                      have c42b1 : (t117 != 65536) = true := bne_iff_ne.mpr c42
                      obtain rfl := Option.some.inj H
                      go_wp2_with (first | ((with_reducible refine gate_callee (f := 19) rfl ?_); refine goesL_ (some 65) rfl rfl Try.func19 (by kernel_rfl) rfl #[.int .i64 0, .int .i64 a2] rfl (by (try simp only [List.map_toArray, List.map_cons, List.map_nil]); first | done | rfl | (simp only [List.length_drop, List.length_take]; rfl)) ?_; (with_reducible refine (fixed_Ratio.calls kj17 0 a2 t120 _ A25.out).mono ?_); rintro e w55 ⟨rfl, hb⟩; refine ⟨_, rfl, ?_⟩; have n0_ := Aside0.mk (below_step (by repeat (first | (with_reducible first | exact HB.out | apply below_alloc | apply pw_below_drewN | apply below_drew1) | exact HB.out)) hb); clear HB; have HB := n0_; clear n0_; (try clear hb); (try clear hb2); (try clear hk); (try clear hi)) | (go_at_call 19; (with_reducible refine (fixed_Ratio.calls kj17 a2 a2 t121 _ A27.out).mono ?_); rintro e w56 ⟨rfl, hb⟩; have n0_ := Aside0.mk (below_step (by repeat (first | (with_reducible first | exact HB.out | apply below_alloc | apply pw_below_drewN | apply below_drew1) | exact HB.out)) hb); clear HB; have HB := n0_; clear n0_; (try clear hb); (try clear hb2); (try clear hk); (try clear hi)))
                      go_ret
                      exact ⟨by first | rfl | (simp [errW_none, errW_some] <;> rfl) | (simp [*, errW_none, errW_some] <;> rfl), by repeat (first | (with_reducible first | exact HB.out | apply below_alloc | apply pw_below_drewN | apply below_drew1) | exact HB.out)⟩
                · rw [if_neg c28] at H
                  have c28b0 : (t121 == 65536) = false := beq_eq_false_iff_ne.mpr c28
                  have c28b1 : (t121 != 65536) = true := bne_iff_ne.mpr c28
                  obtain rfl := Option.some.inj H
                  go_wp2_with (first | ((with_reducible refine gate_callee (f := 19) rfl ?_); refine goesL_ (some 65) rfl rfl Try.func19 (by kernel_rfl) rfl #[.int .i64 0, .int .i64 a2] rfl (by (try simp only [List.map_toArray, List.map_cons, List.map_nil]); first | done | rfl | (simp only [List.length_drop, List.length_take]; rfl)) ?_; (with_reducible refine (fixed_Ratio.calls kj17 0 a2 t120 _ A25.out).mono ?_); rintro e w57 ⟨rfl, hb⟩; refine ⟨_, rfl, ?_⟩; have n0_ := Aside0.mk (below_step (by repeat (first | (with_reducible first | exact HB.out | apply below_alloc | apply pw_below_drewN | apply below_drew1) | exact HB.out)) hb); clear HB; have HB := n0_; clear n0_; (try clear hb); (try clear hb2); (try clear hk); (try clear hi)) | (go_at_call 19; (with_reducible refine (fixed_Ratio.calls kj17 a2 a2 t121 _ A27.out).mono ?_); rintro e w58 ⟨rfl, hb⟩; have n0_ := Aside0.mk (below_step (by repeat (first | (with_reducible first | exact HB.out | apply below_alloc | apply pw_below_drewN | apply below_drew1) | exact HB.out)) hb); clear HB; have HB := n0_; clear n0_; (try clear hb); (try clear hb2); (try clear hk); (try clear hi)))
                  go_ret
                  exact ⟨by first | rfl | (simp [errW_none, errW_some] <;> rfl) | (simp [*, errW_none, errW_some] <;> rfl), by repeat (first | (with_reducible first | exact HB.out | apply below_alloc | apply pw_below_drewN | apply below_drew1) | exact HB.out)⟩
              · rw [if_neg c26] at H
                have c26b0 : (t120 == 0) = false := beq_eq_false_iff_ne.mpr c26
                have c26b1 : (t120 != 0) = true := bne_iff_ne.mpr c26
                obtain rfl := Option.some.inj H
                go_wp2_with (first | ((with_reducible refine gate_callee (f := 19) rfl ?_); refine goesL_ (some 65) rfl rfl Try.func19 (by kernel_rfl) rfl #[.int .i64 0, .int .i64 a2] rfl (by (try simp only [List.map_toArray, List.map_cons, List.map_nil]); first | done | rfl | (simp only [List.length_drop, List.length_take]; rfl)) ?_; (with_reducible refine (fixed_Ratio.calls kj17 0 a2 t120 _ A25.out).mono ?_); rintro e w59 ⟨rfl, hb⟩; refine ⟨_, rfl, ?_⟩; have n0_ := Aside0.mk (below_step (by repeat (first | (with_reducible first | exact HB.out | apply below_alloc | apply pw_below_drewN | apply below_drew1) | exact HB.out)) hb); clear HB; have HB := n0_; clear n0_; (try clear hb); (try clear hb2); (try clear hk); (try clear hi)))
                go_ret
                exact ⟨by first | rfl | (simp [errW_none, errW_some] <;> rfl) | (simp [*, errW_none, errW_some] <;> rfl), by repeat (first | (with_reducible first | exact HB.out | apply below_alloc | apply pw_below_drewN | apply below_drew1) | exact HB.out)⟩

/-- THE ONE PURE STATEMENT of frustumlaw01_FixedRatioMonotonic: yours. -/
def frustumlaw01_FixedRatioMonotonic.Pure : Prop := ∀ (a0 : Int) (a1 : Int) (a2 : Int), (Lit.int .i64 a0).wf = true → (Lit.int .i64 a1).wf = true → (Lit.int .i64 a2).wf = true → ∃ k, frustumlaw01_FixedRatioMonotonic.f k a0 a1 a2 = some true
theorem frustumlaw01_FixedRatioMonotonic.walk (P : frustumlaw01_FixedRatioMonotonic.Pure) (a0 : Int) (a1 : Int) (a2 : Int) (w : World) (w0 : (Lit.int .i64 a0).wf = true) (w1 : (Lit.int .i64 a1).wf = true) (w2 : (Lit.int .i64 a2).wf = true) :
    Calls Try.prog 8 #[.int .i64 a0, .int .i64 a1, .int .i64 a2] w fun e w' => e = .returned (.bool true) ∧ Below w.heap.size w w' := by
  obtain ⟨k, h⟩ := P a0 a1 a2 w0 w1 w2
  refine (frustumlaw01_FixedRatioMonotonic.calls k a0 a1 a2 true w h).mono ?_
  rintro e w' ⟨rfl, hd⟩
  exact ⟨rfl, hd⟩

end Go.Proofs.Ytfghdcghgfehiaa.PFixedRatioMonotonic
