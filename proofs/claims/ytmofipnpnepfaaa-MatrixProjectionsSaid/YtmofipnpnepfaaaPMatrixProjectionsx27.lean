/- Written by a program of this session for this claim: Lean functions that tell what Go functions of the program return, each with a proof of that over the program's text; no condition beyond those that each theorem states. -/
import Derived.Test.YtmofipnpnepfaaaPMatrixProjectionsx0
import Derived.Test.YtmofipnpnepfaaaPMatrixProjectionsx21
import Derived.Test.YtmofipnpnepfaaaPMatrixProjectionsx23
import Derived.Test.YtmofipnpnepfaaaPMatrixProjectionsx26
namespace Go.Proofs.Ytmofipnpnepfaaa.PMatrixProjections
open Go.RowKit Go.Proofs.YtmofipnpnepfaaaW.PrintWords Go.Proofs.YtmofipnpnepfaaaW.PrintLast Go.Proofs.YtmofipnpnepfaaaW.PrintMore
attribute [local go_sem] max2_int min2_int max_two min_two max_three min_three max_four min_four   -- for this text's walks alone
set_option linter.unusedVariables false
set_option linter.unusedSimpArgs false

/-! ### frustumref04_Perspective: function 34 -/
mutual
def frustumref04_Perspective.l0 : Nat → Int → Int → Int → Int → List Int → Int → Option (Int × Int × Int × Int × Int × Int × Int × Int × Int × Int × Int × Int × Int × Int × Int × Int × Int)
  | 0, _, _, _, _, _, _ => none
  | k + 1, x0, x1, x2, x3, x10, x11 => if x11 < 3 then (if 0 ≤ x11 then (if x11 < (x10.length : Int) then (if (rd x10 x11) < 256 then (some (0, 0, 0, 0, 0, 0, 0, 0, 0, 0, 0, 0, 0, 0, 0, 0, 2)) else (if (rd x10 x11) > 16777216 then (some (0, 0, 0, 0, 0, 0, 0, 0, 0, 0, 0, 0, 0, 0, 0, 0, 2)) else (frustumref04_Perspective.l0 k x0 x1 x2 x3 x10 (wrap64 (x11 + 1))))) else (none)) else (none)) else (if x3 < (wrap64 (x2 + 256)) then (frustumref04_Perspective.j1 k x0 x1 x2 x3 true) else (frustumref04_Perspective.j1 k x0 x1 x2 x3 (decide (x3 > 268435456))))
def frustumref04_Perspective.j1 : Nat → Int → Int → Int → Int → Bool → Option (Int × Int × Int × Int × Int × Int × Int × Int × Int × Int × Int × Int × Int × Int × Int × Int × Int)
  | 0, _, _, _, _, _ => none
  | k + 1, x0, x1, x2, x3, x41 => if x41 = true then (some (0, 0, 0, 0, 0, 0, 0, 0, 0, 0, 0, 0, 0, 0, 0, 0, 2)) else ((frustumref01_Sub.f k x3 x2).bind fun t270 => ((frustumref01_Div.f k x0 x1).bind fun t271 => ((frustumref01_Div.f k x3 t270).bind fun t272 => ((frustumref01_Mul.f k x3 x2).bind fun t273 => ((frustumref01_Div.f k t273 t270).bind fun t274 => (some (t271, 0, 0, 0, 0, x0, 0, 0, 0, 0, t272, wrap64 (-t274), 0, 0, 65536, 0, 0)))))))
end
def frustumref04_Perspective.f (k : Nat) (a0 : Int) (a1 : Int) (a2 : Int) (a3 : Int) : Option (Int × Int × Int × Int × Int × Int × Int × Int × Int × Int × Int × Int × Int × Int × Int × Int × Int) := frustumref04_Perspective.l0 k a0 a1 a2 a3 (([a0, a1, a2] : List Int)) 0
theorem frustumref04_Perspective.mono_l : ∀ k, (∀ y0 y1 y2 y3 y4 y5, LeO (frustumref04_Perspective.l0 k y0 y1 y2 y3 y4 y5) (frustumref04_Perspective.l0 (k + 1) y0 y1 y2 y3 y4 y5)) ∧ (∀ y0 y1 y2 y3 y4, LeO (frustumref04_Perspective.j1 k y0 y1 y2 y3 y4) (frustumref04_Perspective.j1 (k + 1) y0 y1 y2 y3 y4))
  | 0 => ⟨fun _ _ _ _ _ _ r h => by simp [frustumref04_Perspective.l0] at h, fun _ _ _ _ _ r h => by simp [frustumref04_Perspective.j1] at h⟩
  | k + 1 => by
    obtain ⟨ih0, ih1⟩ := frustumref04_Perspective.mono_l k
    refine ⟨?_, ?_⟩
    · intro y0 y1 y2 y3 y4 y5
      unfold frustumref04_Perspective.l0
      repeat' first
      | (with_reducible exact ih0 _ _ _ _ _ _)
      | (with_reducible exact ih1 _ _ _ _ _)
      | (with_reducible exact frustumref01_Div.mono _ _ _)
      | (with_reducible exact frustumref01_Mul.mono _ _ _)
      | (with_reducible exact frustumref01_Sub.mono _ _ _)
      | (with_reducible exact LeO.refl _)
      | (with_reducible exact LeO.none _)
      | (with_reducible refine LeO.ite ?_ ?_)
      | (with_reducible refine LeO.bind ?_ (fun _ => ?_))
      | exact ih0 _ _ _ _ _ _
      | exact ih1 _ _ _ _ _
      | exact frustumref01_Div.mono _ _ _
      | exact frustumref01_Mul.mono _ _ _
      | exact frustumref01_Sub.mono _ _ _
      | exact LeO.none _
      | refine LeO.ite ?_ ?_
      | refine LeO.bind ?_ (fun _ => ?_)
    · intro y0 y1 y2 y3 y4
      unfold frustumref04_Perspective.j1
      repeat' first
      | (with_reducible exact ih0 _ _ _ _ _ _)
      | (with_reducible exact ih1 _ _ _ _ _)
      | (with_reducible exact frustumref01_Div.mono _ _ _)
      | (with_reducible exact frustumref01_Mul.mono _ _ _)
      | (with_reducible exact frustumref01_Sub.mono _ _ _)
      | (with_reducible exact LeO.refl _)
      | (with_reducible exact LeO.none _)
      | (with_reducible refine LeO.ite ?_ ?_)
      | (with_reducible refine LeO.bind ?_ (fun _ => ?_))
      | exact ih0 _ _ _ _ _ _
      | exact ih1 _ _ _ _ _
      | exact frustumref01_Div.mono _ _ _
      | exact frustumref01_Mul.mono _ _ _
      | exact frustumref01_Sub.mono _ _ _
      | exact LeO.none _
      | refine LeO.ite ?_ ?_
      | refine LeO.bind ?_ (fun _ => ?_)
theorem frustumref04_Perspective.mono : ∀ a0 a1 a2 a3 k, LeO (frustumref04_Perspective.f k a0 a1 a2 a3) (frustumref04_Perspective.f (k + 1) a0 a1 a2 a3) := by
  intro a0 a1 a2 a3 k
  obtain ⟨ih0, ih1⟩ := frustumref04_Perspective.mono_l k
  unfold frustumref04_Perspective.f
  repeat' first
      | (with_reducible exact ih0 _ _ _ _ _ _)
      | (with_reducible exact ih1 _ _ _ _ _)
      | (with_reducible exact frustumref01_Div.mono _ _ _)
      | (with_reducible exact frustumref01_Mul.mono _ _ _)
      | (with_reducible exact frustumref01_Sub.mono _ _ _)
      | (with_reducible exact LeO.refl _)
      | (with_reducible exact LeO.none _)
      | (with_reducible refine LeO.ite ?_ ?_)
      | (with_reducible refine LeO.bind ?_ (fun _ => ?_))
      | exact ih0 _ _ _ _ _ _
      | exact ih1 _ _ _ _ _
      | exact frustumref01_Div.mono _ _ _
      | exact frustumref01_Mul.mono _ _ _
      | exact frustumref01_Sub.mono _ _ _
      | exact LeO.none _
      | refine LeO.ite ?_ ?_
      | refine LeO.bind ?_ (fun _ => ?_)
set_option maxHeartbeats 8000000 in
set_option maxRecDepth 100000 in
theorem frustumref04_Perspective.calls (k : Nat) (a0 : Int) (a1 : Int) (a2 : Int) (a3 : Int) (r1 : Int) (r2 : Int) (r3 : Int) (r4 : Int) (r5 : Int) (r6 : Int) (r7 : Int) (r8 : Int) (r9 : Int) (r10 : Int) (r11 : Int) (r12 : Int) (r13 : Int) (r14 : Int) (r15 : Int) (r16 : Int) (r17 : Int) (w : World) (h : frustumref04_Perspective.f k a0 a1 a2 a3 = some (r1, r2, r3, r4, r5, r6, r7, r8, r9, r10, r11, r12, r13, r14, r15, r16, r17)) :
    Calls Try.prog 34 #[.int .i64 a0, .int .i64 a1, .int .i64 a2, .int .i64 a3] w fun e w' => e = .returned (.tuple #[.agg #[.int .i64 r1, .int .i64 r2, .int .i64 r3, .int .i64 r4, .int .i64 r5, .int .i64 r6, .int .i64 r7, .int .i64 r8, .int .i64 r9, .int .i64 r10, .int .i64 r11, .int .i64 r12, .int .i64 r13, .int .i64 r14, .int .i64 r15, .int .i64 r16], .int .i64 r17]) ∧ Below w.heap.size w w' := by
  have hu23 := Try.underlying23
  have HB := Aside0.mk (Below.refl w.heap.size w)
  have H : (frustumref04_Perspective.l0 k a0 a1 a2 a3 (([a0, a1, a2] : List Int)) 0) = some (r1, r2, r3, r4, r5, r6, r7, r8, r9, r10, r11, r12, r13, r14, r15, r16, r17) := h
  clear h
  obtain ⟨y265, hy265⟩ : ∃ y_ : List Int, y_ = (([a0, a1, a2] : List Int)) := ⟨_, rfl⟩
  replace H : (frustumref04_Perspective.l0 k a0 a1 a2 a3 y265 0) = some (r1, r2, r3, r4, r5, r6, r7, r8, r9, r10, r11, r12, r13, r14, r15, r16, r17) := by first | (rw [hy265]; with_reducible exact H) | (have H2_ := (Option.bind_some _ _).symm.trans H; rw [hy265]; with_reducible exact H2_) | (have H2_ := (Option.bind_some _ _).symm.trans H; with_reducible exact H2_) | with_reducible exact H | (rw [hy265]; exact H) | exact H
  have Ny265 := Aside0.mk hy265
  clear hy265
  have H' := Aside0.mk H
  clear H
  go_enter Try.func34, Try.ntmps34
  go_wp2_with (first | ((with_reducible refine gate_dst (N := 8) rfl ?_); refine box_event ?hg (N := 8) ?hd (cs := #[.int .i64 0, .int .i64 0, .int .i64 0, .int .i64 0, .int .i64 0, .int .i64 0, .int .i64 0, .int .i64 0, .int .i64 0, .int .i64 0, .int .i64 0, .int .i64 0, .int .i64 0, .int .i64 0, .int .i64 0, .int .i64 0]) (t := 23) ?hr ?_; (case hd => rfl); (case hg => rfl); (case hr => first | (go_simp; done) | (go_simp; rfl)); intro gb264 hg w5 hbox hb; have n0_ := Aside0.mk (below_step (by repeat (first | (with_reducible first | exact HB.out | apply below_alloc | apply pw_below_drewN | apply below_drew1) | exact HB.out)) hb); have n1_ := Aside0.mk (hbox); have n2_ := Aside0.mk ((by rw [hg]; exact (below_size (by repeat (first | (with_reducible first | exact HB.out | apply below_alloc | apply pw_below_drewN | apply below_drew1) | exact HB.out))) : w.heap.size ≤ gb264)); have n3_ := Aside0.mk ((by rw [hg]; exact (below_size (by repeat (first | (with_reducible first | exact HB.out | apply below_alloc | apply pw_below_drewN | apply below_drew1) | exact HB.out))) : w.heap.size ≤ gb264)); clear HB; have HB := n0_; have BK264 := n1_; have GW264 := n2_; have GE264 := n3_; clear n0_ n1_ n2_ n3_; clear hb hbox hg) | ((with_reducible refine gate_dst (N := 16) rfl ?_); refine Kd.R_lit (Kd.int .i64) _ 3 ?hg (N := 16) ?hd (xs := ([a0, a1, a2] : List Int)) (inner := [.int .i64 a0, .int .i64 a1, .int .i64 a2]) (ok := fun _ => True) (okp := fun _ => True) ?hr ?hp (fun _ hk => hk) trivial (Below.refl _ _) (Nat.le_refl _) (by simp) ?_; (case hd => rfl); (case hg => rfl); (case hr => first | (go_simp; done) | (go_simp; rfl)); (case hp => exact (Reps.one (show Kd.M (Kd.int .i64) _ _ _ a0 [.int .i64 a0] from rfl) (Reps.one (show Kd.M (Kd.int .i64) _ _ _ a1 [.int .i64 a1] from rfl) (Reps.one (show Kd.M (Kd.int .i64) _ _ _ a2 [.int .i64 a2] from rfl) (Reps.none _ _))))); intro v266 w6 ho7 hb hg_ hnew_; clear hg_ hnew_; (first | rw [← Ny265.out] at ho7 | (simp only [Int.reduceToNat] at ho7; rw [← Ny265.out] at ho7)); have n0_ := Aside0.mk (Kd.R_lower ho7 (below_size (by repeat (first | (with_reducible first | exact HB.out | apply below_alloc | apply pw_below_drewN | apply below_drew1 | refine below_set ?_ GE264.out) | exact HB.out)))); have n1_ := Aside0.mk (blk_below (g := gb264) (o := .cells #[.int .i64 0, .int .i64 0, .int .i64 0, .int .i64 0, .int .i64 0, .int .i64 0, .int .i64 0, .int .i64 0, .int .i64 0, .int .i64 0, .int .i64 0, .int .i64 0, .int .i64 0, .int .i64 0, .int .i64 0, .int .i64 0] 23 (0, 0)) (by (with_reducible repeat (first | refine blk_drewN ?_ _ | refine blk_drew ?_ | refine blk_alloc ?_ _)); exact BK264.out) hb); have n2_ := Aside0.mk (below_step (by repeat (first | (with_reducible first | exact HB.out | apply below_alloc | apply pw_below_drewN | apply below_drew1 | refine below_set ?_ GE264.out) | exact HB.out)) hb); clear BK264; clear HB; have HO267 := n0_; have BK264 := n1_; have HB := n2_; clear n0_ n1_ n2_; clear hb ho7))
  go_loopg [11] k (fun kq v11 w' => ∃ (x11_1 : Int) (x265000_1 : Int) (x265001_1 : Int) (x265002_1 : Int) (x265003_1 : Int) (x265004_1 : Int) (x265005_1 : Int) (x265006_1 : Int) (x265007_1 : Int) (x265008_1 : Int) (x265009_1 : Int) (x265010_1 : Int) (x265011_1 : Int) (x265012_1 : Int) (x265013_1 : Int) (x265014_1 : Int) (x265015_1 : Int), v11 = .int .i64 x11_1 ∧ Aside0 (frustumref04_Perspective.l0 kq a0 a1 a2 a3 y265 x11_1 = some (r1, r2, r3, r4, r5, r6, r7, r8, r9, r10, r11, r12, r13, r14, r15, r16, r17)) ∧ Aside0 (kq ≤ k) ∧ Aside0 (Kd.R (Kd.int .i64) 3 w' w.heap.size (fun _ => True) v266 y265) ∧ Aside0 (w'.heap[gb264]? = some (.cells #[.int .i64 x265000_1, .int .i64 x265001_1, .int .i64 x265002_1, .int .i64 x265003_1, .int .i64 x265004_1, .int .i64 x265005_1, .int .i64 x265006_1, .int .i64 x265007_1, .int .i64 x265008_1, .int .i64 x265009_1, .int .i64 x265010_1, .int .i64 x265011_1, .int .i64 x265012_1, .int .i64 x265013_1, .int .i64 x265014_1, .int .i64 x265015_1] 23 (0, 0))) ∧ Aside0 (Below w.heap.size w w'))
  case atStart => exact ⟨(0), (0), (0), (0), (0), (0), (0), (0), (0), (0), (0), (0), (0), (0), (0), (0), (0), (by first | rfl | (simp; done) | (simp [*]; done)), H', ⟨Nat.le_refl _⟩, ⟨by (with_reducible repeat (first | apply Kd.R_alloc | apply Kd.R_drewN | apply Kd.R_drew)); exact HO267.out⟩, ⟨by (with_reducible repeat (first | refine blk_drewN ?_ _ | refine blk_drew ?_ | refine blk_alloc ?_ _)); exact BK264.out⟩, ⟨by repeat (first | (with_reducible first | exact HB.out | apply below_alloc | apply pw_below_drewN | apply below_drew1 | refine below_set ?_ GE264.out) | exact HB.out)⟩⟩
  case round =>
    clear H'
    try clear p2
    try clear c3
    obtain ⟨x11_1, x265000_1, x265001_1, x265002_1, x265003_1, x265004_1, x265005_1, x265006_1, x265007_1, x265008_1, x265009_1, x265010_1, x265011_1, x265012_1, x265013_1, x265014_1, x265015_1, rfl, HA, HK1, HO_10, BK264, HB⟩ := hrel
    cases gk with
    | zero => exact absurd HA.out (by simp [frustumref04_Perspective.l0])
    | succ k1 =>
      have H := HA.out
      clear HA
      simp only [frustumref04_Perspective.l0] at H
      by_cases c8 : x11_1 < 3
      · rw [if_pos c8] at H
        have c8b0 : decide (x11_1 < 3) = true := decide_eq_true c8
        clear c8
        by_cases c9 : 0 ≤ x11_1
        · rw [if_pos c9] at H
          have c9b0 : decide (0 ≤ x11_1) = true := decide_eq_true c9
          clear c9
          by_cases c10 : x11_1 < (y265.length : Int)
          · rw [if_pos c10] at H
            have c10b0 : decide (x11_1 < (y265.length : Int)) = true := decide_eq_true c10
            clear c10
            by_cases c11 : (rd y265 x11_1) < 256
            · rw [if_pos c11] at H
              have c11b0 : decide ((rd y265 x11_1) < 256) = true := decide_eq_true c11
              clear c11
              simp only [Option.some.injEq, Prod.mk.injEq] at H
              obtain ⟨rfl, rfl, rfl, rfl, rfl, rfl, rfl, rfl, rfl, rfl, rfl, rfl, rfl, rfl, rfl, rfl, rfl⟩ := H
              obtain ⟨Ao12, co12, eo12⟩ := Kd.R_slice HO_10.out
              subst eo12
              have p268 : 0 ≤ (x11_1 : Int) := of_decide_eq_true (by first | (with_reducible assumption) | assumption)
              have q268 : x11_1 < (y265.length : Int) := of_decide_eq_true (by first | (with_reducible assumption) | assumption)
              obtain ⟨ad268, e268, hx268_0⟩ := Kd.at_int (Kd.R_reads' HO_10.out).2.2 x11_1 p268 q268
              cases e268
              replace p268 := eq_true p268
              replace q268 := eq_true q268
              have hcz13_0 : wr.cell? ⟨gb264, 0, none⟩ = some (.int .i64 x265000_1) := (blk_cell BK264.out 0).trans rfl
              have hcz13_1 : wr.cell? ⟨gb264, 1, none⟩ = some (.int .i64 x265001_1) := (blk_cell BK264.out 1).trans rfl
              have hcz13_2 : wr.cell? ⟨gb264, 2, none⟩ = some (.int .i64 x265002_1) := (blk_cell BK264.out 2).trans rfl
              have hcz13_3 : wr.cell? ⟨gb264, 3, none⟩ = some (.int .i64 x265003_1) := (blk_cell BK264.out 3).trans rfl
              have hcz13_4 : wr.cell? ⟨gb264, 4, none⟩ = some (.int .i64 x265004_1) := (blk_cell BK264.out 4).trans rfl
              have hcz13_5 : wr.cell? ⟨gb264, 5, none⟩ = some (.int .i64 x265005_1) := (blk_cell BK264.out 5).trans rfl
              have hcz13_6 : wr.cell? ⟨gb264, 6, none⟩ = some (.int .i64 x265006_1) := (blk_cell BK264.out 6).trans rfl
              have hcz13_7 : wr.cell? ⟨gb264, 7, none⟩ = some (.int .i64 x265007_1) := (blk_cell BK264.out 7).trans rfl
              have hcz13_8 : wr.cell? ⟨gb264, 8, none⟩ = some (.int .i64 x265008_1) := (blk_cell BK264.out 8).trans rfl
              have hcz13_9 : wr.cell? ⟨gb264, 9, none⟩ = some (.int .i64 x265009_1) := (blk_cell BK264.out 9).trans rfl
              have hcz13_10 : wr.cell? ⟨gb264, 10, none⟩ = some (.int .i64 x265010_1) := (blk_cell BK264.out 10).trans rfl
              have hcz13_11 : wr.cell? ⟨gb264, 11, none⟩ = some (.int .i64 x265011_1) := (blk_cell BK264.out 11).trans rfl
              have hcz13_12 : wr.cell? ⟨gb264, 12, none⟩ = some (.int .i64 x265012_1) := (blk_cell BK264.out 12).trans rfl
              have hcz13_13 : wr.cell? ⟨gb264, 13, none⟩ = some (.int .i64 x265013_1) := (blk_cell BK264.out 13).trans rfl
              have hcz13_14 : wr.cell? ⟨gb264, 14, none⟩ = some (.int .i64 x265014_1) := (blk_cell BK264.out 14).trans rfl
              have hcz13_15 : wr.cell? ⟨gb264, 15, none⟩ = some (.int .i64 x265015_1) := (blk_cell BK264.out 15).trans rfl
              have hfz13_0 := blk_frozen BK264.out 0
              have hfz13_1 := blk_frozen BK264.out 1
              have hfz13_2 := blk_frozen BK264.out 2
              have hfz13_3 := blk_frozen BK264.out 3
              have hfz13_4 := blk_frozen BK264.out 4
              have hfz13_5 := blk_frozen BK264.out 5
              have hfz13_6 := blk_frozen BK264.out 6
              have hfz13_7 := blk_frozen BK264.out 7
              have hfz13_8 := blk_frozen BK264.out 8
              have hfz13_9 := blk_frozen BK264.out 9
              have hfz13_10 := blk_frozen BK264.out 10
              have hfz13_11 := blk_frozen BK264.out 11
              have hfz13_12 := blk_frozen BK264.out 12
              have hfz13_13 := blk_frozen BK264.out 13
              have hfz13_14 := blk_frozen BK264.out 14
              have hfz13_15 := blk_frozen BK264.out 15
              go_wp2
              refine bodyPost_ret (results_ct rfl _ _ gb264 23 #[.int .i64 0, .int .i64 0, .int .i64 0, .int .i64 0, .int .i64 0, .int .i64 0, .int .i64 0, .int .i64 0, .int .i64 0, .int .i64 0, .int .i64 0, .int .i64 0, .int .i64 0, .int .i64 0, .int .i64 0, .int .i64 0] (0, 0) _ rfl (by (with_reducible repeat (first | refine blk_drewN ?_ _ | refine blk_drew ?_ | refine blk_alloc ?_ _)); refine blk_put (cs := #[.int .i64 0, .int .i64 0, .int .i64 0, .int .i64 0, .int .i64 0, .int .i64 0, .int .i64 0, .int .i64 0, .int .i64 0, .int .i64 0, .int .i64 0, .int .i64 0, .int .i64 0, .int .i64 0, .int .i64 0, .int .i64 x265015_1]) ?_ 15 _ rfl; (with_reducible repeat (first | refine blk_drewN ?_ _ | refine blk_drew ?_ | refine blk_alloc ?_ _)); refine blk_put (cs := #[.int .i64 0, .int .i64 0, .int .i64 0, .int .i64 0, .int .i64 0, .int .i64 0, .int .i64 0, .int .i64 0, .int .i64 0, .int .i64 0, .int .i64 0, .int .i64 0, .int .i64 0, .int .i64 0, .int .i64 x265014_1, .int .i64 x265015_1]) ?_ 14 _ rfl; (with_reducible repeat (first | refine blk_drewN ?_ _ | refine blk_drew ?_ | refine blk_alloc ?_ _)); refine blk_put (cs := #[.int .i64 0, .int .i64 0, .int .i64 0, .int .i64 0, .int .i64 0, .int .i64 0, .int .i64 0, .int .i64 0, .int .i64 0, .int .i64 0, .int .i64 0, .int .i64 0, .int .i64 0, .int .i64 x265013_1, .int .i64 x265014_1, .int .i64 x265015_1]) ?_ 13 _ rfl; (with_reducible repeat (first | refine blk_drewN ?_ _ | refine blk_drew ?_ | refine blk_alloc ?_ _)); refine blk_put (cs := #[.int .i64 0, .int .i64 0, .int .i64 0, .int .i64 0, .int .i64 0, .int .i64 0, .int .i64 0, .int .i64 0, .int .i64 0, .int .i64 0, .int .i64 0, .int .i64 0, .int .i64 x265012_1, .int .i64 x265013_1, .int .i64 x265014_1, .int .i64 x265015_1]) ?_ 12 _ rfl; (with_reducible repeat (first | refine blk_drewN ?_ _ | refine blk_drew ?_ | refine blk_alloc ?_ _)); refine blk_put (cs := #[.int .i64 0, .int .i64 0, .int .i64 0, .int .i64 0, .int .i64 0, .int .i64 0, .int .i64 0, .int .i64 0, .int .i64 0, .int .i64 0, .int .i64 0, .int .i64 x265011_1, .int .i64 x265012_1, .int .i64 x265013_1, .int .i64 x265014_1, .int .i64 x265015_1]) ?_ 11 _ rfl; (with_reducible repeat (first | refine blk_drewN ?_ _ | refine blk_drew ?_ | refine blk_alloc ?_ _)); refine blk_put (cs := #[.int .i64 0, .int .i64 0, .int .i64 0, .int .i64 0, .int .i64 0, .int .i64 0, .int .i64 0, .int .i64 0, .int .i64 0, .int .i64 0, .int .i64 x265010_1, .int .i64 x265011_1, .int .i64 x265012_1, .int .i64 x265013_1, .int .i64 x265014_1, .int .i64 x265015_1]) ?_ 10 _ rfl; (with_reducible repeat (first | refine blk_drewN ?_ _ | refine blk_drew ?_ | refine blk_alloc ?_ _)); refine blk_put (cs := #[.int .i64 0, .int .i64 0, .int .i64 0, .int .i64 0, .int .i64 0, .int .i64 0, .int .i64 0, .int .i64 0, .int .i64 0, .int .i64 x265009_1, .int .i64 x265010_1, .int .i64 x265011_1, .int .i64 x265012_1, .int .i64 x265013_1, .int .i64 x265014_1, .int .i64 x265015_1]) ?_ 9 _ rfl; (with_reducible repeat (first | refine blk_drewN ?_ _ | refine blk_drew ?_ | refine blk_alloc ?_ _)); refine blk_put (cs := #[.int .i64 0, .int .i64 0, .int .i64 0, .int .i64 0, .int .i64 0, .int .i64 0, .int .i64 0, .int .i64 0, .int .i64 x265008_1, .int .i64 x265009_1, .int .i64 x265010_1, .int .i64 x265011_1, .int .i64 x265012_1, .int .i64 x265013_1, .int .i64 x265014_1, .int .i64 x265015_1]) ?_ 8 _ rfl; (with_reducible repeat (first | refine blk_drewN ?_ _ | refine blk_drew ?_ | refine blk_alloc ?_ _)); refine blk_put (cs := #[.int .i64 0, .int .i64 0, .int .i64 0, .int .i64 0, .int .i64 0, .int .i64 0, .int .i64 0, .int .i64 x265007_1, .int .i64 x265008_1, .int .i64 x265009_1, .int .i64 x265010_1, .int .i64 x265011_1, .int .i64 x265012_1, .int .i64 x265013_1, .int .i64 x265014_1, .int .i64 x265015_1]) ?_ 7 _ rfl; (with_reducible repeat (first | refine blk_drewN ?_ _ | refine blk_drew ?_ | refine blk_alloc ?_ _)); refine blk_put (cs := #[.int .i64 0, .int .i64 0, .int .i64 0, .int .i64 0, .int .i64 0, .int .i64 0, .int .i64 x265006_1, .int .i64 x265007_1, .int .i64 x265008_1, .int .i64 x265009_1, .int .i64 x265010_1, .int .i64 x265011_1, .int .i64 x265012_1, .int .i64 x265013_1, .int .i64 x265014_1, .int .i64 x265015_1]) ?_ 6 _ rfl; (with_reducible repeat (first | refine blk_drewN ?_ _ | refine blk_drew ?_ | refine blk_alloc ?_ _)); refine blk_put (cs := #[.int .i64 0, .int .i64 0, .int .i64 0, .int .i64 0, .int .i64 0, .int .i64 x265005_1, .int .i64 x265006_1, .int .i64 x265007_1, .int .i64 x265008_1, .int .i64 x265009_1, .int .i64 x265010_1, .int .i64 x265011_1, .int .i64 x265012_1, .int .i64 x265013_1, .int .i64 x265014_1, .int .i64 x265015_1]) ?_ 5 _ rfl; (with_reducible repeat (first | refine blk_drewN ?_ _ | refine blk_drew ?_ | refine blk_alloc ?_ _)); refine blk_put (cs := #[.int .i64 0, .int .i64 0, .int .i64 0, .int .i64 0, .int .i64 x265004_1, .int .i64 x265005_1, .int .i64 x265006_1, .int .i64 x265007_1, .int .i64 x265008_1, .int .i64 x265009_1, .int .i64 x265010_1, .int .i64 x265011_1, .int .i64 x265012_1, .int .i64 x265013_1, .int .i64 x265014_1, .int .i64 x265015_1]) ?_ 4 _ rfl; (with_reducible repeat (first | refine blk_drewN ?_ _ | refine blk_drew ?_ | refine blk_alloc ?_ _)); refine blk_put (cs := #[.int .i64 0, .int .i64 0, .int .i64 0, .int .i64 x265003_1, .int .i64 x265004_1, .int .i64 x265005_1, .int .i64 x265006_1, .int .i64 x265007_1, .int .i64 x265008_1, .int .i64 x265009_1, .int .i64 x265010_1, .int .i64 x265011_1, .int .i64 x265012_1, .int .i64 x265013_1, .int .i64 x265014_1, .int .i64 x265015_1]) ?_ 3 _ rfl; (with_reducible repeat (first | refine blk_drewN ?_ _ | refine blk_drew ?_ | refine blk_alloc ?_ _)); refine blk_put (cs := #[.int .i64 0, .int .i64 0, .int .i64 x265002_1, .int .i64 x265003_1, .int .i64 x265004_1, .int .i64 x265005_1, .int .i64 x265006_1, .int .i64 x265007_1, .int .i64 x265008_1, .int .i64 x265009_1, .int .i64 x265010_1, .int .i64 x265011_1, .int .i64 x265012_1, .int .i64 x265013_1, .int .i64 x265014_1, .int .i64 x265015_1]) ?_ 2 _ rfl; (with_reducible repeat (first | refine blk_drewN ?_ _ | refine blk_drew ?_ | refine blk_alloc ?_ _)); refine blk_put (cs := #[.int .i64 0, .int .i64 x265001_1, .int .i64 x265002_1, .int .i64 x265003_1, .int .i64 x265004_1, .int .i64 x265005_1, .int .i64 x265006_1, .int .i64 x265007_1, .int .i64 x265008_1, .int .i64 x265009_1, .int .i64 x265010_1, .int .i64 x265011_1, .int .i64 x265012_1, .int .i64 x265013_1, .int .i64 x265014_1, .int .i64 x265015_1]) ?_ 1 _ rfl; (with_reducible repeat (first | refine blk_drewN ?_ _ | refine blk_drew ?_ | refine blk_alloc ?_ _)); refine blk_put (cs := #[.int .i64 x265000_1, .int .i64 x265001_1, .int .i64 x265002_1, .int .i64 x265003_1, .int .i64 x265004_1, .int .i64 x265005_1, .int .i64 x265006_1, .int .i64 x265007_1, .int .i64 x265008_1, .int .i64 x265009_1, .int .i64 x265010_1, .int .i64 x265011_1, .int .i64 x265012_1, .int .i64 x265013_1, .int .i64 x265014_1, .int .i64 x265015_1]) ?_ 0 _ rfl; (with_reducible repeat (first | refine blk_drewN ?_ _ | refine blk_drew ?_ | refine blk_alloc ?_ _)); exact BK264.out) Try.underlying23 rfl (by kernel_rfl)) rfl ?_
              exact ⟨by first | rfl | (simp [errW_none, errW_some] <;> rfl) | (simp [*, errW_none, errW_some] <;> rfl), by repeat (first | (with_reducible first | exact HB.out | apply below_alloc | apply pw_below_drewN | apply below_drew1 | refine below_set ?_ GE264.out) | exact HB.out)⟩
            · rw [if_neg c11] at H
              have c11b0 : decide ((rd y265 x11_1) < 256) = false := decide_eq_false c11
              clear c11
              by_cases c14 : (rd y265 x11_1) > 16777216
              · rw [if_pos c14] at H
                have c14b0 : decide (16777216 < (rd y265 x11_1)) = true := decide_eq_true c14
                clear c14
                simp only [Option.some.injEq, Prod.mk.injEq] at H
                obtain ⟨rfl, rfl, rfl, rfl, rfl, rfl, rfl, rfl, rfl, rfl, rfl, rfl, rfl, rfl, rfl, rfl, rfl⟩ := H
                obtain ⟨Ao15, co15, eo15⟩ := Kd.R_slice HO_10.out
                subst eo15
                have p268 : 0 ≤ (x11_1 : Int) := of_decide_eq_true (by first | (with_reducible assumption) | assumption)
                have q268 : x11_1 < (y265.length : Int) := of_decide_eq_true (by first | (with_reducible assumption) | assumption)
                obtain ⟨ad268, e268, hx268_0⟩ := Kd.at_int (Kd.R_reads' HO_10.out).2.2 x11_1 p268 q268
                cases e268
                replace p268 := eq_true p268
                replace q268 := eq_true q268
                have p269 : 0 ≤ (x11_1 : Int) := of_decide_eq_true (by first | (with_reducible assumption) | assumption)
                have q269 : x11_1 < (y265.length : Int) := of_decide_eq_true (by first | (with_reducible assumption) | assumption)
                obtain ⟨ad269, e269, hx269_0⟩ := Kd.at_int (Kd.R_reads' HO_10.out).2.2 x11_1 p269 q269
                obtain rfl : ad268 = ad269 := (by injection e269)
                replace p269 := eq_true p269
                replace q269 := eq_true q269
                have hcz16_0 : wr.cell? ⟨gb264, 0, none⟩ = some (.int .i64 x265000_1) := (blk_cell BK264.out 0).trans rfl
                have hcz16_1 : wr.cell? ⟨gb264, 1, none⟩ = some (.int .i64 x265001_1) := (blk_cell BK264.out 1).trans rfl
                have hcz16_2 : wr.cell? ⟨gb264, 2, none⟩ = some (.int .i64 x265002_1) := (blk_cell BK264.out 2).trans rfl
                have hcz16_3 : wr.cell? ⟨gb264, 3, none⟩ = some (.int .i64 x265003_1) := (blk_cell BK264.out 3).trans rfl
                have hcz16_4 : wr.cell? ⟨gb264, 4, none⟩ = some (.int .i64 x265004_1) := (blk_cell BK264.out 4).trans rfl
                have hcz16_5 : wr.cell? ⟨gb264, 5, none⟩ = some (.int .i64 x265005_1) := (blk_cell BK264.out 5).trans rfl
                have hcz16_6 : wr.cell? ⟨gb264, 6, none⟩ = some (.int .i64 x265006_1) := (blk_cell BK264.out 6).trans rfl
                have hcz16_7 : wr.cell? ⟨gb264, 7, none⟩ = some (.int .i64 x265007_1) := (blk_cell BK264.out 7).trans rfl
                have hcz16_8 : wr.cell? ⟨gb264, 8, none⟩ = some (.int .i64 x265008_1) := (blk_cell BK264.out 8).trans rfl
                have hcz16_9 : wr.cell? ⟨gb264, 9, none⟩ = some (.int .i64 x265009_1) := (blk_cell BK264.out 9).trans rfl
                have hcz16_10 : wr.cell? ⟨gb264, 10, none⟩ = some (.int .i64 x265010_1) := (blk_cell BK264.out 10).trans rfl
                have hcz16_11 : wr.cell? ⟨gb264, 11, none⟩ = some (.int .i64 x265011_1) := (blk_cell BK264.out 11).trans rfl
                have hcz16_12 : wr.cell? ⟨gb264, 12, none⟩ = some (.int .i64 x265012_1) := (blk_cell BK264.out 12).trans rfl
                have hcz16_13 : wr.cell? ⟨gb264, 13, none⟩ = some (.int .i64 x265013_1) := (blk_cell BK264.out 13).trans rfl
                have hcz16_14 : wr.cell? ⟨gb264, 14, none⟩ = some (.int .i64 x265014_1) := (blk_cell BK264.out 14).trans rfl
                have hcz16_15 : wr.cell? ⟨gb264, 15, none⟩ = some (.int .i64 x265015_1) := (blk_cell BK264.out 15).trans rfl
                have hfz16_0 := blk_frozen BK264.out 0
                have hfz16_1 := blk_frozen BK264.out 1
                have hfz16_2 := blk_frozen BK264.out 2
                have hfz16_3 := blk_frozen BK264.out 3
                have hfz16_4 := blk_frozen BK264.out 4
                have hfz16_5 := blk_frozen BK264.out 5
                have hfz16_6 := blk_frozen BK264.out 6
                have hfz16_7 := blk_frozen BK264.out 7
                have hfz16_8 := blk_frozen BK264.out 8
                have hfz16_9 := blk_frozen BK264.out 9
                have hfz16_10 := blk_frozen BK264.out 10
                have hfz16_11 := blk_frozen BK264.out 11
                have hfz16_12 := blk_frozen BK264.out 12
                have hfz16_13 := blk_frozen BK264.out 13
                have hfz16_14 := blk_frozen BK264.out 14
                have hfz16_15 := blk_frozen BK264.out 15
                go_wp2
                refine bodyPost_ret (results_ct rfl _ _ gb264 23 #[.int .i64 0, .int .i64 0, .int .i64 0, .int .i64 0, .int .i64 0, .int .i64 0, .int .i64 0, .int .i64 0, .int .i64 0, .int .i64 0, .int .i64 0, .int .i64 0, .int .i64 0, .int .i64 0, .int .i64 0, .int .i64 0] (0, 0) _ rfl (by (with_reducible repeat (first | refine blk_drewN ?_ _ | refine blk_drew ?_ | refine blk_alloc ?_ _)); refine blk_put (cs := #[.int .i64 0, .int .i64 0, .int .i64 0, .int .i64 0, .int .i64 0, .int .i64 0, .int .i64 0, .int .i64 0, .int .i64 0, .int .i64 0, .int .i64 0, .int .i64 0, .int .i64 0, .int .i64 0, .int .i64 0, .int .i64 x265015_1]) ?_ 15 _ rfl; (with_reducible repeat (first | refine blk_drewN ?_ _ | refine blk_drew ?_ | refine blk_alloc ?_ _)); refine blk_put (cs := #[.int .i64 0, .int .i64 0, .int .i64 0, .int .i64 0, .int .i64 0, .int .i64 0, .int .i64 0, .int .i64 0, .int .i64 0, .int .i64 0, .int .i64 0, .int .i64 0, .int .i64 0, .int .i64 0, .int .i64 x265014_1, .int .i64 x265015_1]) ?_ 14 _ rfl; (with_reducible repeat (first | refine blk_drewN ?_ _ | refine blk_drew ?_ | refine blk_alloc ?_ _)); refine blk_put (cs := #[.int .i64 0, .int .i64 0, .int .i64 0, .int .i64 0, .int .i64 0, .int .i64 0, .int .i64 0, .int .i64 0, .int .i64 0, .int .i64 0, .int .i64 0, .int .i64 0, .int .i64 0, .int .i64 x265013_1, .int .i64 x265014_1, .int .i64 x265015_1]) ?_ 13 _ rfl; (with_reducible repeat (first | refine blk_drewN ?_ _ | refine blk_drew ?_ | refine blk_alloc ?_ _)); refine blk_put (cs := #[.int .i64 0, .int .i64 0, .int .i64 0, .int .i64 0, .int .i64 0, .int .i64 0, .int .i64 0, .int .i64 0, .int .i64 0, .int .i64 0, .int .i64 0, .int .i64 0, .int .i64 x265012_1, .int .i64 x265013_1, .int .i64 x265014_1, .int .i64 x265015_1]) ?_ 12 _ rfl; (with_reducible repeat (first | refine blk_drewN ?_ _ | refine blk_drew ?_ | refine blk_alloc ?_ _)); refine blk_put (cs := #[.int .i64 0, .int .i64 0, .int .i64 0, .int .i64 0, .int .i64 0, .int .i64 0, .int .i64 0, .int .i64 0, .int .i64 0, .int .i64 0, .int .i64 0, .int .i64 x265011_1, .int .i64 x265012_1, .int .i64 x265013_1, .int .i64 x265014_1, .int .i64 x265015_1]) ?_ 11 _ rfl; (with_reducible repeat (first | refine blk_drewN ?_ _ | refine blk_drew ?_ | refine blk_alloc ?_ _)); refine blk_put (cs := #[.int .i64 0, .int .i64 0, .int .i64 0, .int .i64 0, .int .i64 0, .int .i64 0, .int .i64 0, .int .i64 0, .int .i64 0, .int .i64 0, .int .i64 x265010_1, .int .i64 x265011_1, .int .i64 x265012_1, .int .i64 x265013_1, .int .i64 x265014_1, .int .i64 x265015_1]) ?_ 10 _ rfl; (with_reducible repeat (first | refine blk_drewN ?_ _ | refine blk_drew ?_ | refine blk_alloc ?_ _)); refine blk_put (cs := #[.int .i64 0, .int .i64 0, .int .i64 0, .int .i64 0, .int .i64 0, .int .i64 0, .int .i64 0, .int .i64 0, .int .i64 0, .int .i64 x265009_1, .int .i64 x265010_1, .int .i64 x265011_1, .int .i64 x265012_1, .int .i64 x265013_1, .int .i64 x265014_1, .int .i64 x265015_1]) ?_ 9 _ rfl; (with_reducible repeat (first | refine blk_drewN ?_ _ | refine blk_drew ?_ | refine blk_alloc ?_ _)); refine blk_put (cs := #[.int .i64 0, .int .i64 0, .int .i64 0, .int .i64 0, .int .i64 0, .int .i64 0, .int .i64 0, .int .i64 0, .int .i64 x265008_1, .int .i64 x265009_1, .int .i64 x265010_1, .int .i64 x265011_1, .int .i64 x265012_1, .int .i64 x265013_1, .int .i64 x265014_1, .int .i64 x265015_1]) ?_ 8 _ rfl; (with_reducible repeat (first | refine blk_drewN ?_ _ | refine blk_drew ?_ | refine blk_alloc ?_ _)); refine blk_put (cs := #[.int .i64 0, .int .i64 0, .int .i64 0, .int .i64 0, .int .i64 0, .int .i64 0, .int .i64 0, .int .i64 x265007_1, .int .i64 x265008_1, .int .i64 x265009_1, .int .i64 x265010_1, .int .i64 x265011_1, .int .i64 x265012_1, .int .i64 x265013_1, .int .i64 x265014_1, .int .i64 x265015_1]) ?_ 7 _ rfl; (with_reducible repeat (first | refine blk_drewN ?_ _ | refine blk_drew ?_ | refine blk_alloc ?_ _)); refine blk_put (cs := #[.int .i64 0, .int .i64 0, .int .i64 0, .int .i64 0, .int .i64 0, .int .i64 0, .int .i64 x265006_1, .int .i64 x265007_1, .int .i64 x265008_1, .int .i64 x265009_1, .int .i64 x265010_1, .int .i64 x265011_1, .int .i64 x265012_1, .int .i64 x265013_1, .int .i64 x265014_1, .int .i64 x265015_1]) ?_ 6 _ rfl; (with_reducible repeat (first | refine blk_drewN ?_ _ | refine blk_drew ?_ | refine blk_alloc ?_ _)); refine blk_put (cs := #[.int .i64 0, .int .i64 0, .int .i64 0, .int .i64 0, .int .i64 0, .int .i64 x265005_1, .int .i64 x265006_1, .int .i64 x265007_1, .int .i64 x265008_1, .int .i64 x265009_1, .int .i64 x265010_1, .int .i64 x265011_1, .int .i64 x265012_1, .int .i64 x265013_1, .int .i64 x265014_1, .int .i64 x265015_1]) ?_ 5 _ rfl; (with_reducible repeat (first | refine blk_drewN ?_ _ | refine blk_drew ?_ | refine blk_alloc ?_ _)); refine blk_put (cs := #[.int .i64 0, .int .i64 0, .int .i64 0, .int .i64 0, .int .i64 x265004_1, .int .i64 x265005_1, .int .i64 x265006_1, .int .i64 x265007_1, .int .i64 x265008_1, .int .i64 x265009_1, .int .i64 x265010_1, .int .i64 x265011_1, .int .i64 x265012_1, .int .i64 x265013_1, .int .i64 x265014_1, .int .i64 x265015_1]) ?_ 4 _ rfl; (with_reducible repeat (first | refine blk_drewN ?_ _ | refine blk_drew ?_ | refine blk_alloc ?_ _)); refine blk_put (cs := #[.int .i64 0, .int .i64 0, .int .i64 0, .int .i64 x265003_1, .int .i64 x265004_1, .int .i64 x265005_1, .int .i64 x265006_1, .int .i64 x265007_1, .int .i64 x265008_1, .int .i64 x265009_1, .int .i64 x265010_1, .int .i64 x265011_1, .int .i64 x265012_1, .int .i64 x265013_1, .int .i64 x265014_1, .int .i64 x265015_1]) ?_ 3 _ rfl; (with_reducible repeat (first | refine blk_drewN ?_ _ | refine blk_drew ?_ | refine blk_alloc ?_ _)); refine blk_put (cs := #[.int .i64 0, .int .i64 0, .int .i64 x265002_1, .int .i64 x265003_1, .int .i64 x265004_1, .int .i64 x265005_1, .int .i64 x265006_1, .int .i64 x265007_1, .int .i64 x265008_1, .int .i64 x265009_1, .int .i64 x265010_1, .int .i64 x265011_1, .int .i64 x265012_1, .int .i64 x265013_1, .int .i64 x265014_1, .int .i64 x265015_1]) ?_ 2 _ rfl; (with_reducible repeat (first | refine blk_drewN ?_ _ | refine blk_drew ?_ | refine blk_alloc ?_ _)); refine blk_put (cs := #[.int .i64 0, .int .i64 x265001_1, .int .i64 x265002_1, .int .i64 x265003_1, .int .i64 x265004_1, .int .i64 x265005_1, .int .i64 x265006_1, .int .i64 x265007_1, .int .i64 x265008_1, .int .i64 x265009_1, .int .i64 x265010_1, .int .i64 x265011_1, .int .i64 x265012_1, .int .i64 x265013_1, .int .i64 x265014_1, .int .i64 x265015_1]) ?_ 1 _ rfl; (with_reducible repeat (first | refine blk_drewN ?_ _ | refine blk_drew ?_ | refine blk_alloc ?_ _)); refine blk_put (cs := #[.int .i64 x265000_1, .int .i64 x265001_1, .int .i64 x265002_1, .int .i64 x265003_1, .int .i64 x265004_1, .int .i64 x265005_1, .int .i64 x265006_1, .int .i64 x265007_1, .int .i64 x265008_1, .int .i64 x265009_1, .int .i64 x265010_1, .int .i64 x265011_1, .int .i64 x265012_1, .int .i64 x265013_1, .int .i64 x265014_1, .int .i64 x265015_1]) ?_ 0 _ rfl; (with_reducible repeat (first | refine blk_drewN ?_ _ | refine blk_drew ?_ | refine blk_alloc ?_ _)); exact BK264.out) Try.underlying23 rfl (by kernel_rfl)) rfl ?_
                exact ⟨by first | rfl | (simp [errW_none, errW_some] <;> rfl) | (simp [*, errW_none, errW_some] <;> rfl), by repeat (first | (with_reducible first | exact HB.out | apply below_alloc | apply pw_below_drewN | apply below_drew1 | refine below_set ?_ GE264.out) | exact HB.out)⟩
              · rw [if_neg c14] at H
                have c14b0 : decide (16777216 < (rd y265 x11_1)) = false := decide_eq_false c14
                clear c14
                have H' := Aside0.mk H
                clear H
                obtain ⟨Ao17, co17, eo17⟩ := Kd.R_slice HO_10.out
                subst eo17
                have p268 : 0 ≤ (x11_1 : Int) := of_decide_eq_true (by first | (with_reducible assumption) | assumption)
                have q268 : x11_1 < (y265.length : Int) := of_decide_eq_true (by first | (with_reducible assumption) | assumption)
                obtain ⟨ad268, e268, hx268_0⟩ := Kd.at_int (Kd.R_reads' HO_10.out).2.2 x11_1 p268 q268
                cases e268
                replace p268 := eq_true p268
                replace q268 := eq_true q268
                have p269 : 0 ≤ (x11_1 : Int) := of_decide_eq_true (by first | (with_reducible assumption) | assumption)
                have q269 : x11_1 < (y265.length : Int) := of_decide_eq_true (by first | (with_reducible assumption) | assumption)
                obtain ⟨ad269, e269, hx269_0⟩ := Kd.at_int (Kd.R_reads' HO_10.out).2.2 x11_1 p269 q269
                obtain rfl : ad268 = ad269 := (by injection e269)
                replace p269 := eq_true p269
                replace q269 := eq_true q269
                go_wp2
                go_roundg k1
                case measure => have := HK1.out; omega
                case rel => exact ⟨(wrap64 (x11_1 + 1)), (x265000_1), (x265001_1), (x265002_1), (x265003_1), (x265004_1), (x265005_1), (x265006_1), (x265007_1), (x265008_1), (x265009_1), (x265010_1), (x265011_1), (x265012_1), (x265013_1), (x265014_1), (x265015_1), (by first | rfl | (simp; done) | (simp [*]; done)), H', ⟨by have := HK1.out; omega⟩, ⟨by (with_reducible repeat (first | apply Kd.R_alloc | apply Kd.R_drewN | apply Kd.R_drew)); exact HO_10.out⟩, ⟨by (with_reducible repeat (first | refine blk_drewN ?_ _ | refine blk_drew ?_ | refine blk_alloc ?_ _)); exact BK264.out⟩, ⟨by repeat (first | (with_reducible first | exact HB.out | apply below_alloc | apply pw_below_drewN | apply below_drew1 | refine below_set ?_ GE264.out) | exact HB.out)⟩⟩
          · rw [if_neg c10] at H
            exact absurd H (by simp)
        · rw [if_neg c9] at H
          exact absurd H (by simp)
      · rw [if_neg c8] at H
        have c8b0 : decide (x11_1 < 3) = false := decide_eq_false c8
        clear c8
        have HC18 := Aside0.mk H
        clear H
        go_upto_region 7 with (fail)
        go_cut [41] (fun v41 wc => ∃ (kq : Nat) (x41_17 : Bool), v41 = .bool x41_17 ∧ Aside0 (frustumref04_Perspective.j1 kq a0 a1 a2 a3 x41_17 = some (r1, r2, r3, r4, r5, r6, r7, r8, r9, r10, r11, r12, r13, r14, r15, r16, r17)) ∧ Aside0 (kq ≤ k1) ∧ Aside0 (wc.heap[gb264]? = some (.cells #[.int .i64 x265000_1, .int .i64 x265001_1, .int .i64 x265002_1, .int .i64 x265003_1, .int .i64 x265004_1, .int .i64 x265005_1, .int .i64 x265006_1, .int .i64 x265007_1, .int .i64 x265008_1, .int .i64 x265009_1, .int .i64 x265010_1, .int .i64 x265011_1, .int .i64 x265012_1, .int .i64 x265013_1, .int .i64 x265014_1, .int .i64 x265015_1] 23 (0, 0))) ∧ Aside0 (Below w.heap.size w wc))
        case first =>
          have H := HC18.out
          clear HC18
          by_cases c19 : a3 < (wrap64 (a2 + 256))
          · rw [if_pos c19] at H
            have c19b0 : decide (a3 < (wrap64 (a2 + 256))) = true := decide_eq_true c19
            clear c19
            (first | rw [c19b0] | (simp only [i64_w, i32_w]; rw [c19b0]) | skip)
            have H' := Aside0.mk H
            clear H
            go_wp2
            go_meet
            case rel => exact ⟨_, (true), (by first | rfl | (simp; done) | (simp [*]; done)), H', ⟨by have := HK1.out; first | omega | exact Nat.le_refl _⟩, ⟨by (with_reducible repeat (first | refine blk_drewN ?_ _ | refine blk_drew ?_ | refine blk_alloc ?_ _)); exact BK264.out⟩, ⟨by repeat (first | (with_reducible first | exact HB.out | apply below_alloc | apply pw_below_drewN | apply below_drew1 | refine below_set ?_ GE264.out) | exact HB.out)⟩⟩
          · rw [if_neg c19] at H
            have c19b0 : decide (a3 < (wrap64 (a2 + 256))) = false := decide_eq_false c19
            clear c19
            (first | rw [c19b0] | (simp only [i64_w, i32_w]; rw [c19b0]) | skip)
            have H' := Aside0.mk H
            clear H
            go_wp2
            go_meet
            case rel => exact ⟨_, (decide (a3 > 268435456)), (by first | rfl | (simp; done) | (simp [*]; done)), H', ⟨by have := HK1.out; first | omega | exact Nat.le_refl _⟩, ⟨by (with_reducible repeat (first | refine blk_drewN ?_ _ | refine blk_drew ?_ | refine blk_alloc ?_ _)); exact BK264.out⟩, ⟨by repeat (first | (with_reducible first | exact HB.out | apply below_alloc | apply pw_below_drewN | apply below_drew1 | refine below_set ?_ GE264.out) | exact HB.out)⟩⟩
        case rest =>
          clear HC18
          try clear c1
          try clear p2
          try clear q2
          try clear hx2
          try clear c3
          try clear p6
          try clear c8
          try clear c8b0
          try clear c9
          try clear c9b0
          try clear c10
          try clear c10b0
          try clear c11
          try clear c11b0
          try clear c14
          try clear c14b0
          try clear c19
          try clear c19b0
          try clear hcz13_0
          try clear hcz13_1
          try clear hcz13_10
          try clear hcz13_11
          try clear hcz13_12
          try clear hcz13_13
          try clear hcz13_14
          try clear hcz13_15
          try clear hcz13_2
          try clear hcz13_3
          try clear hcz13_4
          try clear hcz13_5
          try clear hcz13_6
          try clear hcz13_7
          try clear hcz13_8
          try clear hcz13_9
          try clear hcz16_0
          try clear hcz16_1
          try clear hcz16_10
          try clear hcz16_11
          try clear hcz16_12
          try clear hcz16_13
          try clear hcz16_14
          try clear hcz16_15
          try clear hcz16_2
          try clear hcz16_3
          try clear hcz16_4
          try clear hcz16_5
          try clear hcz16_6
          try clear hcz16_7
          try clear hcz16_8
          try clear hcz16_9
          try clear hfz13_0
          try clear hfz13_1
          try clear hfz13_10
          try clear hfz13_11
          try clear hfz13_12
          try clear hfz13_13
          try clear hfz13_14
          try clear hfz13_15
          try clear hfz13_2
          try clear hfz13_3
          try clear hfz13_4
          try clear hfz13_5
          try clear hfz13_6
          try clear hfz13_7
          try clear hfz13_8
          try clear hfz13_9
          try clear hfz16_0
          try clear hfz16_1
          try clear hfz16_10
          try clear hfz16_11
          try clear hfz16_12
          try clear hfz16_13
          try clear hfz16_14
          try clear hfz16_15
          try clear hfz16_2
          try clear hfz16_3
          try clear hfz16_4
          try clear hfz16_5
          try clear hfz16_6
          try clear hfz16_7
          try clear hfz16_8
          try clear hfz16_9
          try clear hx268_0
          try clear hx269_0
          try clear p2
          try clear p268
          try clear p269
          try clear q268
          try clear q269
          obtain ⟨kq, x41_17, rfl, HA, HJ17, BK264, HB⟩ := hcut
          cases kq with
          | zero => exact absurd HA.out (by simp [frustumref04_Perspective.j1])
          | succ kj17 =>
            have H := HA.out
            clear HA
            simp only [frustumref04_Perspective.j1] at H
            by_cases c20 : x41_17 = true
            · subst c20
              have H1 : (some (0, 0, 0, 0, 0, 0, 0, 0, 0, 0, 0, 0, 0, 0, 0, 0, 2)) = some (r1, r2, r3, r4, r5, r6, r7, r8, r9, r10, r11, r12, r13, r14, r15, r16, r17) := by rw [if_pos rfl] at H; exact H
              clear H
              have H := H1
              clear H1
              simp only [Option.some.injEq, Prod.mk.injEq] at H
              obtain ⟨rfl, rfl, rfl, rfl, rfl, rfl, rfl, rfl, rfl, rfl, rfl, rfl, rfl, rfl, rfl, rfl, rfl⟩ := H
              have hcz21_0 : wc.cell? ⟨gb264, 0, none⟩ = some (.int .i64 x265000_1) := (blk_cell BK264.out 0).trans rfl
              have hcz21_1 : wc.cell? ⟨gb264, 1, none⟩ = some (.int .i64 x265001_1) := (blk_cell BK264.out 1).trans rfl
              have hcz21_2 : wc.cell? ⟨gb264, 2, none⟩ = some (.int .i64 x265002_1) := (blk_cell BK264.out 2).trans rfl
              have hcz21_3 : wc.cell? ⟨gb264, 3, none⟩ = some (.int .i64 x265003_1) := (blk_cell BK264.out 3).trans rfl
              have hcz21_4 : wc.cell? ⟨gb264, 4, none⟩ = some (.int .i64 x265004_1) := (blk_cell BK264.out 4).trans rfl
              have hcz21_5 : wc.cell? ⟨gb264, 5, none⟩ = some (.int .i64 x265005_1) := (blk_cell BK264.out 5).trans rfl
              have hcz21_6 : wc.cell? ⟨gb264, 6, none⟩ = some (.int .i64 x265006_1) := (blk_cell BK264.out 6).trans rfl
              have hcz21_7 : wc.cell? ⟨gb264, 7, none⟩ = some (.int .i64 x265007_1) := (blk_cell BK264.out 7).trans rfl
              have hcz21_8 : wc.cell? ⟨gb264, 8, none⟩ = some (.int .i64 x265008_1) := (blk_cell BK264.out 8).trans rfl
              have hcz21_9 : wc.cell? ⟨gb264, 9, none⟩ = some (.int .i64 x265009_1) := (blk_cell BK264.out 9).trans rfl
              have hcz21_10 : wc.cell? ⟨gb264, 10, none⟩ = some (.int .i64 x265010_1) := (blk_cell BK264.out 10).trans rfl
              have hcz21_11 : wc.cell? ⟨gb264, 11, none⟩ = some (.int .i64 x265011_1) := (blk_cell BK264.out 11).trans rfl
              have hcz21_12 : wc.cell? ⟨gb264, 12, none⟩ = some (.int .i64 x265012_1) := (blk_cell BK264.out 12).trans rfl
              have hcz21_13 : wc.cell? ⟨gb264, 13, none⟩ = some (.int .i64 x265013_1) := (blk_cell BK264.out 13).trans rfl
              have hcz21_14 : wc.cell? ⟨gb264, 14, none⟩ = some (.int .i64 x265014_1) := (blk_cell BK264.out 14).trans rfl
              have hcz21_15 : wc.cell? ⟨gb264, 15, none⟩ = some (.int .i64 x265015_1) := (blk_cell BK264.out 15).trans rfl
              have hfz21_0 := blk_frozen BK264.out 0
              have hfz21_1 := blk_frozen BK264.out 1
              have hfz21_2 := blk_frozen BK264.out 2
              have hfz21_3 := blk_frozen BK264.out 3
              have hfz21_4 := blk_frozen BK264.out 4
              have hfz21_5 := blk_frozen BK264.out 5
              have hfz21_6 := blk_frozen BK264.out 6
              have hfz21_7 := blk_frozen BK264.out 7
              have hfz21_8 := blk_frozen BK264.out 8
              have hfz21_9 := blk_frozen BK264.out 9
              have hfz21_10 := blk_frozen BK264.out 10
              have hfz21_11 := blk_frozen BK264.out 11
              have hfz21_12 := blk_frozen BK264.out 12
              have hfz21_13 := blk_frozen BK264.out 13
              have hfz21_14 := blk_frozen BK264.out 14
              have hfz21_15 := blk_frozen BK264.out 15
              go_wp2
              refine bodyPost_ret (results_ct rfl _ _ gb264 23 #[.int .i64 0, .int .i64 0, .int .i64 0, .int .i64 0, .int .i64 0, .int .i64 0, .int .i64 0, .int .i64 0, .int .i64 0, .int .i64 0, .int .i64 0, .int .i64 0, .int .i64 0, .int .i64 0, .int .i64 0, .int .i64 0] (0, 0) _ rfl (by (with_reducible repeat (first | refine blk_drewN ?_ _ | refine blk_drew ?_ | refine blk_alloc ?_ _)); refine blk_put (cs := #[.int .i64 0, .int .i64 0, .int .i64 0, .int .i64 0, .int .i64 0, .int .i64 0, .int .i64 0, .int .i64 0, .int .i64 0, .int .i64 0, .int .i64 0, .int .i64 0, .int .i64 0, .int .i64 0, .int .i64 0, .int .i64 x265015_1]) ?_ 15 _ rfl; (with_reducible repeat (first | refine blk_drewN ?_ _ | refine blk_drew ?_ | refine blk_alloc ?_ _)); refine blk_put (cs := #[.int .i64 0, .int .i64 0, .int .i64 0, .int .i64 0, .int .i64 0, .int .i64 0, .int .i64 0, .int .i64 0, .int .i64 0, .int .i64 0, .int .i64 0, .int .i64 0, .int .i64 0, .int .i64 0, .int .i64 x265014_1, .int .i64 x265015_1]) ?_ 14 _ rfl; (with_reducible repeat (first | refine blk_drewN ?_ _ | refine blk_drew ?_ | refine blk_alloc ?_ _)); refine blk_put (cs := #[.int .i64 0, .int .i64 0, .int .i64 0, .int .i64 0, .int .i64 0, .int .i64 0, .int .i64 0, .int .i64 0, .int .i64 0, .int .i64 0, .int .i64 0, .int .i64 0, .int .i64 0, .int .i64 x265013_1, .int .i64 x265014_1, .int .i64 x265015_1]) ?_ 13 _ rfl; (with_reducible repeat (first | refine blk_drewN ?_ _ | refine blk_drew ?_ | refine blk_alloc ?_ _)); refine blk_put (cs := #[.int .i64 0, .int .i64 0, .int .i64 0, .int .i64 0, .int .i64 0, .int .i64 0, .int .i64 0, .int .i64 0, .int .i64 0, .int .i64 0, .int .i64 0, .int .i64 0, .int .i64 x265012_1, .int .i64 x265013_1, .int .i64 x265014_1, .int .i64 x265015_1]) ?_ 12 _ rfl; (with_reducible repeat (first | refine blk_drewN ?_ _ | refine blk_drew ?_ | refine blk_alloc ?_ _)); refine blk_put (cs := #[.int .i64 0, .int .i64 0, .int .i64 0, .int .i64 0, .int .i64 0, .int .i64 0, .int .i64 0, .int .i64 0, .int .i64 0, .int .i64 0, .int .i64 0, .int .i64 x265011_1, .int .i64 x265012_1, .int .i64 x265013_1, .int .i64 x265014_1, .int .i64 x265015_1]) ?_ 11 _ rfl; (with_reducible repeat (first | refine blk_drewN ?_ _ | refine blk_drew ?_ | refine blk_alloc ?_ _)); refine blk_put (cs := #[.int .i64 0, .int .i64 0, .int .i64 0, .int .i64 0, .int .i64 0, .int .i64 0, .int .i64 0, .int .i64 0, .int .i64 0, .int .i64 0, .int .i64 x265010_1, .int .i64 x265011_1, .int .i64 x265012_1, .int .i64 x265013_1, .int .i64 x265014_1, .int .i64 x265015_1]) ?_ 10 _ rfl; (with_reducible repeat (first | refine blk_drewN ?_ _ | refine blk_drew ?_ | refine blk_alloc ?_ _)); refine blk_put (cs := #[.int .i64 0, .int .i64 0, .int .i64 0, .int .i64 0, .int .i64 0, .int .i64 0, .int .i64 0, .int .i64 0, .int .i64 0, .int .i64 x265009_1, .int .i64 x265010_1, .int .i64 x265011_1, .int .i64 x265012_1, .int .i64 x265013_1, .int .i64 x265014_1, .int .i64 x265015_1]) ?_ 9 _ rfl; (with_reducible repeat (first | refine blk_drewN ?_ _ | refine blk_drew ?_ | refine blk_alloc ?_ _)); refine blk_put (cs := #[.int .i64 0, .int .i64 0, .int .i64 0, .int .i64 0, .int .i64 0, .int .i64 0, .int .i64 0, .int .i64 0, .int .i64 x265008_1, .int .i64 x265009_1, .int .i64 x265010_1, .int .i64 x265011_1, .int .i64 x265012_1, .int .i64 x265013_1, .int .i64 x265014_1, .int .i64 x265015_1]) ?_ 8 _ rfl; (with_reducible repeat (first | refine blk_drewN ?_ _ | refine blk_drew ?_ | refine blk_alloc ?_ _)); refine blk_put (cs := #[.int .i64 0, .int .i64 0, .int .i64 0, .int .i64 0, .int .i64 0, .int .i64 0, .int .i64 0, .int .i64 x265007_1, .int .i64 x265008_1, .int .i64 x265009_1, .int .i64 x265010_1, .int .i64 x265011_1, .int .i64 x265012_1, .int .i64 x265013_1, .int .i64 x265014_1, .int .i64 x265015_1]) ?_ 7 _ rfl; (with_reducible repeat (first | refine blk_drewN ?_ _ | refine blk_drew ?_ | refine blk_alloc ?_ _)); refine blk_put (cs := #[.int .i64 0, .int .i64 0, .int .i64 0, .int .i64 0, .int .i64 0, .int .i64 0, .int .i64 x265006_1, .int .i64 x265007_1, .int .i64 x265008_1, .int .i64 x265009_1, .int .i64 x265010_1, .int .i64 x265011_1, .int .i64 x265012_1, .int .i64 x265013_1, .int .i64 x265014_1, .int .i64 x265015_1]) ?_ 6 _ rfl; (with_reducible repeat (first | refine blk_drewN ?_ _ | refine blk_drew ?_ | refine blk_alloc ?_ _)); refine blk_put (cs := #[.int .i64 0, .int .i64 0, .int .i64 0, .int .i64 0, .int .i64 0, .int .i64 x265005_1, .int .i64 x265006_1, .int .i64 x265007_1, .int .i64 x265008_1, .int .i64 x265009_1, .int .i64 x265010_1, .int .i64 x265011_1, .int .i64 x265012_1, .int .i64 x265013_1, .int .i64 x265014_1, .int .i64 x265015_1]) ?_ 5 _ rfl; (with_reducible repeat (first | refine blk_drewN ?_ _ | refine blk_drew ?_ | refine blk_alloc ?_ _)); refine blk_put (cs := #[.int .i64 0, .int .i64 0, .int .i64 0, .int .i64 0, .int .i64 x265004_1, .int .i64 x265005_1, .int .i64 x265006_1, .int .i64 x265007_1, .int .i64 x265008_1, .int .i64 x265009_1, .int .i64 x265010_1, .int .i64 x265011_1, .int .i64 x265012_1, .int .i64 x265013_1, .int .i64 x265014_1, .int .i64 x265015_1]) ?_ 4 _ rfl; (with_reducible repeat (first | refine blk_drewN ?_ _ | refine blk_drew ?_ | refine blk_alloc ?_ _)); refine blk_put (cs := #[.int .i64 0, .int .i64 0, .int .i64 0, .int .i64 x265003_1, .int .i64 x265004_1, .int .i64 x265005_1, .int .i64 x265006_1, .int .i64 x265007_1, .int .i64 x265008_1, .int .i64 x265009_1, .int .i64 x265010_1, .int .i64 x265011_1, .int .i64 x265012_1, .int .i64 x265013_1, .int .i64 x265014_1, .int .i64 x265015_1]) ?_ 3 _ rfl; (with_reducible repeat (first | refine blk_drewN ?_ _ | refine blk_drew ?_ | refine blk_alloc ?_ _)); refine blk_put (cs := #[.int .i64 0, .int .i64 0, .int .i64 x265002_1, .int .i64 x265003_1, .int .i64 x265004_1, .int .i64 x265005_1, .int .i64 x265006_1, .int .i64 x265007_1, .int .i64 x265008_1, .int .i64 x265009_1, .int .i64 x265010_1, .int .i64 x265011_1, .int .i64 x265012_1, .int .i64 x265013_1, .int .i64 x265014_1, .int .i64 x265015_1]) ?_ 2 _ rfl; (with_reducible repeat (first | refine blk_drewN ?_ _ | refine blk_drew ?_ | refine blk_alloc ?_ _)); refine blk_put (cs := #[.int .i64 0, .int .i64 x265001_1, .int .i64 x265002_1, .int .i64 x265003_1, .int .i64 x265004_1, .int .i64 x265005_1, .int .i64 x265006_1, .int .i64 x265007_1, .int .i64 x265008_1, .int .i64 x265009_1, .int .i64 x265010_1, .int .i64 x265011_1, .int .i64 x265012_1, .int .i64 x265013_1, .int .i64 x265014_1, .int .i64 x265015_1]) ?_ 1 _ rfl; (with_reducible repeat (first | refine blk_drewN ?_ _ | refine blk_drew ?_ | refine blk_alloc ?_ _)); refine blk_put (cs := #[.int .i64 x265000_1, .int .i64 x265001_1, .int .i64 x265002_1, .int .i64 x265003_1, .int .i64 x265004_1, .int .i64 x265005_1, .int .i64 x265006_1, .int .i64 x265007_1, .int .i64 x265008_1, .int .i64 x265009_1, .int .i64 x265010_1, .int .i64 x265011_1, .int .i64 x265012_1, .int .i64 x265013_1, .int .i64 x265014_1, .int .i64 x265015_1]) ?_ 0 _ rfl; (with_reducible repeat (first | refine blk_drewN ?_ _ | refine blk_drew ?_ | refine blk_alloc ?_ _)); exact BK264.out) Try.underlying23 rfl (by kernel_rfl)) rfl ?_
              exact ⟨by first | rfl | (simp [errW_none, errW_some] <;> rfl) | (simp [*, errW_none, errW_some] <;> rfl), by repeat (first | (with_reducible first | exact HB.out | apply below_alloc | apply pw_below_drewN | apply below_drew1 | refine below_set ?_ GE264.out) | exact HB.out)⟩
            · replace c20 := Bool.eq_false_iff.mpr c20
              subst c20
              have H1 : ((frustumref01_Sub.f kj17 a3 a2).bind fun t270 => ((frustumref01_Div.f kj17 a0 a1).bind fun t271 => ((frustumref01_Div.f kj17 a3 t270).bind fun t272 => ((frustumref01_Mul.f kj17 a3 a2).bind fun t273 => ((frustumref01_Div.f kj17 t273 t270).bind fun t274 => (some (t271, 0, 0, 0, 0, a0, 0, 0, 0, 0, t272, wrap64 (-t274), 0, 0, 65536, 0, 0))))))) = some (r1, r2, r3, r4, r5, r6, r7, r8, r9, r10, r11, r12, r13, r14, r15, r16, r17) := by rw [if_neg (show ¬ (false = true) by decide)] at H; exact H
              clear H
              have H := H1
              clear H1
              replace H := Option.bind_eq_some_iff.mp H
              obtain ⟨t270, A220, H⟩ := H
              replace H : ((frustumref01_Div.f kj17 a0 a1).bind fun t271 => ((frustumref01_Div.f kj17 a3 t270).bind fun t272 => ((frustumref01_Mul.f kj17 a3 a2).bind fun t273 => ((frustumref01_Div.f kj17 t273 t270).bind fun t274 => (some (t271, 0, 0, 0, 0, a0, 0, 0, 0, 0, t272, wrap64 (-t274), 0, 0, 65536, 0, 0)))))) = some (r1, r2, r3, r4, r5, r6, r7, r8, r9, r10, r11, r12, r13, r14, r15, r16, r17) := H
              have A22 := Aside0.mk A220
              clear A220
              replace H := Option.bind_eq_some_iff.mp H
              obtain ⟨t271, A230, H⟩ := H
              replace H : ((frustumref01_Div.f kj17 a3 t270).bind fun t272 => ((frustumref01_Mul.f kj17 a3 a2).bind fun t273 => ((frustumref01_Div.f kj17 t273 t270).bind fun t274 => (some (t271, 0, 0, 0, 0, a0, 0, 0, 0, 0, t272, wrap64 (-t274), 0, 0, 65536, 0, 0))))) = some (r1, r2, r3, r4, r5, r6, r7, r8, r9, r10, r11, r12, r13, r14, r15, r16, r17) := H
              have A23 := Aside0.mk A230
              clear A230
              replace H := Option.bind_eq_some_iff.mp H
              obtain ⟨t272, A240, H⟩ := H
              replace H : ((frustumref01_Mul.f kj17 a3 a2).bind fun t273 => ((frustumref01_Div.f kj17 t273 t270).bind fun t274 => (some (t271, 0, 0, 0, 0, a0, 0, 0, 0, 0, t272, wrap64 (-t274), 0, 0, 65536, 0, 0)))) = some (r1, r2, r3, r4, r5, r6, r7, r8, r9, r10, r11, r12, r13, r14, r15, r16, r17) := H
              have A24 := Aside0.mk A240
              clear A240
              replace H := Option.bind_eq_some_iff.mp H
              obtain ⟨t273, A250, H⟩ := H
              replace H : ((frustumref01_Div.f kj17 t273 t270).bind fun t274 => (some (t271, 0, 0, 0, 0, a0, 0, 0, 0, 0, t272, wrap64 (-t274), 0, 0, 65536, 0, 0))) = some (r1, r2, r3, r4, r5, r6, r7, r8, r9, r10, r11, r12, r13, r14, r15, r16, r17) := H
              have A25 := Aside0.mk A250
              clear A250
              replace H := Option.bind_eq_some_iff.mp H
              obtain ⟨t274, A260, H⟩ := H
              replace H : (some (t271, 0, 0, 0, 0, a0, 0, 0, 0, 0, t272, wrap64 (-t274), 0, 0, 65536, 0, 0)) = some (r1, r2, r3, r4, r5, r6, r7, r8, r9, r10, r11, r12, r13, r14, r15, r16, r17) := H
              have A26 := Aside0.mk A260
              clear A260
              simp only [Option.some.injEq, Prod.mk.injEq] at H
              obtain ⟨rfl, rfl, rfl, rfl, rfl, rfl, rfl, rfl, rfl, rfl, rfl, rfl, rfl, rfl, rfl, rfl, rfl⟩ := H
              go_wp2_with (first | ((with_reducible refine gate_callee (f := 46) rfl ?_); refine goesL_ (some 45) rfl rfl Try.func46 (by kernel_rfl) rfl #[.int .i64 a3, .int .i64 a2] rfl (by (try simp only [List.map_toArray, List.map_cons, List.map_nil]); first | done | rfl | (simp only [List.length_drop, List.length_take]; rfl)) ?_; (with_reducible refine (frustumref01_Sub.calls kj17 a3 a2 t270 _ A22.out).mono ?_); rintro e w' ⟨rfl, ⟨nd, rfl⟩⟩; refine ⟨_, rfl, ?_⟩; (try (rw [drewN_self wc]; generalize hq_ : World.drewN wc _ = wc; have n0_ : Aside0 (wc.heap[gb264]? = some (.cells #[.int .i64 x265000_1, .int .i64 x265001_1, .int .i64 x265002_1, .int .i64 x265003_1, .int .i64 x265004_1, .int .i64 x265005_1, .int .i64 x265006_1, .int .i64 x265007_1, .int .i64 x265008_1, .int .i64 x265009_1, .int .i64 x265010_1, .int .i64 x265011_1, .int .i64 x265012_1, .int .i64 x265013_1, .int .i64 x265014_1, .int .i64 x265015_1] 23 (0, 0))) := ⟨by rw [← hq_]; exact (by (with_reducible repeat (first | refine blk_drewN ?_ _ | refine blk_drew ?_ | refine blk_alloc ?_ _)); exact BK264.out)⟩; have n1_ : Aside0 (Below w.heap.size w wc) := ⟨by rw [← hq_]; exact (by repeat (first | (with_reducible first | exact HB.out | apply below_alloc | apply pw_below_drewN | apply below_drew1 | refine below_set ?_ GE264.out) | exact HB.out))⟩; clear BK264 HB hq_; have BK264 := n0_; have HB := n1_; clear n0_ n1_))) | ((with_reducible refine gate_callee (f := 47) rfl ?_); refine goesL_ (some 48) rfl rfl Try.func47 (by kernel_rfl) rfl #[.int .i64 a0, .int .i64 a1] rfl (by (try simp only [List.map_toArray, List.map_cons, List.map_nil]); first | done | rfl | (simp only [List.length_drop, List.length_take]; rfl)) ?_; (with_reducible refine (frustumref01_Div.calls kj17 a0 a1 t271 _ A23.out).mono ?_); rintro e w' ⟨rfl, ⟨nd, rfl⟩⟩; refine ⟨_, rfl, ?_⟩; (try (rw [drewN_self wc]; generalize hq_ : World.drewN wc _ = wc; have n0_ : Aside0 (wc.heap[gb264]? = some (.cells #[.int .i64 x265000_1, .int .i64 x265001_1, .int .i64 x265002_1, .int .i64 x265003_1, .int .i64 x265004_1, .int .i64 x265005_1, .int .i64 x265006_1, .int .i64 x265007_1, .int .i64 x265008_1, .int .i64 x265009_1, .int .i64 x265010_1, .int .i64 x265011_1, .int .i64 x265012_1, .int .i64 x265013_1, .int .i64 x265014_1, .int .i64 x265015_1] 23 (0, 0))) := ⟨by rw [← hq_]; exact (by (with_reducible repeat (first | refine blk_drewN ?_ _ | refine blk_drew ?_ | refine blk_alloc ?_ _)); exact BK264.out)⟩; have n1_ : Aside0 (Below w.heap.size w wc) := ⟨by rw [← hq_]; exact (by repeat (first | (with_reducible first | exact HB.out | apply below_alloc | apply pw_below_drewN | apply below_drew1 | refine below_set ?_ GE264.out) | exact HB.out))⟩; clear BK264 HB hq_; have BK264 := n0_; have HB := n1_; clear n0_ n1_))) | ((with_reducible refine gate_callee (f := 47) rfl ?_); refine goesL_ (some 52) rfl rfl Try.func47 (by kernel_rfl) rfl #[.int .i64 a3, .int .i64 t270] rfl (by (try simp only [List.map_toArray, List.map_cons, List.map_nil]); first | done | rfl | (simp only [List.length_drop, List.length_take]; rfl)) ?_; (with_reducible refine (frustumref01_Div.calls kj17 a3 t270 t272 _ A24.out).mono ?_); rintro e w' ⟨rfl, ⟨nd, rfl⟩⟩; refine ⟨_, rfl, ?_⟩; (try (rw [drewN_self wc]; generalize hq_ : World.drewN wc _ = wc; have n0_ : Aside0 (wc.heap[gb264]? = some (.cells #[.int .i64 x265000_1, .int .i64 x265001_1, .int .i64 x265002_1, .int .i64 x265003_1, .int .i64 x265004_1, .int .i64 x265005_1, .int .i64 x265006_1, .int .i64 x265007_1, .int .i64 x265008_1, .int .i64 x265009_1, .int .i64 x265010_1, .int .i64 x265011_1, .int .i64 x265012_1, .int .i64 x265013_1, .int .i64 x265014_1, .int .i64 x265015_1] 23 (0, 0))) := ⟨by rw [← hq_]; exact (by (with_reducible repeat (first | refine blk_drewN ?_ _ | refine blk_drew ?_ | refine blk_alloc ?_ _)); exact BK264.out)⟩; have n1_ : Aside0 (Below w.heap.size w wc) := ⟨by rw [← hq_]; exact (by repeat (first | (with_reducible first | exact HB.out | apply below_alloc | apply pw_below_drewN | apply below_drew1 | refine below_set ?_ GE264.out) | exact HB.out))⟩; clear BK264 HB hq_; have BK264 := n0_; have HB := n1_; clear n0_ n1_))) | ((with_reducible refine gate_callee (f := 49) rfl ?_); refine goesL_ (some 55) rfl rfl Try.func49 (by kernel_rfl) rfl #[.int .i64 a3, .int .i64 a2] rfl (by (try simp only [List.map_toArray, List.map_cons, List.map_nil]); first | done | rfl | (simp only [List.length_drop, List.length_take]; rfl)) ?_; (with_reducible refine (frustumref01_Mul.calls kj17 a3 a2 t273 _ A25.out).mono ?_); rintro e w' ⟨rfl, ⟨nd, rfl⟩⟩; refine ⟨_, rfl, ?_⟩; (try (rw [drewN_self wc]; generalize hq_ : World.drewN wc _ = wc; have n0_ : Aside0 (wc.heap[gb264]? = some (.cells #[.int .i64 x265000_1, .int .i64 x265001_1, .int .i64 x265002_1, .int .i64 x265003_1, .int .i64 x265004_1, .int .i64 x265005_1, .int .i64 x265006_1, .int .i64 x265007_1, .int .i64 x265008_1, .int .i64 x265009_1, .int .i64 x265010_1, .int .i64 x265011_1, .int .i64 x265012_1, .int .i64 x265013_1, .int .i64 x265014_1, .int .i64 x265015_1] 23 (0, 0))) := ⟨by rw [← hq_]; exact (by (with_reducible repeat (first | refine blk_drewN ?_ _ | refine blk_drew ?_ | refine blk_alloc ?_ _)); exact BK264.out)⟩; have n1_ : Aside0 (Below w.heap.size w wc) := ⟨by rw [← hq_]; exact (by repeat (first | (with_reducible first | exact HB.out | apply below_alloc | apply pw_below_drewN | apply below_drew1 | refine below_set ?_ GE264.out) | exact HB.out))⟩; clear BK264 HB hq_; have BK264 := n0_; have HB := n1_; clear n0_ n1_))) | ((with_reducible refine gate_callee (f := 47) rfl ?_); refine goesL_ (some 57) rfl rfl Try.func47 (by kernel_rfl) rfl #[.int .i64 t273, .int .i64 t270] rfl (by (try simp only [List.map_toArray, List.map_cons, List.map_nil]); first | done | rfl | (simp only [List.length_drop, List.length_take]; rfl)) ?_; (with_reducible refine (frustumref01_Div.calls kj17 t273 t270 t274 _ A26.out).mono ?_); rintro e w' ⟨rfl, ⟨nd, rfl⟩⟩; refine ⟨_, rfl, ?_⟩; (try (rw [drewN_self wc]; generalize hq_ : World.drewN wc _ = wc; have n0_ : Aside0 (wc.heap[gb264]? = some (.cells #[.int .i64 x265000_1, .int .i64 x265001_1, .int .i64 x265002_1, .int .i64 x265003_1, .int .i64 x265004_1, .int .i64 x265005_1, .int .i64 x265006_1, .int .i64 x265007_1, .int .i64 x265008_1, .int .i64 x265009_1, .int .i64 x265010_1, .int .i64 x265011_1, .int .i64 x265012_1, .int .i64 x265013_1, .int .i64 x265014_1, .int .i64 x265015_1] 23 (0, 0))) := ⟨by rw [← hq_]; exact (by (with_reducible repeat (first | refine blk_drewN ?_ _ | refine blk_drew ?_ | refine blk_alloc ?_ _)); exact BK264.out)⟩; have n1_ : Aside0 (Below w.heap.size w wc) := ⟨by rw [← hq_]; exact (by repeat (first | (with_reducible first | exact HB.out | apply below_alloc | apply pw_below_drewN | apply below_drew1 | refine below_set ?_ GE264.out) | exact HB.out))⟩; clear BK264 HB hq_; have BK264 := n0_; have HB := n1_; clear n0_ n1_)); have hcz27_0 : wc.cell? ⟨gb264, 0, none⟩ = some (.int .i64 x265000_1) := (blk_cell BK264.out 0).trans rfl; have hcz27_1 : wc.cell? ⟨gb264, 1, none⟩ = some (.int .i64 x265001_1) := (blk_cell BK264.out 1).trans rfl; have hcz27_2 : wc.cell? ⟨gb264, 2, none⟩ = some (.int .i64 x265002_1) := (blk_cell BK264.out 2).trans rfl; have hcz27_3 : wc.cell? ⟨gb264, 3, none⟩ = some (.int .i64 x265003_1) := (blk_cell BK264.out 3).trans rfl; have hcz27_4 : wc.cell? ⟨gb264, 4, none⟩ = some (.int .i64 x265004_1) := (blk_cell BK264.out 4).trans rfl; have hcz27_5 : wc.cell? ⟨gb264, 5, none⟩ = some (.int .i64 x265005_1) := (blk_cell BK264.out 5).trans rfl; have hcz27_6 : wc.cell? ⟨gb264, 6, none⟩ = some (.int .i64 x265006_1) := (blk_cell BK264.out 6).trans rfl; have hcz27_7 : wc.cell? ⟨gb264, 7, none⟩ = some (.int .i64 x265007_1) := (blk_cell BK264.out 7).trans rfl; have hcz27_8 : wc.cell? ⟨gb264, 8, none⟩ = some (.int .i64 x265008_1) := (blk_cell BK264.out 8).trans rfl; have hcz27_9 : wc.cell? ⟨gb264, 9, none⟩ = some (.int .i64 x265009_1) := (blk_cell BK264.out 9).trans rfl; have hcz27_10 : wc.cell? ⟨gb264, 10, none⟩ = some (.int .i64 x265010_1) := (blk_cell BK264.out 10).trans rfl; have hcz27_11 : wc.cell? ⟨gb264, 11, none⟩ = some (.int .i64 x265011_1) := (blk_cell BK264.out 11).trans rfl; have hcz27_12 : wc.cell? ⟨gb264, 12, none⟩ = some (.int .i64 x265012_1) := (blk_cell BK264.out 12).trans rfl; have hcz27_13 : wc.cell? ⟨gb264, 13, none⟩ = some (.int .i64 x265013_1) := (blk_cell BK264.out 13).trans rfl; have hcz27_14 : wc.cell? ⟨gb264, 14, none⟩ = some (.int .i64 x265014_1) := (blk_cell BK264.out 14).trans rfl; have hcz27_15 : wc.cell? ⟨gb264, 15, none⟩ = some (.int .i64 x265015_1) := (blk_cell BK264.out 15).trans rfl; have hfz27_0 := blk_frozen BK264.out 0; have hfz27_1 := blk_frozen BK264.out 1; have hfz27_2 := blk_frozen BK264.out 2; have hfz27_3 := blk_frozen BK264.out 3; have hfz27_4 := blk_frozen BK264.out 4; have hfz27_5 := blk_frozen BK264.out 5; have hfz27_6 := blk_frozen BK264.out 6; have hfz27_7 := blk_frozen BK264.out 7; have hfz27_8 := blk_frozen BK264.out 8; have hfz27_9 := blk_frozen BK264.out 9; have hfz27_10 := blk_frozen BK264.out 10; have hfz27_11 := blk_frozen BK264.out 11; have hfz27_12 := blk_frozen BK264.out 12; have hfz27_13 := blk_frozen BK264.out 13; have hfz27_14 := blk_frozen BK264.out 14; have hfz27_15 := blk_frozen BK264.out 15))
              refine bodyPost_ret (results_ct rfl _ _ gb264 23 #[.int .i64 t271, .int .i64 0, .int .i64 0, .int .i64 0, .int .i64 0, .int .i64 a0, .int .i64 0, .int .i64 0, .int .i64 0, .int .i64 0, .int .i64 t272, .int .i64 (wrap64 (-t274)), .int .i64 0, .int .i64 0, .int .i64 65536, .int .i64 0] (0, 0) _ rfl (by (with_reducible repeat (first | refine blk_drewN ?_ _ | refine blk_drew ?_ | refine blk_alloc ?_ _)); refine blk_put (cs := #[.int .i64 t271, .int .i64 0, .int .i64 0, .int .i64 0, .int .i64 0, .int .i64 a0, .int .i64 0, .int .i64 0, .int .i64 0, .int .i64 0, .int .i64 t272, .int .i64 (wrap64 (-t274)), .int .i64 0, .int .i64 0, .int .i64 65536, .int .i64 x265015_1]) ?_ 15 _ rfl; (with_reducible repeat (first | refine blk_drewN ?_ _ | refine blk_drew ?_ | refine blk_alloc ?_ _)); refine blk_put (cs := #[.int .i64 t271, .int .i64 0, .int .i64 0, .int .i64 0, .int .i64 0, .int .i64 a0, .int .i64 0, .int .i64 0, .int .i64 0, .int .i64 0, .int .i64 t272, .int .i64 (wrap64 (-t274)), .int .i64 0, .int .i64 0, .int .i64 x265014_1, .int .i64 x265015_1]) ?_ 14 _ rfl; (with_reducible repeat (first | refine blk_drewN ?_ _ | refine blk_drew ?_ | refine blk_alloc ?_ _)); refine blk_put (cs := #[.int .i64 t271, .int .i64 0, .int .i64 0, .int .i64 0, .int .i64 0, .int .i64 a0, .int .i64 0, .int .i64 0, .int .i64 0, .int .i64 0, .int .i64 t272, .int .i64 (wrap64 (-t274)), .int .i64 0, .int .i64 x265013_1, .int .i64 x265014_1, .int .i64 x265015_1]) ?_ 13 _ rfl; (with_reducible repeat (first | refine blk_drewN ?_ _ | refine blk_drew ?_ | refine blk_alloc ?_ _)); refine blk_put (cs := #[.int .i64 t271, .int .i64 0, .int .i64 0, .int .i64 0, .int .i64 0, .int .i64 a0, .int .i64 0, .int .i64 0, .int .i64 0, .int .i64 0, .int .i64 t272, .int .i64 (wrap64 (-t274)), .int .i64 x265012_1, .int .i64 x265013_1, .int .i64 x265014_1, .int .i64 x265015_1]) ?_ 12 _ rfl; (with_reducible repeat (first | refine blk_drewN ?_ _ | refine blk_drew ?_ | refine blk_alloc ?_ _)); refine blk_put (cs := #[.int .i64 t271, .int .i64 0, .int .i64 0, .int .i64 0, .int .i64 0, .int .i64 a0, .int .i64 0, .int .i64 0, .int .i64 0, .int .i64 0, .int .i64 t272, .int .i64 x265011_1, .int .i64 x265012_1, .int .i64 x265013_1, .int .i64 x265014_1, .int .i64 x265015_1]) ?_ 11 _ rfl; (with_reducible repeat (first | refine blk_drewN ?_ _ | refine blk_drew ?_ | refine blk_alloc ?_ _)); refine blk_put (cs := #[.int .i64 t271, .int .i64 0, .int .i64 0, .int .i64 0, .int .i64 0, .int .i64 a0, .int .i64 0, .int .i64 0, .int .i64 0, .int .i64 0, .int .i64 x265010_1, .int .i64 x265011_1, .int .i64 x265012_1, .int .i64 x265013_1, .int .i64 x265014_1, .int .i64 x265015_1]) ?_ 10 _ rfl; (with_reducible repeat (first | refine blk_drewN ?_ _ | refine blk_drew ?_ | refine blk_alloc ?_ _)); refine blk_put (cs := #[.int .i64 t271, .int .i64 0, .int .i64 0, .int .i64 0, .int .i64 0, .int .i64 a0, .int .i64 0, .int .i64 0, .int .i64 0, .int .i64 x265009_1, .int .i64 x265010_1, .int .i64 x265011_1, .int .i64 x265012_1, .int .i64 x265013_1, .int .i64 x265014_1, .int .i64 x265015_1]) ?_ 9 _ rfl; (with_reducible repeat (first | refine blk_drewN ?_ _ | refine blk_drew ?_ | refine blk_alloc ?_ _)); refine blk_put (cs := #[.int .i64 t271, .int .i64 0, .int .i64 0, .int .i64 0, .int .i64 0, .int .i64 a0, .int .i64 0, .int .i64 0, .int .i64 x265008_1, .int .i64 x265009_1, .int .i64 x265010_1, .int .i64 x265011_1, .int .i64 x265012_1, .int .i64 x265013_1, .int .i64 x265014_1, .int .i64 x265015_1]) ?_ 8 _ rfl; (with_reducible repeat (first | refine blk_drewN ?_ _ | refine blk_drew ?_ | refine blk_alloc ?_ _)); refine blk_put (cs := #[.int .i64 t271, .int .i64 0, .int .i64 0, .int .i64 0, .int .i64 0, .int .i64 a0, .int .i64 0, .int .i64 x265007_1, .int .i64 x265008_1, .int .i64 x265009_1, .int .i64 x265010_1, .int .i64 x265011_1, .int .i64 x265012_1, .int .i64 x265013_1, .int .i64 x265014_1, .int .i64 x265015_1]) ?_ 7 _ rfl; (with_reducible repeat (first | refine blk_drewN ?_ _ | refine blk_drew ?_ | refine blk_alloc ?_ _)); refine blk_put (cs := #[.int .i64 t271, .int .i64 0, .int .i64 0, .int .i64 0, .int .i64 0, .int .i64 a0, .int .i64 x265006_1, .int .i64 x265007_1, .int .i64 x265008_1, .int .i64 x265009_1, .int .i64 x265010_1, .int .i64 x265011_1, .int .i64 x265012_1, .int .i64 x265013_1, .int .i64 x265014_1, .int .i64 x265015_1]) ?_ 6 _ rfl; (with_reducible repeat (first | refine blk_drewN ?_ _ | refine blk_drew ?_ | refine blk_alloc ?_ _)); refine blk_put (cs := #[.int .i64 t271, .int .i64 0, .int .i64 0, .int .i64 0, .int .i64 0, .int .i64 x265005_1, .int .i64 x265006_1, .int .i64 x265007_1, .int .i64 x265008_1, .int .i64 x265009_1, .int .i64 x265010_1, .int .i64 x265011_1, .int .i64 x265012_1, .int .i64 x265013_1, .int .i64 x265014_1, .int .i64 x265015_1]) ?_ 5 _ rfl; (with_reducible repeat (first | refine blk_drewN ?_ _ | refine blk_drew ?_ | refine blk_alloc ?_ _)); refine blk_put (cs := #[.int .i64 t271, .int .i64 0, .int .i64 0, .int .i64 0, .int .i64 x265004_1, .int .i64 x265005_1, .int .i64 x265006_1, .int .i64 x265007_1, .int .i64 x265008_1, .int .i64 x265009_1, .int .i64 x265010_1, .int .i64 x265011_1, .int .i64 x265012_1, .int .i64 x265013_1, .int .i64 x265014_1, .int .i64 x265015_1]) ?_ 4 _ rfl; (with_reducible repeat (first | refine blk_drewN ?_ _ | refine blk_drew ?_ | refine blk_alloc ?_ _)); refine blk_put (cs := #[.int .i64 t271, .int .i64 0, .int .i64 0, .int .i64 x265003_1, .int .i64 x265004_1, .int .i64 x265005_1, .int .i64 x265006_1, .int .i64 x265007_1, .int .i64 x265008_1, .int .i64 x265009_1, .int .i64 x265010_1, .int .i64 x265011_1, .int .i64 x265012_1, .int .i64 x265013_1, .int .i64 x265014_1, .int .i64 x265015_1]) ?_ 3 _ rfl; (with_reducible repeat (first | refine blk_drewN ?_ _ | refine blk_drew ?_ | refine blk_alloc ?_ _)); refine blk_put (cs := #[.int .i64 t271, .int .i64 0, .int .i64 x265002_1, .int .i64 x265003_1, .int .i64 x265004_1, .int .i64 x265005_1, .int .i64 x265006_1, .int .i64 x265007_1, .int .i64 x265008_1, .int .i64 x265009_1, .int .i64 x265010_1, .int .i64 x265011_1, .int .i64 x265012_1, .int .i64 x265013_1, .int .i64 x265014_1, .int .i64 x265015_1]) ?_ 2 _ rfl; (with_reducible repeat (first | refine blk_drewN ?_ _ | refine blk_drew ?_ | refine blk_alloc ?_ _)); refine blk_put (cs := #[.int .i64 t271, .int .i64 x265001_1, .int .i64 x265002_1, .int .i64 x265003_1, .int .i64 x265004_1, .int .i64 x265005_1, .int .i64 x265006_1, .int .i64 x265007_1, .int .i64 x265008_1, .int .i64 x265009_1, .int .i64 x265010_1, .int .i64 x265011_1, .int .i64 x265012_1, .int .i64 x265013_1, .int .i64 x265014_1, .int .i64 x265015_1]) ?_ 1 _ rfl; (with_reducible repeat (first | refine blk_drewN ?_ _ | refine blk_drew ?_ | refine blk_alloc ?_ _)); refine blk_put (cs := #[.int .i64 x265000_1, .int .i64 x265001_1, .int .i64 x265002_1, .int .i64 x265003_1, .int .i64 x265004_1, .int .i64 x265005_1, .int .i64 x265006_1, .int .i64 x265007_1, .int .i64 x265008_1, .int .i64 x265009_1, .int .i64 x265010_1, .int .i64 x265011_1, .int .i64 x265012_1, .int .i64 x265013_1, .int .i64 x265014_1, .int .i64 x265015_1]) ?_ 0 _ rfl; (with_reducible repeat (first | refine blk_drewN ?_ _ | refine blk_drew ?_ | refine blk_alloc ?_ _)); exact BK264.out) Try.underlying23 rfl (by kernel_rfl)) rfl ?_
              exact ⟨by first | rfl | (simp [errW_none, errW_some] <;> rfl) | (simp [*, errW_none, errW_some] <;> rfl), by repeat (first | (with_reducible first | exact HB.out | apply below_alloc | apply pw_below_drewN | apply below_drew1 | refine below_set ?_ GE264.out) | exact HB.out)⟩

end Go.Proofs.Ytmofipnpnepfaaa.PMatrixProjections
