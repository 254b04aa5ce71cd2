/- Written by a program of this session for this claim: Lean functions that tell what Go functions of the program return, each with a proof of that over the program's text; no condition beyond those that each theorem states. -/
import Derived.Test.YtmofipnpnepfaaaPMatrixIdentityx0
import Derived.Test.YtmofipnpnepfaaaPMatrixIdentityx1
import Derived.Test.YtmofipnpnepfaaaPMatrixIdentityx3
import Derived.Test.YtmofipnpnepfaaaPMatrixIdentityx9
namespace Go.Proofs.Ytmofipnpnepfaaa.PMatrixIdentity
open Go.RowKit Go.Proofs.YtmofipnpnepfaaaW.PrintWords Go.Proofs.YtmofipnpnepfaaaW.PrintLast Go.Proofs.YtmofipnpnepfaaaW.PrintMore
attribute [local go_sem] max2_int min2_int max_two min_two max_three min_three max_four min_four   -- for this text's walks alone
set_option linter.unusedVariables false
set_option linter.unusedSimpArgs false

attribute [local go_sem high] eqA29
/-! ### frustumlaw04_example: function 16 -/
def frustumlaw04_example.f (k : Nat)  : Option (Bool) := (matrix_Translate.f 65536 0 0).bind fun bt187 => ((matrix_Apply.f k bt187.1 bt187.2.1 bt187.2.2.1 bt187.2.2.2.1 bt187.2.2.2.2.1 bt187.2.2.2.2.2.1 bt187.2.2.2.2.2.2.1 bt187.2.2.2.2.2.2.2.1 bt187.2.2.2.2.2.2.2.2.1 bt187.2.2.2.2.2.2.2.2.2.1 bt187.2.2.2.2.2.2.2.2.2.2.1 bt187.2.2.2.2.2.2.2.2.2.2.2.1 bt187.2.2.2.2.2.2.2.2.2.2.2.2.1 bt187.2.2.2.2.2.2.2.2.2.2.2.2.2.1 bt187.2.2.2.2.2.2.2.2.2.2.2.2.2.2.1 bt187.2.2.2.2.2.2.2.2.2.2.2.2.2.2.2 0 0 0 65536).bind fun bt203 => (some (bt203.1 == 65536 && (bt203.2.1 == 0 && (bt203.2.2.1 == 0 && (bt203.2.2.2 == 65536))))))
theorem frustumlaw04_example.mono : ∀ k, LeO (frustumlaw04_example.f k ) (frustumlaw04_example.f (k + 1) ) := by
  intro  k
  unfold frustumlaw04_example.f
  repeat' first
      | (with_reducible exact matrix_Apply.mono _ _ _ _ _ _ _ _ _ _ _ _ _ _ _ _ _ _ _ _ _)
      | (with_reducible exact LeO.refl _)
      | (with_reducible exact LeO.none _)
      | (with_reducible refine LeO.ite ?_ ?_)
      | (with_reducible refine LeO.bind ?_ (fun _ => ?_))
      | exact matrix_Apply.mono _ _ _ _ _ _ _ _ _ _ _ _ _ _ _ _ _ _ _ _ _
      | exact LeO.none _
      | refine LeO.ite ?_ ?_
      | refine LeO.bind ?_ (fun _ => ?_)
set_option maxHeartbeats 8000000 in
set_option maxRecDepth 100000 in
theorem frustumlaw04_example.calls (k : Nat)  (r : Bool) (w : World) (h : frustumlaw04_example.f k  = some r) :
    Calls Try.prog 16 #[] w fun e w' => e = .returned (.bool r) ∧ Below w.heap.size w w' := by
  have hu29 := Try.underlying29
  have HB := Aside0.mk (Below.refl w.heap.size w)
  have H : ((matrix_Translate.f 65536 0 0).bind fun bt187 => ((matrix_Apply.f k bt187.1 bt187.2.1 bt187.2.2.1 bt187.2.2.2.1 bt187.2.2.2.2.1 bt187.2.2.2.2.2.1 bt187.2.2.2.2.2.2.1 bt187.2.2.2.2.2.2.2.1 bt187.2.2.2.2.2.2.2.2.1 bt187.2.2.2.2.2.2.2.2.2.1 bt187.2.2.2.2.2.2.2.2.2.2.1 bt187.2.2.2.2.2.2.2.2.2.2.2.1 bt187.2.2.2.2.2.2.2.2.2.2.2.2.1 bt187.2.2.2.2.2.2.2.2.2.2.2.2.2.1 bt187.2.2.2.2.2.2.2.2.2.2.2.2.2.2.1 bt187.2.2.2.2.2.2.2.2.2.2.2.2.2.2.2 0 0 0 65536).bind fun bt203 => (some (bt203.1 == 65536 && (bt203.2.1 == 0 && (bt203.2.2.1 == 0 && (bt203.2.2.2 == 65536))))))) = some r := h
  clear h
  replace H := Option.bind_eq_some_iff.mp H
  obtain ⟨⟨t187, t188, t189, t190, t191, t192, t193, t194, t195, t196, t197, t198, t199, t200, t201, t202⟩, A10, H⟩ := H
  replace H : ((matrix_Apply.f k t187 t188 t189 t190 t191 t192 t193 t194 t195 t196 t197 t198 t199 t200 t201 t202 0 0 0 65536).bind fun bt203 => (some (bt203.1 == 65536 && (bt203.2.1 == 0 && (bt203.2.2.1 == 0 && (bt203.2.2.2 == 65536)))))) = some r := H
  have A1 := Aside0.mk A10
  clear A10
  replace H := Option.bind_eq_some_iff.mp H
  obtain ⟨⟨t203, t204, t205, t206⟩, A20, H⟩ := H
  replace H : (some (t203 == 65536 && (t204 == 0 && (t205 == 0 && (t206 == 65536))))) = some r := H
  have A2 := Aside0.mk A20
  clear A20
  obtain rfl := Option.some.inj H
  go_enter Try.func16, Try.ntmps16
  go_wp2_with (first | ((with_reducible refine gate_callee (f := 12) rfl ?_); refine goesL_ (some 1) rfl rfl Try.func12 (by kernel_rfl) rfl #[.int .i64 65536, .int .i64 0, .int .i64 0] rfl (by (try simp only [List.map_toArray, List.map_cons, List.map_nil]); first | done | rfl | (simp only [List.length_drop, List.length_take]; rfl)) ?_; (with_reducible refine (matrix_Translate.calls 65536 0 0 t187 t188 t189 t190 t191 t192 t193 t194 t195 t196 t197 t198 t199 t200 t201 t202 _ A1.out).mono ?_); rintro e w3 ⟨rfl, hb⟩; refine ⟨_, rfl, ?_⟩; have n0_ := Aside0.mk (below_step (by repeat (first | (with_reducible first | exact HB.out | apply below_alloc | apply pw_below_drewN | apply below_drew1) | exact HB.out)) hb); clear HB; have HB := n0_; clear n0_; (try clear hb); (try clear hb2); (try clear hk); (try clear hi)) | ((with_reducible refine gate_callee (f := 18) rfl ?_); refine goesL_ (some 3) rfl rfl Try.func18 (by kernel_rfl) rfl #[.agg #[.int .i64 t187, .int .i64 t188, .int .i64 t189, .int .i64 t190, .int .i64 t191, .int .i64 t192, .int .i64 t193, .int .i64 t194, .int .i64 t195, .int .i64 t196, .int .i64 t197, .int .i64 t198, .int .i64 t199, .int .i64 t200, .int .i64 t201, .int .i64 t202], .agg #[.int .i64 0, .int .i64 0, .int .i64 0, .int .i64 65536]] rfl (by (try simp only [List.map_toArray, List.map_cons, List.map_nil]); first | done | rfl | (simp only [List.length_drop, List.length_take]; rfl)) ?_; (with_reducible refine (matrix_Apply.calls k t187 t188 t189 t190 t191 t192 t193 t194 t195 t196 t197 t198 t199 t200 t201 t202 0 0 0 65536 t203 t204 t205 t206 _ A2.out).mono ?_); rintro e w4 ⟨rfl, hb⟩; refine ⟨_, rfl, ?_⟩; have n0_ := Aside0.mk (below_step (by repeat (first | (with_reducible first | exact HB.out | apply below_alloc | apply pw_below_drewN | apply below_drew1) | exact HB.out)) hb); clear HB; have HB := n0_; clear n0_; (try clear hb); (try clear hb2); (try clear hk); (try clear hi)))
  go_ret
  exact ⟨by first | rfl | (simp [errW_none, errW_some] <;> rfl) | (simp [*, errW_none, errW_some] <;> rfl), by repeat (first | (with_reducible first | exact HB.out | apply below_alloc | apply pw_below_drewN | apply below_drew1) | exact HB.out)⟩

/-! ### frustumlaw04_limited: function 30 -/
def frustumlaw04_limited.f (a0 : Int) : Option (Int) := some (mx (-536870911) (mn 536870911 a0))
set_option maxHeartbeats 8000000 in
set_option maxRecDepth 100000 in
theorem frustumlaw04_limited.calls (a0 : Int) (r : Int) (w : World) (h : frustumlaw04_limited.f a0 = some r) :
    Calls Try.prog 30 #[.int .i64 a0] w fun e w' => e = .returned (.int .i64 r) ∧ Below w.heap.size w w' := by
  have HB := Aside0.mk (Below.refl w.heap.size w)
  have H : (some (mx (-536870911) (mn 536870911 a0))) = some r := h
  clear h
  obtain ⟨ji2, hji2⟩ : ∃ j_ : Int, (mn 536870911 a0) = j_ := ⟨_, rfl⟩
  replace H : (some (mx (-536870911) (ji2))) = some r := by first | (rw [hji2] at H; exact H) | (simp only [hji2] at H ⊢; exact H)
  (try (have hji2h : ji2 ≤ 536870911 := by (rw [← hji2]; unfold mn; (repeat' split) <;> omega)))
  (try (have hji2g : ji2 ≤ 64 := by omega))
  have hji2_ : (if a0 < 536870911 then a0 else 536870911) = ji2 := hji2
  obtain ⟨ji3, hji3⟩ : ∃ j_ : Int, (mx (-536870911) (ji2)) = j_ := ⟨_, rfl⟩
  replace H : (some ji3) = some r := by first | (rw [hji3] at H; exact H) | (simp only [hji3] at H ⊢; exact H)
  have hji3_ : (if (-536870911) < (ji2) then (ji2) else (-536870911)) = ji3 := hji3
  obtain rfl := Option.some.inj H
  go_enter Try.func30, Try.ntmps30
  go_wp2
  go_ret
  exact ⟨by first | rfl | (simp [errW_none, errW_some] <;> rfl) | (simp only [← hji2, ← hji3]; first | rfl | (simp [errW_none, errW_some] <;> rfl)) | (simp [*, errW_none, errW_some] <;> rfl), by repeat (first | (with_reducible first | exact HB.out | apply below_alloc | apply pw_below_drewN | apply below_drew1) | exact HB.out)⟩

end Go.Proofs.Ytmofipnpnepfaaa.PMatrixIdentity
