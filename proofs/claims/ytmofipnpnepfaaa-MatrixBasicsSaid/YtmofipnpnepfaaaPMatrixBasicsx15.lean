/- Written by a program of this session for this claim: Lean functions that tell what Go functions of the program return, each with a proof of that over the program's text; no condition beyond those that each theorem states. -/
import Derived.Test.YtmofipnpnepfaaaPMatrixBasicsx0
import Derived.Test.YtmofipnpnepfaaaPMatrixBasicsx2
import Derived.Test.YtmofipnpnepfaaaPMatrixBasicsx4
import Derived.Test.YtmofipnpnepfaaaPMatrixBasicsx14
namespace Go.Proofs.Ytmofipnpnepfaaa.PMatrixBasics
open Go.RowKit Go.Proofs.YtmofipnpnepfaaaW.PrintWords Go.Proofs.YtmofipnpnepfaaaW.PrintLast Go.Proofs.YtmofipnpnepfaaaW.PrintMore
attribute [local go_sem] max2_int min2_int max_two min_two max_three min_three max_four min_four   -- for this text's walks alone
set_option linter.unusedVariables false
set_option linter.unusedSimpArgs false

attribute [local go_sem high] eqA29
/-! ### frustumlaw04_example: function 16 -/
def frustumlaw04_example.f (k : Nat)  : Option (Bool) := (matrix_Translate.f 65536 0 0).bind fun bt193 => ((matrix_Apply.f k bt193.1 bt193.2.1 bt193.2.2.1 bt193.2.2.2.1 bt193.2.2.2.2.1 bt193.2.2.2.2.2.1 bt193.2.2.2.2.2.2.1 bt193.2.2.2.2.2.2.2.1 bt193.2.2.2.2.2.2.2.2.1 bt193.2.2.2.2.2.2.2.2.2.1 bt193.2.2.2.2.2.2.2.2.2.2.1 bt193.2.2.2.2.2.2.2.2.2.2.2.1 bt193.2.2.2.2.2.2.2.2.2.2.2.2.1 bt193.2.2.2.2.2.2.2.2.2.2.2.2.2.1 bt193.2.2.2.2.2.2.2.2.2.2.2.2.2.2.1 bt193.2.2.2.2.2.2.2.2.2.2.2.2.2.2.2 0 0 0 65536).bind fun bt209 => (some (bt209.1 == 65536 && (bt209.2.1 == 0 && (bt209.2.2.1 == 0 && (bt209.2.2.2 == 65536))))))
theorem frustumlaw04_example.mono : ∀ k, LeO (frustumlaw04_example.f k ) (frustumlaw04_example.f (k + 1) ) := by
  intro  k
  unfold frustumlaw04_example.f
  repeat' first
      | (with_reducible exact matrix_Apply.mono _ _ _ _ _ _ _ _ _ _ _ _ _ _ _ _ _ _ _ _ _)
      | (with_reducible exact LeO.refl _)
      | (with_reducible exact LeO.none _)
      | (with_reducible refine LeO.ite ?_ ?_)
      | (with_reducible refine LeO.bind ?_ (fun _ => ?_))
      | exact matrix_Apply.mono _ _ _ _ _ _ _ _ _ _ _ _ _ _ _ _ _ _ _ _ _
      | exact LeO.none _
      | refine LeO.ite ?_ ?_
      | refine LeO.bind ?_ (fun _ => ?_)
set_option maxHeartbeats 8000000 in
set_option maxRecDepth 100000 in
theorem frustumlaw04_example.calls (k : Nat)  (r : Bool) (w : World) (h : frustumlaw04_example.f k  = some r) :
    Calls Try.prog 16 #[] w fun e w' => e = .returned (.bool r) ∧ Below w.heap.size w w' := by
  have hu29 := Try.underlying29
  have HB := Aside0.mk (Below.refl w.heap.size w)
  have H : ((matrix_Translate.f 65536 0 0).bind fun bt193 => ((matrix_Apply.f k bt193.1 bt193.2.1 bt193.2.2.1 bt193.2.2.2.1 bt193.2.2.2.2.1 bt193.2.2.2.2.2.1 bt193.2.2.2.2.2.2.1 bt193.2.2.2.2.2.2.2.1 bt193.2.2.2.2.2.2.2.2.1 bt193.2.2.2.2.2.2.2.2.2.1 bt193.2.2.2.2.2.2.2.2.2.2.1 bt193.2.2.2.2.2.2.2.2.2.2.2.1 bt193.2.2.2.2.2.2.2.2.2.2.2.2.1 bt193.2.2.2.2.2.2.2.2.2.2.2.2.2.1 bt193.2.2.2.2.2.2.2.2.2.2.2.2.2.2.1 bt193.2.2.2.2.2.2.2.2.2.2.2.2.2.2.2 0 0 0 65536).bind fun bt209 => (some (bt209.1 == 65536 && (bt209.2.1 == 0 && (bt209.2.2.1 == 0 && (bt209.2.2.2 == 65536))))))) = some r := h
  clear h
  replace H := Option.bind_eq_some_iff.mp H
  obtain ⟨⟨t193, t194, t195, t196, t197, t198, t199, t200, t201, t202, t203, t204, t205, t206, t207, t208⟩, A10, H⟩ := H
  replace H : ((matrix_Apply.f k t193 t194 t195 t196 t197 t198 t199 t200 t201 t202 t203 t204 t205 t206 t207 t208 0 0 0 65536).bind fun bt209 => (some (bt209.1 == 65536 && (bt209.2.1 == 0 && (bt209.2.2.1 == 0 && (bt209.2.2.2 == 65536)))))) = some r := H
  have A1 := Aside0.mk A10
  clear A10
  replace H := Option.bind_eq_some_iff.mp H
  obtain ⟨⟨t209, t210, t211, t212⟩, A20, H⟩ := H
  replace H : (some (t209 == 65536 && (t210 == 0 && (t211 == 0 && (t212 == 65536))))) = some r := H
  have A2 := Aside0.mk A20
  clear A20
  obtain rfl := Option.some.inj H
  go_enter Try.func16, Try.ntmps16
  go_wp2_with (first | ((with_reducible refine gate_callee (f := 12) rfl ?_); refine goesL_ (some 1) rfl rfl Try.func12 (by kernel_rfl) rfl #[.int .i64 65536, .int .i64 0, .int .i64 0] rfl (by (try simp only [List.map_toArray, List.map_cons, List.map_nil]); first | done | rfl | (simp only [List.length_drop, List.length_take]; rfl)) ?_; (with_reducible refine (matrix_Translate.calls 65536 0 0 t193 t194 t195 t196 t197 t198 t199 t200 t201 t202 t203 t204 t205 t206 t207 t208 _ A1.out).mono ?_); rintro e w3 ⟨rfl, hb⟩; refine ⟨_, rfl, ?_⟩; have n0_ := Aside0.mk (below_step (by repeat (first | (with_reducible first | exact HB.out | apply below_alloc | apply pw_below_drewN | apply below_drew1) | exact HB.out)) hb); clear HB; have HB := n0_; clear n0_; (try clear hb); (try clear hb2); (try clear hk); (try clear hi)) | ((with_reducible refine gate_callee (f := 18) rfl ?_); refine goesL_ (some 3) rfl rfl Try.func18 (by kernel_rfl) rfl #[.agg #[.int .i64 t193, .int .i64 t194, .int .i64 t195, .int .i64 t196, .int .i64 t197, .int .i64 t198, .int .i64 t199, .int .i64 t200, .int .i64 t201, .int .i64 t202, .int .i64 t203, .int .i64 t204, .int .i64 t205, .int .i64 t206, .int .i64 t207, .int .i64 t208], .agg #[.int .i64 0, .int .i64 0, .int .i64 0, .int .i64 65536]] rfl (by (try simp only [List.map_toArray, List.map_cons, List.map_nil]); first | done | rfl | (simp only [List.length_drop, List.length_take]; rfl)) ?_; (with_reducible refine (matrix_Apply.calls k t193 t194 t195 t196 t197 t198 t199 t200 t201 t202 t203 t204 t205 t206 t207 t208 0 0 0 65536 t209 t210 t211 t212 _ A2.out).mono ?_); rintro e w4 ⟨rfl, hb⟩; refine ⟨_, rfl, ?_⟩; have n0_ := Aside0.mk (below_step (by repeat (first | (with_reducible first | exact HB.out | apply below_alloc | apply pw_below_drewN | apply below_drew1) | exact HB.out)) hb); clear HB; have HB := n0_; clear n0_; (try clear hb); (try clear hb2); (try clear hk); (try clear hi)))
  go_ret
  exact ⟨by first | rfl | (simp [errW_none, errW_some] <;> rfl) | (simp [*, errW_none, errW_some] <;> rfl), by repeat (first | (with_reducible first | exact HB.out | apply below_alloc | apply pw_below_drewN | apply below_drew1) | exact HB.out)⟩

end Go.Proofs.Ytmofipnpnepfaaa.PMatrixBasics
