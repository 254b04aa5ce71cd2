/- Written by a program of this session for this claim: Lean functions that tell what Go functions of the program return, each with a proof of that over the program's text; no condition beyond those that each theorem states. -/
import Derived.Test.YtmofipnpnepfaaaPMatrixTransposesx0
import Derived.Test.YtmofipnpnepfaaaPMatrixTransposesx1
import Derived.Test.YtmofipnpnepfaaaPMatrixTransposesx3
import Derived.Test.YtmofipnpnepfaaaPMatrixTransposesx8
namespace Go.Proofs.Ytmofipnpnepfaaa.PMatrixTransposes
open Go.RowKit Go.Proofs.YtmofipnpnepfaaaW.PrintWords Go.Proofs.YtmofipnpnepfaaaW.PrintLast Go.Proofs.YtmofipnpnepfaaaW.PrintMore
attribute [local go_sem] max2_int min2_int max_two min_two max_three min_three max_four min_four   -- for this text's walks alone
set_option linter.unusedVariables false
set_option linter.unusedSimpArgs false

attribute [local go_sem high] eqA29
/-! ### frustumlaw04_example: function 16 -/
def frustumlaw04_example.f (k : Nat)  : Option (Bool) := (matrix_Translate.f 65536 0 0).bind fun bt166 => ((matrix_Apply.f k bt166.1 bt166.2.1 bt166.2.2.1 bt166.2.2.2.1 bt166.2.2.2.2.1 bt166.2.2.2.2.2.1 bt166.2.2.2.2.2.2.1 bt166.2.2.2.2.2.2.2.1 bt166.2.2.2.2.2.2.2.2.1 bt166.2.2.2.2.2.2.2.2.2.1 bt166.2.2.2.2.2.2.2.2.2.2.1 bt166.2.2.2.2.2.2.2.2.2.2.2.1 bt166.2.2.2.2.2.2.2.2.2.2.2.2.1 bt166.2.2.2.2.2.2.2.2.2.2.2.2.2.1 bt166.2.2.2.2.2.2.2.2.2.2.2.2.2.2.1 bt166.2.2.2.2.2.2.2.2.2.2.2.2.2.2.2 0 0 0 65536).bind fun bt182 => (some (bt182.1 == 65536 && (bt182.2.1 == 0 && (bt182.2.2.1 == 0 && (bt182.2.2.2 == 65536))))))
theorem frustumlaw04_example.mono : ∀ k, LeO (frustumlaw04_example.f k ) (frustumlaw04_example.f (k + 1) ) := by
  intro  k
  unfold frustumlaw04_example.f
  repeat' first
      | (with_reducible exact matrix_Apply.mono _ _ _ _ _ _ _ _ _ _ _ _ _ _ _ _ _ _ _ _ _)
      | (with_reducible exact LeO.refl _)
      | (with_reducible exact LeO.none _)
      | (with_reducible refine LeO.ite ?_ ?_)
      | (with_reducible refine LeO.bind ?_ (fun _ => ?_))
      | exact matrix_Apply.mono _ _ _ _ _ _ _ _ _ _ _ _ _ _ _ _ _ _ _ _ _
      | exact LeO.none _
      | refine LeO.ite ?_ ?_
      | refine LeO.bind ?_ (fun _ => ?_)
set_option maxHeartbeats 8000000 in
set_option maxRecDepth 100000 in
theorem frustumlaw04_example.calls (k : Nat)  (r : Bool) (w : World) (h : frustumlaw04_example.f k  = some r) :
    Calls Try.prog 16 #[] w fun e w' => e = .returned (.bool r) ∧ Below w.heap.size w w' := by
  have hu29 := Try.underlying29
  have HB := Aside0.mk (Below.refl w.heap.size w)
  have H : ((matrix_Translate.f 65536 0 0).bind fun bt166 => ((matrix_Apply.f k bt166.1 bt166.2.1 bt166.2.2.1 bt166.2.2.2.1 bt166.2.2.2.2.1 bt166.2.2.2.2.2.1 bt166.2.2.2.2.2.2.1 bt166.2.2.2.2.2.2.2.1 bt166.2.2.2.2.2.2.2.2.1 bt166.2.2.2.2.2.2.2.2.2.1 bt166.2.2.2.2.2.2.2.2.2.2.1 bt166.2.2.2.2.2.2.2.2.2.2.2.1 bt166.2.2.2.2.2.2.2.2.2.2.2.2.1 bt166.2.2.2.2.2.2.2.2.2.2.2.2.2.1 bt166.2.2.2.2.2.2.2.2.2.2.2.2.2.2.1 bt166.2.2.2.2.2.2.2.2.2.2.2.2.2.2.2 0 0 0 65536).bind fun bt182 => (some (bt182.1 == 65536 && (bt182.2.1 == 0 && (bt182.2.2.1 == 0 && (bt182.2.2.2 == 65536))))))) = some r := h
  clear h
  replace H := Option.bind_eq_some_iff.mp H
  obtain ⟨⟨t166, t167, t168, t169, t170, t171, t172, t173, t174, t175, t176, t177, t178, t179, t180, t181⟩, A10, H⟩ := H
  replace H : ((matrix_Apply.f k t166 t167 t168 t169 t170 t171 t172 t173 t174 t175 t176 t177 t178 t179 t180 t181 0 0 0 65536).bind fun bt182 => (some (bt182.1 == 65536 && (bt182.2.1 == 0 && (bt182.2.2.1 == 0 && (bt182.2.2.2 == 65536)))))) = some r := H
  have A1 := Aside0.mk A10
  clear A10
  replace H := Option.bind_eq_some_iff.mp H
  obtain ⟨⟨t182, t183, t184, t185⟩, A20, H⟩ := H
  replace H : (some (t182 == 65536 && (t183 == 0 && (t184 == 0 && (t185 == 65536))))) = some r := H
  have A2 := Aside0.mk A20
  clear A20
  obtain rfl := Option.some.inj H
  go_enter Try.func16, Try.ntmps16
  go_wp2_with (first | ((with_reducible refine gate_callee (f := 12) rfl ?_); refine goesL_ (some 1) rfl rfl Try.func12 (by kernel_rfl) rfl #[.int .i64 65536, .int .i64 0, .int .i64 0] rfl (by (try simp only [List.map_toArray, List.map_cons, List.map_nil]); first | done | rfl | (simp only [List.length_drop, List.length_take]; rfl)) ?_; (with_reducible refine (matrix_Translate.calls 65536 0 0 t166 t167 t168 t169 t170 t171 t172 t173 t174 t175 t176 t177 t178 t179 t180 t181 _ A1.out).mono ?_); rintro e w3 ⟨rfl, hb⟩; refine ⟨_, rfl, ?_⟩; have n0_ := Aside0.mk (below_step (by repeat (first | (with_reducible first | exact HB.out | apply below_alloc | apply pw_below_drewN | apply below_drew1) | exact HB.out)) hb); clear HB; have HB := n0_; clear n0_; (try clear hb); (try clear hb2); (try clear hk); (try clear hi)) | ((with_reducible refine gate_callee (f := 18) rfl ?_); refine goesL_ (some 3) rfl rfl Try.func18 (by kernel_rfl) rfl #[.agg #[.int .i64 t166, .int .i64 t167, .int .i64 t168, .int .i64 t169, .int .i64 t170, .int .i64 t171, .int .i64 t172, .int .i64 t173, .int .i64 t174, .int .i64 t175, .int .i64 t176, .int .i64 t177, .int .i64 t178, .int .i64 t179, .int .i64 t180, .int .i64 t181], .agg #[.int .i64 0, .int .i64 0, .int .i64 0, .int .i64 65536]] rfl (by (try simp only [List.map_toArray, List.map_cons, List.map_nil]); first | done | rfl | (simp only [List.length_drop, List.length_take]; rfl)) ?_; (with_reducible refine (matrix_Apply.calls k t166 t167 t168 t169 t170 t171 t172 t173 t174 t175 t176 t177 t178 t179 t180 t181 0 0 0 65536 t182 t183 t184 t185 _ A2.out).mono ?_); rintro e w4 ⟨rfl, hb⟩; refine ⟨_, rfl, ?_⟩; have n0_ := Aside0.mk (below_step (by repeat (first | (with_reducible first | exact HB.out | apply below_alloc | apply pw_below_drewN | apply below_drew1) | exact HB.out)) hb); clear HB; have HB := n0_; clear n0_; (try clear hb); (try clear hb2); (try clear hk); (try clear hi)))
  go_ret
  exact ⟨by first | rfl | (simp [errW_none, errW_some] <;> rfl) | (simp [*, errW_none, errW_some] <;> rfl), by repeat (first | (with_reducible first | exact HB.out | apply below_alloc | apply pw_below_drewN | apply below_drew1) | exact HB.out)⟩

end Go.Proofs.Ytmofipnpnepfaaa.PMatrixTransposes
