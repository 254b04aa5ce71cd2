/- The row. Orthographic and Perspective return what the reference returns: for all arguments of 64 bits, no condition. -/
import Derived.Test.YtmofipnpnepfaaaRows
import Derived.Test.YtmofipnpnepfaaaWalkMatrixProjections
import Derived.Test.YtmofipnpnepfaaaOpen
import Derived.WalkKit
import Derived.ProofKit
import Derived.OpenShut
import Derived.ShutString
import Derived.ChangeOld
import Derived.Below
import Derived.SizedLaws
import Derived.Lib.SmallJoins
import Derived.Carry
import Derived.Laws.IdiomArrays
namespace Go.Proofs.Ytmofipnpnepfaaa.matrixProjections
open Go.ChangeShapes Go.WideShapes Go.ChangeAt Go.RowKit Go.Joins Go.Proofs.Ytmofipnpnepfaaa.Open
open Go.ChangeMaps (open_string shut_string)
set_option linter.unusedVariables false
set_option linter.unusedSimpArgs false
theorem own : ownKnob Try.prog.godebug = none := by kernel_rfl
theorem laid : laidOutB Try.prog = true := by kernel_rfl
theorem read46 : Try.prog.readableRec 46 = true := by kernel_rfl
theorem row46 : 46 < Try.prog.types.size := of_decide_eq_true (by kernel_rfl)
theorem cells46 : Try.prog.cellsOf 46 = 6 := by kernel_rfl
theorem cells3 : Try.prog.cellsOf 3 = 1 := by kernel_rfl
theorem list6 {α : Type} (l : List α) (h : l.length = 6) : ∃ c0 c1 c2 c3 c4 c5, l = [c0, c1, c2, c3, c4, c5] := by
  match l, h with
  | [c0, c1, c2, c3, c4, c5], _ => exact ⟨c0, c1, c2, c3, c4, c5, rfl⟩
theorem arr6 {α : Type} (a : Array α) (h : a.size = 6) : ∃ c0 c1 c2 c3 c4 c5, a = #[c0, c1, c2, c3, c4, c5] := by
  obtain ⟨l⟩ := a
  obtain ⟨c0, c1, c2, c3, c4, c5, rfl⟩ := list6 l h
  exact ⟨c0, c1, c2, c3, c4, c5, rfl⟩
set_option maxRecDepth 100000 in
set_option maxHeartbeats 4000000 in
theorem lifted (os : Os) (started : os.Started) (H : Type) (enc : TypeId × Value → H) :
    ReturnsInHanded {} Try.checked os 9 .any (Rows.matrixProjectionsSpec.pre6 enc Try.prog Try.f9 Rows.matrixProjectionsRow.domain false) (Rows.matrixProjectionsSpec.post enc Try.prog Try.f9 false true false false) := by
  refine returnsInHanded_of_change_sized (C := Try.checked) own started (by kernel_rfl) Try.func9
    (ChangeSpec.witness6 (enc := enc) (C := Try.checked) false ⟨#[], #[.agg #[.int .i64 0, .int .i64 0, .int .i64 0, .int .i64 0, .int .i64 0, .int .i64 0]], []⟩ 8 (by kernel_rfl) (by kernel_rfl) (by kernel_rfl) (by kernel_rfl)) ?_
  intro W base args ds gs before hval0 hW hcnd hsz0 _
  have hsz : (DataW.weightsEach Try.prog (Try.f9.params.toList ++ Rows.matrixProjectionsSpec.plain.varTypes Try.prog) (ds ++ gs)).all (· ≤ reachBytes) = true := hsz0
  have hval : ∀ (j : Nat) t v, Try.f9.params[j]? = some t → args[j]? = some v → Value.okWide Try.prog W .any base t v := hval0
  have hW' := hW
  obtain ⟨p, q, hA0, hV, rfl, hfz, hnd⟩ := hW
  have hA : DataW.TrodAll enc Try.prog W 0 (fun _ => true) true Try.f9.params.toList args.toList ds p := hA0
  rw [Try.params9] at hA hval hsz
  obtain ⟨v0, vs0, d0, ds0, p0, q0, hargs, rfl, rfl, h0, r0⟩ := trodAll_cons hA
  obtain ⟨rfl, rfl, rfl⟩ := trodAll_nil r0
  obtain rfl : args = #[v0] := by cases args; simp_all
  obtain ⟨rfl, rfl⟩ := trodVars_none hV
  obtain ⟨cs0, ec0, hz0⟩ := okWide_array Try.underlying46 (hval 0 46 v0 rfl rfl)
  subst ec0
  obtain ⟨k0_0, k0_1, k0_2, k0_3, k0_4, k0_5, rfl⟩ := arr6 cs0 (hz0.trans cells46)
  obtain ⟨fu0, hf0⟩ := id h0
  replace hf0 : DataW.trod enc Try.prog W 0 (fun _ => true) true fu0 46 [k0_0, k0_1, k0_2, k0_3, k0_4, k0_5] = some (d0, p0) := hf0
  obtain ⟨xs1, m1, _, ex1, _, hl1, hg1⟩ := DataW.trod_array Try.underlying46 hf0
  obtain ⟨x1_0, x1_1, x1_2, x1_3, x1_4, x1_5, rfl⟩ := list6 xs1 hl1
  have g1_0 : DataW.trod enc Try.prog W 0 (fun _ => true) true m1 3 [k0_0] = some x1_0 := by
    have q : DataW.trod enc Try.prog W 0 (fun _ => true) true m1 3 (([k0_0, k0_1, k0_2, k0_3, k0_4, k0_5].drop (0 * Try.prog.cellsOf 3)).take (Try.prog.cellsOf 3)) = some x1_0 := hg1 0 (by decide)
    rw [cells3] at q
    exact q
  have g1_1 : DataW.trod enc Try.prog W 0 (fun _ => true) true m1 3 [k0_1] = some x1_1 := by
    have q : DataW.trod enc Try.prog W 0 (fun _ => true) true m1 3 (([k0_0, k0_1, k0_2, k0_3, k0_4, k0_5].drop (1 * Try.prog.cellsOf 3)).take (Try.prog.cellsOf 3)) = some x1_1 := hg1 1 (by decide)
    rw [cells3] at q
    exact q
  have g1_2 : DataW.trod enc Try.prog W 0 (fun _ => true) true m1 3 [k0_2] = some x1_2 := by
    have q : DataW.trod enc Try.prog W 0 (fun _ => true) true m1 3 (([k0_0, k0_1, k0_2, k0_3, k0_4, k0_5].drop (2 * Try.prog.cellsOf 3)).take (Try.prog.cellsOf 3)) = some x1_2 := hg1 2 (by decide)
    rw [cells3] at q
    exact q
  have g1_3 : DataW.trod enc Try.prog W 0 (fun _ => true) true m1 3 [k0_3] = some x1_3 := by
    have q : DataW.trod enc Try.prog W 0 (fun _ => true) true m1 3 (([k0_0, k0_1, k0_2, k0_3, k0_4, k0_5].drop (3 * Try.prog.cellsOf 3)).take (Try.prog.cellsOf 3)) = some x1_3 := hg1 3 (by decide)
    rw [cells3] at q
    exact q
  have g1_4 : DataW.trod enc Try.prog W 0 (fun _ => true) true m1 3 [k0_4] = some x1_4 := by
    have q : DataW.trod enc Try.prog W 0 (fun _ => true) true m1 3 (([k0_0, k0_1, k0_2, k0_3, k0_4, k0_5].drop (4 * Try.prog.cellsOf 3)).take (Try.prog.cellsOf 3)) = some x1_4 := hg1 4 (by decide)
    rw [cells3] at q
    exact q
  have g1_5 : DataW.trod enc Try.prog W 0 (fun _ => true) true m1 3 [k0_5] = some x1_5 := by
    have q : DataW.trod enc Try.prog W 0 (fun _ => true) true m1 3 (([k0_0, k0_1, k0_2, k0_3, k0_4, k0_5].drop (5 * Try.prog.cellsOf 3)).take (Try.prog.cellsOf 3)) = some x1_5 := hg1 5 (by decide)
    rw [cells3] at q
    exact q
  obtain ⟨a0_0, e0_0, _, w0_0⟩ := DataW.trod_int Try.underlying3 g1_0
  simp only [List.cons.injEq, and_true] at e0_0
  subst e0_0
  obtain ⟨a0_1, e0_1, _, w0_1⟩ := DataW.trod_int Try.underlying3 g1_1
  simp only [List.cons.injEq, and_true] at e0_1
  subst e0_1
  obtain ⟨a0_2, e0_2, _, w0_2⟩ := DataW.trod_int Try.underlying3 g1_2
  simp only [List.cons.injEq, and_true] at e0_2
  subst e0_2
  obtain ⟨a0_3, e0_3, _, w0_3⟩ := DataW.trod_int Try.underlying3 g1_3
  simp only [List.cons.injEq, and_true] at e0_3
  subst e0_3
  obtain ⟨a0_4, e0_4, _, w0_4⟩ := DataW.trod_int Try.underlying3 g1_4
  simp only [List.cons.injEq, and_true] at e0_4
  subst e0_4
  obtain ⟨a0_5, e0_5, _, w0_5⟩ := DataW.trod_int Try.underlying3 g1_5
  simp only [List.cons.injEq, and_true] at e0_5
  subst e0_5
  clear hA0 hval0 hsz0 hsz
  refine (PMatrixProjections.projections_walk a0_0 a0_1 a0_2 a0_3 a0_4 a0_5 W).mono fun e W' ⟨he, bel⟩ => ?_
  subst he
  exact ⟨_, rfl, _, _, _, [], _, [], hW', trodAll_mk1 (shut_bool Try.underlying4 _), (trodAll_cons_mk (Below.trod laid read46 row46 h0 bel (trod_lt1 h0)) trodAll_mk0), rfl, bel.frame _, fun h => by cases h⟩
theorem over : Rows.matrixProjectionsRow.holds Try.pinned (OpenSpec.ofChange Rows.matrixProjectionsSpec) :=
  OpenClaim.holds_of_wide 9 Try.f9 rfl rfl rfl rfl rfl rfl rfl ⟨rfl, rfl, rfl, rfl, rfl⟩ rfl rfl rfl rfl rfl (by kernel_rfl) Try.func9 (by kernel_rfl)
    (of_decide_eq_true (by kernel_rfl)) (by unfold Func.isWrapper; first | (rw [if_pos (by decide +kernel)]; kernel_rfl) | (rw [if_neg (by decide +kernel)]; exact ⟨rfl, rfl⟩))
    (fun os started H enc _ => lifted os started H enc)
theorem proved : Rows.MatrixProjectionsSaid := over
#print axioms proved
end Go.Proofs.Ytmofipnpnepfaaa.matrixProjections
namespace Go.Proofs.Ytmofipnpnepfaaa
theorem matrixProjections_holds : Rows.MatrixProjectionsSaid := matrixProjections.proved
end Go.Proofs.Ytmofipnpnepfaaa
