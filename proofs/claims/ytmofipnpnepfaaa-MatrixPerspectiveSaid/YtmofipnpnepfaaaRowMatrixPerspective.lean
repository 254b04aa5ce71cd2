/- The row. A perspective matrix scales X and Y independently, takes the fourth coordinate from Z, and the third one from Z and W only: for all arguments of 64 bits, no condition. -/
import Derived.Test.YtmofipnpnepfaaaRows
import Derived.Test.YtmofipnpnepfaaaWalkMatrixPerspective
import Derived.Test.YtmofipnpnepfaaaOpen
import Derived.WalkKit
import Derived.ProofKit
import Derived.OpenShut
import Derived.ShutString
import Derived.ChangeOld
import Derived.Below
import Derived.SizedLaws
import Derived.Lib.SmallJoins
import Derived.Carry
import Derived.Laws.IdiomArrays
namespace Go.Proofs.Ytmofipnpnepfaaa.matrixPerspective
open Go.ChangeShapes Go.WideShapes Go.ChangeAt Go.RowKit Go.Joins Go.Proofs.Ytmofipnpnepfaaa.Open
open Go.ChangeMaps (open_string shut_string)
set_option linter.unusedVariables false
set_option linter.unusedSimpArgs false
theorem own : ownKnob Try.prog.godebug = none := by kernel_rfl
theorem laid : laidOutB Try.prog = true := by kernel_rfl
theorem read29 : Try.prog.readableRec 29 = true := by kernel_rfl
theorem row29 : 29 < Try.prog.types.size := of_decide_eq_true (by kernel_rfl)
theorem read40 : Try.prog.readableRec 40 = true := by kernel_rfl
theorem row40 : 40 < Try.prog.types.size := of_decide_eq_true (by kernel_rfl)
theorem cells40 : Try.prog.cellsOf 40 = 4 := by kernel_rfl
theorem cells3 : Try.prog.cellsOf 3 = 1 := by kernel_rfl
theorem cells29 : Try.prog.cellsOf 29 = 4 := by kernel_rfl
theorem list4 {α : Type} (l : List α) (h : l.length = 4) : ∃ c0 c1 c2 c3, l = [c0, c1, c2, c3] := by
  match l, h with
  | [c0, c1, c2, c3], _ => exact ⟨c0, c1, c2, c3, rfl⟩
theorem arr4 {α : Type} (a : Array α) (h : a.size = 4) : ∃ c0 c1 c2 c3, a = #[c0, c1, c2, c3] := by
  obtain ⟨l⟩ := a
  obtain ⟨c0, c1, c2, c3, rfl⟩ := list4 l h
  exact ⟨c0, c1, c2, c3, rfl⟩
set_option maxRecDepth 100000 in
set_option maxHeartbeats 4000000 in
theorem lifted (os : Os) (started : os.Started) (H : Type) (enc : TypeId × Value → H) :
    ReturnsInHanded {} Try.checked os 8 .any (Rows.matrixPerspectiveSpec.pre6 enc Try.prog Try.f8 Rows.matrixPerspectiveRow.domain false) (Rows.matrixPerspectiveSpec.post enc Try.prog Try.f8 false true false false) := by
  refine returnsInHanded_of_change_sized (C := Try.checked) own started (by kernel_rfl) Try.func8
    (ChangeSpec.witness6 (enc := enc) (C := Try.checked) false ⟨#[], #[.agg #[.int .i64 0, .int .i64 0, .int .i64 0, .int .i64 0], .agg #[.int .i64 0, .int .i64 0, .int .i64 0, .int .i64 0]], []⟩ 8 (by kernel_rfl) (by kernel_rfl) (by kernel_rfl) (by kernel_rfl)) ?_
  intro W base args ds gs before hval0 hW hcnd hsz0 _
  have hsz : (DataW.weightsEach Try.prog (Try.f8.params.toList ++ Rows.matrixPerspectiveSpec.plain.varTypes Try.prog) (ds ++ gs)).all (· ≤ reachBytes) = true := hsz0
  have hval : ∀ (j : Nat) t v, Try.f8.params[j]? = some t → args[j]? = some v → Value.okWide Try.prog W .any base t v := hval0
  have hW' := hW
  obtain ⟨p, q, hA0, hV, rfl, hfz, hnd⟩ := hW
  have hA : DataW.TrodAll enc Try.prog W 0 (fun _ => true) true Try.f8.params.toList args.toList ds p := hA0
  rw [Try.params8] at hA hval hsz
  obtain ⟨v0, vs0, d0, ds0, p0, q0, hargs, rfl, rfl, h0, r0⟩ := trodAll_cons hA
  obtain ⟨v1, vs1, d1, ds1, p1, q1, rfl, rfl, rfl, h1, r1⟩ := trodAll_cons r0
  obtain ⟨rfl, rfl, rfl⟩ := trodAll_nil r1
  obtain rfl : args = #[v0, v1] := by cases args; simp_all
  obtain ⟨rfl, rfl⟩ := trodVars_none hV
  obtain ⟨cs0, ec0, hz0⟩ := okWide_array Try.underlying40 (hval 0 40 v0 rfl rfl)
  subst ec0
  obtain ⟨k0_0, k0_1, k0_2, k0_3, rfl⟩ := arr4 cs0 (hz0.trans cells40)
  obtain ⟨fu0, hf0⟩ := id h0
  replace hf0 : DataW.trod enc Try.prog W 0 (fun _ => true) true fu0 40 [k0_0, k0_1, k0_2, k0_3] = some (d0, p0) := hf0
  obtain ⟨xs1, m1, _, ex1, _, hl1, hg1⟩ := DataW.trod_array Try.underlying40 hf0
  obtain ⟨x1_0, x1_1, x1_2, x1_3, rfl⟩ := list4 xs1 hl1
  have g1_0 : DataW.trod enc Try.prog W 0 (fun _ => true) true m1 3 [k0_0] = some x1_0 := by
    have q : DataW.trod enc Try.prog W 0 (fun _ => true) true m1 3 (([k0_0, k0_1, k0_2, k0_3].drop (0 * Try.prog.cellsOf 3)).take (Try.prog.cellsOf 3)) = some x1_0 := hg1 0 (by decide)
    rw [cells3] at q
    exact q
  have g1_1 : DataW.trod enc Try.prog W 0 (fun _ => true) true m1 3 [k0_1] = some x1_1 := by
    have q : DataW.trod enc Try.prog W 0 (fun _ => true) true m1 3 (([k0_0, k0_1, k0_2, k0_3].drop (1 * Try.prog.cellsOf 3)).take (Try.prog.cellsOf 3)) = some x1_1 := hg1 1 (by decide)
    rw [cells3] at q
    exact q
  have g1_2 : DataW.trod enc Try.prog W 0 (fun _ => true) true m1 3 [k0_2] = some x1_2 := by
    have q : DataW.trod enc Try.prog W 0 (fun _ => true) true m1 3 (([k0_0, k0_1, k0_2, k0_3].drop (2 * Try.prog.cellsOf 3)).take (Try.prog.cellsOf 3)) = some x1_2 := hg1 2 (by decide)
    rw [cells3] at q
    exact q
  have g1_3 : DataW.trod enc Try.prog W 0 (fun _ => true) true m1 3 [k0_3] = some x1_3 := by
    have q : DataW.trod enc Try.prog W 0 (fun _ => true) true m1 3 (([k0_0, k0_1, k0_2, k0_3].drop (3 * Try.prog.cellsOf 3)).take (Try.prog.cellsOf 3)) = some x1_3 := hg1 3 (by decide)
    rw [cells3] at q
    exact q
  obtain ⟨a0_0, e0_0, _, w0_0⟩ := DataW.trod_int Try.underlying3 g1_0
  simp only [List.cons.injEq, and_true] at e0_0
  subst e0_0
  obtain ⟨a0_1, e0_1, _, w0_1⟩ := DataW.trod_int Try.underlying3 g1_1
  simp only [List.cons.injEq, and_true] at e0_1
  subst e0_1
  obtain ⟨a0_2, e0_2, _, w0_2⟩ := DataW.trod_int Try.underlying3 g1_2
  simp only [List.cons.injEq, and_true] at e0_2
  subst e0_2
  obtain ⟨a0_3, e0_3, _, w0_3⟩ := DataW.trod_int Try.underlying3 g1_3
  simp only [List.cons.injEq, and_true] at e0_3
  subst e0_3
  obtain ⟨cs1, ec1, hz1⟩ := okWide_struct Try.underlying29 (hval 1 29 v1 rfl rfl)
  subst ec1
  obtain ⟨k1_0, k1_1, k1_2, k1_3, rfl⟩ := arr4 cs1 (hz1.trans cells29)
  obtain ⟨fu1, hf1⟩ := id h1
  replace hf1 : DataW.trod enc Try.prog W 0 (fun _ => true) true fu1 29 [k1_0, k1_1, k1_2, k1_3] = some (d1, p1) := hf1
  obtain ⟨xs2, m2, _, ex2, _, hl2, hg2⟩ := DataW.trod_struct Try.underlying29 hf1
  obtain ⟨x2_0, x2_1, x2_2, x2_3, rfl⟩ := list4 xs2 hl2
  have g2_0 : DataW.trod enc Try.prog W 0 (fun _ => true) true m2 3 [k1_0] = some x2_0 := by
    have q : DataW.trod enc Try.prog W 0 (fun _ => true) true m2 3 (([k1_0, k1_1, k1_2, k1_3].drop 0).take (Try.prog.cellsOf 3)) = some x2_0 := hg2 0 _ rfl
    rw [cells3] at q
    exact q
  have g2_1 : DataW.trod enc Try.prog W 0 (fun _ => true) true m2 3 [k1_1] = some x2_1 := by
    have q : DataW.trod enc Try.prog W 0 (fun _ => true) true m2 3 (([k1_0, k1_1, k1_2, k1_3].drop 1).take (Try.prog.cellsOf 3)) = some x2_1 := hg2 1 _ rfl
    rw [cells3] at q
    exact q
  have g2_2 : DataW.trod enc Try.prog W 0 (fun _ => true) true m2 3 [k1_2] = some x2_2 := by
    have q : DataW.trod enc Try.prog W 0 (fun _ => true) true m2 3 (([k1_0, k1_1, k1_2, k1_3].drop 2).take (Try.prog.cellsOf 3)) = some x2_2 := hg2 2 _ rfl
    rw [cells3] at q
    exact q
  have g2_3 : DataW.trod enc Try.prog W 0 (fun _ => true) true m2 3 [k1_3] = some x2_3 := by
    have q : DataW.trod enc Try.prog W 0 (fun _ => true) true m2 3 (([k1_0, k1_1, k1_2, k1_3].drop 3).take (Try.prog.cellsOf 3)) = some x2_3 := hg2 3 _ rfl
    rw [cells3] at q
    exact q
  obtain ⟨a1_0, e1_0, _, w1_0⟩ := DataW.trod_int Try.underlying3 g2_0
  simp only [List.cons.injEq, and_true] at e1_0
  subst e1_0
  obtain ⟨a1_1, e1_1, _, w1_1⟩ := DataW.trod_int Try.underlying3 g2_1
  simp only [List.cons.injEq, and_true] at e1_1
  subst e1_1
  obtain ⟨a1_2, e1_2, _, w1_2⟩ := DataW.trod_int Try.underlying3 g2_2
  simp only [List.cons.injEq, and_true] at e1_2
  subst e1_2
  obtain ⟨a1_3, e1_3, _, w1_3⟩ := DataW.trod_int Try.underlying3 g2_3
  simp only [List.cons.injEq, and_true] at e1_3
  subst e1_3
  clear hA0 hval0 hsz0 hsz
  refine (PMatrixPerspective.perspective_walk a0_0 a0_1 a0_2 a0_3 a1_0 a1_1 a1_2 a1_3 W).mono fun e W' ⟨he, bel⟩ => ?_
  subst he
  exact ⟨_, rfl, _, _, _, [], _, [], hW', trodAll_mk1 (shut_bool Try.underlying4 _), (trodAll_cons_mk (Below.trod laid read40 row40 h0 bel (trod_lt1 h0)) (trodAll_cons_mk (Below.trod laid read29 row29 h1 bel (trod_lt1 h1)) trodAll_mk0)), rfl, bel.frame _, fun h => by cases h⟩
theorem over : Rows.matrixPerspectiveRow.holds Try.pinned (OpenSpec.ofChange Rows.matrixPerspectiveSpec) :=
  OpenClaim.holds_of_wide 8 Try.f8 rfl rfl rfl rfl rfl rfl rfl ⟨rfl, rfl, rfl, rfl, rfl⟩ rfl rfl rfl rfl rfl (by kernel_rfl) Try.func8 (by kernel_rfl)
    (of_decide_eq_true (by kernel_rfl)) (by unfold Func.isWrapper; first | (rw [if_pos (by decide +kernel)]; kernel_rfl) | (rw [if_neg (by decide +kernel)]; exact ⟨rfl, rfl⟩))
    (fun os started H enc _ => lifted os started H enc)
theorem proved : Rows.MatrixPerspectiveSaid := over
#print axioms proved
end Go.Proofs.Ytmofipnpnepfaaa.matrixPerspective
namespace Go.Proofs.Ytmofipnpnepfaaa
theorem matrixPerspective_holds : Rows.MatrixPerspectiveSaid := matrixPerspective.proved
end Go.Proofs.Ytmofipnpnepfaaa
