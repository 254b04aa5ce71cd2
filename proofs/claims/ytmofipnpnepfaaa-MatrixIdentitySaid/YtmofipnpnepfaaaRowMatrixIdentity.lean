/- The row. The identity leaves saturated vectors and matrices unchanged, on either side: for all matrices and vectors of 64 bits, no condition. -/
import Derived.Test.YtmofipnpnepfaaaRows
import Derived.Test.YtmofipnpnepfaaaWalkMatrixIdentity
import Derived.Test.YtmofipnpnepfaaaOpen
import Derived.WalkKit
import Derived.ProofKit
import Derived.OpenShut
import Derived.ShutString
import Derived.ChangeOld
import Derived.Below
import Derived.SizedLaws
import Derived.Lib.SmallJoins
import Derived.Carry
import Derived.Laws.IdiomArrays
namespace Go.Proofs.Ytmofipnpnepfaaa.matrixIdentity
open Go.ChangeShapes Go.WideShapes Go.ChangeAt Go.RowKit Go.Joins Go.Proofs.Ytmofipnpnepfaaa.Open
open Go.ChangeMaps (open_string shut_string)
set_option linter.unusedVariables false
set_option linter.unusedSimpArgs false
theorem own : ownKnob Try.prog.godebug = none := by kernel_rfl
theorem laid : laidOutB Try.prog = true := by kernel_rfl
theorem read23 : Try.prog.readableRec 23 = true := by kernel_rfl
theorem row23 : 23 < Try.prog.types.size := of_decide_eq_true (by kernel_rfl)
theorem read29 : Try.prog.readableRec 29 = true := by kernel_rfl
theorem row29 : 29 < Try.prog.types.size := of_decide_eq_true (by kernel_rfl)
theorem cells23 : Try.prog.cellsOf 23 = 16 := by kernel_rfl
theorem cells3 : Try.prog.cellsOf 3 = 1 := by kernel_rfl
theorem cells29 : Try.prog.cellsOf 29 = 4 := by kernel_rfl
theorem list4 {α : Type} (l : List α) (h : l.length = 4) : ∃ c0 c1 c2 c3, l = [c0, c1, c2, c3] := by
  match l, h with
  | [c0, c1, c2, c3], _ => exact ⟨c0, c1, c2, c3, rfl⟩
theorem list16 {α : Type} (l : List α) (h : l.length = 16) : ∃ c0 c1 c2 c3 c4 c5 c6 c7 c8 c9 c10 c11 c12 c13 c14 c15, l = [c0, c1, c2, c3, c4, c5, c6, c7, c8, c9, c10, c11, c12, c13, c14, c15] := by
  match l, h with
  | [c0, c1, c2, c3, c4, c5, c6, c7, c8, c9, c10, c11, c12, c13, c14, c15], _ => exact ⟨c0, c1, c2, c3, c4, c5, c6, c7, c8, c9, c10, c11, c12, c13, c14, c15, rfl⟩
theorem arr4 {α : Type} (a : Array α) (h : a.size = 4) : ∃ c0 c1 c2 c3, a = #[c0, c1, c2, c3] := by
  obtain ⟨l⟩ := a
  obtain ⟨c0, c1, c2, c3, rfl⟩ := list4 l h
  exact ⟨c0, c1, c2, c3, rfl⟩
theorem arr16 {α : Type} (a : Array α) (h : a.size = 16) : ∃ c0 c1 c2 c3 c4 c5 c6 c7 c8 c9 c10 c11 c12 c13 c14 c15, a = #[c0, c1, c2, c3, c4, c5, c6, c7, c8, c9, c10, c11, c12, c13, c14, c15] := by
  obtain ⟨l⟩ := a
  obtain ⟨c0, c1, c2, c3, c4, c5, c6, c7, c8, c9, c10, c11, c12, c13, c14, c15, rfl⟩ := list16 l h
  exact ⟨c0, c1, c2, c3, c4, c5, c6, c7, c8, c9, c10, c11, c12, c13, c14, c15, rfl⟩
set_option maxRecDepth 100000 in
set_option maxHeartbeats 4000000 in
theorem lifted (os : Os) (started : os.Started) (H : Type) (enc : TypeId × Value → H) :
    ReturnsInHanded {} Try.checked os 7 .any (Rows.matrixIdentitySpec.pre6 enc Try.prog Try.f7 Rows.matrixIdentityRow.domain false) (Rows.matrixIdentitySpec.post enc Try.prog Try.f7 false true false false) := by
  refine returnsInHanded_of_change_sized (C := Try.checked) own started (by kernel_rfl) Try.func7
    (ChangeSpec.witness6 (enc := enc) (C := Try.checked) false ⟨#[], #[.agg #[.int .i64 0, .int .i64 0, .int .i64 0, .int .i64 0, .int .i64 0, .int .i64 0, .int .i64 0, .int .i64 0, .int .i64 0, .int .i64 0, .int .i64 0, .int .i64 0, .int .i64 0, .int .i64 0, .int .i64 0, .int .i64 0], .agg #[.int .i64 0, .int .i64 0, .int .i64 0, .int .i64 0]], []⟩ 8 (by kernel_rfl) (by kernel_rfl) (by kernel_rfl) (by kernel_rfl)) ?_
  intro W base args ds gs before hval0 hW hcnd hsz0 _
  have hsz : (DataW.weightsEach Try.prog (Try.f7.params.toList ++ Rows.matrixIdentitySpec.plain.varTypes Try.prog) (ds ++ gs)).all (· ≤ reachBytes) = true := hsz0
  have hval : ∀ (j : Nat) t v, Try.f7.params[j]? = some t → args[j]? = some v → Value.okWide Try.prog W .any base t v := hval0
  have hW' := hW
  obtain ⟨p, q, hA0, hV, rfl, hfz, hnd⟩ := hW
  have hA : DataW.TrodAll enc Try.prog W 0 (fun _ => true) true Try.f7.params.toList args.toList ds p := hA0
  rw [Try.params7] at hA hval hsz
  obtain ⟨v0, vs0, d0, ds0, p0, q0, hargs, rfl, rfl, h0, r0⟩ := trodAll_cons hA
  obtain ⟨v1, vs1, d1, ds1, p1, q1, rfl, rfl, rfl, h1, r1⟩ := trodAll_cons r0
  obtain ⟨rfl, rfl, rfl⟩ := trodAll_nil r1
  obtain rfl : args = #[v0, v1] := by cases args; simp_all
  obtain ⟨rfl, rfl⟩ := trodVars_none hV
  obtain ⟨cs0, ec0, hz0⟩ := okWide_array Try.underlying23 (hval 0 23 v0 rfl rfl)
  subst ec0
  obtain ⟨k0_0, k0_1, k0_2, k0_3, k0_4, k0_5, k0_6, k0_7, k0_8, k0_9, k0_10, k0_11, k0_12, k0_13, k0_14, k0_15, rfl⟩ := arr16 cs0 (hz0.trans cells23)
  obtain ⟨fu0, hf0⟩ := id h0
  replace hf0 : DataW.trod enc Try.prog W 0 (fun _ => true) true fu0 23 [k0_0, k0_1, k0_2, k0_3, k0_4, k0_5, k0_6, k0_7, k0_8, k0_9, k0_10, k0_11, k0_12, k0_13, k0_14, k0_15] = some (d0, p0) := hf0
  obtain ⟨xs1, m1, _, ex1, _, hl1, hg1⟩ := DataW.trod_array Try.underlying23 hf0
  obtain ⟨x1_0, x1_1, x1_2, x1_3, x1_4, x1_5, x1_6, x1_7, x1_8, x1_9, x1_10, x1_11, x1_12, x1_13, x1_14, x1_15, rfl⟩ := list16 xs1 hl1
  have g1_0 : DataW.trod enc Try.prog W 0 (fun _ => true) true m1 3 [k0_0] = some x1_0 := by
    have q : DataW.trod enc Try.prog W 0 (fun _ => true) true m1 3 (([k0_0, k0_1, k0_2, k0_3, k0_4, k0_5, k0_6, k0_7, k0_8, k0_9, k0_10, k0_11, k0_12, k0_13, k0_14, k0_15].drop (0 * Try.prog.cellsOf 3)).take (Try.prog.cellsOf 3)) = some x1_0 := hg1 0 (by decide)
    rw [cells3] at q
    exact q
  have g1_1 : DataW.trod enc Try.prog W 0 (fun _ => true) true m1 3 [k0_1] = some x1_1 := by
    have q : DataW.trod enc Try.prog W 0 (fun _ => true) true m1 3 (([k0_0, k0_1, k0_2, k0_3, k0_4, k0_5, k0_6, k0_7, k0_8, k0_9, k0_10, k0_11, k0_12, k0_13, k0_14, k0_15].drop (1 * Try.prog.cellsOf 3)).take (Try.prog.cellsOf 3)) = some x1_1 := hg1 1 (by decide)
    rw [cells3] at q
    exact q
  have g1_2 : DataW.trod enc Try.prog W 0 (fun _ => true) true m1 3 [k0_2] = some x1_2 := by
    have q : DataW.trod enc Try.prog W 0 (fun _ => true) true m1 3 (([k0_0, k0_1, k0_2, k0_3, k0_4, k0_5, k0_6, k0_7, k0_8, k0_9, k0_10, k0_11, k0_12, k0_13, k0_14, k0_15].drop (2 * Try.prog.cellsOf 3)).take (Try.prog.cellsOf 3)) = some x1_2 := hg1 2 (by decide)
    rw [cells3] at q
    exact q
  have g1_3 : DataW.trod enc Try.prog W 0 (fun _ => true) true m1 3 [k0_3] = some x1_3 := by
    have q : DataW.trod enc Try.prog W 0 (fun _ => true) true m1 3 (([k0_0, k0_1, k0_2, k0_3, k0_4, k0_5, k0_6, k0_7, k0_8, k0_9, k0_10, k0_11, k0_12, k0_13, k0_14, k0_15].drop (3 * Try.prog.cellsOf 3)).take (Try.prog.cellsOf 3)) = some x1_3 := hg1 3 (by decide)
    rw [cells3] at q
    exact q
  have g1_4 : DataW.trod enc Try.prog W 0 (fun _ => true) true m1 3 [k0_4] = some x1_4 := by
    have q : DataW.trod enc Try.prog W 0 (fun _ => true) true m1 3 (([k0_0, k0_1, k0_2, k0_3, k0_4, k0_5, k0_6, k0_7, k0_8, k0_9, k0_10, k0_11, k0_12, k0_13, k0_14, k0_15].drop (4 * Try.prog.cellsOf 3)).take (Try.prog.cellsOf 3)) = some x1_4 := hg1 4 (by decide)
    rw [cells3] at q
    exact q
  have g1_5 : DataW.trod enc Try.prog W 0 (fun _ => true) true m1 3 [k0_5] = some x1_5 := by
    have q : DataW.trod enc Try.prog W 0 (fun _ => true) true m1 3 (([k0_0, k0_1, k0_2, k0_3, k0_4, k0_5, k0_6, k0_7, k0_8, k0_9, k0_10, k0_11, k0_12, k0_13, k0_14, k0_15].drop (5 * Try.prog.cellsOf 3)).take (Try.prog.cellsOf 3)) = some x1_5 := hg1 5 (by decide)
    rw [cells3] at q
    exact q
  have g1_6 : DataW.trod enc Try.prog W 0 (fun _ => true) true m1 3 [k0_6] = some x1_6 := by
    have q : DataW.trod enc Try.prog W 0 (fun _ => true) true m1 3 (([k0_0, k0_1, k0_2, k0_3, k0_4, k0_5, k0_6, k0_7, k0_8, k0_9, k0_10, k0_11, k0_12, k0_13, k0_14, k0_15].drop (6 * Try.prog.cellsOf 3)).take (Try.prog.cellsOf 3)) = some x1_6 := hg1 6 (by decide)
    rw [cells3] at q
    exact q
  have g1_7 : DataW.trod enc Try.prog W 0 (fun _ => true) true m1 3 [k0_7] = some x1_7 := by
    have q : DataW.trod enc Try.prog W 0 (fun _ => true) true m1 3 (([k0_0, k0_1, k0_2, k0_3, k0_4, k0_5, k0_6, k0_7, k0_8, k0_9, k0_10, k0_11, k0_12, k0_13, k0_14, k0_15].drop (7 * Try.prog.cellsOf 3)).take (Try.prog.cellsOf 3)) = some x1_7 := hg1 7 (by decide)
    rw [cells3] at q
    exact q
  have g1_8 : DataW.trod enc Try.prog W 0 (fun _ => true) true m1 3 [k0_8] = some x1_8 := by
    have q : DataW.trod enc Try.prog W 0 (fun _ => true) true m1 3 (([k0_0, k0_1, k0_2, k0_3, k0_4, k0_5, k0_6, k0_7, k0_8, k0_9, k0_10, k0_11, k0_12, k0_13, k0_14, k0_15].drop (8 * Try.prog.cellsOf 3)).take (Try.prog.cellsOf 3)) = some x1_8 := hg1 8 (by decide)
    rw [cells3] at q
    exact q
  have g1_9 : DataW.trod enc Try.prog W 0 (fun _ => true) true m1 3 [k0_9] = some x1_9 := by
    have q : DataW.trod enc Try.prog W 0 (fun _ => true) true m1 3 (([k0_0, k0_1, k0_2, k0_3, k0_4, k0_5, k0_6, k0_7, k0_8, k0_9, k0_10, k0_11, k0_12, k0_13, k0_14, k0_15].drop (9 * Try.prog.cellsOf 3)).take (Try.prog.cellsOf 3)) = some x1_9 := hg1 9 (by decide)
    rw [cells3] at q
    exact q
  have g1_10 : DataW.trod enc Try.prog W 0 (fun _ => true) true m1 3 [k0_10] = some x1_10 := by
    have q : DataW.trod enc Try.prog W 0 (fun _ => true) true m1 3 (([k0_0, k0_1, k0_2, k0_3, k0_4, k0_5, k0_6, k0_7, k0_8, k0_9, k0_10, k0_11, k0_12, k0_13, k0_14, k0_15].drop (10 * Try.prog.cellsOf 3)).take (Try.prog.cellsOf 3)) = some x1_10 := hg1 10 (by decide)
    rw [cells3] at q
    exact q
  have g1_11 : DataW.trod enc Try.prog W 0 (fun _ => true) true m1 3 [k0_11] = some x1_11 := by
    have q : DataW.trod enc Try.prog W 0 (fun _ => true) true m1 3 (([k0_0, k0_1, k0_2, k0_3, k0_4, k0_5, k0_6, k0_7, k0_8, k0_9, k0_10, k0_11, k0_12, k0_13, k0_14, k0_15].drop (11 * Try.prog.cellsOf 3)).take (Try.prog.cellsOf 3)) = some x1_11 := hg1 11 (by decide)
    rw [cells3] at q
    exact q
  have g1_12 : DataW.trod enc Try.prog W 0 (fun _ => true) true m1 3 [k0_12] = some x1_12 := by
    have q : DataW.trod enc Try.prog W 0 (fun _ => true) true m1 3 (([k0_0, k0_1, k0_2, k0_3, k0_4, k0_5, k0_6, k0_7, k0_8, k0_9, k0_10, k0_11, k0_12, k0_13, k0_14, k0_15].drop (12 * Try.prog.cellsOf 3)).take (Try.prog.cellsOf 3)) = some x1_12 := hg1 12 (by decide)
    rw [cells3] at q
    exact q
  have g1_13 : DataW.trod enc Try.prog W 0 (fun _ => true) true m1 3 [k0_13] = some x1_13 := by
    have q : DataW.trod enc Try.prog W 0 (fun _ => true) true m1 3 (([k0_0, k0_1, k0_2, k0_3, k0_4, k0_5, k0_6, k0_7, k0_8, k0_9, k0_10, k0_11, k0_12, k0_13, k0_14, k0_15].drop (13 * Try.prog.cellsOf 3)).take (Try.prog.cellsOf 3)) = some x1_13 := hg1 13 (by decide)
    rw [cells3] at q
    exact q
  have g1_14 : DataW.trod enc Try.prog W 0 (fun _ => true) true m1 3 [k0_14] = some x1_14 := by
    have q : DataW.trod enc Try.prog W 0 (fun _ => true) true m1 3 (([k0_0, k0_1, k0_2, k0_3, k0_4, k0_5, k0_6, k0_7, k0_8, k0_9, k0_10, k0_11, k0_12, k0_13, k0_14, k0_15].drop (14 * Try.prog.cellsOf 3)).take (Try.prog.cellsOf 3)) = some x1_14 := hg1 14 (by decide)
    rw [cells3] at q
    exact q
  have g1_15 : DataW.trod enc Try.prog W 0 (fun _ => true) true m1 3 [k0_15] = some x1_15 := by
    have q : DataW.trod enc Try.prog W 0 (fun _ => true) true m1 3 (([k0_0, k0_1, k0_2, k0_3, k0_4, k0_5, k0_6, k0_7, k0_8, k0_9, k0_10, k0_11, k0_12, k0_13, k0_14, k0_15].drop (15 * Try.prog.cellsOf 3)).take (Try.prog.cellsOf 3)) = some x1_15 := hg1 15 (by decide)
    rw [cells3] at q
    exact q
  obtain ⟨a0_0, e0_0, _, w0_0⟩ := DataW.trod_int Try.underlying3 g1_0
  simp only [List.cons.injEq, and_true] at e0_0
  subst e0_0
  obtain ⟨a0_1, e0_1, _, w0_1⟩ := DataW.trod_int Try.underlying3 g1_1
  simp only [List.cons.injEq, and_true] at e0_1
  subst e0_1
  obtain ⟨a0_2, e0_2, _, w0_2⟩ := DataW.trod_int Try.underlying3 g1_2
  simp only [List.cons.injEq, and_true] at e0_2
  subst e0_2
  obtain ⟨a0_3, e0_3, _, w0_3⟩ := DataW.trod_int Try.underlying3 g1_3
  simp only [List.cons.injEq, and_true] at e0_3
  subst e0_3
  obtain ⟨a0_4, e0_4, _, w0_4⟩ := DataW.trod_int Try.underlying3 g1_4
  simp only [List.cons.injEq, and_true] at e0_4
  subst e0_4
  obtain ⟨a0_5, e0_5, _, w0_5⟩ := DataW.trod_int Try.underlying3 g1_5
  simp only [List.cons.injEq, and_true] at e0_5
  subst e0_5
  obtain ⟨a0_6, e0_6, _, w0_6⟩ := DataW.trod_int Try.underlying3 g1_6
  simp only [List.cons.injEq, and_true] at e0_6
  subst e0_6
  obtain ⟨a0_7, e0_7, _, w0_7⟩ := DataW.trod_int Try.underlying3 g1_7
  simp only [List.cons.injEq, and_true] at e0_7
  subst e0_7
  obtain ⟨a0_8, e0_8, _, w0_8⟩ := DataW.trod_int Try.underlying3 g1_8
  simp only [List.cons.injEq, and_true] at e0_8
  subst e0_8
  obtain ⟨a0_9, e0_9, _, w0_9⟩ := DataW.trod_int Try.underlying3 g1_9
  simp only [List.cons.injEq, and_true] at e0_9
  subst e0_9
  obtain ⟨a0_10, e0_10, _, w0_10⟩ := DataW.trod_int Try.underlying3 g1_10
  simp only [List.cons.injEq, and_true] at e0_10
  subst e0_10
  obtain ⟨a0_11, e0_11, _, w0_11⟩ := DataW.trod_int Try.underlying3 g1_11
  simp only [List.cons.injEq, and_true] at e0_11
  subst e0_11
  obtain ⟨a0_12, e0_12, _, w0_12⟩ := DataW.trod_int Try.underlying3 g1_12
  simp only [List.cons.injEq, and_true] at e0_12
  subst e0_12
  obtain ⟨a0_13, e0_13, _, w0_13⟩ := DataW.trod_int Try.underlying3 g1_13
  simp only [List.cons.injEq, and_true] at e0_13
  subst e0_13
  obtain ⟨a0_14, e0_14, _, w0_14⟩ := DataW.trod_int Try.underlying3 g1_14
  simp only [List.cons.injEq, and_true] at e0_14
  subst e0_14
  obtain ⟨a0_15, e0_15, _, w0_15⟩ := DataW.trod_int Try.underlying3 g1_15
  simp only [List.cons.injEq, and_true] at e0_15
  subst e0_15
  obtain ⟨cs1, ec1, hz1⟩ := okWide_struct Try.underlying29 (hval 1 29 v1 rfl rfl)
  subst ec1
  obtain ⟨k1_0, k1_1, k1_2, k1_3, rfl⟩ := arr4 cs1 (hz1.trans cells29)
  obtain ⟨fu1, hf1⟩ := id h1
  replace hf1 : DataW.trod enc Try.prog W 0 (fun _ => true) true fu1 29 [k1_0, k1_1, k1_2, k1_3] = some (d1, p1) := hf1
  obtain ⟨xs2, m2, _, ex2, _, hl2, hg2⟩ := DataW.trod_struct Try.underlying29 hf1
  obtain ⟨x2_0, x2_1, x2_2, x2_3, rfl⟩ := list4 xs2 hl2
  have g2_0 : DataW.trod enc Try.prog W 0 (fun _ => true) true m2 3 [k1_0] = some x2_0 := by
    have q : DataW.trod enc Try.prog W 0 (fun _ => true) true m2 3 (([k1_0, k1_1, k1_2, k1_3].drop 0).take (Try.prog.cellsOf 3)) = some x2_0 := hg2 0 _ rfl
    rw [cells3] at q
    exact q
  have g2_1 : DataW.trod enc Try.prog W 0 (fun _ => true) true m2 3 [k1_1] = some x2_1 := by
    have q : DataW.trod enc Try.prog W 0 (fun _ => true) true m2 3 (([k1_0, k1_1, k1_2, k1_3].drop 1).take (Try.prog.cellsOf 3)) = some x2_1 := hg2 1 _ rfl
    rw [cells3] at q
    exact q
  have g2_2 : DataW.trod enc Try.prog W 0 (fun _ => true) true m2 3 [k1_2] = some x2_2 := by
    have q : DataW.trod enc Try.prog W 0 (fun _ => true) true m2 3 (([k1_0, k1_1, k1_2, k1_3].drop 2).take (Try.prog.cellsOf 3)) = some x2_2 := hg2 2 _ rfl
    rw [cells3] at q
    exact q
  have g2_3 : DataW.trod enc Try.prog W 0 (fun _ => true) true m2 3 [k1_3] = some x2_3 := by
    have q : DataW.trod enc Try.prog W 0 (fun _ => true) true m2 3 (([k1_0, k1_1, k1_2, k1_3].drop 3).take (Try.prog.cellsOf 3)) = some x2_3 := hg2 3 _ rfl
    rw [cells3] at q
    exact q
  obtain ⟨a1_0, e1_0, _, w1_0⟩ := DataW.trod_int Try.underlying3 g2_0
  simp only [List.cons.injEq, and_true] at e1_0
  subst e1_0
  obtain ⟨a1_1, e1_1, _, w1_1⟩ := DataW.trod_int Try.underlying3 g2_1
  simp only [List.cons.injEq, and_true] at e1_1
  subst e1_1
  obtain ⟨a1_2, e1_2, _, w1_2⟩ := DataW.trod_int Try.underlying3 g2_2
  simp only [List.cons.injEq, and_true] at e1_2
  subst e1_2
  obtain ⟨a1_3, e1_3, _, w1_3⟩ := DataW.trod_int Try.underlying3 g2_3
  simp only [List.cons.injEq, and_true] at e1_3
  subst e1_3
  clear hA0 hval0 hsz0 hsz
  refine (PMatrixIdentity.identity_all a0_0 a0_1 a0_2 a0_3 a0_4 a0_5 a0_6 a0_7 a0_8 a0_9 a0_10 a0_11 a0_12 a0_13 a0_14 a0_15  a1_0 a1_1 a1_2 a1_3 W).mono fun e W' ⟨he, bel⟩ => ?_
  subst he
  exact ⟨_, rfl, _, _, _, [], _, [], hW', trodAll_mk1 (shut_bool Try.underlying4 _), (trodAll_cons_mk (Below.trod laid read23 row23 h0 bel (trod_lt1 h0)) (trodAll_cons_mk (Below.trod laid read29 row29 h1 bel (trod_lt1 h1)) trodAll_mk0)), rfl, bel.frame _, fun h => by cases h⟩
theorem over : Rows.matrixIdentityRow.holds Try.pinned (OpenSpec.ofChange Rows.matrixIdentitySpec) :=
  OpenClaim.holds_of_wide 7 Try.f7 rfl rfl rfl rfl rfl rfl rfl ⟨rfl, rfl, rfl, rfl, rfl⟩ rfl rfl rfl rfl rfl (by kernel_rfl) Try.func7 (by kernel_rfl)
    (of_decide_eq_true (by kernel_rfl)) (by unfold Func.isWrapper; first | (rw [if_pos (by decide +kernel)]; kernel_rfl) | (rw [if_neg (by decide +kernel)]; exact ⟨rfl, rfl⟩))
    (fun os started H enc _ => lifted os started H enc)
theorem proved : Rows.MatrixIdentitySaid := over
#print axioms proved
end Go.Proofs.Ytmofipnpnepfaaa.matrixIdentity
namespace Go.Proofs.Ytmofipnpnepfaaa
theorem matrixIdentity_holds : Rows.MatrixIdentitySaid := matrixIdentity.proved
end Go.Proofs.Ytmofipnpnepfaaa
