/- The row. Transform does not change saturated varyings: for every viewport and vertex, no condition. -/
import Derived.Test.YtillihhndaplmaaRows
import Derived.Test.YtillihhndaplmaaPureViewportVaryings
import Derived.Test.YtillihhndaplmaaOpen
import Derived.WalkKit
import Derived.ProofKit
import Derived.OpenShut
import Derived.ShutString
import Derived.ChangeOld
import Derived.Below
import Derived.SizedLaws
import Derived.Lib.SmallJoins
import Derived.Carry
import Derived.Laws.IdiomArrays
namespace Go.Proofs.Ytillihhndaplmaa.viewportVaryings
open Go.ChangeShapes Go.WideShapes Go.ChangeAt Go.RowKit Go.Joins Go.Proofs.Ytillihhndaplmaa.Open
open Go.ChangeMaps (open_string shut_string)
set_option linter.unusedVariables false
set_option linter.unusedSimpArgs false
theorem own : ownKnob Try.prog.godebug = none := by kernel_rfl
theorem laid : laidOutB Try.prog = true := by kernel_rfl
theorem read26 : Try.prog.readableRec 26 = true := by kernel_rfl
theorem row26 : 26 < Try.prog.types.size := of_decide_eq_true (by kernel_rfl)
theorem read33 : Try.prog.readableRec 33 = true := by kernel_rfl
theorem row33 : 33 < Try.prog.types.size := of_decide_eq_true (by kernel_rfl)
theorem cells26 : Try.prog.cellsOf 26 = 6 := by kernel_rfl
theorem cells3 : Try.prog.cellsOf 3 = 1 := by kernel_rfl
theorem cells33 : Try.prog.cellsOf 33 = 5 := by kernel_rfl
theorem cells30 : Try.prog.cellsOf 30 = 4 := by kernel_rfl
theorem cells31 : Try.prog.cellsOf 31 = 1 := by kernel_rfl
theorem list2 {α : Type} (l : List α) (h : l.length = 2) : ∃ c0 c1, l = [c0, c1] := by
  match l, h with
  | [c0, c1], _ => exact ⟨c0, c1, rfl⟩
theorem list4 {α : Type} (l : List α) (h : l.length = 4) : ∃ c0 c1 c2 c3, l = [c0, c1, c2, c3] := by
  match l, h with
  | [c0, c1, c2, c3], _ => exact ⟨c0, c1, c2, c3, rfl⟩
theorem list5 {α : Type} (l : List α) (h : l.length = 5) : ∃ c0 c1 c2 c3 c4, l = [c0, c1, c2, c3, c4] := by
  match l, h with
  | [c0, c1, c2, c3, c4], _ => exact ⟨c0, c1, c2, c3, c4, rfl⟩
theorem list6 {α : Type} (l : List α) (h : l.length = 6) : ∃ c0 c1 c2 c3 c4 c5, l = [c0, c1, c2, c3, c4, c5] := by
  match l, h with
  | [c0, c1, c2, c3, c4, c5], _ => exact ⟨c0, c1, c2, c3, c4, c5, rfl⟩
theorem arr5 {α : Type} (a : Array α) (h : a.size = 5) : ∃ c0 c1 c2 c3 c4, a = #[c0, c1, c2, c3, c4] := by
  obtain ⟨l⟩ := a
  obtain ⟨c0, c1, c2, c3, c4, rfl⟩ := list5 l h
  exact ⟨c0, c1, c2, c3, c4, rfl⟩
theorem arr6 {α : Type} (a : Array α) (h : a.size = 6) : ∃ c0 c1 c2 c3 c4 c5, a = #[c0, c1, c2, c3, c4, c5] := by
  obtain ⟨l⟩ := a
  obtain ⟨c0, c1, c2, c3, c4, c5, rfl⟩ := list6 l h
  exact ⟨c0, c1, c2, c3, c4, c5, rfl⟩
set_option maxRecDepth 100000 in
set_option maxHeartbeats 4000000 in
theorem lifted (os : Os) (started : os.Started) (H : Type) (enc : TypeId × Value → H) :
    ReturnsInHanded {} Try.checked os 8 .any (Rows.viewportVaryingsSpec.pre6 enc Try.prog Try.f8 Rows.viewportVaryingsRow.domain false) (Rows.viewportVaryingsSpec.post enc Try.prog Try.f8 false true false false) := by
  refine returnsInHanded_of_change_sized (C := Try.checked) own started (by kernel_rfl) Try.func8
    (ChangeSpec.witness6 (enc := enc) (C := Try.checked) false ⟨#[], #[.agg #[.int .i64 0, .int .i64 0, .int .i64 0, .int .i64 0, .int .i64 0, .int .i64 0], .agg #[.int .i64 0, .int .i64 0, .int .i64 0, .int .i64 0, .slice none 0 0]], []⟩ 8 (by kernel_rfl) (by kernel_rfl) (by kernel_rfl) (by kernel_rfl)) ?_
  intro W base args ds gs before hval0 hW hcnd hsz0 _
  have hsz : (DataW.weightsEach Try.prog (Try.f8.params.toList ++ Rows.viewportVaryingsSpec.plain.varTypes Try.prog) (ds ++ gs)).all (· ≤ reachBytes) = true := hsz0
  have hval : ∀ (j : Nat) t v, Try.f8.params[j]? = some t → args[j]? = some v → Value.okWide Try.prog W .any base t v := hval0
  have hW' := hW
  obtain ⟨p, q, hA0, hV, rfl, hfz, hnd⟩ := hW
  have hA : DataW.TrodAll enc Try.prog W 0 (fun _ => true) true Try.f8.params.toList args.toList ds p := hA0
  rw [Try.params8] at hA hval hsz
  obtain ⟨v0, vs0, d0, ds0, p0, q0, hargs, rfl, rfl, h0, r0⟩ := trodAll_cons hA
  obtain ⟨v1, vs1, d1, ds1, p1, q1, rfl, rfl, rfl, h1, r1⟩ := trodAll_cons r0
  obtain ⟨rfl, rfl, rfl⟩ := trodAll_nil r1
  obtain rfl : args = #[v0, v1] := by cases args; simp_all
  obtain ⟨rfl, rfl⟩ := trodVars_none hV
  obtain ⟨cs0, ec0, hz0⟩ := okWide_struct Try.underlying26 (hval 0 26 v0 rfl rfl)
  subst ec0
  obtain ⟨k0_0, k0_1, k0_2, k0_3, k0_4, k0_5, rfl⟩ := arr6 cs0 (hz0.trans cells26)
  obtain ⟨fu0, hf0⟩ := id h0
  replace hf0 : DataW.trod enc Try.prog W 0 (fun _ => true) true fu0 26 [k0_0, k0_1, k0_2, k0_3, k0_4, k0_5] = some (d0, p0) := hf0
  obtain ⟨xs1, m1, _, ex1, _, hl1, hg1⟩ := DataW.trod_struct Try.underlying26 hf0
  obtain ⟨x1_0, x1_1, x1_2, x1_3, x1_4, x1_5, rfl⟩ := list6 xs1 hl1
  have g1_0 : DataW.trod enc Try.prog W 0 (fun _ => true) true m1 3 [k0_0] = some x1_0 := by
    have q : DataW.trod enc Try.prog W 0 (fun _ => true) true m1 3 (([k0_0, k0_1, k0_2, k0_3, k0_4, k0_5].drop 0).take (Try.prog.cellsOf 3)) = some x1_0 := hg1 0 _ rfl
    rw [cells3] at q
    exact q
  have g1_1 : DataW.trod enc Try.prog W 0 (fun _ => true) true m1 3 [k0_1] = some x1_1 := by
    have q : DataW.trod enc Try.prog W 0 (fun _ => true) true m1 3 (([k0_0, k0_1, k0_2, k0_3, k0_4, k0_5].drop 1).take (Try.prog.cellsOf 3)) = some x1_1 := hg1 1 _ rfl
    rw [cells3] at q
    exact q
  have g1_2 : DataW.trod enc Try.prog W 0 (fun _ => true) true m1 3 [k0_2] = some x1_2 := by
    have q : DataW.trod enc Try.prog W 0 (fun _ => true) true m1 3 (([k0_0, k0_1, k0_2, k0_3, k0_4, k0_5].drop 2).take (Try.prog.cellsOf 3)) = some x1_2 := hg1 2 _ rfl
    rw [cells3] at q
    exact q
  have g1_3 : DataW.trod enc Try.prog W 0 (fun _ => true) true m1 3 [k0_3] = some x1_3 := by
    have q : DataW.trod enc Try.prog W 0 (fun _ => true) true m1 3 (([k0_0, k0_1, k0_2, k0_3, k0_4, k0_5].drop 3).take (Try.prog.cellsOf 3)) = some x1_3 := hg1 3 _ rfl
    rw [cells3] at q
    exact q
  have g1_4 : DataW.trod enc Try.prog W 0 (fun _ => true) true m1 3 [k0_4] = some x1_4 := by
    have q : DataW.trod enc Try.prog W 0 (fun _ => true) true m1 3 (([k0_0, k0_1, k0_2, k0_3, k0_4, k0_5].drop 4).take (Try.prog.cellsOf 3)) = some x1_4 := hg1 4 _ rfl
    rw [cells3] at q
    exact q
  have g1_5 : DataW.trod enc Try.prog W 0 (fun _ => true) true m1 3 [k0_5] = some x1_5 := by
    have q : DataW.trod enc Try.prog W 0 (fun _ => true) true m1 3 (([k0_0, k0_1, k0_2, k0_3, k0_4, k0_5].drop 5).take (Try.prog.cellsOf 3)) = some x1_5 := hg1 5 _ rfl
    rw [cells3] at q
    exact q
  obtain ⟨a0_0, e0_0, _, w0_0⟩ := DataW.trod_int Try.underlying3 g1_0
  simp only [List.cons.injEq, and_true] at e0_0
  subst e0_0
  obtain ⟨a0_1, e0_1, _, w0_1⟩ := DataW.trod_int Try.underlying3 g1_1
  simp only [List.cons.injEq, and_true] at e0_1
  subst e0_1
  obtain ⟨a0_2, e0_2, _, w0_2⟩ := DataW.trod_int Try.underlying3 g1_2
  simp only [List.cons.injEq, and_true] at e0_2
  subst e0_2
  obtain ⟨a0_3, e0_3, _, w0_3⟩ := DataW.trod_int Try.underlying3 g1_3
  simp only [List.cons.injEq, and_true] at e0_3
  subst e0_3
  obtain ⟨a0_4, e0_4, _, w0_4⟩ := DataW.trod_int Try.underlying3 g1_4
  simp only [List.cons.injEq, and_true] at e0_4
  subst e0_4
  obtain ⟨a0_5, e0_5, _, w0_5⟩ := DataW.trod_int Try.underlying3 g1_5
  simp only [List.cons.injEq, and_true] at e0_5
  subst e0_5
  obtain ⟨cs1, ec1, hz1⟩ := okWide_struct Try.underlying33 (hval 1 33 v1 rfl rfl)
  subst ec1
  obtain ⟨k1_0, k1_1, k1_2, k1_3, k1_4, rfl⟩ := arr5 cs1 (hz1.trans cells33)
  obtain ⟨fu1, hf1⟩ := id h1
  replace hf1 : DataW.trod enc Try.prog W 0 (fun _ => true) true fu1 33 [k1_0, k1_1, k1_2, k1_3, k1_4] = some (d1, p1) := hf1
  have Z1 : (((d1, p1) : DataW H × List MemPlace).1.weights Try.prog 33).all (· ≤ reachBytes) = true := all_each hsz (j := 1) rfl rfl
  obtain ⟨xs2, m2, _, ex2, _, hl2, hg2⟩ := DataW.trod_struct Try.underlying33 hf1
  obtain ⟨x2_0, x2_1, rfl⟩ := list2 xs2 hl2
  have g2_0 : DataW.trod enc Try.prog W 0 (fun _ => true) true m2 30 [k1_0, k1_1, k1_2, k1_3] = some x2_0 := by
    have q : DataW.trod enc Try.prog W 0 (fun _ => true) true m2 30 (([k1_0, k1_1, k1_2, k1_3, k1_4].drop 0).take (Try.prog.cellsOf 30)) = some x2_0 := hg2 0 _ rfl
    rw [cells30] at q
    exact q
  obtain ⟨xs3, m3, _, ex3, _, hl3, hg3⟩ := DataW.trod_struct Try.underlying30 g2_0
  obtain ⟨x3_0, x3_1, x3_2, x3_3, rfl⟩ := list4 xs3 hl3
  have g3_0 : DataW.trod enc Try.prog W 0 (fun _ => true) true m3 3 [k1_0] = some x3_0 := by
    have q : DataW.trod enc Try.prog W 0 (fun _ => true) true m3 3 (([k1_0, k1_1, k1_2, k1_3].drop 0).take (Try.prog.cellsOf 3)) = some x3_0 := hg3 0 _ rfl
    rw [cells3] at q
    exact q
  have g3_1 : DataW.trod enc Try.prog W 0 (fun _ => true) true m3 3 [k1_1] = some x3_1 := by
    have q : DataW.trod enc Try.prog W 0 (fun _ => true) true m3 3 (([k1_0, k1_1, k1_2, k1_3].drop 1).take (Try.prog.cellsOf 3)) = some x3_1 := hg3 1 _ rfl
    rw [cells3] at q
    exact q
  have g3_2 : DataW.trod enc Try.prog W 0 (fun _ => true) true m3 3 [k1_2] = some x3_2 := by
    have q : DataW.trod enc Try.prog W 0 (fun _ => true) true m3 3 (([k1_0, k1_1, k1_2, k1_3].drop 2).take (Try.prog.cellsOf 3)) = some x3_2 := hg3 2 _ rfl
    rw [cells3] at q
    exact q
  have g3_3 : DataW.trod enc Try.prog W 0 (fun _ => true) true m3 3 [k1_3] = some x3_3 := by
    have q : DataW.trod enc Try.prog W 0 (fun _ => true) true m3 3 (([k1_0, k1_1, k1_2, k1_3].drop 3).take (Try.prog.cellsOf 3)) = some x3_3 := hg3 3 _ rfl
    rw [cells3] at q
    exact q
  have g2_1 : DataW.trod enc Try.prog W 0 (fun _ => true) true m2 31 [k1_4] = some x2_1 := by
    have q : DataW.trod enc Try.prog W 0 (fun _ => true) true m2 31 (([k1_0, k1_1, k1_2, k1_3, k1_4].drop 4).take (Try.prog.cellsOf 31)) = some x2_1 := hg2 1 _ rfl
    rw [cells31] at q
    exact q
  have Z2_1 : ((x2_1).1.weights Try.prog 31).all (· ≤ reachBytes) = true := all_struct Try.underlying33 ex2 Z1 1 rfl rfl
  obtain ⟨a1_0, e1_0, _, w1_0⟩ := DataW.trod_int Try.underlying3 g3_0
  simp only [List.cons.injEq, and_true] at e1_0
  subst e1_0
  obtain ⟨a1_1, e1_1, _, w1_1⟩ := DataW.trod_int Try.underlying3 g3_1
  simp only [List.cons.injEq, and_true] at e1_1
  subst e1_1
  obtain ⟨a1_2, e1_2, _, w1_2⟩ := DataW.trod_int Try.underlying3 g3_2
  simp only [List.cons.injEq, and_true] at e1_2
  subst e1_2
  obtain ⟨a1_3, e1_3, _, w1_3⟩ := DataW.trod_int Try.underlying3 g3_3
  simp only [List.cons.injEq, and_true] at e1_3
  subst e1_3
  obtain ⟨A1_4, c1_4, l1_4, e1_4, hk1_4, hc1_4, hw1_4, y1_4⟩ := open_sl Try.underlying31 Try.underlying3 cells3 (B := 8) (by kernel_rfl) g2_1 Z2_1
  subst e1_4
  clear hA0 hval0 hsz0 hsz
  refine (PViewportVaryings.frustumlaw32_ViewportVaryings.calls (l1_4.length + l1_4.length + 40) a0_0 a0_1 a0_2 a0_3 a0_4 a0_5 a1_0 a1_1 a1_2 a1_3 A1_4 c1_4 l1_4 true W hk1_4 hc1_4 (Pure.ViewportVaryings a0_0 a0_1 a0_2 a0_3 a1_0 a1_1 a1_2 a1_3 l1_4 w0_4 w0_5 y1_4) rfl).mono fun e W' ⟨he, bel⟩ => ?_
  subst he
  exact ⟨_, rfl, _, _, _, [], _, [], hW', trodAll_mk1 (shut_bool Try.underlying4 _), (trodAll_cons_mk (Below.trod laid read26 row26 h0 bel (trod_lt1 h0)) (trodAll_cons_mk (Below.trod laid read33 row33 h1 bel (trod_lt1 h1)) trodAll_mk0)), rfl, bel.frame _, fun h => by cases h⟩
theorem over : Rows.viewportVaryingsRow.holds Try.pinned (OpenSpec.ofChange Rows.viewportVaryingsSpec) :=
  OpenClaim.holds_of_wide 8 Try.f8 rfl rfl rfl rfl rfl rfl rfl ⟨rfl, rfl, rfl, rfl, rfl⟩ rfl rfl rfl rfl rfl (by kernel_rfl) Try.func8 (by kernel_rfl)
    (of_decide_eq_true (by kernel_rfl)) (by unfold Func.isWrapper; first | (rw [if_pos (by decide +kernel)]; kernel_rfl) | (rw [if_neg (by decide +kernel)]; exact ⟨rfl, rfl⟩))
    (fun os started H enc _ => lifted os started H enc)
theorem proved : Rows.ViewportVaryingsSaid := over
#print axioms proved
end Go.Proofs.Ytillihhndaplmaa.viewportVaryings
namespace Go.Proofs.Ytillihhndaplmaa
theorem viewportVaryings_holds : Rows.ViewportVaryingsSaid := viewportVaryings.proved
end Go.Proofs.Ytillihhndaplmaa
