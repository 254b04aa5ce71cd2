/- The row. Depth returns what the reference returns: for every viewport and all numbers of 64 bits, no condition. -/
import Derived.Test.YtillihhndaplmaaRows
import Derived.Test.YtillihhndaplmaaPureViewportDepths
import Derived.Test.YtillihhndaplmaaOpen
import Derived.WalkKit
import Derived.ProofKit
import Derived.OpenShut
import Derived.ShutString
import Derived.ChangeOld
import Derived.Below
import Derived.SizedLaws
import Derived.Lib.SmallJoins
import Derived.Carry
import Derived.Laws.IdiomArrays
namespace Go.Proofs.Ytillihhndaplmaa.viewportDepths
open Go.ChangeShapes Go.WideShapes Go.ChangeAt Go.RowKit Go.Joins Go.Proofs.Ytillihhndaplmaa.Open
open Go.ChangeMaps (open_string shut_string)
set_option linter.unusedVariables false
set_option linter.unusedSimpArgs false
theorem own : ownKnob Try.prog.godebug = none := by kernel_rfl
theorem laid : laidOutB Try.prog = true := by kernel_rfl
theorem read3 : Try.prog.readableRec 3 = true := by kernel_rfl
theorem row3 : 3 < Try.prog.types.size := of_decide_eq_true (by kernel_rfl)
theorem read26 : Try.prog.readableRec 26 = true := by kernel_rfl
theorem row26 : 26 < Try.prog.types.size := of_decide_eq_true (by kernel_rfl)
theorem cells26 : Try.prog.cellsOf 26 = 6 := by kernel_rfl
theorem cells3 : Try.prog.cellsOf 3 = 1 := by kernel_rfl
theorem list6 {α : Type} (l : List α) (h : l.length = 6) : ∃ c0 c1 c2 c3 c4 c5, l = [c0, c1, c2, c3, c4, c5] := by
  match l, h with
  | [c0, c1, c2, c3, c4, c5], _ => exact ⟨c0, c1, c2, c3, c4, c5, rfl⟩
theorem arr6 {α : Type} (a : Array α) (h : a.size = 6) : ∃ c0 c1 c2 c3 c4 c5, a = #[c0, c1, c2, c3, c4, c5] := by
  obtain ⟨l⟩ := a
  obtain ⟨c0, c1, c2, c3, c4, c5, rfl⟩ := list6 l h
  exact ⟨c0, c1, c2, c3, c4, c5, rfl⟩
set_option maxRecDepth 100000 in
set_option maxHeartbeats 4000000 in
theorem lifted (os : Os) (started : os.Started) (H : Type) (enc : TypeId × Value → H) :
    ReturnsInHanded {} Try.checked os 4 .any (Rows.viewportDepthsSpec.pre6 enc Try.prog Try.f4 Rows.viewportDepthsRow.domain false) (Rows.viewportDepthsSpec.post enc Try.prog Try.f4 false true false false) := by
  refine returnsInHanded_of_change_sized (C := Try.checked) own started (by kernel_rfl) Try.func4
    (ChangeSpec.witness6 (enc := enc) (C := Try.checked) false ⟨#[], #[.agg #[.int .i64 0, .int .i64 0, .int .i64 0, .int .i64 0, .int .i64 0, .int .i64 0], .int .i64 0, .int .i64 0], []⟩ 8 (by kernel_rfl) (by kernel_rfl) (by kernel_rfl) (by kernel_rfl)) ?_
  intro W base args ds gs before hval0 hW hcnd hsz0 _
  have hsz : (DataW.weightsEach Try.prog (Try.f4.params.toList ++ Rows.viewportDepthsSpec.plain.varTypes Try.prog) (ds ++ gs)).all (· ≤ reachBytes) = true := hsz0
  have hval : ∀ (j : Nat) t v, Try.f4.params[j]? = some t → args[j]? = some v → Value.okWide Try.prog W .any base t v := hval0
  have hW' := hW
  obtain ⟨p, q, hA0, hV, rfl, hfz, hnd⟩ := hW
  have hA : DataW.TrodAll enc Try.prog W 0 (fun _ => true) true Try.f4.params.toList args.toList ds p := hA0
  rw [Try.params4] at hA hval hsz
  obtain ⟨v0, vs0, d0, ds0, p0, q0, hargs, rfl, rfl, h0, r0⟩ := trodAll_cons hA
  obtain ⟨v1, vs1, d1, ds1, p1, q1, rfl, rfl, rfl, h1, r1⟩ := trodAll_cons r0
  obtain ⟨v2, vs2, d2, ds2, p2, q2, rfl, rfl, rfl, h2, r2⟩ := trodAll_cons r1
  obtain ⟨rfl, rfl, rfl⟩ := trodAll_nil r2
  obtain rfl : args = #[v0, v1, v2] := by cases args; simp_all
  obtain ⟨rfl, rfl⟩ := trodVars_none hV
  obtain ⟨cs0, ec0, hz0⟩ := okWide_struct Try.underlying26 (hval 0 26 v0 rfl rfl)
  subst ec0
  obtain ⟨k0_0, k0_1, k0_2, k0_3, k0_4, k0_5, rfl⟩ := arr6 cs0 (hz0.trans cells26)
  obtain ⟨fu0, hf0⟩ := id h0
  replace hf0 : DataW.trod enc Try.prog W 0 (fun _ => true) true fu0 26 [k0_0, k0_1, k0_2, k0_3, k0_4, k0_5] = some (d0, p0) := hf0
  obtain ⟨xs1, m1, _, ex1, _, hl1, hg1⟩ := DataW.trod_struct Try.underlying26 hf0
  obtain ⟨x1_0, x1_1, x1_2, x1_3, x1_4, x1_5, rfl⟩ := list6 xs1 hl1
  have g1_0 : DataW.trod enc Try.prog W 0 (fun _ => true) true m1 3 [k0_0] = some x1_0 := by
    have q : DataW.trod enc Try.prog W 0 (fun _ => true) true m1 3 (([k0_0, k0_1, k0_2, k0_3, k0_4, k0_5].drop 0).take (Try.prog.cellsOf 3)) = some x1_0 := hg1 0 _ rfl
    rw [cells3] at q
    exact q
  have g1_1 : DataW.trod enc Try.prog W 0 (fun _ => true) true m1 3 [k0_1] = some x1_1 := by
    have q : DataW.trod enc Try.prog W 0 (fun _ => true) true m1 3 (([k0_0, k0_1, k0_2, k0_3, k0_4, k0_5].drop 1).take (Try.prog.cellsOf 3)) = some x1_1 := hg1 1 _ rfl
    rw [cells3] at q
    exact q
  have g1_2 : DataW.trod enc Try.prog W 0 (fun _ => true) true m1 3 [k0_2] = some x1_2 := by
    have q : DataW.trod enc Try.prog W 0 (fun _ => true) true m1 3 (([k0_0, k0_1, k0_2, k0_3, k0_4, k0_5].drop 2).take (Try.prog.cellsOf 3)) = some x1_2 := hg1 2 _ rfl
    rw [cells3] at q
    exact q
  have g1_3 : DataW.trod enc Try.prog W 0 (fun _ => true) true m1 3 [k0_3] = some x1_3 := by
    have q : DataW.trod enc Try.prog W 0 (fun _ => true) true m1 3 (([k0_0, k0_1, k0_2, k0_3, k0_4, k0_5].drop 3).take (Try.prog.cellsOf 3)) = some x1_3 := hg1 3 _ rfl
    rw [cells3] at q
    exact q
  have g1_4 : DataW.trod enc Try.prog W 0 (fun _ => true) true m1 3 [k0_4] = some x1_4 := by
    have q : DataW.trod enc Try.prog W 0 (fun _ => true) true m1 3 (([k0_0, k0_1, k0_2, k0_3, k0_4, k0_5].drop 4).take (Try.prog.cellsOf 3)) = some x1_4 := hg1 4 _ rfl
    rw [cells3] at q
    exact q
  have g1_5 : DataW.trod enc Try.prog W 0 (fun _ => true) true m1 3 [k0_5] = some x1_5 := by
    have q : DataW.trod enc Try.prog W 0 (fun _ => true) true m1 3 (([k0_0, k0_1, k0_2, k0_3, k0_4, k0_5].drop 5).take (Try.prog.cellsOf 3)) = some x1_5 := hg1 5 _ rfl
    rw [cells3] at q
    exact q
  obtain ⟨a0_0, e0_0, _, w0_0⟩ := DataW.trod_int Try.underlying3 g1_0
  simp only [List.cons.injEq, and_true] at e0_0
  subst e0_0
  obtain ⟨a0_1, e0_1, _, w0_1⟩ := DataW.trod_int Try.underlying3 g1_1
  simp only [List.cons.injEq, and_true] at e0_1
  subst e0_1
  obtain ⟨a0_2, e0_2, _, w0_2⟩ := DataW.trod_int Try.underlying3 g1_2
  simp only [List.cons.injEq, and_true] at e0_2
  subst e0_2
  obtain ⟨a0_3, e0_3, _, w0_3⟩ := DataW.trod_int Try.underlying3 g1_3
  simp only [List.cons.injEq, and_true] at e0_3
  subst e0_3
  obtain ⟨a0_4, e0_4, _, w0_4⟩ := DataW.trod_int Try.underlying3 g1_4
  simp only [List.cons.injEq, and_true] at e0_4
  subst e0_4
  obtain ⟨a0_5, e0_5, _, w0_5⟩ := DataW.trod_int Try.underlying3 g1_5
  simp only [List.cons.injEq, and_true] at e0_5
  subst e0_5
  obtain ⟨a1, rfl, _, _, w1⟩ := open_int Try.underlying3 (hval 1 3 v1 rfl rfl) h1
  obtain ⟨a2, rfl, _, _, w2⟩ := open_int Try.underlying3 (hval 2 3 v2 rfl rfl) h2
  clear hA0 hval0 hsz0 hsz
  refine (PViewportDepths.frustumlaw32_ViewportDepths.calls 40 a0_0 a0_1 a0_2 a0_3 a0_4 a0_5 a1 a2 true W (Pure.ViewportDepths a0_0 a0_1 a0_2 a0_3 a1 a2 w0_4 w0_5) rfl).mono fun e W' ⟨he, bel⟩ => ?_
  subst he
  exact ⟨_, rfl, _, _, _, [], _, [], hW', trodAll_mk1 (shut_bool Try.underlying4 _), (trodAll_cons_mk (Below.trod laid read26 row26 h0 bel (trod_lt1 h0)) (trodAll_cons_mk (Below.trod laid read3 row3 h1 bel (trod_lt1 h1)) (trodAll_cons_mk (Below.trod laid read3 row3 h2 bel (trod_lt1 h2)) trodAll_mk0))), rfl, bel.frame _, fun h => by cases h⟩
theorem over : Rows.viewportDepthsRow.holds Try.pinned (OpenSpec.ofChange Rows.viewportDepthsSpec) :=
  OpenClaim.holds_of_wide 4 Try.f4 rfl rfl rfl rfl rfl rfl rfl ⟨rfl, rfl, rfl, rfl, rfl⟩ rfl rfl rfl rfl rfl (by kernel_rfl) Try.func4 (by kernel_rfl)
    (of_decide_eq_true (by kernel_rfl)) (by unfold Func.isWrapper; first | (rw [if_pos (by decide +kernel)]; kernel_rfl) | (rw [if_neg (by decide +kernel)]; exact ⟨rfl, rfl⟩))
    (fun os started H enc _ => lifted os started H enc)
theorem proved : Rows.ViewportDepthsSaid := over
#print axioms proved
end Go.Proofs.Ytillihhndaplmaa.viewportDepths
namespace Go.Proofs.Ytillihhndaplmaa
theorem viewportDepths_holds : Rows.ViewportDepthsSaid := viewportDepths.proved
end Go.Proofs.Ytillihhndaplmaa
