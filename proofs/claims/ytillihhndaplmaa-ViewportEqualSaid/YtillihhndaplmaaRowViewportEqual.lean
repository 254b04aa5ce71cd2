/- The row. Equal returns what the reference returns, and a vertex equals itself: for all vertices, no condition. -/
import Derived.Test.YtillihhndaplmaaRows
import Derived.Test.YtillihhndaplmaaPureViewportEqual
import Derived.Test.YtillihhndaplmaaOpen
import Derived.WalkKit
import Derived.ProofKit
import Derived.OpenShut
import Derived.ShutString
import Derived.ChangeOld
import Derived.Below
import Derived.SizedLaws
import Derived.Lib.SmallJoins
import Derived.Carry
import Derived.Laws.IdiomArrays
namespace Go.Proofs.Ytillihhndaplmaa.viewportEqual
open Go.ChangeShapes Go.WideShapes Go.ChangeAt Go.RowKit Go.Joins Go.Proofs.Ytillihhndaplmaa.Open
open Go.ChangeMaps (open_string shut_string)
set_option linter.unusedVariables false
set_option linter.unusedSimpArgs false
theorem own : ownKnob Try.prog.godebug = none := by kernel_rfl
theorem laid : laidOutB Try.prog = true := by kernel_rfl
theorem read36 : Try.prog.readableRec 36 = true := by kernel_rfl
theorem row36 : 36 < Try.prog.types.size := of_decide_eq_true (by kernel_rfl)
theorem cells36 : Try.prog.cellsOf 36 = 5 := by kernel_rfl
theorem cells3 : Try.prog.cellsOf 3 = 1 := by kernel_rfl
theorem cells31 : Try.prog.cellsOf 31 = 1 := by kernel_rfl
theorem list5 {α : Type} (l : List α) (h : l.length = 5) : ∃ c0 c1 c2 c3 c4, l = [c0, c1, c2, c3, c4] := by
  match l, h with
  | [c0, c1, c2, c3, c4], _ => exact ⟨c0, c1, c2, c3, c4, rfl⟩
theorem arr5 {α : Type} (a : Array α) (h : a.size = 5) : ∃ c0 c1 c2 c3 c4, a = #[c0, c1, c2, c3, c4] := by
  obtain ⟨l⟩ := a
  obtain ⟨c0, c1, c2, c3, c4, rfl⟩ := list5 l h
  exact ⟨c0, c1, c2, c3, c4, rfl⟩
set_option maxRecDepth 100000 in
set_option maxHeartbeats 4000000 in
theorem lifted (os : Os) (started : os.Started) (H : Type) (enc : TypeId × Value → H) :
    ReturnsInHanded {} Try.checked os 10 .any (Rows.viewportEqualSpec.pre6 enc Try.prog Try.f10 Rows.viewportEqualRow.domain false) (Rows.viewportEqualSpec.post enc Try.prog Try.f10 false true false false) := by
  refine returnsInHanded_of_change_sized (C := Try.checked) own started (by kernel_rfl) Try.func10
    (ChangeSpec.witness6 (enc := enc) (C := Try.checked) false ⟨#[], #[.agg #[.int .i64 0, .int .i64 0, .int .i64 0, .int .i64 0, .slice none 0 0], .agg #[.int .i64 0, .int .i64 0, .int .i64 0, .int .i64 0, .slice none 0 0]], []⟩ 8 (by kernel_rfl) (by kernel_rfl) (by kernel_rfl) (by kernel_rfl)) ?_
  intro W base args ds gs before hval0 hW hcnd hsz0 _
  have hsz : (DataW.weightsEach Try.prog (Try.f10.params.toList ++ Rows.viewportEqualSpec.plain.varTypes Try.prog) (ds ++ gs)).all (· ≤ reachBytes) = true := hsz0
  have hval : ∀ (j : Nat) t v, Try.f10.params[j]? = some t → args[j]? = some v → Value.okWide Try.prog W .any base t v := hval0
  have hW' := hW
  obtain ⟨p, q, hA0, hV, rfl, hfz, hnd⟩ := hW
  have hA : DataW.TrodAll enc Try.prog W 0 (fun _ => true) true Try.f10.params.toList args.toList ds p := hA0
  rw [Try.params10] at hA hval hsz
  obtain ⟨v0, vs0, d0, ds0, p0, q0, hargs, rfl, rfl, h0, r0⟩ := trodAll_cons hA
  obtain ⟨v1, vs1, d1, ds1, p1, q1, rfl, rfl, rfl, h1, r1⟩ := trodAll_cons r0
  obtain ⟨rfl, rfl, rfl⟩ := trodAll_nil r1
  obtain rfl : args = #[v0, v1] := by cases args; simp_all
  obtain ⟨rfl, rfl⟩ := trodVars_none hV
  obtain ⟨cs0, ec0, hz0⟩ := okWide_struct Try.underlying36 (hval 0 36 v0 rfl rfl)
  subst ec0
  obtain ⟨k0_0, k0_1, k0_2, k0_3, k0_4, rfl⟩ := arr5 cs0 (hz0.trans cells36)
  obtain ⟨fu0, hf0⟩ := id h0
  replace hf0 : DataW.trod enc Try.prog W 0 (fun _ => true) true fu0 36 [k0_0, k0_1, k0_2, k0_3, k0_4] = some (d0, p0) := hf0
  have Z0 : (((d0, p0) : DataW H × List MemPlace).1.weights Try.prog 36).all (· ≤ reachBytes) = true := all_each hsz (j := 0) rfl rfl
  obtain ⟨xs1, m1, _, ex1, _, hl1, hg1⟩ := DataW.trod_struct Try.underlying36 hf0
  obtain ⟨x1_0, x1_1, x1_2, x1_3, x1_4, rfl⟩ := list5 xs1 hl1
  have g1_0 : DataW.trod enc Try.prog W 0 (fun _ => true) true m1 3 [k0_0] = some x1_0 := by
    have q : DataW.trod enc Try.prog W 0 (fun _ => true) true m1 3 (([k0_0, k0_1, k0_2, k0_3, k0_4].drop 0).take (Try.prog.cellsOf 3)) = some x1_0 := hg1 0 _ rfl
    rw [cells3] at q
    exact q
  have g1_1 : DataW.trod enc Try.prog W 0 (fun _ => true) true m1 3 [k0_1] = some x1_1 := by
    have q : DataW.trod enc Try.prog W 0 (fun _ => true) true m1 3 (([k0_0, k0_1, k0_2, k0_3, k0_4].drop 1).take (Try.prog.cellsOf 3)) = some x1_1 := hg1 1 _ rfl
    rw [cells3] at q
    exact q
  have g1_2 : DataW.trod enc Try.prog W 0 (fun _ => true) true m1 3 [k0_2] = some x1_2 := by
    have q : DataW.trod enc Try.prog W 0 (fun _ => true) true m1 3 (([k0_0, k0_1, k0_2, k0_3, k0_4].drop 2).take (Try.prog.cellsOf 3)) = some x1_2 := hg1 2 _ rfl
    rw [cells3] at q
    exact q
  have g1_3 : DataW.trod enc Try.prog W 0 (fun _ => true) true m1 3 [k0_3] = some x1_3 := by
    have q : DataW.trod enc Try.prog W 0 (fun _ => true) true m1 3 (([k0_0, k0_1, k0_2, k0_3, k0_4].drop 3).take (Try.prog.cellsOf 3)) = some x1_3 := hg1 3 _ rfl
    rw [cells3] at q
    exact q
  have g1_4 : DataW.trod enc Try.prog W 0 (fun _ => true) true m1 31 [k0_4] = some x1_4 := by
    have q : DataW.trod enc Try.prog W 0 (fun _ => true) true m1 31 (([k0_0, k0_1, k0_2, k0_3, k0_4].drop 4).take (Try.prog.cellsOf 31)) = some x1_4 := hg1 4 _ rfl
    rw [cells31] at q
    exact q
  have Z1_4 : ((x1_4).1.weights Try.prog 31).all (· ≤ reachBytes) = true := all_struct Try.underlying36 ex1 Z0 4 rfl rfl
  obtain ⟨a0_0, e0_0, _, w0_0⟩ := DataW.trod_int Try.underlying3 g1_0
  simp only [List.cons.injEq, and_true] at e0_0
  subst e0_0
  obtain ⟨a0_1, e0_1, _, w0_1⟩ := DataW.trod_int Try.underlying3 g1_1
  simp only [List.cons.injEq, and_true] at e0_1
  subst e0_1
  obtain ⟨a0_2, e0_2, _, w0_2⟩ := DataW.trod_int Try.underlying3 g1_2
  simp only [List.cons.injEq, and_true] at e0_2
  subst e0_2
  obtain ⟨a0_3, e0_3, _, w0_3⟩ := DataW.trod_int Try.underlying3 g1_3
  simp only [List.cons.injEq, and_true] at e0_3
  subst e0_3
  obtain ⟨A0_4, c0_4, l0_4, e0_4, hk0_4, hc0_4, hw0_4, y0_4⟩ := open_sl Try.underlying31 Try.underlying3 cells3 (B := 8) (by kernel_rfl) g1_4 Z1_4
  subst e0_4
  obtain ⟨cs1, ec1, hz1⟩ := okWide_struct Try.underlying36 (hval 1 36 v1 rfl rfl)
  subst ec1
  obtain ⟨k1_0, k1_1, k1_2, k1_3, k1_4, rfl⟩ := arr5 cs1 (hz1.trans cells36)
  obtain ⟨fu1, hf1⟩ := id h1
  replace hf1 : DataW.trod enc Try.prog W 0 (fun _ => true) true fu1 36 [k1_0, k1_1, k1_2, k1_3, k1_4] = some (d1, p1) := hf1
  have Z1 : (((d1, p1) : DataW H × List MemPlace).1.weights Try.prog 36).all (· ≤ reachBytes) = true := all_each hsz (j := 1) rfl rfl
  obtain ⟨xs2, m2, _, ex2, _, hl2, hg2⟩ := DataW.trod_struct Try.underlying36 hf1
  obtain ⟨x2_0, x2_1, x2_2, x2_3, x2_4, rfl⟩ := list5 xs2 hl2
  have g2_0 : DataW.trod enc Try.prog W 0 (fun _ => true) true m2 3 [k1_0] = some x2_0 := by
    have q : DataW.trod enc Try.prog W 0 (fun _ => true) true m2 3 (([k1_0, k1_1, k1_2, k1_3, k1_4].drop 0).take (Try.prog.cellsOf 3)) = some x2_0 := hg2 0 _ rfl
    rw [cells3] at q
    exact q
  have g2_1 : DataW.trod enc Try.prog W 0 (fun _ => true) true m2 3 [k1_1] = some x2_1 := by
    have q : DataW.trod enc Try.prog W 0 (fun _ => true) true m2 3 (([k1_0, k1_1, k1_2, k1_3, k1_4].drop 1).take (Try.prog.cellsOf 3)) = some x2_1 := hg2 1 _ rfl
    rw [cells3] at q
    exact q
  have g2_2 : DataW.trod enc Try.prog W 0 (fun _ => true) true m2 3 [k1_2] = some x2_2 := by
    have q : DataW.trod enc Try.prog W 0 (fun _ => true) true m2 3 (([k1_0, k1_1, k1_2, k1_3, k1_4].drop 2).take (Try.prog.cellsOf 3)) = some x2_2 := hg2 2 _ rfl
    rw [cells3] at q
    exact q
  have g2_3 : DataW.trod enc Try.prog W 0 (fun _ => true) true m2 3 [k1_3] = some x2_3 := by
    have q : DataW.trod enc Try.prog W 0 (fun _ => true) true m2 3 (([k1_0, k1_1, k1_2, k1_3, k1_4].drop 3).take (Try.prog.cellsOf 3)) = some x2_3 := hg2 3 _ rfl
    rw [cells3] at q
    exact q
  have g2_4 : DataW.trod enc Try.prog W 0 (fun _ => true) true m2 31 [k1_4] = some x2_4 := by
    have q : DataW.trod enc Try.prog W 0 (fun _ => true) true m2 31 (([k1_0, k1_1, k1_2, k1_3, k1_4].drop 4).take (Try.prog.cellsOf 31)) = some x2_4 := hg2 4 _ rfl
    rw [cells31] at q
    exact q
  have Z2_4 : ((x2_4).1.weights Try.prog 31).all (· ≤ reachBytes) = true := all_struct Try.underlying36 ex2 Z1 4 rfl rfl
  obtain ⟨a1_0, e1_0, _, w1_0⟩ := DataW.trod_int Try.underlying3 g2_0
  simp only [List.cons.injEq, and_true] at e1_0
  subst e1_0
  obtain ⟨a1_1, e1_1, _, w1_1⟩ := DataW.trod_int Try.underlying3 g2_1
  simp only [List.cons.injEq, and_true] at e1_1
  subst e1_1
  obtain ⟨a1_2, e1_2, _, w1_2⟩ := DataW.trod_int Try.underlying3 g2_2
  simp only [List.cons.injEq, and_true] at e1_2
  subst e1_2
  obtain ⟨a1_3, e1_3, _, w1_3⟩ := DataW.trod_int Try.underlying3 g2_3
  simp only [List.cons.injEq, and_true] at e1_3
  subst e1_3
  obtain ⟨A1_4, c1_4, l1_4, e1_4, hk1_4, hc1_4, hw1_4, y1_4⟩ := open_sl Try.underlying31 Try.underlying3 cells3 (B := 8) (by kernel_rfl) g2_4 Z2_4
  subst e1_4
  clear hA0 hval0 hsz0 hsz
  refine (PViewportEqual.frustumlaw32_ViewportEqual.calls (l0_4.length + 40) a0_0 a0_1 a0_2 a0_3 A0_4 c0_4 l0_4 a1_0 a1_1 a1_2 a1_3 A1_4 c1_4 l1_4 true W hk0_4 hc0_4 hk1_4 hc1_4 (Pure.ViewportEqual a0_0 a0_1 a0_2 a0_3 l0_4 a1_0 a1_1 a1_2 a1_3 l1_4 y0_4) rfl).mono fun e W' ⟨he, bel⟩ => ?_
  subst he
  exact ⟨_, rfl, _, _, _, [], _, [], hW', trodAll_mk1 (shut_bool Try.underlying4 _), (trodAll_cons_mk (Below.trod laid read36 row36 h0 bel (trod_lt1 h0)) (trodAll_cons_mk (Below.trod laid read36 row36 h1 bel (trod_lt1 h1)) trodAll_mk0)), rfl, bel.frame _, fun h => by cases h⟩
theorem over : Rows.viewportEqualRow.holds Try.pinned (OpenSpec.ofChange Rows.viewportEqualSpec) :=
  OpenClaim.holds_of_wide 10 Try.f10 rfl rfl rfl rfl rfl rfl rfl ⟨rfl, rfl, rfl, rfl, rfl⟩ rfl rfl rfl rfl rfl (by kernel_rfl) Try.func10 (by kernel_rfl)
    (of_decide_eq_true (by kernel_rfl)) (by unfold Func.isWrapper; first | (rw [if_pos (by decide +kernel)]; kernel_rfl) | (rw [if_neg (by decide +kernel)]; exact ⟨rfl, rfl⟩))
    (fun os started H enc _ => lifted os started H enc)
theorem proved : Rows.ViewportEqualSaid := over
#print axioms proved
end Go.Proofs.Ytillihhndaplmaa.viewportEqual
namespace Go.Proofs.Ytillihhndaplmaa
theorem viewportEqual_holds : Rows.ViewportEqualSaid := viewportEqual.proved
end Go.Proofs.Ytillihhndaplmaa
