/- The row. Distances, intersections and edges are those of the reference: for all vertices and planes, no condition. -/
import Derived.Test.YtljndeeahnpnjaaRows
import Derived.Test.YtljndeeahnpnjaaC11
import Derived.Test.YtljndeeahnpnjaaRo
import Derived.WalkKit
import Derived.ProofKit
import Derived.OpenShut
import Derived.ShutString
import Derived.ChangeOld
import Derived.Below
import Derived.SizedLaws
import Derived.Lib.SmallJoins
import Derived.Carry
import Derived.Laws.IdiomArrays
namespace Go.Proofs.Ytljndeeahnpnjaa.clipEdges
open Go.ChangeShapes Go.WideShapes Go.ChangeAt Go.RowKit Go.Joins Go.Proofs.Ytljndeeahnpnjaa.Op Go.Proofs.Ytljndeeahnpnjaa.Am Go.Proofs.Ytljndeeahnpnjaa.Cl
set_option linter.unusedVariables false
set_option linter.unusedSimpArgs false
theorem own : ownKnob Try.prog.godebug = none := by kernel_rfl
theorem laid : laidOutB Try.prog = true := by kernel_rfl
theorem read3 : Try.prog.readableRec 3 = true := by kernel_rfl
theorem row3 : 3 < Try.prog.types.size := of_decide_eq_true (by kernel_rfl)
theorem read26 : Try.prog.readableRec 26 = true := by kernel_rfl
theorem row26 : 26 < Try.prog.types.size := of_decide_eq_true (by kernel_rfl)
set_option maxRecDepth 100000 in
set_option maxHeartbeats 4000000 in
theorem lifted (os : Os) (started : os.Started) (H : Type) (enc : TypeId × Value → H) :
    ReturnsInHanded {} Try.checked os 5 .any (Rows.clipEdgesSpec.pre6 enc Try.prog Try.f5 Rows.clipEdgesRow.domain false) (Rows.clipEdgesSpec.post enc Try.prog Try.f5 false true false false) := by
  refine returnsInHanded_of_change_sized (C := Try.checked) own started (by kernel_rfl) Try.func5
    (ChangeSpec.witness6 (enc := enc) (C := Try.checked) false ⟨#[], #[.agg #[.int .i64 0, .int .i64 0, .int .i64 0, .int .i64 0, .slice none 0 0], .agg #[.int .i64 0, .int .i64 0, .int .i64 0, .int .i64 0, .slice none 0 0], .int .i64 0], []⟩ 8 (by kernel_rfl) (by kernel_rfl) (by kernel_rfl) (by kernel_rfl)) ?_
  intro W base args ds gs before hval0 hW hcnd hsz0 _
  have hsz : (DataW.weightsEach Try.prog (Try.f5.params.toList ++ Rows.clipEdgesSpec.plain.varTypes Try.prog) (ds ++ gs)).all (· ≤ reachBytes) = true := hsz0
  have hval : ∀ (j : Nat) t v, Try.f5.params[j]? = some t → args[j]? = some v → Value.okWide Try.prog W .any base t v := hval0
  have hW' := hW
  obtain ⟨p, q, hA0, hV, rfl, hfz, hnd⟩ := hW
  have hA : DataW.TrodAll enc Try.prog W 0 (fun _ => true) true Try.f5.params.toList args.toList ds p := hA0
  rw [Try.params5] at hA hval hsz
  obtain ⟨v0, vs0, d0, ds0, p0, q0, hargs, rfl, rfl, h0, r0⟩ := trodAll_cons hA
  obtain ⟨v1, vs1, d1, ds1, p1, q1, rfl, rfl, rfl, h1, r1⟩ := trodAll_cons r0
  obtain ⟨v2, vs2, d2, ds2, p2, q2, rfl, rfl, rfl, h2, r2⟩ := trodAll_cons r1
  obtain ⟨rfl, rfl, rfl⟩ := trodAll_nil r2
  obtain rfl : args = #[v0, v1, v2] := by cases args; simp_all
  obtain ⟨rfl, rfl⟩ := trodVars_none hV
  obtain ⟨a0, g0, n0⟩ := open_V (hval 0 26 v0 rfl rfl) h0 (all_each hsz (j := 0) rfl rfl)
  obtain ⟨a1, g1, n1⟩ := open_V (hval 1 26 v1 rfl rfl) h1 (all_each hsz (j := 1) rfl rfl)
  obtain ⟨a2, rfl, _, _, w2⟩ := open_int Try.underlying3 (hval 2 3 v2 rfl rfl) h2
  have hs := edgesS_at a0 a1 a2 n0 n1
  clear hA0 hval0 hsz0 hsz
  have hr : RepPs W (fun _ _ => True) [.agg (V.cs a0), .agg (V.cs a1), .c (.int .i64 a2)] [v0, v1, .int .i64 a2] := ⟨g0, g1, .int _ _, trivial⟩
  refine ((frustumlaw31_ClipEdges.ok _ _ hs).2 W _ _ hr).mono fun e W' ⟨v, he, bel, hv⟩ => ?_
  obtain rfl : v = .bool true := by cases hv; rfl
  subst he
  exact ⟨_, rfl, _, _, _, [], _, [], hW', trodAll_mk1 (shut_bool Try.underlying4 _), (trodAll_cons_mk (Below.trod laid read26 row26 h0 bel (trod_lt1 h0)) (trodAll_cons_mk (Below.trod laid read26 row26 h1 bel (trod_lt1 h1)) (trodAll_cons_mk (Below.trod laid read3 row3 h2 bel (trod_lt1 h2)) trodAll_mk0))), rfl, bel.frame _, fun h => by cases h⟩
theorem over : Rows.clipEdgesRow.holds Try.pinned (OpenSpec.ofChange Rows.clipEdgesSpec) :=
  OpenClaim.holds_of_wide 5 Try.f5 rfl rfl rfl rfl rfl rfl rfl ⟨rfl, rfl, rfl, rfl, rfl⟩ rfl rfl rfl rfl rfl (by kernel_rfl) Try.func5 (by kernel_rfl)
    (of_decide_eq_true (by kernel_rfl)) (by unfold Func.isWrapper; first | (rw [if_pos (by decide +kernel)]; kernel_rfl) | (rw [if_neg (by decide +kernel)]; exact ⟨rfl, rfl⟩))
    (fun os started H enc _ => lifted os started H enc)
theorem proved : Rows.ClipEdgesSaid := over
end Go.Proofs.Ytljndeeahnpnjaa.clipEdges
namespace Go.Proofs.Ytljndeeahnpnjaa
theorem clipEdges_holds : Rows.ClipEdgesSaid := clipEdges.proved
end Go.Proofs.Ytljndeeahnpnjaa
