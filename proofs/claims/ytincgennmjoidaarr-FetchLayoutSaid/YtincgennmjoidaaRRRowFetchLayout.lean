/- The row. IndexSize, Components and Valid return what the reference returns: for every index type and all attributes, no condition. -/
import Derived.Test.YtincgennmjoidaaRRRows
import Derived.Test.YtincgennmjoidaaRRPureFetchLayout
import Derived.Test.YtincgennmjoidaaRROpen
import Derived.WalkKit
import Derived.ProofKit
import Derived.OpenShut
import Derived.ShutString
import Derived.ChangeOld
import Derived.Below
import Derived.SizedLaws
import Derived.Lib.SmallJoins
import Derived.Carry
import Derived.Laws.IdiomArrays
namespace Go.Proofs.YtincgennmjoidaaRR.fetchLayout
open Go.ChangeShapes Go.WideShapes Go.ChangeAt Go.RowKit Go.Joins Go.Proofs.YtincgennmjoidaaRR.Open
open Go.ChangeMaps (open_string shut_string)
set_option linter.unusedVariables false
set_option linter.unusedSimpArgs false
theorem own : ownKnob Try.prog.godebug = none := by kernel_rfl
theorem laid : laidOutB Try.prog = true := by kernel_rfl
theorem read29 : Try.prog.readableRec 29 = true := by kernel_rfl
theorem row29 : 29 < Try.prog.types.size := of_decide_eq_true (by kernel_rfl)
theorem read30 : Try.prog.readableRec 30 = true := by kernel_rfl
theorem row30 : 30 < Try.prog.types.size := of_decide_eq_true (by kernel_rfl)
theorem cells29 : Try.prog.cellsOf 29 = 1 := by kernel_rfl
theorem cells30 : Try.prog.cellsOf 30 = 1 := by kernel_rfl
theorem cells46 : Try.prog.cellsOf 46 = 4 := by kernel_rfl
theorem cells3 : Try.prog.cellsOf 3 = 1 := by kernel_rfl
theorem cells44 : Try.prog.cellsOf 44 = 1 := by kernel_rfl
theorem list4 {α : Type} (l : List α) (h : l.length = 4) : ∃ c0 c1 c2 c3, l = [c0, c1, c2, c3] := by
  match l, h with
  | [c0, c1, c2, c3], _ => exact ⟨c0, c1, c2, c3, rfl⟩
set_option maxRecDepth 100000 in
set_option maxHeartbeats 4000000 in
theorem lifted (os : Os) (started : os.Started) (H : Type) (enc : TypeId × Value → H) :
    ReturnsInHanded {} Try.checked os 6 .any (Rows.fetchLayoutSpec.pre6 enc Try.prog Try.f6 Rows.fetchLayoutRow.domain false) (Rows.fetchLayoutSpec.post enc Try.prog Try.f6 false true false false) := by
  refine returnsInHanded_of_change_sized (C := Try.checked) own started (by kernel_rfl) Try.func6
    (ChangeSpec.witness6 (enc := enc) (C := Try.checked) false ⟨#[], #[.int .i64 0, .slice none 0 0], []⟩ 8 (by kernel_rfl) (by kernel_rfl) (by kernel_rfl) (by kernel_rfl)) ?_
  intro W base args ds gs before hval0 hW hcnd hsz0 _
  have hsz : (DataW.weightsEach Try.prog (Try.f6.params.toList ++ Rows.fetchLayoutSpec.plain.varTypes Try.prog) (ds ++ gs)).all (· ≤ reachBytes) = true := hsz0
  have hval : ∀ (j : Nat) t v, Try.f6.params[j]? = some t → args[j]? = some v → Value.okWide Try.prog W .any base t v := hval0
  have hW' := hW
  obtain ⟨p, q, hA0, hV, rfl, hfz, hnd⟩ := hW
  have hA : DataW.TrodAll enc Try.prog W 0 (fun _ => true) true Try.f6.params.toList args.toList ds p := hA0
  rw [Try.params6] at hA hval hsz
  obtain ⟨v0, vs0, d0, ds0, p0, q0, hargs, rfl, rfl, h0, r0⟩ := trodAll_cons hA
  obtain ⟨v1, vs1, d1, ds1, p1, q1, rfl, rfl, rfl, h1, r1⟩ := trodAll_cons r0
  obtain ⟨rfl, rfl, rfl⟩ := trodAll_nil r1
  obtain rfl : args = #[v0, v1] := by cases args; simp_all
  obtain ⟨rfl, rfl⟩ := trodVars_none hV
  obtain ⟨a0, rfl, _, _, w0⟩ := open_int Try.underlying29 (hval 0 29 v0 rfl rfl) h0
  obtain ⟨A1, n1, c1, rfl⟩ := okWide_slice Try.underlying30 (hval 1 30 v1 rfl rfl)
  obtain ⟨fu1, hf1⟩ := id h1
  obtain ⟨A1, c1, l1, e1, hk1, hc1, hw1, y1⟩ := open_C (x := (d1, p1)) (d := Go.Proofs.YtincgennmjoidaaRR.PFetchLayout.k46) (Q := fun p => ((Lit.int .i64 p.f0).wf = true ∧ (Lit.int .i64 p.f1).wf = true ∧ (Lit.int .i64 p.f2).wf = true ∧ (Lit.int .i64 p.f3).wf = true)) Try.underlying30 (by kernel_rfl) (B := 32) (by kernel_rfl) (by
    intro fuel cs x h Zx
    obtain ⟨xsq, mq, _, exq, hlq, hsq, hgq⟩ := DataW.trod_struct Try.underlying46 h
    obtain ⟨xq_0, xq_1, xq_2, xq_3, rfl⟩ := list4 xsq hsq
    obtain ⟨k0, k1, k2, k3, rfl⟩ := list4 cs (hlq.trans cells46)
    have gq_0 : DataW.trod enc Try.prog W 0 (fun _ => true) true mq 3 [k0] = some xq_0 := by
      have q : DataW.trod enc Try.prog W 0 (fun _ => true) true mq 3 (([k0, k1, k2, k3].drop 0).take (Try.prog.cellsOf 3)) = some xq_0 := hgq 0 _ rfl
      rw [cells3] at q
      exact q
    have gq_1 : DataW.trod enc Try.prog W 0 (fun _ => true) true mq 3 [k1] = some xq_1 := by
      have q : DataW.trod enc Try.prog W 0 (fun _ => true) true mq 3 (([k0, k1, k2, k3].drop 1).take (Try.prog.cellsOf 3)) = some xq_1 := hgq 1 _ rfl
      rw [cells3] at q
      exact q
    have gq_2 : DataW.trod enc Try.prog W 0 (fun _ => true) true mq 3 [k2] = some xq_2 := by
      have q : DataW.trod enc Try.prog W 0 (fun _ => true) true mq 3 (([k0, k1, k2, k3].drop 2).take (Try.prog.cellsOf 3)) = some xq_2 := hgq 2 _ rfl
      rw [cells3] at q
      exact q
    have gq_3 : DataW.trod enc Try.prog W 0 (fun _ => true) true mq 44 [k3] = some xq_3 := by
      have q : DataW.trod enc Try.prog W 0 (fun _ => true) true mq 44 (([k0, k1, k2, k3].drop 3).take (Try.prog.cellsOf 44)) = some xq_3 := hgq 3 _ rfl
      rw [cells44] at q
      exact q
    obtain ⟨a0, e0, _, w0⟩ := DataW.trod_int Try.underlying3 gq_0
    simp only [List.cons.injEq, and_true] at e0
    subst e0
    obtain ⟨a1, e1, _, w1⟩ := DataW.trod_int Try.underlying3 gq_1
    simp only [List.cons.injEq, and_true] at e1
    subst e1
    obtain ⟨a2, e2, _, w2⟩ := DataW.trod_int Try.underlying3 gq_2
    simp only [List.cons.injEq, and_true] at e2
    subst e2
    obtain ⟨a3, e3, _, w3⟩ := DataW.trod_int Try.underlying44 gq_3
    simp only [List.cons.injEq, and_true] at e3
    subst e3
    exact ⟨⟨a0, a1, a2, a3⟩, Go.Proofs.YtincgennmjoidaaRR.PFetchLayout.k46_mk W _, w0, w1, w2, w3⟩
    ) hf1 (all_each hsz (j := 1) rfl rfl)
  cases e1
  clear hA0 hval0 hsz0 hsz
  refine (PFetchLayout.frustumlaw15_FetchLayout.calls 3000 a0 A1 c1 l1 true W hk1 hc1 (Pure.FetchLayout a0 l1) rfl).mono fun e W' ⟨he, bel⟩ => ?_
  subst he
  exact ⟨_, rfl, _, _, _, [], _, [], hW', trodAll_mk1 (shut_bool Try.underlying4 _), (trodAll_cons_mk (Below.trod laid read29 row29 h0 bel (trod_lt1 h0)) (trodAll_cons_mk (Below.trod laid read30 row30 h1 bel (trod_lt1 h1)) trodAll_mk0)), rfl, bel.frame _, fun h => by cases h⟩
theorem over : Rows.fetchLayoutRow.holds Try.pinned (OpenSpec.ofChange Rows.fetchLayoutSpec) :=
  OpenClaim.holds_of_wide 6 Try.f6 rfl rfl rfl rfl rfl rfl rfl ⟨rfl, rfl, rfl, rfl, rfl⟩ rfl rfl rfl rfl rfl (by kernel_rfl) Try.func6 (by kernel_rfl)
    (of_decide_eq_true (by kernel_rfl)) (by unfold Func.isWrapper; first | (rw [if_pos (by decide +kernel)]; kernel_rfl) | (rw [if_neg (by decide +kernel)]; exact ⟨rfl, rfl⟩))
    (fun os started H enc _ => lifted os started H enc)
theorem proved : Rows.FetchLayoutSaid := over
#print axioms proved
end Go.Proofs.YtincgennmjoidaaRR.fetchLayout
namespace Go.Proofs.YtincgennmjoidaaRR
theorem fetchLayout_holds : Rows.FetchLayoutSaid := fetchLayout.proved
end Go.Proofs.YtincgennmjoidaaRR
