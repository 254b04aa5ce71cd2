/- The row. Indices returns what the reference returns: for every buffer, type and range, no condition. -/
import Derived.Test.YtincgennmjoidaaRRRows
import Derived.Test.YtincgennmjoidaaRRPureFetchIndices
import Derived.Test.YtincgennmjoidaaRROpen
import Derived.WalkKit
import Derived.ProofKit
import Derived.OpenShut
import Derived.ShutString
import Derived.ChangeOld
import Derived.Below
import Derived.SizedLaws
import Derived.Lib.SmallJoins
import Derived.Carry
import Derived.Laws.IdiomArrays
namespace Go.Proofs.YtincgennmjoidaaRR.fetchIndices
open Go.ChangeShapes Go.WideShapes Go.ChangeAt Go.RowKit Go.Joins Go.Proofs.YtincgennmjoidaaRR.Open
open Go.ChangeMaps (open_string shut_string)
set_option linter.unusedVariables false
set_option linter.unusedSimpArgs false
theorem own : ownKnob Try.prog.godebug = none := by kernel_rfl
theorem laid : laidOutB Try.prog = true := by kernel_rfl
theorem read33 : Try.prog.readableRec 33 = true := by kernel_rfl
theorem row33 : 33 < Try.prog.types.size := of_decide_eq_true (by kernel_rfl)
theorem cells33 : Try.prog.cellsOf 33 = 7 := by kernel_rfl
theorem cells28 : Try.prog.cellsOf 28 = 1 := by kernel_rfl
theorem cells5 : Try.prog.cellsOf 5 = 1 := by kernel_rfl
theorem cells29 : Try.prog.cellsOf 29 = 1 := by kernel_rfl
theorem cells3 : Try.prog.cellsOf 3 = 1 := by kernel_rfl
theorem cells30 : Try.prog.cellsOf 30 = 1 := by kernel_rfl
theorem cells46 : Try.prog.cellsOf 46 = 4 := by kernel_rfl
theorem cells44 : Try.prog.cellsOf 44 = 1 := by kernel_rfl
theorem cells31 : Try.prog.cellsOf 31 = 1 := by kernel_rfl
theorem list4 {α : Type} (l : List α) (h : l.length = 4) : ∃ c0 c1 c2 c3, l = [c0, c1, c2, c3] := by
  match l, h with
  | [c0, c1, c2, c3], _ => exact ⟨c0, c1, c2, c3, rfl⟩
theorem list7 {α : Type} (l : List α) (h : l.length = 7) : ∃ c0 c1 c2 c3 c4 c5 c6, l = [c0, c1, c2, c3, c4, c5, c6] := by
  match l, h with
  | [c0, c1, c2, c3, c4, c5, c6], _ => exact ⟨c0, c1, c2, c3, c4, c5, c6, rfl⟩
theorem arr7 {α : Type} (a : Array α) (h : a.size = 7) : ∃ c0 c1 c2 c3 c4 c5 c6, a = #[c0, c1, c2, c3, c4, c5, c6] := by
  obtain ⟨l⟩ := a
  obtain ⟨c0, c1, c2, c3, c4, c5, c6, rfl⟩ := list7 l h
  exact ⟨c0, c1, c2, c3, c4, c5, c6, rfl⟩
set_option maxRecDepth 100000 in
set_option maxHeartbeats 4000000 in
theorem lifted (os : Os) (started : os.Started) (H : Type) (enc : TypeId × Value → H) :
    ReturnsInHanded {} Try.checked os 5 .any (Rows.fetchIndicesSpec.pre6 enc Try.prog Try.f5 Rows.fetchIndicesRow.domain false) (Rows.fetchIndicesSpec.post enc Try.prog Try.f5 false true false false) := by
  refine returnsInHanded_of_change_sized (C := Try.checked) own started (by kernel_rfl) Try.func5
    (ChangeSpec.witness6 (enc := enc) (C := Try.checked) false ⟨#[], #[.agg #[.slice none 0 0, .int .i64 0, .int .i64 0, .int .i64 0, .slice none 0 0, .slice none 0 0, .int .i64 0]], []⟩ 8 (by kernel_rfl) (by kernel_rfl) (by kernel_rfl) (by kernel_rfl)) ?_
  intro W base args ds gs before hval0 hW hcnd hsz0 _
  have hsz : (DataW.weightsEach Try.prog (Try.f5.params.toList ++ Rows.fetchIndicesSpec.plain.varTypes Try.prog) (ds ++ gs)).all (· ≤ reachBytes) = true := hsz0
  have hval : ∀ (j : Nat) t v, Try.f5.params[j]? = some t → args[j]? = some v → Value.okWide Try.prog W .any base t v := hval0
  have hW' := hW
  obtain ⟨p, q, hA0, hV, rfl, hfz, hnd⟩ := hW
  have hA : DataW.TrodAll enc Try.prog W 0 (fun _ => true) true Try.f5.params.toList args.toList ds p := hA0
  rw [Try.params5] at hA hval hsz
  obtain ⟨v0, vs0, d0, ds0, p0, q0, hargs, rfl, rfl, h0, r0⟩ := trodAll_cons hA
  obtain ⟨rfl, rfl, rfl⟩ := trodAll_nil r0
  obtain rfl : args = #[v0] := by cases args; simp_all
  obtain ⟨rfl, rfl⟩ := trodVars_none hV
  obtain ⟨cs0, ec0, hz0⟩ := okWide_struct Try.underlying33 (hval 0 33 v0 rfl rfl)
  subst ec0
  obtain ⟨k0_0, k0_1, k0_2, k0_3, k0_4, k0_5, k0_6, rfl⟩ := arr7 cs0 (hz0.trans cells33)
  obtain ⟨fu0, hf0⟩ := id h0
  replace hf0 : DataW.trod enc Try.prog W 0 (fun _ => true) true fu0 33 [k0_0, k0_1, k0_2, k0_3, k0_4, k0_5, k0_6] = some (d0, p0) := hf0
  have Z0 : (((d0, p0) : DataW H × List MemPlace).1.weights Try.prog 33).all (· ≤ reachBytes) = true := all_each hsz (j := 0) rfl rfl
  obtain ⟨xs1, m1, _, ex1, _, hl1, hg1⟩ := DataW.trod_struct Try.underlying33 hf0
  obtain ⟨x1_0, x1_1, x1_2, x1_3, x1_4, x1_5, x1_6, rfl⟩ := list7 xs1 hl1
  have g1_0 : DataW.trod enc Try.prog W 0 (fun _ => true) true m1 28 [k0_0] = some x1_0 := by
    have q : DataW.trod enc Try.prog W 0 (fun _ => true) true m1 28 (([k0_0, k0_1, k0_2, k0_3, k0_4, k0_5, k0_6].drop 0).take (Try.prog.cellsOf 28)) = some x1_0 := hg1 0 _ rfl
    rw [cells28] at q
    exact q
  have Z1_0 : ((x1_0).1.weights Try.prog 28).all (· ≤ reachBytes) = true := all_struct Try.underlying33 ex1 Z0 0 rfl rfl
  have g1_1 : DataW.trod enc Try.prog W 0 (fun _ => true) true m1 29 [k0_1] = some x1_1 := by
    have q : DataW.trod enc Try.prog W 0 (fun _ => true) true m1 29 (([k0_0, k0_1, k0_2, k0_3, k0_4, k0_5, k0_6].drop 1).take (Try.prog.cellsOf 29)) = some x1_1 := hg1 1 _ rfl
    rw [cells29] at q
    exact q
  have g1_2 : DataW.trod enc Try.prog W 0 (fun _ => true) true m1 3 [k0_2] = some x1_2 := by
    have q : DataW.trod enc Try.prog W 0 (fun _ => true) true m1 3 (([k0_0, k0_1, k0_2, k0_3, k0_4, k0_5, k0_6].drop 2).take (Try.prog.cellsOf 3)) = some x1_2 := hg1 2 _ rfl
    rw [cells3] at q
    exact q
  have g1_3 : DataW.trod enc Try.prog W 0 (fun _ => true) true m1 3 [k0_3] = some x1_3 := by
    have q : DataW.trod enc Try.prog W 0 (fun _ => true) true m1 3 (([k0_0, k0_1, k0_2, k0_3, k0_4, k0_5, k0_6].drop 3).take (Try.prog.cellsOf 3)) = some x1_3 := hg1 3 _ rfl
    rw [cells3] at q
    exact q
  have g1_4 : DataW.trod enc Try.prog W 0 (fun _ => true) true m1 30 [k0_4] = some x1_4 := by
    have q : DataW.trod enc Try.prog W 0 (fun _ => true) true m1 30 (([k0_0, k0_1, k0_2, k0_3, k0_4, k0_5, k0_6].drop 4).take (Try.prog.cellsOf 30)) = some x1_4 := hg1 4 _ rfl
    rw [cells30] at q
    exact q
  have Z1_4 : ((x1_4).1.weights Try.prog 30).all (· ≤ reachBytes) = true := all_struct Try.underlying33 ex1 Z0 4 rfl rfl
  have g1_5 : DataW.trod enc Try.prog W 0 (fun _ => true) true m1 31 [k0_5] = some x1_5 := by
    have q : DataW.trod enc Try.prog W 0 (fun _ => true) true m1 31 (([k0_0, k0_1, k0_2, k0_3, k0_4, k0_5, k0_6].drop 5).take (Try.prog.cellsOf 31)) = some x1_5 := hg1 5 _ rfl
    rw [cells31] at q
    exact q
  have Z1_5 : ((x1_5).1.weights Try.prog 31).all (· ≤ reachBytes) = true := all_struct Try.underlying33 ex1 Z0 5 rfl rfl
  have g1_6 : DataW.trod enc Try.prog W 0 (fun _ => true) true m1 3 [k0_6] = some x1_6 := by
    have q : DataW.trod enc Try.prog W 0 (fun _ => true) true m1 3 (([k0_0, k0_1, k0_2, k0_3, k0_4, k0_5, k0_6].drop 6).take (Try.prog.cellsOf 3)) = some x1_6 := hg1 6 _ rfl
    rw [cells3] at q
    exact q
  obtain ⟨A0_0, c0_0, l0_0, e0_0, hk0_0, hc0_0, hw0_0, y0_0⟩ := open_sl Try.underlying28 Try.underlying5 cells5 (B := 1) (by kernel_rfl) g1_0 Z1_0
  subst e0_0
  obtain ⟨a0_1, e0_1, _, w0_1⟩ := DataW.trod_int Try.underlying29 g1_1
  simp only [List.cons.injEq, and_true] at e0_1
  subst e0_1
  obtain ⟨a0_2, e0_2, _, w0_2⟩ := DataW.trod_int Try.underlying3 g1_2
  simp only [List.cons.injEq, and_true] at e0_2
  subst e0_2
  obtain ⟨a0_3, e0_3, _, w0_3⟩ := DataW.trod_int Try.underlying3 g1_3
  simp only [List.cons.injEq, and_true] at e0_3
  subst e0_3
  obtain ⟨A0_4, c0_4, l0_4, e0_4, hk0_4, hc0_4, hw0_4, y0_4⟩ := open_C (d := Go.Proofs.YtincgennmjoidaaRR.PFetchIndices.k46) (Q := fun p => ((Lit.int .i64 p.f0).wf = true ∧ (Lit.int .i64 p.f1).wf = true ∧ (Lit.int .i64 p.f2).wf = true ∧ (Lit.int .i64 p.f3).wf = true)) Try.underlying30 (by kernel_rfl) (B := 32) (by kernel_rfl) (by
    intro fuel cs x h Zx
    obtain ⟨xsq, mq, _, exq, hlq, hsq, hgq⟩ := DataW.trod_struct Try.underlying46 h
    obtain ⟨xq_0, xq_1, xq_2, xq_3, rfl⟩ := list4 xsq hsq
    obtain ⟨k0, k1, k2, k3, rfl⟩ := list4 cs (hlq.trans cells46)
    have gq_0 : DataW.trod enc Try.prog W 0 (fun _ => true) true mq 3 [k0] = some xq_0 := by
      have q : DataW.trod enc Try.prog W 0 (fun _ => true) true mq 3 (([k0, k1, k2, k3].drop 0).take (Try.prog.cellsOf 3)) = some xq_0 := hgq 0 _ rfl
      rw [cells3] at q
      exact q
    have gq_1 : DataW.trod enc Try.prog W 0 (fun _ => true) true mq 3 [k1] = some xq_1 := by
      have q : DataW.trod enc Try.prog W 0 (fun _ => true) true mq 3 (([k0, k1, k2, k3].drop 1).take (Try.prog.cellsOf 3)) = some xq_1 := hgq 1 _ rfl
      rw [cells3] at q
      exact q
    have gq_2 : DataW.trod enc Try.prog W 0 (fun _ => true) true mq 3 [k2] = some xq_2 := by
      have q : DataW.trod enc Try.prog W 0 (fun _ => true) true mq 3 (([k0, k1, k2, k3].drop 2).take (Try.prog.cellsOf 3)) = some xq_2 := hgq 2 _ rfl
      rw [cells3] at q
      exact q
    have gq_3 : DataW.trod enc Try.prog W 0 (fun _ => true) true mq 44 [k3] = some xq_3 := by
      have q : DataW.trod enc Try.prog W 0 (fun _ => true) true mq 44 (([k0, k1, k2, k3].drop 3).take (Try.prog.cellsOf 44)) = some xq_3 := hgq 3 _ rfl
      rw [cells44] at q
      exact q
    obtain ⟨a0, e0, _, w0⟩ := DataW.trod_int Try.underlying3 gq_0
    simp only [List.cons.injEq, and_true] at e0
    subst e0
    obtain ⟨a1, e1, _, w1⟩ := DataW.trod_int Try.underlying3 gq_1
    simp only [List.cons.injEq, and_true] at e1
    subst e1
    obtain ⟨a2, e2, _, w2⟩ := DataW.trod_int Try.underlying3 gq_2
    simp only [List.cons.injEq, and_true] at e2
    subst e2
    obtain ⟨a3, e3, _, w3⟩ := DataW.trod_int Try.underlying44 gq_3
    simp only [List.cons.injEq, and_true] at e3
    subst e3
    exact ⟨⟨a0, a1, a2, a3⟩, Go.Proofs.YtincgennmjoidaaRR.PFetchIndices.k46_mk W _, w0, w1, w2, w3⟩
    ) g1_4 Z1_4
  subst e0_4
  obtain ⟨A0_5, c0_5, l0_5, e0_5, hk0_5, hc0_5, hw0_5, y0_5⟩ := open_C (d := Go.Proofs.YtincgennmjoidaaRRW.PrintWords.Kd.slice 5 (Go.Proofs.YtincgennmjoidaaRRW.PrintWords.Kd.int .u8)) (Q := fun p => ((∀ pq ∈ p, (Lit.int .u8 pq).wf = true) ∧ p.length * 1 ≤ 140737488351232)) Try.underlying31 (by kernel_rfl) (B := 24) (by kernel_rfl) (by
    intro fuel cs x h Zx
    obtain ⟨c0, rfl⟩ : ∃ c, cs = [c] := by
      rcases DataW.trod_slice Try.underlying28 h with ⟨h1, _⟩ | ⟨_, _, _, _, _, _, _, h1, _⟩
      · exact ⟨_, h1⟩
      · exact ⟨_, h1⟩
    obtain ⟨A, c, l, ee, hk, hc, hw, y⟩ := open_sl Try.underlying28 Try.underlying5 cells5 (B := 1) (by kernel_rfl) h Zx
    subst ee
    exact ⟨l, ⟨A, c, rfl, hc, hk⟩, hw, y⟩
    ) g1_5 Z1_5
  subst e0_5
  obtain ⟨a0_6, e0_6, _, w0_6⟩ := DataW.trod_int Try.underlying3 g1_6
  simp only [List.cons.injEq, and_true] at e0_6
  subst e0_6
  clear hA0 hval0 hsz0 hsz
  refine (PFetchIndices.frustumlaw15_FetchIndices.calls 1200 A0_0 c0_0 l0_0 a0_1 a0_2 a0_3 A0_4 c0_4 l0_4 A0_5 c0_5 l0_5 a0_6 true W hk0_0 hc0_0 hk0_4 hc0_4 hk0_5 hc0_5 (Pure.FetchIndices a0_1 a0_2 a0_3 l0_4 l0_5 a0_6 hw0_0 y0_0) rfl).mono fun e W' ⟨he, bel⟩ => ?_
  subst he
  exact ⟨_, rfl, _, _, _, [], _, [], hW', trodAll_mk1 (shut_bool Try.underlying4 _), (trodAll_cons_mk (Below.trod laid read33 row33 h0 bel (trod_lt1 h0)) trodAll_mk0), rfl, bel.frame _, fun h => by cases h⟩
theorem over : Rows.fetchIndicesRow.holds Try.pinned (OpenSpec.ofChange Rows.fetchIndicesSpec) :=
  OpenClaim.holds_of_wide 5 Try.f5 rfl rfl rfl rfl rfl rfl rfl ⟨rfl, rfl, rfl, rfl, rfl⟩ rfl rfl rfl rfl rfl (by kernel_rfl) Try.func5 (by kernel_rfl)
    (of_decide_eq_true (by kernel_rfl)) (by unfold Func.isWrapper; first | (rw [if_pos (by decide +kernel)]; kernel_rfl) | (rw [if_neg (by decide +kernel)]; exact ⟨rfl, rfl⟩))
    (fun os started H enc _ => lifted os started H enc)
theorem proved : Rows.FetchIndicesSaid := over
#print axioms proved
end Go.Proofs.YtincgennmjoidaaRR.fetchIndices
namespace Go.Proofs.YtincgennmjoidaaRR
theorem fetchIndices_holds : Rows.FetchIndicesSaid := fetchIndices.proved
end Go.Proofs.YtincgennmjoidaaRR
