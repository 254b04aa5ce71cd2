/- Chapter 31: Edge, Against, Polygon, Triangles, Clip, Inside. No condition beyond those that each theorem states. -/
import Derived.Test.YtljndeeahnpnjaaC3
namespace Go.Proofs.Ytljndeeahnpnjaa.Cl
open Go Go.RowKit Go.Proofs.Ytljndeeahnpnjaa.Am
set_option linter.unusedVariables false
set_option linter.unusedSimpArgs false
def edgeF (a b : V) (k : Int) : List V :=
  if distF (satV a) k ≥ 0 then (if distF (satV b) k ≥ 0 then [satV b] else [interF (satV a) (satV b) k])
  else if distF (satV b) k ≥ 0 then [interF (satV a) (satV b) k, satV b] else []
def edgeS : Am.Spec := (sig3 aV aV aInt).spec fun a => if lenOk a.1 ∧ lenOk a.2.1 then some (rVs (edgeF a.1 a.2.1 a.2.2)) else none
def clip_Against.r0 : List MOp := [⟨some 4, .mv (.const (.slice none 0 0)), none⟩]
def clip_Against.r1 : List MOp := [⟨some 5, .mv (.const (.slice none 0 0)), none⟩]
def clip_Against.r2 : List MOp := [⟨some 9, .mv (.tmp 0), none⟩, ⟨some 10, .len (.tmp 9), none⟩, ⟨some 11, .mv (.const (.int .i64 0)), none⟩]
def clip_Against.r3 : List MOp := [⟨some 12, .bin .lss (.tmp 11) (.tmp 10), none⟩]
def clip_Against.r4 : List MOp := [⟨some 13, .mv (.tmp 11), none⟩, ⟨some 14, .idx 5 (.tmp 9) (.tmp 11), none⟩, ⟨some 15, .ld 5 true (some 1000000) (.tmp 14), none⟩, ⟨some 7, .new [.p (.int .i64 0), .p (.int .i64 0), .p (.int .i64 0), .p (.int .i64 0), .tk .tight 0 []], none⟩, ⟨some 6, .mv (.tmp 13), none⟩, ⟨none, .st 5 (some 7) (.tmp 7) (.tmp 15), none⟩]
def clip_Against.r5 : List MOp := [⟨some 16, .mv (.tmp 0), none⟩, ⟨some 17, .mv (.tmp 6), none⟩, ⟨some 18, .mv (.tmp 0), none⟩, ⟨some 19, .len (.tmp 18), none⟩, ⟨some 20, .bin .add (.tmp 17) (.tmp 19), none⟩, ⟨some 21, .bin .sub (.tmp 20) (.const (.int .i64 1)), none⟩, ⟨some 22, .mv (.tmp 0), none⟩, ⟨some 23, .len (.tmp 22), none⟩, ⟨some 24, .bin .rem (.tmp 21) (.tmp 23), none⟩, ⟨some 25, .idx 5 (.tmp 16) (.tmp 24), none⟩, ⟨some 26, .ld 5 true (some 1000000) (.tmp 25), none⟩, ⟨some 8, .new [.p (.int .i64 0), .p (.int .i64 0), .p (.int .i64 0), .p (.int .i64 0), .tk .tight 0 []], none⟩, ⟨none, .st 5 (some 8) (.tmp 8) (.tmp 26), none⟩]
def clip_Against.r6 : List MOp := [⟨some 27, .mv (.tmp 5), none⟩, ⟨some 28, .ld 5 true (some 8) (.tmp 8), none⟩, ⟨some 29, .ld 5 true (some 7) (.tmp 7), none⟩, ⟨some 30, .mv (.tmp 1), none⟩, ⟨some 31, .call 13 [.tmp 28, .tmp 29, .tmp 30], none⟩, ⟨some 32, .app 5 56 (.tmp 27) (.tmp 31), none⟩, ⟨some 5, .mv (.tmp 32), none⟩]
def clip_Against.r7 : List MOp := [⟨some 33, .bin .add (.tmp 11) (.const (.int .i64 1)), none⟩, ⟨some 11, .mv (.tmp 33), none⟩]
def clip_Against.b8 : MC := (.seq (.reg clip_Against.r3) (.seq (.cond (.tmp 12) .skip (.exit 0)) (.seq (.block 1 (.seq (.reg clip_Against.r4) (.seq (.reg clip_Against.r5) (.reg clip_Against.r6)))) (.reg clip_Against.r7))))
def clip_Against.r9 : List MOp := [⟨some 34, .mv (.tmp 5), none⟩, ⟨some 4, .mv (.tmp 34), none⟩]
def clip_Against.m : MC := .seq (.reg clip_Against.r0) (.seq (.reg clip_Against.r1) (.seq (.seq (.reg clip_Against.r2) (.block 0 (.loop clip_Against.b8))) (.seq (.reg clip_Against.r9) .ret)))
theorem clip_Against.tr : trF Try.prog [23] Try.f26 = some (clip_Against.m, .tmp 4) := by kernel_rfl
def clip_Polygon.r0 : List MOp := [⟨some 1, .mkb (.tmp 0), none⟩, ⟨some 2, .mv (.const (.slice none 0 0)), none⟩]
def clip_Polygon.r1 : List MOp := [⟨some 5, .idxA 3 5 (.tmp 1) (.const (.int .i64 0)), none⟩, ⟨some 6, .ld 5 true (some 1) (.tmp 5), none⟩, ⟨some 7, .call 32 [.tmp 6], none⟩, ⟨some 8, .idxA 3 5 (.tmp 1) (.const (.int .i64 1)), none⟩, ⟨some 9, .ld 5 true (some 1) (.tmp 8), none⟩, ⟨some 10, .call 32 [.tmp 9], none⟩, ⟨some 11, .idxA 3 5 (.tmp 1) (.const (.int .i64 2)), none⟩, ⟨some 12, .ld 5 true (some 1) (.tmp 11), none⟩, ⟨some 13, .call 32 [.tmp 12], none⟩, ⟨some 14, .bldS 3 5 [.p (.int .i64 0), .p (.int .i64 0), .p (.int .i64 0), .p (.int .i64 0), .tk .tight 0 [], .p (.int .i64 0), .p (.int .i64 0), .p (.int .i64 0), .p (.int .i64 0), .tk .tight 0 [], .p (.int .i64 0), .p (.int .i64 0), .p (.int .i64 0), .p (.int .i64 0), .tk .tight 0 []] [(0, (5, .tmp 7)), (5, (5, .tmp 10)), (10, (5, .tmp 13))], none⟩, ⟨some 3, .mv (.tmp 14), none⟩]
def clip_Polygon.r2 : List MOp := [⟨some 15, .call 30 [], none⟩, ⟨some 16, .len (.tmp 15), none⟩, ⟨some 17, .mv (.const (.int .i64 0)), none⟩]
def clip_Polygon.r3 : List MOp := [⟨some 18, .bin .lss (.tmp 17) (.tmp 16), none⟩]
def clip_Polygon.r4 : List MOp := [⟨some 19, .mv (.tmp 17), none⟩, ⟨some 4, .mv (.tmp 19), none⟩]
def clip_Polygon.r5 : List MOp := [⟨some 20, .mv (.tmp 3), none⟩, ⟨some 21, .mv (.tmp 4), none⟩, ⟨some 22, .call 26 [.tmp 20, .tmp 21], none⟩, ⟨some 3, .mv (.tmp 22), none⟩]
def clip_Polygon.r6 : List MOp := [⟨some 23, .bin .add (.tmp 17) (.const (.int .i64 1)), none⟩, ⟨some 17, .mv (.tmp 23), none⟩]
def clip_Polygon.b7 : MC := (.seq (.reg clip_Polygon.r3) (.seq (.cond (.tmp 18) .skip (.exit 0)) (.seq (.block 1 (.seq (.reg clip_Polygon.r4) (.reg clip_Polygon.r5))) (.reg clip_Polygon.r6))))
def clip_Polygon.r8 : List MOp := [⟨some 24, .mv (.tmp 3), none⟩, ⟨some 2, .mv (.tmp 24), none⟩]
def clip_Polygon.m : MC := .seq (.reg clip_Polygon.r0) (.seq (.reg clip_Polygon.r1) (.seq (.seq (.reg clip_Polygon.r2) (.block 0 (.loop clip_Polygon.b7))) (.seq (.reg clip_Polygon.r8) .ret)))
theorem clip_Polygon.tr : trF Try.prog [23] Try.f16 = some (clip_Polygon.m, .tmp 2) := by kernel_rfl
def clip_Triangles.r0 : List MOp := [⟨some 2, .mv (.const (.slice none 0 0)), none⟩]
def clip_Triangles.r1 : List MOp := [⟨some 3, .mv (.const (.slice none 0 0)), none⟩]
def clip_Triangles.r2 : List MOp := [⟨some 4, .mv (.const (.int .i64 1)), none⟩]
def clip_Triangles.r3 : List MOp := [⟨some 5, .mv (.tmp 4), none⟩, ⟨some 6, .bin .add (.tmp 5) (.const (.int .i64 1)), none⟩, ⟨some 7, .mv (.tmp 0), none⟩, ⟨some 8, .len (.tmp 7), none⟩, ⟨some 9, .bin .lss (.tmp 6) (.tmp 8), none⟩]
def clip_Triangles.r4 : List MOp := [⟨some 12, .mv (.tmp 3), none⟩, ⟨some 13, .mv (.tmp 0), none⟩, ⟨some 14, .idx 5 (.tmp 13) (.const (.int .i64 0)), none⟩, ⟨some 15, .ld 5 true (some 1000000) (.tmp 14), none⟩, ⟨some 16, .call 32 [.tmp 15], none⟩, ⟨some 17, .mv (.tmp 0), none⟩, ⟨some 18, .mv (.tmp 4), none⟩, ⟨some 19, .idx 5 (.tmp 17) (.tmp 18), none⟩, ⟨some 20, .ld 5 true (some 1000000) (.tmp 19), none⟩, ⟨some 21, .call 32 [.tmp 20], none⟩, ⟨some 22, .mv (.tmp 0), none⟩, ⟨some 23, .mv (.tmp 4), none⟩, ⟨some 24, .bin .add (.tmp 23) (.const (.int .i64 1)), none⟩, ⟨some 25, .idx 5 (.tmp 22) (.tmp 24), none⟩, ⟨some 26, .ld 5 true (some 1000000) (.tmp 25), none⟩, ⟨some 27, .call 32 [.tmp 26], none⟩, ⟨some 28, .bld [.p (.int .i64 0), .p (.int .i64 0), .p (.int .i64 0), .p (.int .i64 0), .tk .tight 0 [], .p (.int .i64 0), .p (.int .i64 0), .p (.int .i64 0), .p (.int .i64 0), .tk .tight 0 [], .p (.int .i64 0), .p (.int .i64 0), .p (.int .i64 0), .p (.int .i64 0), .tk .tight 0 []] [(0, (5, .tmp 16)), (5, (5, .tmp 21)), (10, (5, .tmp 27))], none⟩, ⟨some 29, .bldS 1 15 [.p (.int .i64 0), .p (.int .i64 0), .p (.int .i64 0), .p (.int .i64 0), .tk .tight 0 [], .p (.int .i64 0), .p (.int .i64 0), .p (.int .i64 0), .p (.int .i64 0), .tk .tight 0 [], .p (.int .i64 0), .p (.int .i64 0), .p (.int .i64 0), .p (.int .i64 0), .tk .tight 0 []] [(0, (15, .tmp 28))], none⟩, ⟨some 30, .app 15 168 (.tmp 12) (.tmp 29), none⟩, ⟨some 3, .mv (.tmp 30), none⟩]
def clip_Triangles.r5 : List MOp := [⟨some 10, .mv (.tmp 4), none⟩, ⟨some 11, .bin .add (.tmp 10) (.const (.int .i64 1)), none⟩, ⟨some 4, .mv (.tmp 11), none⟩]
def clip_Triangles.b6 : MC := (.seq (.seq (.reg clip_Triangles.r3) (.cond (.tmp 9) .skip (.exit 0))) (.seq (.block 1 (.reg clip_Triangles.r4)) (.reg clip_Triangles.r5)))
def clip_Triangles.r7 : List MOp := [⟨some 31, .mv (.tmp 3), none⟩, ⟨some 2, .mv (.tmp 31), none⟩]
def clip_Triangles.m : MC := .seq (.reg clip_Triangles.r0) (.seq (.reg clip_Triangles.r1) (.seq (.seq (.reg clip_Triangles.r2) (.block 0 (.loop clip_Triangles.b6))) (.seq (.reg clip_Triangles.r7) .ret)))
theorem clip_Triangles.tr : trF Try.prog [23] Try.f28 = some (clip_Triangles.m, .tmp 2) := by kernel_rfl
def clip_Clip.r0 : List MOp := [⟨some 1, .mkb (.tmp 0), none⟩, ⟨some 2, .mv (.const (.slice none 0 0)), none⟩]
def clip_Clip.r1 : List MOp := [⟨some 3, .ld 15 true (some 1) (.tmp 1), none⟩, ⟨some 4, .call 16 [.tmp 3], none⟩, ⟨some 5, .call 28 [.tmp 4], none⟩, ⟨some 2, .mv (.tmp 5), none⟩]
def clip_Clip.m : MC := .seq (.reg clip_Clip.r0) (.seq (.reg clip_Clip.r1) .ret)
theorem clip_Clip.tr : trF Try.prog [23] Try.f19 = some (clip_Clip.m, .tmp 2) := by kernel_rfl
def clip_Inside.r0 : List MOp := [⟨some 1, .mkb (.tmp 0), none⟩, ⟨some 2, .mv (.const (.bool false)), none⟩]
def clip_Inside.r1 : List MOp := [⟨some 5, .call 30 [], none⟩, ⟨some 6, .len (.tmp 5), none⟩, ⟨some 7, .mv (.const (.int .i64 0)), none⟩]
def clip_Inside.r2 : List MOp := [⟨some 8, .bin .lss (.tmp 7) (.tmp 6), none⟩]
def clip_Inside.r3 : List MOp := [⟨some 9, .idx 1 (.tmp 5) (.tmp 7), none⟩, ⟨some 10, .ld 1 false (some 1000000) (.tmp 9), none⟩, ⟨some 4, .mv (.tmp 10), none⟩]
def clip_Inside.r4 : List MOp := [⟨some 11, .mv (.tmp 4), none⟩, ⟨some 12, .adr 0 (.tmp 1), none⟩, ⟨some 13, .ld 4 true (some 1) (.tmp 12), none⟩, ⟨some 14, .callv (.tmp 11) [.tmp 13], none⟩, ⟨some 15, .bin .lss (.tmp 14) (.const (.int .i64 0)), none⟩]
def clip_Inside.r5 : List MOp := [⟨some 2, .mv (.const (.bool false)), none⟩]
def clip_Inside.r6 : List MOp := [⟨some 16, .bin .add (.tmp 7) (.const (.int .i64 1)), none⟩, ⟨some 7, .mv (.tmp 16), none⟩]
def clip_Inside.b7 : MC := (.seq (.reg clip_Inside.r2) (.seq (.cond (.tmp 8) .skip (.exit 0)) (.seq (.block 1 (.seq (.reg clip_Inside.r3) (.seq (.reg clip_Inside.r4) (.cond (.tmp 15) (.seq (.reg clip_Inside.r5) .ret) .skip)))) (.reg clip_Inside.r6))))
def clip_Inside.r8 : List MOp := [⟨some 2, .mv (.const (.bool true)), none⟩]
def clip_Inside.m : MC := .seq (.reg clip_Inside.r0) (.seq (.seq (.reg clip_Inside.r1) (.block 0 (.loop clip_Inside.b7))) (.seq (.reg clip_Inside.r8) .ret))
theorem clip_Inside.tr : trF Try.prog [23] Try.f23 = some (clip_Inside.m, .tmp 2) := by kernel_rfl
theorem lenOk_sat {v : V} (h : lenOk v) : lenOk (satV v) := by simpa [lenOk, satV] using h
theorem clip_Edge.ok : SpecOK Try.prog 13 edgeS := (sig3 aV aV aInt).ok fun a r h => by
  obtain ⟨a, b, k⟩ := a
  (try simp only at h)
  split at h
  case isFalse => cases h
  rename_i hl
  obtain ⟨ha, hb⟩ := hl
  cases h
  refine fnLaw Try.func13 clip_Edge.tr (by kernel_rfl) hE (ok_cons clip_saturated.ok (ok_cons clip_Distance.ok (ok_cons clip_Intersect.ok ok_nil))) ?_
  unfold clip_Edge.m
  refine seq_reg (σ' := ?_) ?_ ?_
  rotate_left
  · simp -implicitDefEqProofs only [clip_Edge.r0, ex_nil, ex_cons, exK_some, st_n, st_g, gd_b, rn_v, rn_m, rn_s, rn_a, think, prep, mkDsts, St.clear, ev, upd, init, PV.av, St.put, forgetBox, AV.cells, AV.pv, pvs, fillX, chunks, binV, xints, ldX, AV.plain, baseOk, fg_p, fg_tk, mkG, Sig.spec, tab, St.of, List.getElem?_cons_zero, List.getElem?_cons_succ, List.getElem?_nil, Option.map_some, Option.map_none, Option.bind_some, Option.isSome_some, Option.isSome_none, if_true, if_false, reduceIte, Nat.reduceEqDiff, List.map_cons, List.map_nil, List.drop_succ_cons, List.drop_zero, List.take_succ_cons, List.take_zero, List.length_cons, List.length_nil, List.length_append, List.cons_append, List.nil_append, List.append_nil, Nat.reduceAdd, Nat.reduceMul, Nat.reduceLeDiff, Nat.reduceBEq, Nat.zero_le, Nat.le_refl, Nat.zero_add, Nat.add_zero, and_self, and_true, true_and, or_true, true_or, Bool.not_true, Bool.not_false, Bool.false_eq_true, beq_self_eq_true, reduceCtorEq, Int.reduceBEq, Int.reduceBNe, Int.reduceLT, Int.reduceLE, Int.reduceAdd, Int.reduceToNat, Int.toNat_zero, Int.reduceEq, Int.toNat_natCast, c3, eq_self, Int.le_refl, decide_eq_true_eq, decide_eq_false_iff_not, not_true_eq_false, not_false_eq_true, decide_true, decide_false, Bool.true_eq_false, sig3, aV, aInt, V.cs]; rfl
  have da := dV_lit a
  have db := dV_lit b
  have da' := dV_lit (satV a)
  have db' := dV_lit (satV b)
  have hla := lenOk_sat ha
  have hlb := lenOk_sat hb
  obtain ⟨c, hc⟩ : ∃ c, interF (satV a) (satV b) k = c := ⟨_, rfl⟩
  have hF : edgeF a b k = if distF (satV a) k ≥ 0 then (if distF (satV b) k ≥ 0 then [satV b] else [c]) else if distF (satV b) k ≥ 0 then [c, satV b] else [] := by rw [← hc]; rfl
  rw [hF]
  generalize hsa : satV a = sa at *
  generalize hsb : satV b = sb at *
  refine seq_reg (σ' := ?_) ?_ ?_
  rotate_left
  · simp -implicitDefEqProofs only [clip_Edge.r1, ex_nil, ex_cons, exK_some, st_n, st_g, gd_b, rn_v, rn_m, rn_s, rn_a, think, prep, mkDsts, St.clear, ev, upd, init, PV.av, St.put, forgetBox, AV.cells, AV.pv, pvs, fillX, chunks, binV, xints, ldX, AV.plain, baseOk, fg_p, fg_tk, mkG, Sig.spec, tab, St.of, List.getElem?_cons_zero, List.getElem?_cons_succ, List.getElem?_nil, Option.map_some, Option.map_none, Option.bind_some, Option.isSome_some, Option.isSome_none, if_true, if_false, reduceIte, Nat.reduceEqDiff, List.map_cons, List.map_nil, List.drop_succ_cons, List.drop_zero, List.take_succ_cons, List.take_zero, List.length_cons, List.length_nil, List.length_append, List.cons_append, List.nil_append, List.append_nil, Nat.reduceAdd, Nat.reduceMul, Nat.reduceLeDiff, Nat.reduceBEq, Nat.zero_le, Nat.le_refl, Nat.zero_add, Nat.add_zero, and_self, and_true, true_and, or_true, true_or, Bool.not_true, Bool.not_false, Bool.false_eq_true, beq_self_eq_true, reduceCtorEq, Int.reduceBEq, Int.reduceBNe, Int.reduceLT, Int.reduceLE, Int.reduceAdd, Int.reduceToNat, Int.toNat_zero, Int.reduceEq, Int.toNat_natCast, c3, eq_self, Int.le_refl, decide_eq_true_eq, decide_eq_false_iff_not, not_true_eq_false, not_false_eq_true, decide_true, decide_false, Bool.true_eq_false, satVS, sig1, aV, da, db, ha, hb, rV, V.cs, hsa, hsb]; rfl
  refine seq_ex (σ'' := St.of [(2, rInt k), (3, .box 3 0), (4, .box 4 0), (7, rBool (decide (distF sa k ≥ 0))), (8, rBool (decide (distF sb k ≥ 0)))] [(3, sa.cs.map .p), (4, sb.cs.map .p)] [] (0)) ⟨_, by simp -implicitDefEqProofs only [clip_Edge.r2, ex_nil, ex_cons, exK_some, st_n, st_g, gd_b, rn_v, rn_m, rn_s, rn_a, think, prep, mkDsts, St.clear, ev, upd, init, PV.av, St.put, forgetBox, AV.cells, AV.pv, pvs, fillX, chunks, binV, xints, ldX, AV.plain, baseOk, fg_p, fg_tk, mkG, Sig.spec, tab, St.of, List.getElem?_cons_zero, List.getElem?_cons_succ, List.getElem?_nil, Option.map_some, Option.map_none, Option.bind_some, Option.isSome_some, Option.isSome_none, if_true, if_false, reduceIte, Nat.reduceEqDiff, List.map_cons, List.map_nil, List.drop_succ_cons, List.drop_zero, List.take_succ_cons, List.take_zero, List.length_cons, List.length_nil, List.length_append, List.cons_append, List.nil_append, List.append_nil, Nat.reduceAdd, Nat.reduceMul, Nat.reduceLeDiff, Nat.reduceBEq, Nat.zero_le, Nat.le_refl, Nat.zero_add, Nat.add_zero, and_self, and_true, true_and, or_true, true_or, Bool.not_true, Bool.not_false, Bool.false_eq_true, beq_self_eq_true, reduceCtorEq, Int.reduceBEq, Int.reduceBNe, Int.reduceLT, Int.reduceLE, Int.reduceAdd, Int.reduceToNat, Int.toNat_zero, Int.reduceEq, Int.toNat_natCast, c3, eq_self, Int.le_refl, decide_eq_true_eq, decide_eq_false_iff_not, not_true_eq_false, not_false_eq_true, decide_true, decide_false, Bool.true_eq_false, distS, sig2, aV, aInt, da', db', rInt]; rfl, sub_of (all_cons rfl (all_cons rfl (all_cons rfl (all_cons rfl (all_cons rfl all_nil))))) (all_cons rfl (all_cons rfl all_nil)) all_nil (Nat.le_refl _)⟩ ?_
  refine seq_ (block_ ?_)
  by_cases h1 : distF sa k ≥ 0
  · by_cases h2 : distF sb k ≥ 0
    · rw [if_pos h1, if_pos h2]
      refine seq_reg (σ' := ?_) ?_ ?_
      rotate_left
      · simp -implicitDefEqProofs only [clip_Edge.r3, ex_nil, ex_cons, exK_some, st_n, st_g, gd_b, rn_v, rn_m, rn_s, rn_a, think, prep, mkDsts, St.clear, ev, upd, init, PV.av, St.put, forgetBox, AV.cells, AV.pv, pvs, fillX, chunks, binV, xints, ldX, AV.plain, baseOk, fg_p, fg_tk, mkG, Sig.spec, tab, St.of, List.getElem?_cons_zero, List.getElem?_cons_succ, List.getElem?_nil, Option.map_some, Option.map_none, Option.bind_some, Option.isSome_some, Option.isSome_none, if_true, if_false, reduceIte, Nat.reduceEqDiff, List.map_cons, List.map_nil, List.drop_succ_cons, List.drop_zero, List.take_succ_cons, List.take_zero, List.length_cons, List.length_nil, List.length_append, List.cons_append, List.nil_append, List.append_nil, Nat.reduceAdd, Nat.reduceMul, Nat.reduceLeDiff, Nat.reduceBEq, Nat.zero_le, Nat.le_refl, Nat.zero_add, Nat.add_zero, and_self, and_true, true_and, or_true, true_or, Bool.not_true, Bool.not_false, Bool.false_eq_true, beq_self_eq_true, reduceCtorEq, Int.reduceBEq, Int.reduceBNe, Int.reduceLT, Int.reduceLE, Int.reduceAdd, Int.reduceToNat, Int.toNat_zero, Int.reduceEq, Int.toNat_natCast, c3, eq_self, Int.le_refl, decide_eq_true_eq, decide_eq_false_iff_not, not_true_eq_false, not_false_eq_true, decide_true, decide_false, Bool.true_eq_false, rBool, h1, h2]; rfl
      refine cond_ rfl (fun _ => ?_) (fun h => by cases h)
      refine seq_reg (σ' := ?_) ?_ ?_
      rotate_left
      · simp -implicitDefEqProofs only [clip_Edge.r4, ex_nil, ex_cons, exK_some, st_n, st_g, gd_b, rn_v, rn_m, rn_s, rn_a, think, prep, mkDsts, St.clear, ev, upd, init, PV.av, St.put, forgetBox, AV.cells, AV.pv, pvs, fillX, chunks, binV, xints, ldX, AV.plain, baseOk, fg_p, fg_tk, mkG, Sig.spec, tab, St.of, List.getElem?_cons_zero, List.getElem?_cons_succ, List.getElem?_nil, Option.map_some, Option.map_none, Option.bind_some, Option.isSome_some, Option.isSome_none, if_true, if_false, reduceIte, Nat.reduceEqDiff, List.map_cons, List.map_nil, List.drop_succ_cons, List.drop_zero, List.take_succ_cons, List.take_zero, List.length_cons, List.length_nil, List.length_append, List.cons_append, List.nil_append, List.append_nil, Nat.reduceAdd, Nat.reduceMul, Nat.reduceLeDiff, Nat.reduceBEq, Nat.zero_le, Nat.le_refl, Nat.zero_add, Nat.add_zero, and_self, and_true, true_and, or_true, true_or, Bool.not_true, Bool.not_false, Bool.false_eq_true, beq_self_eq_true, reduceCtorEq, Int.reduceBEq, Int.reduceBNe, Int.reduceLT, Int.reduceLE, Int.reduceAdd, Int.reduceToNat, Int.toNat_zero, Int.reduceEq, Int.toNat_natCast, c3, eq_self, Int.le_refl, decide_eq_true_eq, decide_eq_false_iff_not, not_true_eq_false, not_false_eq_true, decide_true, decide_false, Bool.true_eq_false, V.cs]; rfl
      exact ret_ ⟨.inl rfl, _, rfl, XVle.tk _ _ _⟩
    · rw [if_pos h1, if_neg h2]
      refine seq_reg (σ' := ?_) ?_ ?_
      rotate_left
      · simp -implicitDefEqProofs only [clip_Edge.r3, ex_nil, ex_cons, exK_some, st_n, st_g, gd_b, rn_v, rn_m, rn_s, rn_a, think, prep, mkDsts, St.clear, ev, upd, init, PV.av, St.put, forgetBox, AV.cells, AV.pv, pvs, fillX, chunks, binV, xints, ldX, AV.plain, baseOk, fg_p, fg_tk, mkG, Sig.spec, tab, St.of, List.getElem?_cons_zero, List.getElem?_cons_succ, List.getElem?_nil, Option.map_some, Option.map_none, Option.bind_some, Option.isSome_some, Option.isSome_none, if_true, if_false, reduceIte, Nat.reduceEqDiff, List.map_cons, List.map_nil, List.drop_succ_cons, List.drop_zero, List.take_succ_cons, List.take_zero, List.length_cons, List.length_nil, List.length_append, List.cons_append, List.nil_append, List.append_nil, Nat.reduceAdd, Nat.reduceMul, Nat.reduceLeDiff, Nat.reduceBEq, Nat.zero_le, Nat.le_refl, Nat.zero_add, Nat.add_zero, and_self, and_true, true_and, or_true, true_or, Bool.not_true, Bool.not_false, Bool.false_eq_true, beq_self_eq_true, reduceCtorEq, Int.reduceBEq, Int.reduceBNe, Int.reduceLT, Int.reduceLE, Int.reduceAdd, Int.reduceToNat, Int.toNat_zero, Int.reduceEq, Int.toNat_natCast, c3, eq_self, Int.le_refl, decide_eq_true_eq, decide_eq_false_iff_not, not_true_eq_false, not_false_eq_true, decide_true, decide_false, Bool.true_eq_false, rBool, h1, h2]; rfl
      refine cond_ rfl (fun h => by cases h) (fun _ => ?_)
      refine seq_reg (σ' := ?_) ?_ ?_
      rotate_left
      · simp -implicitDefEqProofs only [clip_Edge.r5, ex_nil, ex_cons, exK_some, st_n, st_g, gd_b, rn_v, rn_m, rn_s, rn_a, think, prep, mkDsts, St.clear, ev, upd, init, PV.av, St.put, forgetBox, AV.cells, AV.pv, pvs, fillX, chunks, binV, xints, ldX, AV.plain, baseOk, fg_p, fg_tk, mkG, Sig.spec, tab, St.of, List.getElem?_cons_zero, List.getElem?_cons_succ, List.getElem?_nil, Option.map_some, Option.map_none, Option.bind_some, Option.isSome_some, Option.isSome_none, if_true, if_false, reduceIte, Nat.reduceEqDiff, List.map_cons, List.map_nil, List.drop_succ_cons, List.drop_zero, List.take_succ_cons, List.take_zero, List.length_cons, List.length_nil, List.length_append, List.cons_append, List.nil_append, List.append_nil, Nat.reduceAdd, Nat.reduceMul, Nat.reduceLeDiff, Nat.reduceBEq, Nat.zero_le, Nat.le_refl, Nat.zero_add, Nat.add_zero, and_self, and_true, true_and, or_true, true_or, Bool.not_true, Bool.not_false, Bool.false_eq_true, beq_self_eq_true, reduceCtorEq, Int.reduceBEq, Int.reduceBNe, Int.reduceLT, Int.reduceLE, Int.reduceAdd, Int.reduceToNat, Int.toNat_zero, Int.reduceEq, Int.toNat_natCast, c3, eq_self, Int.le_refl, decide_eq_true_eq, decide_eq_false_iff_not, not_true_eq_false, not_false_eq_true, decide_true, decide_false, Bool.true_eq_false, rBool, h1]; rfl
      refine cond_ rfl (fun _ => ?_) (fun h => by cases h)
      refine seq_reg (σ' := ?_) ?_ ?_
      rotate_left
      · simp -implicitDefEqProofs only [clip_Edge.r6, ex_nil, ex_cons, exK_some, st_n, st_g, gd_b, rn_v, rn_m, rn_s, rn_a, think, prep, mkDsts, St.clear, ev, upd, init, PV.av, St.put, forgetBox, AV.cells, AV.pv, pvs, fillX, chunks, binV, xints, ldX, AV.plain, baseOk, fg_p, fg_tk, mkG, Sig.spec, tab, St.of, List.getElem?_cons_zero, List.getElem?_cons_succ, List.getElem?_nil, Option.map_some, Option.map_none, Option.bind_some, Option.isSome_some, Option.isSome_none, if_true, if_false, reduceIte, Nat.reduceEqDiff, List.map_cons, List.map_nil, List.drop_succ_cons, List.drop_zero, List.take_succ_cons, List.take_zero, List.length_cons, List.length_nil, List.length_append, List.cons_append, List.nil_append, List.append_nil, Nat.reduceAdd, Nat.reduceMul, Nat.reduceLeDiff, Nat.reduceBEq, Nat.zero_le, Nat.le_refl, Nat.zero_add, Nat.add_zero, and_self, and_true, true_and, or_true, true_or, Bool.not_true, Bool.not_false, Bool.false_eq_true, beq_self_eq_true, reduceCtorEq, Int.reduceBEq, Int.reduceBNe, Int.reduceLT, Int.reduceLE, Int.reduceAdd, Int.reduceToNat, Int.toNat_zero, Int.reduceEq, Int.toNat_natCast, c3, eq_self, Int.le_refl, decide_eq_true_eq, decide_eq_false_iff_not, not_true_eq_false, not_false_eq_true, decide_true, decide_false, Bool.true_eq_false, V.cs, interS, sig3, aV, aInt, da', db', hla, hlb, rV, rInt, hc]; rfl
      exact ret_ ⟨.inl rfl, _, rfl, XVle.tk _ _ _⟩
  · by_cases h2 : distF sb k ≥ 0
    · rw [if_neg h1, if_pos h2]
      refine seq_reg (σ' := ?_) ?_ ?_
      rotate_left
      · simp -implicitDefEqProofs only [clip_Edge.r3, ex_nil, ex_cons, exK_some, st_n, st_g, gd_b, rn_v, rn_m, rn_s, rn_a, think, prep, mkDsts, St.clear, ev, upd, init, PV.av, St.put, forgetBox, AV.cells, AV.pv, pvs, fillX, chunks, binV, xints, ldX, AV.plain, baseOk, fg_p, fg_tk, mkG, Sig.spec, tab, St.of, List.getElem?_cons_zero, List.getElem?_cons_succ, List.getElem?_nil, Option.map_some, Option.map_none, Option.bind_some, Option.isSome_some, Option.isSome_none, if_true, if_false, reduceIte, Nat.reduceEqDiff, List.map_cons, List.map_nil, List.drop_succ_cons, List.drop_zero, List.take_succ_cons, List.take_zero, List.length_cons, List.length_nil, List.length_append, List.cons_append, List.nil_append, List.append_nil, Nat.reduceAdd, Nat.reduceMul, Nat.reduceLeDiff, Nat.reduceBEq, Nat.zero_le, Nat.le_refl, Nat.zero_add, Nat.add_zero, and_self, and_true, true_and, or_true, true_or, Bool.not_true, Bool.not_false, Bool.false_eq_true, beq_self_eq_true, reduceCtorEq, Int.reduceBEq, Int.reduceBNe, Int.reduceLT, Int.reduceLE, Int.reduceAdd, Int.reduceToNat, Int.toNat_zero, Int.reduceEq, Int.toNat_natCast, c3, eq_self, Int.le_refl, decide_eq_true_eq, decide_eq_false_iff_not, not_true_eq_false, not_false_eq_true, decide_true, decide_false, Bool.true_eq_false, rBool, h1, h2]; rfl
      refine cond_ rfl (fun h => by cases h) (fun _ => ?_)
      refine seq_reg (σ' := ?_) ?_ ?_
      rotate_left
      · simp -implicitDefEqProofs only [clip_Edge.r5, ex_nil, ex_cons, exK_some, st_n, st_g, gd_b, rn_v, rn_m, rn_s, rn_a, think, prep, mkDsts, St.clear, ev, upd, init, PV.av, St.put, forgetBox, AV.cells, AV.pv, pvs, fillX, chunks, binV, xints, ldX, AV.plain, baseOk, fg_p, fg_tk, mkG, Sig.spec, tab, St.of, List.getElem?_cons_zero, List.getElem?_cons_succ, List.getElem?_nil, Option.map_some, Option.map_none, Option.bind_some, Option.isSome_some, Option.isSome_none, if_true, if_false, reduceIte, Nat.reduceEqDiff, List.map_cons, List.map_nil, List.drop_succ_cons, List.drop_zero, List.take_succ_cons, List.take_zero, List.length_cons, List.length_nil, List.length_append, List.cons_append, List.nil_append, List.append_nil, Nat.reduceAdd, Nat.reduceMul, Nat.reduceLeDiff, Nat.reduceBEq, Nat.zero_le, Nat.le_refl, Nat.zero_add, Nat.add_zero, and_self, and_true, true_and, or_true, true_or, Bool.not_true, Bool.not_false, Bool.false_eq_true, beq_self_eq_true, reduceCtorEq, Int.reduceBEq, Int.reduceBNe, Int.reduceLT, Int.reduceLE, Int.reduceAdd, Int.reduceToNat, Int.toNat_zero, Int.reduceEq, Int.toNat_natCast, c3, eq_self, Int.le_refl, decide_eq_true_eq, decide_eq_false_iff_not, not_true_eq_false, not_false_eq_true, decide_true, decide_false, Bool.true_eq_false, rBool, h1]; rfl
      refine cond_ rfl (fun h => by cases h) (fun _ => ?_)
      refine seq_reg (σ' := ?_) ?_ ?_
      rotate_left
      · simp -implicitDefEqProofs only [clip_Edge.r7, ex_nil, ex_cons, exK_some, st_n, st_g, gd_b, rn_v, rn_m, rn_s, rn_a, think, prep, mkDsts, St.clear, ev, upd, init, PV.av, St.put, forgetBox, AV.cells, AV.pv, pvs, fillX, chunks, binV, xints, ldX, AV.plain, baseOk, fg_p, fg_tk, mkG, Sig.spec, tab, St.of, List.getElem?_cons_zero, List.getElem?_cons_succ, List.getElem?_nil, Option.map_some, Option.map_none, Option.bind_some, Option.isSome_some, Option.isSome_none, if_true, if_false, reduceIte, Nat.reduceEqDiff, List.map_cons, List.map_nil, List.drop_succ_cons, List.drop_zero, List.take_succ_cons, List.take_zero, List.length_cons, List.length_nil, List.length_append, List.cons_append, List.nil_append, List.append_nil, Nat.reduceAdd, Nat.reduceMul, Nat.reduceLeDiff, Nat.reduceBEq, Nat.zero_le, Nat.le_refl, Nat.zero_add, Nat.add_zero, and_self, and_true, true_and, or_true, true_or, Bool.not_true, Bool.not_false, Bool.false_eq_true, beq_self_eq_true, reduceCtorEq, Int.reduceBEq, Int.reduceBNe, Int.reduceLT, Int.reduceLE, Int.reduceAdd, Int.reduceToNat, Int.toNat_zero, Int.reduceEq, Int.toNat_natCast, c3, eq_self, Int.le_refl, decide_eq_true_eq, decide_eq_false_iff_not, not_true_eq_false, not_false_eq_true, decide_true, decide_false, Bool.true_eq_false, rBool, h2]; rfl
      refine cond_ rfl (fun _ => ?_) (fun h => by cases h)
      refine seq_reg (σ' := ?_) ?_ ?_
      rotate_left
      · simp -implicitDefEqProofs only [clip_Edge.r8, ex_nil, ex_cons, exK_some, st_n, st_g, gd_b, rn_v, rn_m, rn_s, rn_a, think, prep, mkDsts, St.clear, ev, upd, init, PV.av, St.put, forgetBox, AV.cells, AV.pv, pvs, fillX, chunks, binV, xints, ldX, AV.plain, baseOk, fg_p, fg_tk, mkG, Sig.spec, tab, St.of, List.getElem?_cons_zero, List.getElem?_cons_succ, List.getElem?_nil, Option.map_some, Option.map_none, Option.bind_some, Option.isSome_some, Option.isSome_none, if_true, if_false, reduceIte, Nat.reduceEqDiff, List.map_cons, List.map_nil, List.drop_succ_cons, List.drop_zero, List.take_succ_cons, List.take_zero, List.length_cons, List.length_nil, List.length_append, List.cons_append, List.nil_append, List.append_nil, Nat.reduceAdd, Nat.reduceMul, Nat.reduceLeDiff, Nat.reduceBEq, Nat.zero_le, Nat.le_refl, Nat.zero_add, Nat.add_zero, and_self, and_true, true_and, or_true, true_or, Bool.not_true, Bool.not_false, Bool.false_eq_true, beq_self_eq_true, reduceCtorEq, Int.reduceBEq, Int.reduceBNe, Int.reduceLT, Int.reduceLE, Int.reduceAdd, Int.reduceToNat, Int.toNat_zero, Int.reduceEq, Int.toNat_natCast, c3, eq_self, Int.le_refl, decide_eq_true_eq, decide_eq_false_iff_not, not_true_eq_false, not_false_eq_true, decide_true, decide_false, Bool.true_eq_false, V.cs, interS, sig3, aV, aInt, da', db', hla, hlb, rV, rInt, hc]; rfl
      exact ret_ ⟨.inl rfl, _, rfl, XVle.tk _ _ _⟩
    · rw [if_neg h1, if_neg h2]
      refine seq_reg (σ' := ?_) ?_ ?_
      rotate_left
      · simp -implicitDefEqProofs only [clip_Edge.r3, ex_nil, ex_cons, exK_some, st_n, st_g, gd_b, rn_v, rn_m, rn_s, rn_a, think, prep, mkDsts, St.clear, ev, upd, init, PV.av, St.put, forgetBox, AV.cells, AV.pv, pvs, fillX, chunks, binV, xints, ldX, AV.plain, baseOk, fg_p, fg_tk, mkG, Sig.spec, tab, St.of, List.getElem?_cons_zero, List.getElem?_cons_succ, List.getElem?_nil, Option.map_some, Option.map_none, Option.bind_some, Option.isSome_some, Option.isSome_none, if_true, if_false, reduceIte, Nat.reduceEqDiff, List.map_cons, List.map_nil, List.drop_succ_cons, List.drop_zero, List.take_succ_cons, List.take_zero, List.length_cons, List.length_nil, List.length_append, List.cons_append, List.nil_append, List.append_nil, Nat.reduceAdd, Nat.reduceMul, Nat.reduceLeDiff, Nat.reduceBEq, Nat.zero_le, Nat.le_refl, Nat.zero_add, Nat.add_zero, and_self, and_true, true_and, or_true, true_or, Bool.not_true, Bool.not_false, Bool.false_eq_true, beq_self_eq_true, reduceCtorEq, Int.reduceBEq, Int.reduceBNe, Int.reduceLT, Int.reduceLE, Int.reduceAdd, Int.reduceToNat, Int.toNat_zero, Int.reduceEq, Int.toNat_natCast, c3, eq_self, Int.le_refl, decide_eq_true_eq, decide_eq_false_iff_not, not_true_eq_false, not_false_eq_true, decide_true, decide_false, Bool.true_eq_false, rBool, h1, h2]; rfl
      refine cond_ rfl (fun h => by cases h) (fun _ => ?_)
      refine seq_reg (σ' := ?_) ?_ ?_
      rotate_left
      · simp -implicitDefEqProofs only [clip_Edge.r5, ex_nil, ex_cons, exK_some, st_n, st_g, gd_b, rn_v, rn_m, rn_s, rn_a, think, prep, mkDsts, St.clear, ev, upd, init, PV.av, St.put, forgetBox, AV.cells, AV.pv, pvs, fillX, chunks, binV, xints, ldX, AV.plain, baseOk, fg_p, fg_tk, mkG, Sig.spec, tab, St.of, List.getElem?_cons_zero, List.getElem?_cons_succ, List.getElem?_nil, Option.map_some, Option.map_none, Option.bind_some, Option.isSome_some, Option.isSome_none, if_true, if_false, reduceIte, Nat.reduceEqDiff, List.map_cons, List.map_nil, List.drop_succ_cons, List.drop_zero, List.take_succ_cons, List.take_zero, List.length_cons, List.length_nil, List.length_append, List.cons_append, List.nil_append, List.append_nil, Nat.reduceAdd, Nat.reduceMul, Nat.reduceLeDiff, Nat.reduceBEq, Nat.zero_le, Nat.le_refl, Nat.zero_add, Nat.add_zero, and_self, and_true, true_and, or_true, true_or, Bool.not_true, Bool.not_false, Bool.false_eq_true, beq_self_eq_true, reduceCtorEq, Int.reduceBEq, Int.reduceBNe, Int.reduceLT, Int.reduceLE, Int.reduceAdd, Int.reduceToNat, Int.toNat_zero, Int.reduceEq, Int.toNat_natCast, c3, eq_self, Int.le_refl, decide_eq_true_eq, decide_eq_false_iff_not, not_true_eq_false, not_false_eq_true, decide_true, decide_false, Bool.true_eq_false, rBool, h1]; rfl
      refine cond_ rfl (fun h => by cases h) (fun _ => ?_)
      refine seq_reg (σ' := ?_) ?_ ?_
      rotate_left
      · simp -implicitDefEqProofs only [clip_Edge.r7, ex_nil, ex_cons, exK_some, st_n, st_g, gd_b, rn_v, rn_m, rn_s, rn_a, think, prep, mkDsts, St.clear, ev, upd, init, PV.av, St.put, forgetBox, AV.cells, AV.pv, pvs, fillX, chunks, binV, xints, ldX, AV.plain, baseOk, fg_p, fg_tk, mkG, Sig.spec, tab, St.of, List.getElem?_cons_zero, List.getElem?_cons_succ, List.getElem?_nil, Option.map_some, Option.map_none, Option.bind_some, Option.isSome_some, Option.isSome_none, if_true, if_false, reduceIte, Nat.reduceEqDiff, List.map_cons, List.map_nil, List.drop_succ_cons, List.drop_zero, List.take_succ_cons, List.take_zero, List.length_cons, List.length_nil, List.length_append, List.cons_append, List.nil_append, List.append_nil, Nat.reduceAdd, Nat.reduceMul, Nat.reduceLeDiff, Nat.reduceBEq, Nat.zero_le, Nat.le_refl, Nat.zero_add, Nat.add_zero, and_self, and_true, true_and, or_true, true_or, Bool.not_true, Bool.not_false, Bool.false_eq_true, beq_self_eq_true, reduceCtorEq, Int.reduceBEq, Int.reduceBNe, Int.reduceLT, Int.reduceLE, Int.reduceAdd, Int.reduceToNat, Int.toNat_zero, Int.reduceEq, Int.toNat_natCast, c3, eq_self, Int.le_refl, decide_eq_true_eq, decide_eq_false_iff_not, not_true_eq_false, not_false_eq_true, decide_true, decide_false, Bool.true_eq_false, rBool, h2]; rfl
      refine cond_ rfl (fun h => by cases h) (fun _ => ?_)
      refine skip_ (norm_ ?_)
      refine seq_reg (σ' := ?_) ?_ ?_
      rotate_left
      · simp -implicitDefEqProofs only [clip_Edge.r9, ex_nil, ex_cons, exK_some, st_n, st_g, gd_b, rn_v, rn_m, rn_s, rn_a, think, prep, mkDsts, St.clear, ev, upd, init, PV.av, St.put, forgetBox, AV.cells, AV.pv, pvs, fillX, chunks, binV, xints, ldX, AV.plain, baseOk, fg_p, fg_tk, mkG, Sig.spec, tab, St.of, List.getElem?_cons_zero, List.getElem?_cons_succ, List.getElem?_nil, Option.map_some, Option.map_none, Option.bind_some, Option.isSome_some, Option.isSome_none, if_true, if_false, reduceIte, Nat.reduceEqDiff, List.map_cons, List.map_nil, List.drop_succ_cons, List.drop_zero, List.take_succ_cons, List.take_zero, List.length_cons, List.length_nil, List.length_append, List.cons_append, List.nil_append, List.append_nil, Nat.reduceAdd, Nat.reduceMul, Nat.reduceLeDiff, Nat.reduceBEq, Nat.zero_le, Nat.le_refl, Nat.zero_add, Nat.add_zero, and_self, and_true, true_and, or_true, true_or, Bool.not_true, Bool.not_false, Bool.false_eq_true, beq_self_eq_true, reduceCtorEq, Int.reduceBEq, Int.reduceBNe, Int.reduceLT, Int.reduceLE, Int.reduceAdd, Int.reduceToNat, Int.toNat_zero, Int.reduceEq, Int.toNat_natCast, c3, eq_self, Int.le_refl, decide_eq_true_eq, decide_eq_false_iff_not, not_true_eq_false, not_false_eq_true, decide_true, decide_false, Bool.true_eq_false]; rfl
      exact ret_ ⟨.inl rfl, _, rfl, XVle.tk0 _ _ _⟩
theorem edge_len (a b : V) (k : Int) : (edgeF a b k).length ≤ 2 := by
  unfold edgeF
  split
  · split <;> simp
  · split <;> simp
def prevI (n i : Nat) : Nat := (i + n - 1) % n
def againstF (l : List V) (k : Int) : List V := (List.range l.length).flatMap fun i => edgeF (l.getD (prevI l.length i) default) (l.getD i default) k
def againstS : Am.Spec := (sig2 aVs aInt).spec fun a => if (∀ v ∈ a.1, lenOk v) ∧ (2 * a.1.length) * 56 ≤ 140737488355328 then some (rVs (againstF a.1 a.2)) else none
theorem clip_Against.ok : SpecOK Try.prog 26 againstS := (sig2 aVs aInt).ok fun a r h => by
  obtain ⟨l, k⟩ := a
  (try simp only at h)
  split at h
  case isFalse => cases h
  rename_i hl
  obtain ⟨hv, hn⟩ := hl
  cases h
  refine fnLaw Try.func26 clip_Against.tr (by kernel_rfl) hE (ok_cons clip_Edge.ok ok_nil) ?_
  unfold clip_Against.m
  refine seq_reg (σ' := ?_) ?_ ?_
  rotate_left
  · simp -implicitDefEqProofs only [clip_Against.r0, ex_nil, ex_cons, exK_some, st_n, st_g, gd_b, rn_v, rn_m, rn_s, rn_a, think, prep, mkDsts, St.clear, ev, upd, init, PV.av, St.put, forgetBox, AV.cells, AV.pv, pvs, fillX, chunks, binV, xints, ldX, AV.plain, baseOk, fg_p, fg_tk, mkG, Sig.spec, tab, St.of, List.getElem?_cons_zero, List.getElem?_cons_succ, List.getElem?_nil, Option.map_some, Option.map_none, Option.bind_some, Option.isSome_some, Option.isSome_none, if_true, if_false, reduceIte, Nat.reduceEqDiff, List.map_cons, List.map_nil, List.drop_succ_cons, List.drop_zero, List.take_succ_cons, List.take_zero, List.length_cons, List.length_nil, List.length_append, List.cons_append, List.nil_append, List.append_nil, Nat.reduceAdd, Nat.reduceMul, Nat.reduceLeDiff, Nat.reduceBEq, Nat.zero_le, Nat.le_refl, Nat.zero_add, Nat.add_zero, and_self, and_true, true_and, or_true, true_or, Bool.not_true, Bool.not_false, Bool.false_eq_true, beq_self_eq_true, reduceCtorEq, Int.reduceBEq, Int.reduceBNe, Int.reduceLT, Int.reduceLE, Int.reduceAdd, Int.reduceToNat, Int.toNat_zero, Int.reduceEq, Int.toNat_natCast, c3, eq_self, Int.le_refl, decide_eq_true_eq, decide_eq_false_iff_not, not_true_eq_false, not_false_eq_true, decide_true, decide_false, Bool.true_eq_false, sig2, aVs, aInt]; rfl
  refine seq_reg (σ' := ?_) ?_ ?_
  rotate_left
  · simp -implicitDefEqProofs only [clip_Against.r1, ex_nil, ex_cons, exK_some, st_n, st_g, gd_b, rn_v, rn_m, rn_s, rn_a, think, prep, mkDsts, St.clear, ev, upd, init, PV.av, St.put, forgetBox, AV.cells, AV.pv, pvs, fillX, chunks, binV, xints, ldX, AV.plain, baseOk, fg_p, fg_tk, mkG, Sig.spec, tab, St.of, List.getElem?_cons_zero, List.getElem?_cons_succ, List.getElem?_nil, Option.map_some, Option.map_none, Option.bind_some, Option.isSome_some, Option.isSome_none, if_true, if_false, reduceIte, Nat.reduceEqDiff, List.map_cons, List.map_nil, List.drop_succ_cons, List.drop_zero, List.take_succ_cons, List.take_zero, List.length_cons, List.length_nil, List.length_append, List.cons_append, List.nil_append, List.append_nil, Nat.reduceAdd, Nat.reduceMul, Nat.reduceLeDiff, Nat.reduceBEq, Nat.zero_le, Nat.le_refl, Nat.zero_add, Nat.add_zero, and_self, and_true, true_and, or_true, true_or, Bool.not_true, Bool.not_false, Bool.false_eq_true, beq_self_eq_true, reduceCtorEq, Int.reduceBEq, Int.reduceBNe, Int.reduceLT, Int.reduceLE, Int.reduceAdd, Int.reduceToNat, Int.toNat_zero, Int.reduceEq, Int.toNat_natCast, c3, eq_self, Int.le_refl, decide_eq_true_eq, decide_eq_false_iff_not, not_true_eq_false, not_false_eq_true, decide_true, decide_false, Bool.true_eq_false]; rfl
  refine seq_ ?_
  refine seq_ex (σ'' := St.of [(0, .c (.p (cVs l))), (1, rInt k), (5, .c (.tk .tight 0 [])), (9, .c (.p (cVs l))), (10, rInt l.length), (11, rInt 0)] [] [] (0)) ⟨_, by simp -implicitDefEqProofs only [clip_Against.r2, ex_nil, ex_cons, exK_some, st_n, st_g, gd_b, rn_v, rn_m, rn_s, rn_a, think, prep, mkDsts, St.clear, ev, upd, init, PV.av, St.put, forgetBox, AV.cells, AV.pv, pvs, fillX, chunks, binV, xints, ldX, AV.plain, baseOk, fg_p, fg_tk, mkG, Sig.spec, tab, St.of, List.getElem?_cons_zero, List.getElem?_cons_succ, List.getElem?_nil, Option.map_some, Option.map_none, Option.bind_some, Option.isSome_some, Option.isSome_none, if_true, if_false, reduceIte, Nat.reduceEqDiff, List.map_cons, List.map_nil, List.drop_succ_cons, List.drop_zero, List.take_succ_cons, List.take_zero, List.length_cons, List.length_nil, List.length_append, List.cons_append, List.nil_append, List.append_nil, Nat.reduceAdd, Nat.reduceMul, Nat.reduceLeDiff, Nat.reduceBEq, Nat.zero_le, Nat.le_refl, Nat.zero_add, Nat.add_zero, and_self, and_true, true_and, or_true, true_or, Bool.not_true, Bool.not_false, Bool.false_eq_true, beq_self_eq_true, reduceCtorEq, Int.reduceBEq, Int.reduceBNe, Int.reduceLT, Int.reduceLE, Int.reduceAdd, Int.reduceToNat, Int.toNat_zero, Int.reduceEq, Int.toNat_natCast, c3, eq_self, Int.le_refl, decide_eq_true_eq, decide_eq_false_iff_not, not_true_eq_false, not_false_eq_true, decide_true, decide_false, Bool.true_eq_false, cVs, List.length_map]; rfl, sub_of (all_cons rfl (all_cons rfl (all_cons rfl (all_cons rfl (all_cons rfl (all_cons rfl all_nil)))))) all_nil all_nil (Nat.le_refl _)⟩ ?_
  refine block_ ?_
  refine loop_ (fun n σ => ∃ (j : Nat) (X : XV) (ks : List Nat) (nt : Nat), j ≤ l.length ∧ n = l.length - j ∧ Mine ks nt X 5 (((List.range j).flatMap fun i => edgeF (l.getD (prevI l.length i) default) (l.getD i default) k).map V.cs) ∧
    σ = St.of [(0, .c (.p (cVs l))), (1, rInt k), (5, .c X), (9, .c (.p (cVs l))), (10, rInt l.length), (11, rInt j)] [] ks nt)
    l.length _ (Sub.refl _) ⟨0, .tk .tight 0 [], [], 0, Nat.zero_le _, rfl, .inl ⟨rfl, rfl⟩, rfl⟩ ?_
  rintro n σ ⟨j, X, ks, nt, hj, rfl, hX, rfl⟩
  unfold clip_Against.b8
  refine seq_reg (σ' := ?_) ?_ ?_
  rotate_left
  · simp -implicitDefEqProofs only [clip_Against.r3, ex_nil, ex_cons, exK_some, st_n, st_g, gd_b, rn_v, rn_m, rn_s, rn_a, think, prep, mkDsts, St.clear, ev, upd, init, PV.av, St.put, forgetBox, AV.cells, AV.pv, pvs, fillX, chunks, binV, xints, ldX, AV.plain, baseOk, fg_p, fg_tk, mkG, Sig.spec, tab, St.of, List.getElem?_cons_zero, List.getElem?_cons_succ, List.getElem?_nil, Option.map_some, Option.map_none, Option.bind_some, Option.isSome_some, Option.isSome_none, if_true, if_false, reduceIte, Nat.reduceEqDiff, List.map_cons, List.map_nil, List.drop_succ_cons, List.drop_zero, List.take_succ_cons, List.take_zero, List.length_cons, List.length_nil, List.length_append, List.cons_append, List.nil_append, List.append_nil, Nat.reduceAdd, Nat.reduceMul, Nat.reduceLeDiff, Nat.reduceBEq, Nat.zero_le, Nat.le_refl, Nat.zero_add, Nat.add_zero, and_self, and_true, true_and, or_true, true_or, Bool.not_true, Bool.not_false, Bool.false_eq_true, beq_self_eq_true, reduceCtorEq, Int.reduceBEq, Int.reduceBNe, Int.reduceLT, Int.reduceLE, Int.reduceAdd, Int.reduceToNat, Int.toNat_zero, Int.reduceEq, Int.toNat_natCast, c3, eq_self, Int.le_refl, decide_eq_true_eq, decide_eq_false_iff_not, not_true_eq_false, not_false_eq_true, decide_true, decide_false, Bool.true_eq_false, rInt]; rfl
  refine seq_ (cond_ rfl (fun h => skip_ (norm_ ?_)) (fun h => ?_))
  · have hlt : j < l.length := by have := of_decide_eq_true h; omega
    have hplt : prevI l.length j < l.length := Nat.mod_lt _ (by omega)
    obtain ⟨b, hb⟩ : ∃ b, l[j] = b := ⟨_, rfl⟩
    obtain ⟨a, ha⟩ : ∃ a, l[prevI l.length j] = a := ⟨_, rfl⟩
    have hgb : (l.map V.cs)[j]? = some b.cs := by simp [hlt, hb]
    have hga : (l.map V.cs)[prevI l.length j]? = some a.cs := by simp [hplt, ha]
    have hDb : l.getD j default = b := by simp [List.getD, hlt, hb]
    have hDa : l.getD (prevI l.length j) default = a := by simp [List.getD, hplt, ha]
    have hlb : lenOk b := hv b (by rw [← hb]; exact List.getElem_mem _)
    have hla : lenOk a := hv a (by rw [← ha]; exact List.getElem_mem _)
    have da := dV_lit a
    have db := dV_lit b
    have hE2 := edge_len a b k
    have hsofar : ∀ m : Nat, ((List.range m).flatMap fun i => edgeF (l.getD (prevI l.length i) default) (l.getD i default) k).length ≤ 2 * m := fun m => by
      induction m with
      | zero => simp
      | succ m ih =>
        rw [List.range_succ, List.flatMap_append, List.length_append]
        have := edge_len (l.getD (prevI l.length m) default) (l.getD m default) k
        simp only [List.flatMap_cons, List.flatMap_nil, List.append_nil]; omega
    have hso := hsofar j
    have hnext : ((List.range (j + 1)).flatMap fun i => edgeF (l.getD (prevI l.length i) default) (l.getD i default) k).map V.cs = (((List.range j).flatMap fun i => edgeF (l.getD (prevI l.length i) default) (l.getD i default) k).map V.cs) ++ (edgeF a b k).map V.cs := by
      rw [List.range_succ, List.flatMap_append, List.map_append]
      simp only [List.flatMap_cons, List.flatMap_nil, List.append_nil, hDa, hDb]
    have hmod : ((j : Int) + (l.length : Int) - 1).tmod (l.length : Int) = (prevI l.length j : Int) := by
      have h1 : (j : Int) + (l.length : Int) - 1 = ((j + l.length - 1 : Nat) : Int) := by omega
      rw [h1, Int.tmod_eq_emod_of_nonneg (by omega)]; rfl
    have hw1 : IntKind.i64.wrap ((j : Int) + (l.length : Int)) = (j : Int) + (l.length : Int) := i64_w' (by omega) (by omega)
    have hw2 : IntKind.i64.wrap ((j : Int) + (l.length : Int) - 1) = (j : Int) + (l.length : Int) - 1 := i64_w' (by omega) (by omega)
    have hw3 : IntKind.i64.wrap ((j : Int) + 1) = ((j + 1 : Nat) : Int) := by rw [i64_w' (by omega) (by omega)]; omega
    have hl0 : ¬ ((l.length : Int) = 0) := by omega
    have hpn : (0 : Int) ≤ (prevI l.length j : Int) := by omega
    generalize hes : ((List.range j).flatMap fun i => edgeF (l.getD (prevI l.length i) default) (l.getD i default) k).map V.cs = es at hX hnext
    have hel : es.length ≤ 2 * j := by rw [← hes]; simpa using hso
    obtain ⟨ed, hed⟩ : ∃ ed, edgeF a b k = ed := ⟨_, rfl⟩
    rw [hed] at hE2 hnext
    refine seq_ (block_ ?_)
    refine seq_reg (σ' := ?_) ?_ ?_
    rotate_left
    · simp -implicitDefEqProofs only [clip_Against.r4, ex_nil, ex_cons, exK_some, st_n, st_g, gd_b, rn_v, rn_m, rn_s, rn_a, think, prep, mkDsts, St.clear, ev, upd, init, PV.av, St.put, forgetBox, AV.cells, AV.pv, pvs, fillX, chunks, binV, xints, ldX, AV.plain, baseOk, fg_p, fg_tk, mkG, Sig.spec, tab, St.of, List.getElem?_cons_zero, List.getElem?_cons_succ, List.getElem?_nil, Option.map_some, Option.map_none, Option.bind_some, Option.isSome_some, Option.isSome_none, if_true, if_false, reduceIte, Nat.reduceEqDiff, List.map_cons, List.map_nil, List.drop_succ_cons, List.drop_zero, List.take_succ_cons, List.take_zero, List.length_cons, List.length_nil, List.length_append, List.cons_append, List.nil_append, List.append_nil, Nat.reduceAdd, Nat.reduceMul, Nat.reduceLeDiff, Nat.reduceBEq, Nat.zero_le, Nat.le_refl, Nat.zero_add, Nat.add_zero, and_self, and_true, true_and, or_true, true_or, Bool.not_true, Bool.not_false, Bool.false_eq_true, beq_self_eq_true, reduceCtorEq, Int.reduceBEq, Int.reduceBNe, Int.reduceLT, Int.reduceLE, Int.reduceAdd, Int.reduceToNat, Int.toNat_zero, Int.reduceEq, Int.toNat_natCast, c3, eq_self, Int.le_refl, decide_eq_true_eq, decide_eq_false_iff_not, not_true_eq_false, not_false_eq_true, decide_true, decide_false, Bool.true_eq_false, rInt, cVs, hgb, show (0 : Int) ≤ (j : Int) by omega, V.cs]; rfl
    refine seq_ex (σ'' := St.of [(0, .c (.p (cVs l))), (1, rInt k), (5, .c X), (7, .box 7 0), (8, .box 8 0), (9, .c (.p (cVs l))), (10, rInt l.length), (11, rInt j)] [(7, b.cs.map .p), (8, a.cs.map .p)] ks (nt)) ⟨_, by simp -implicitDefEqProofs only [clip_Against.r5, ex_nil, ex_cons, exK_some, st_n, st_g, gd_b, rn_v, rn_m, rn_s, rn_a, think, prep, mkDsts, St.clear, ev, upd, init, PV.av, St.put, forgetBox, AV.cells, AV.pv, pvs, fillX, chunks, binV, xints, ldX, AV.plain, baseOk, fg_p, fg_tk, mkG, Sig.spec, tab, St.of, List.getElem?_cons_zero, List.getElem?_cons_succ, List.getElem?_nil, Option.map_some, Option.map_none, Option.bind_some, Option.isSome_some, Option.isSome_none, if_true, if_false, reduceIte, Nat.reduceEqDiff, List.map_cons, List.map_nil, List.drop_succ_cons, List.drop_zero, List.take_succ_cons, List.take_zero, List.length_cons, List.length_nil, List.length_append, List.cons_append, List.nil_append, List.append_nil, Nat.reduceAdd, Nat.reduceMul, Nat.reduceLeDiff, Nat.reduceBEq, Nat.zero_le, Nat.le_refl, Nat.zero_add, Nat.add_zero, and_self, and_true, true_and, or_true, true_or, Bool.not_true, Bool.not_false, Bool.false_eq_true, beq_self_eq_true, reduceCtorEq, Int.reduceBEq, Int.reduceBNe, Int.reduceLT, Int.reduceLE, Int.reduceAdd, Int.reduceToNat, Int.toNat_zero, Int.reduceEq, Int.toNat_natCast, c3, eq_self, Int.le_refl, decide_eq_true_eq, decide_eq_false_iff_not, not_true_eq_false, not_false_eq_true, decide_true, decide_false, Bool.true_eq_false, rInt, cVs, List.length_map, hw1, hw2, hmod, hl0, hpn, hga, V.cs]; rfl, sub_of (all_cons rfl (all_cons rfl (all_cons rfl (all_cons rfl (all_cons rfl (all_cons rfl (all_cons rfl (all_cons rfl all_nil)))))))) (all_cons rfl (all_cons rfl all_nil)) (fun k hk => by simpa [St.of] using hk) (Nat.le_refl _)⟩ ?_
    rcases hX with ⟨rfl, hnil⟩ | ⟨k', hk', rfl, hks⟩
    · refine last_reg (σ' := ?_) ?_ ?_
      rotate_left
      · simp -implicitDefEqProofs only [clip_Against.r6, ex_nil, ex_cons, exK_some, st_n, st_g, gd_b, rn_v, rn_m, rn_s, rn_a, think, prep, mkDsts, St.clear, ev, upd, init, PV.av, St.put, forgetBox, AV.cells, AV.pv, pvs, fillX, chunks, binV, xints, ldX, AV.plain, baseOk, fg_p, fg_tk, mkG, Sig.spec, tab, St.of, List.getElem?_cons_zero, List.getElem?_cons_succ, List.getElem?_nil, Option.map_some, Option.map_none, Option.bind_some, Option.isSome_some, Option.isSome_none, if_true, if_false, reduceIte, Nat.reduceEqDiff, List.map_cons, List.map_nil, List.drop_succ_cons, List.drop_zero, List.take_succ_cons, List.take_zero, List.length_cons, List.length_nil, List.length_append, List.cons_append, List.nil_append, List.append_nil, Nat.reduceAdd, Nat.reduceMul, Nat.reduceLeDiff, Nat.reduceBEq, Nat.zero_le, Nat.le_refl, Nat.zero_add, Nat.add_zero, and_self, and_true, true_and, or_true, true_or, Bool.not_true, Bool.not_false, Bool.false_eq_true, beq_self_eq_true, reduceCtorEq, Int.reduceBEq, Int.reduceBNe, Int.reduceLT, Int.reduceLE, Int.reduceAdd, Int.reduceToNat, Int.toNat_zero, Int.reduceEq, Int.toNat_natCast, c3, eq_self, Int.le_refl, decide_eq_true_eq, decide_eq_false_iff_not, not_true_eq_false, not_false_eq_true, decide_true, decide_false, Bool.true_eq_false, V.cs, edgeS, sig3, aV, aInt, da, db, hla, hlb, hed, rInt, rVs, cVs, show (ed.map V.cs).length * 56 ≤ 140737488355328 by rw [List.length_map]; omega, show (ed.map V.cs).length ≤ maxLen by rw [List.length_map]; simp only [maxLen]; omega]; rfl
      refine norm_ ?_
      refine last_reg (σ' := ?_) ?_ ?_
      rotate_left
      · simp -implicitDefEqProofs only [clip_Against.r7, ex_nil, ex_cons, exK_some, st_n, st_g, gd_b, rn_v, rn_m, rn_s, rn_a, think, prep, mkDsts, St.clear, ev, upd, init, PV.av, St.put, forgetBox, AV.cells, AV.pv, pvs, fillX, chunks, binV, xints, ldX, AV.plain, baseOk, fg_p, fg_tk, mkG, Sig.spec, tab, St.of, List.getElem?_cons_zero, List.getElem?_cons_succ, List.getElem?_nil, Option.map_some, Option.map_none, Option.bind_some, Option.isSome_some, Option.isSome_none, if_true, if_false, reduceIte, Nat.reduceEqDiff, List.map_cons, List.map_nil, List.drop_succ_cons, List.drop_zero, List.take_succ_cons, List.take_zero, List.length_cons, List.length_nil, List.length_append, List.cons_append, List.nil_append, List.append_nil, Nat.reduceAdd, Nat.reduceMul, Nat.reduceLeDiff, Nat.reduceBEq, Nat.zero_le, Nat.le_refl, Nat.zero_add, Nat.add_zero, and_self, and_true, true_and, or_true, true_or, Bool.not_true, Bool.not_false, Bool.false_eq_true, beq_self_eq_true, reduceCtorEq, Int.reduceBEq, Int.reduceBNe, Int.reduceLT, Int.reduceLE, Int.reduceAdd, Int.reduceToNat, Int.toNat_zero, Int.reduceEq, Int.toNat_natCast, c3, eq_self, Int.le_refl, decide_eq_true_eq, decide_eq_false_iff_not, not_true_eq_false, not_false_eq_true, decide_true, decide_false, Bool.true_eq_false, rInt, hw3]; rfl
      refine round_ (m := l.length - (j + 1)) (σ'' := St.of [(0, .c (.p (cVs l))), (1, rInt k), (5, .c (.tk (.live nt) 5 (ed.map V.cs))), (9, .c (.p (cVs l))), (10, rInt l.length), (11, rInt ((j + 1 : Nat) : Int))] [] [nt] (nt + 1)) (by omega) (sub_of (all_cons rfl (all_cons rfl (all_cons rfl (all_cons rfl (all_cons rfl (all_cons rfl all_nil)))))) all_nil (all_cons (by simp) all_nil) (Nat.le_refl _)) ?_
      refine ⟨j + 1, _, _, _, hlt, rfl, .inr ⟨nt, Nat.lt_succ_self _, ?_, by simp⟩, rfl⟩
      rw [hnext, hnil, List.nil_append]
    · refine last_reg (σ' := ?_) ?_ ?_
      rotate_left
      · simp -implicitDefEqProofs only [clip_Against.r6, ex_nil, ex_cons, exK_some, st_n, st_g, gd_b, rn_v, rn_m, rn_s, rn_a, think, prep, mkDsts, St.clear, ev, upd, init, PV.av, St.put, forgetBox, AV.cells, AV.pv, pvs, fillX, chunks, binV, xints, ldX, AV.plain, baseOk, fg_p, fg_tk, mkG, Sig.spec, tab, St.of, List.getElem?_cons_zero, List.getElem?_cons_succ, List.getElem?_nil, Option.map_some, Option.map_none, Option.bind_some, Option.isSome_some, Option.isSome_none, if_true, if_false, reduceIte, Nat.reduceEqDiff, List.map_cons, List.map_nil, List.drop_succ_cons, List.drop_zero, List.take_succ_cons, List.take_zero, List.length_cons, List.length_nil, List.length_append, List.cons_append, List.nil_append, List.append_nil, Nat.reduceAdd, Nat.reduceMul, Nat.reduceLeDiff, Nat.reduceBEq, Nat.zero_le, Nat.le_refl, Nat.zero_add, Nat.add_zero, and_self, and_true, true_and, or_true, true_or, Bool.not_true, Bool.not_false, Bool.false_eq_true, beq_self_eq_true, reduceCtorEq, Int.reduceBEq, Int.reduceBNe, Int.reduceLT, Int.reduceLE, Int.reduceAdd, Int.reduceToNat, Int.toNat_zero, Int.reduceEq, Int.toNat_natCast, c3, eq_self, Int.le_refl, decide_eq_true_eq, decide_eq_false_iff_not, not_true_eq_false, not_false_eq_true, decide_true, decide_false, Bool.true_eq_false, V.cs, edgeS, sig3, aV, aInt, da, db, hla, hlb, hed, rInt, rVs, cVs, show (es.length + (ed.map V.cs).length) * 56 ≤ 140737488355328 by rw [List.length_map]; omega, show es.length + (ed.map V.cs).length ≤ maxLen by rw [List.length_map]; simp only [maxLen]; omega, show ks.contains k' = true by simpa using hks]; rfl
      refine norm_ ?_
      refine last_reg (σ' := ?_) ?_ ?_
      rotate_left
      · simp -implicitDefEqProofs only [clip_Against.r7, ex_nil, ex_cons, exK_some, st_n, st_g, gd_b, rn_v, rn_m, rn_s, rn_a, think, prep, mkDsts, St.clear, ev, upd, init, PV.av, St.put, forgetBox, AV.cells, AV.pv, pvs, fillX, chunks, binV, xints, ldX, AV.plain, baseOk, fg_p, fg_tk, mkG, Sig.spec, tab, St.of, List.getElem?_cons_zero, List.getElem?_cons_succ, List.getElem?_nil, Option.map_some, Option.map_none, Option.bind_some, Option.isSome_some, Option.isSome_none, if_true, if_false, reduceIte, Nat.reduceEqDiff, List.map_cons, List.map_nil, List.drop_succ_cons, List.drop_zero, List.take_succ_cons, List.take_zero, List.length_cons, List.length_nil, List.length_append, List.cons_append, List.nil_append, List.append_nil, Nat.reduceAdd, Nat.reduceMul, Nat.reduceLeDiff, Nat.reduceBEq, Nat.zero_le, Nat.le_refl, Nat.zero_add, Nat.add_zero, and_self, and_true, true_and, or_true, true_or, Bool.not_true, Bool.not_false, Bool.false_eq_true, beq_self_eq_true, reduceCtorEq, Int.reduceBEq, Int.reduceBNe, Int.reduceLT, Int.reduceLE, Int.reduceAdd, Int.reduceToNat, Int.toNat_zero, Int.reduceEq, Int.toNat_natCast, c3, eq_self, Int.le_refl, decide_eq_true_eq, decide_eq_false_iff_not, not_true_eq_false, not_false_eq_true, decide_true, decide_false, Bool.true_eq_false, rInt, hw3]; rfl
      refine round_ (m := l.length - (j + 1)) (σ'' := St.of [(0, .c (.p (cVs l))), (1, rInt k), (5, .c (.tk (.live nt) 5 (es ++ ed.map V.cs))), (9, .c (.p (cVs l))), (10, rInt l.length), (11, rInt ((j + 1 : Nat) : Int))] [] [nt] (nt + 1)) (by omega) (sub_of (all_cons rfl (all_cons rfl (all_cons rfl (all_cons rfl (all_cons rfl (all_cons rfl all_nil)))))) all_nil (all_cons (by simp) all_nil) (Nat.le_refl _)) ?_
      refine ⟨j + 1, _, _, _, hlt, rfl, .inr ⟨nt, Nat.lt_succ_self _, ?_, by simp⟩, rfl⟩
      rw [hnext]
  · have hge : j = l.length := by have := of_decide_eq_false h; omega
    refine exit_ ?_
    subst hge
    refine norm_ ?_
    refine seq_reg (σ' := ?_) ?_ ?_
    rotate_left
    · simp -implicitDefEqProofs only [clip_Against.r9, ex_nil, ex_cons, exK_some, st_n, st_g, gd_b, rn_v, rn_m, rn_s, rn_a, think, prep, mkDsts, St.clear, ev, upd, init, PV.av, St.put, forgetBox, AV.cells, AV.pv, pvs, fillX, chunks, binV, xints, ldX, AV.plain, baseOk, fg_p, fg_tk, mkG, Sig.spec, tab, St.of, List.getElem?_cons_zero, List.getElem?_cons_succ, List.getElem?_nil, Option.map_some, Option.map_none, Option.bind_some, Option.isSome_some, Option.isSome_none, if_true, if_false, reduceIte, Nat.reduceEqDiff, List.map_cons, List.map_nil, List.drop_succ_cons, List.drop_zero, List.take_succ_cons, List.take_zero, List.length_cons, List.length_nil, List.length_append, List.cons_append, List.nil_append, List.append_nil, Nat.reduceAdd, Nat.reduceMul, Nat.reduceLeDiff, Nat.reduceBEq, Nat.zero_le, Nat.le_refl, Nat.zero_add, Nat.add_zero, and_self, and_true, true_and, or_true, true_or, Bool.not_true, Bool.not_false, Bool.false_eq_true, beq_self_eq_true, reduceCtorEq, Int.reduceBEq, Int.reduceBNe, Int.reduceLT, Int.reduceLE, Int.reduceAdd, Int.reduceToNat, Int.toNat_zero, Int.reduceEq, Int.toNat_natCast, c3, eq_self, Int.le_refl, decide_eq_true_eq, decide_eq_false_iff_not, not_true_eq_false, not_false_eq_true, decide_true, decide_false, Bool.true_eq_false]; rfl
    refine ret_ ⟨.inl rfl, _, rfl, ?_⟩
    have he : (.sl 5 (((List.range l.length).flatMap fun i => edgeF (l.getD (prevI l.length i) default) (l.getD i default) k).map V.cs) : CV) = cVs (againstF l k) := rfl
    rcases hX with ⟨rfl, hnil⟩ | ⟨k', hk', rfl, hks⟩
    · refine AVle.c (y := .p (cVs (againstF l k))) ?_
      rw [← he, hnil]; exact XVle.tk0 _ _ _
    · refine AVle.c (y := .p (cVs (againstF l k))) ?_
      rw [← he]; exact XVle.refl _
/-! ### Polygon -/
/-- All of a list's vertices have at most M varyings. -/
def lenM (M : Nat) (l : List V) : Prop := ∀ v ∈ l, v.vs.length ≤ M
theorem sat_len (v : V) : (satV v).vs.length = v.vs.length := by simp [satV]
theorem inter_len {M : Nat} {a b : V} {k : Int} (ha : a.vs.length ≤ M) (hb : b.vs.length ≤ M) : (interF a b k).vs.length ≤ M := by
  unfold interF
  split
  · rw [sat_len]; exact ha
  · split
    · simp [cutF, lerpVs, sat_len]; exact hb
    · simp [cutF, lerpVs, sat_len]; exact ha
theorem edge_lenM {M : Nat} {a b : V} {k : Int} (ha : a.vs.length ≤ M) (hb : b.vs.length ≤ M) : lenM M (edgeF a b k) := by
  have h1 : (satV a).vs.length ≤ M := by rw [sat_len]; exact ha
  have h2 : (satV b).vs.length ≤ M := by rw [sat_len]; exact hb
  have h3 := inter_len (k := k) h1 h2
  intro v hv
  unfold edgeF at hv
  split at hv
  · split at hv
    · simp at hv; subst hv; exact h2
    · simp at hv; subst hv; exact h3
  · split at hv
    · simp at hv; rcases hv with rfl | rfl
      · exact h3
      · exact h2
    · simp at hv
theorem against_lenM {M : Nat} {l : List V} {k : Int} (h : lenM M l) : lenM M (againstF l k) ∧ (againstF l k).length ≤ 2 * l.length := by
  have hD : ∀ i, (l.getD i default).vs.length ≤ M := fun i => by
    by_cases hi : i < l.length
    · have : l.getD i default = l[i] := by simp [List.getD, hi]
      rw [this]; exact h _ (List.getElem_mem _)
    · have : l.getD i default = default := by simp [List.getD, hi]
      rw [this]; exact Nat.zero_le _
  refine ⟨fun v hv => ?_, ?_⟩
  · unfold againstF at hv
    rw [List.mem_flatMap] at hv
    obtain ⟨i, _, hv⟩ := hv
    exact edge_lenM (hD _) (hD _) v hv
  · have key : ∀ n m : Nat, ((List.range m).flatMap fun i => edgeF (l.getD (prevI n i) default) (l.getD i default) k).length ≤ 2 * m := fun n m => by
      induction m with
      | zero => simp
      | succ m ih =>
        rw [List.range_succ, List.flatMap_append, List.length_append]
        have := edge_len (l.getD (prevI n m) default) (l.getD m default) k
        simp only [List.flatMap_cons, List.flatMap_nil, List.append_nil]; omega
    exact key _ _
end Go.Proofs.Ytljndeeahnpnjaa.Cl
