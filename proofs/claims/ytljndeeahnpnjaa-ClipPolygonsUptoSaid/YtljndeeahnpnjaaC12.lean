/- Chapter 31: the reference's Against, Polygon, Triangles, Clip; the law ClipTriangles. No condition beyond those that each theorem states. -/
import Derived.Test.YtljndeeahnpnjaaC10
import Derived.Test.YtljndeeahnpnjaaC8
namespace Go.Proofs.Ytljndeeahnpnjaa.Cl
open Go Go.RowKit Go.Proofs.Ytljndeeahnpnjaa.Am
set_option linter.unusedVariables false
set_option linter.unusedSimpArgs false
def frustumref31_Against.r0 : List MOp := [⟨some 4, .mv (.const (.slice none 0 0)), none⟩]
def frustumref31_Against.r1 : List MOp := [⟨some 5, .mv (.const (.slice none 0 0)), none⟩]
def frustumref31_Against.r2 : List MOp := [⟨some 8, .mv (.tmp 0), none⟩, ⟨some 9, .len (.tmp 8), none⟩, ⟨some 6, .mv (.tmp 9), none⟩]
def frustumref31_Against.r3 : List MOp := [⟨some 7, .mv (.const (.int .i64 0)), none⟩]
def frustumref31_Against.r4 : List MOp := [⟨some 10, .mv (.tmp 7), none⟩, ⟨some 11, .mv (.tmp 6), none⟩, ⟨some 12, .bin .lss (.tmp 10) (.tmp 11), none⟩]
def frustumref31_Against.r5 : List MOp := [⟨some 15, .mv (.tmp 5), none⟩, ⟨some 16, .mv (.tmp 0), none⟩, ⟨some 17, .mv (.tmp 7), none⟩, ⟨some 18, .mv (.tmp 6), none⟩, ⟨some 19, .bin .add (.tmp 17) (.tmp 18), none⟩, ⟨some 20, .bin .sub (.tmp 19) (.const (.int .i64 1)), none⟩, ⟨some 21, .mv (.tmp 6), none⟩, ⟨some 22, .bin .rem (.tmp 20) (.tmp 21), none⟩, ⟨some 23, .idx 5 (.tmp 16) (.tmp 22), none⟩, ⟨some 24, .ld 5 true (some 1000000) (.tmp 23), none⟩, ⟨some 25, .mv (.tmp 0), none⟩, ⟨some 26, .mv (.tmp 7), none⟩, ⟨some 27, .idx 5 (.tmp 25) (.tmp 26), none⟩, ⟨some 28, .ld 5 true (some 1000000) (.tmp 27), none⟩, ⟨some 29, .mv (.tmp 1), none⟩, ⟨some 30, .call 25 [.tmp 24, .tmp 28, .tmp 29], none⟩, ⟨some 31, .app 5 56 (.tmp 15) (.tmp 30), none⟩, ⟨some 5, .mv (.tmp 31), none⟩]
def frustumref31_Against.r6 : List MOp := [⟨some 13, .mv (.tmp 7), none⟩, ⟨some 14, .bin .add (.tmp 13) (.const (.int .i64 1)), none⟩, ⟨some 7, .mv (.tmp 14), none⟩]
def frustumref31_Against.b7 : MC := (.seq (.seq (.reg frustumref31_Against.r4) (.cond (.tmp 12) .skip (.exit 0))) (.seq (.block 1 (.reg frustumref31_Against.r5)) (.reg frustumref31_Against.r6)))
def frustumref31_Against.r8 : List MOp := [⟨some 32, .mv (.tmp 5), none⟩, ⟨some 4, .mv (.tmp 32), none⟩]
def frustumref31_Against.m : MC := .seq (.reg frustumref31_Against.r0) (.seq (.reg frustumref31_Against.r1) (.seq (.reg frustumref31_Against.r2) (.seq (.seq (.reg frustumref31_Against.r3) (.block 0 (.loop frustumref31_Against.b7))) (.seq (.reg frustumref31_Against.r8) .ret))))
theorem frustumref31_Against.tr : trF Try.prog [23] Try.f27 = some (frustumref31_Against.m, .tmp 4) := by kernel_rfl
def frustumref31_Polygon.r0 : List MOp := [⟨some 1, .mkb (.tmp 0), none⟩, ⟨some 2, .mv (.const (.slice none 0 0)), none⟩]
def frustumref31_Polygon.r1 : List MOp := [⟨some 5, .idxA 3 5 (.tmp 1) (.const (.int .i64 0)), none⟩, ⟨some 6, .ld 5 true (some 1) (.tmp 5), none⟩, ⟨some 7, .call 31 [.tmp 6], none⟩, ⟨some 8, .idxA 3 5 (.tmp 1) (.const (.int .i64 1)), none⟩, ⟨some 9, .ld 5 true (some 1) (.tmp 8), none⟩, ⟨some 10, .call 31 [.tmp 9], none⟩, ⟨some 11, .idxA 3 5 (.tmp 1) (.const (.int .i64 2)), none⟩, ⟨some 12, .ld 5 true (some 1) (.tmp 11), none⟩, ⟨some 13, .call 31 [.tmp 12], none⟩, ⟨some 14, .bldS 3 5 [.p (.int .i64 0), .p (.int .i64 0), .p (.int .i64 0), .p (.int .i64 0), .tk .tight 0 [], .p (.int .i64 0), .p (.int .i64 0), .p (.int .i64 0), .p (.int .i64 0), .tk .tight 0 [], .p (.int .i64 0), .p (.int .i64 0), .p (.int .i64 0), .p (.int .i64 0), .tk .tight 0 []] [(0, (5, .tmp 7)), (5, (5, .tmp 10)), (10, (5, .tmp 13))], none⟩, ⟨some 3, .mv (.tmp 14), none⟩]
def frustumref31_Polygon.r2 : List MOp := [⟨some 4, .mv (.const (.int .i64 0)), none⟩]
def frustumref31_Polygon.r3 : List MOp := [⟨some 15, .mv (.tmp 4), none⟩, ⟨some 16, .bin .lss (.tmp 15) (.const (.int .i64 7)), none⟩]
def frustumref31_Polygon.r4 : List MOp := [⟨some 19, .mv (.tmp 3), none⟩, ⟨some 20, .mv (.tmp 4), none⟩, ⟨some 21, .call 27 [.tmp 19, .tmp 20], none⟩, ⟨some 3, .mv (.tmp 21), none⟩]
def frustumref31_Polygon.r5 : List MOp := [⟨some 17, .mv (.tmp 4), none⟩, ⟨some 18, .bin .add (.tmp 17) (.const (.int .i64 1)), none⟩, ⟨some 4, .mv (.tmp 18), none⟩]
def frustumref31_Polygon.b6 : MC := (.seq (.seq (.reg frustumref31_Polygon.r3) (.cond (.tmp 16) .skip (.exit 0))) (.seq (.block 1 (.reg frustumref31_Polygon.r4)) (.reg frustumref31_Polygon.r5)))
def frustumref31_Polygon.r7 : List MOp := [⟨some 22, .mv (.tmp 3), none⟩, ⟨some 2, .mv (.tmp 22), none⟩]
def frustumref31_Polygon.m : MC := .seq (.reg frustumref31_Polygon.r0) (.seq (.reg frustumref31_Polygon.r1) (.seq (.seq (.reg frustumref31_Polygon.r2) (.block 0 (.loop frustumref31_Polygon.b6))) (.seq (.reg frustumref31_Polygon.r7) .ret)))
theorem frustumref31_Polygon.tr : trF Try.prog [23] Try.f17 = some (frustumref31_Polygon.m, .tmp 2) := by kernel_rfl
def frustumref31_Triangles.r0 : List MOp := [⟨some 2, .mv (.const (.slice none 0 0)), none⟩]
def frustumref31_Triangles.r1 : List MOp := [⟨some 3, .mv (.const (.slice none 0 0)), none⟩]
def frustumref31_Triangles.r2 : List MOp := [⟨some 4, .mv (.const (.int .i64 1)), none⟩]
def frustumref31_Triangles.r3 : List MOp := [⟨some 5, .mv (.tmp 4), none⟩, ⟨some 6, .bin .add (.tmp 5) (.const (.int .i64 1)), none⟩, ⟨some 7, .mv (.tmp 0), none⟩, ⟨some 8, .len (.tmp 7), none⟩, ⟨some 9, .bin .lss (.tmp 6) (.tmp 8), none⟩]
def frustumref31_Triangles.r4 : List MOp := [⟨some 12, .mv (.tmp 3), none⟩, ⟨some 13, .mv (.tmp 0), none⟩, ⟨some 14, .idx 5 (.tmp 13) (.const (.int .i64 0)), none⟩, ⟨some 15, .ld 5 true (some 1000000) (.tmp 14), none⟩, ⟨some 16, .call 31 [.tmp 15], none⟩, ⟨some 17, .mv (.tmp 0), none⟩, ⟨some 18, .mv (.tmp 4), none⟩, ⟨some 19, .idx 5 (.tmp 17) (.tmp 18), none⟩, ⟨some 20, .ld 5 true (some 1000000) (.tmp 19), none⟩, ⟨some 21, .call 31 [.tmp 20], none⟩, ⟨some 22, .mv (.tmp 0), none⟩, ⟨some 23, .mv (.tmp 4), none⟩, ⟨some 24, .bin .add (.tmp 23) (.const (.int .i64 1)), none⟩, ⟨some 25, .idx 5 (.tmp 22) (.tmp 24), none⟩, ⟨some 26, .ld 5 true (some 1000000) (.tmp 25), none⟩, ⟨some 27, .call 31 [.tmp 26], none⟩, ⟨some 28, .bld [.p (.int .i64 0), .p (.int .i64 0), .p (.int .i64 0), .p (.int .i64 0), .tk .tight 0 [], .p (.int .i64 0), .p (.int .i64 0), .p (.int .i64 0), .p (.int .i64 0), .tk .tight 0 [], .p (.int .i64 0), .p (.int .i64 0), .p (.int .i64 0), .p (.int .i64 0), .tk .tight 0 []] [(0, (5, .tmp 16)), (5, (5, .tmp 21)), (10, (5, .tmp 27))], none⟩, ⟨some 29, .bldS 1 15 [.p (.int .i64 0), .p (.int .i64 0), .p (.int .i64 0), .p (.int .i64 0), .tk .tight 0 [], .p (.int .i64 0), .p (.int .i64 0), .p (.int .i64 0), .p (.int .i64 0), .tk .tight 0 [], .p (.int .i64 0), .p (.int .i64 0), .p (.int .i64 0), .p (.int .i64 0), .tk .tight 0 []] [(0, (15, .tmp 28))], none⟩, ⟨some 30, .app 15 168 (.tmp 12) (.tmp 29), none⟩, ⟨some 3, .mv (.tmp 30), none⟩]
def frustumref31_Triangles.r5 : List MOp := [⟨some 10, .mv (.tmp 4), none⟩, ⟨some 11, .bin .add (.tmp 10) (.const (.int .i64 1)), none⟩, ⟨some 4, .mv (.tmp 11), none⟩]
def frustumref31_Triangles.b6 : MC := (.seq (.seq (.reg frustumref31_Triangles.r3) (.cond (.tmp 9) .skip (.exit 0))) (.seq (.block 1 (.reg frustumref31_Triangles.r4)) (.reg frustumref31_Triangles.r5)))
def frustumref31_Triangles.r7 : List MOp := [⟨some 31, .mv (.tmp 3), none⟩, ⟨some 2, .mv (.tmp 31), none⟩]
def frustumref31_Triangles.m : MC := .seq (.reg frustumref31_Triangles.r0) (.seq (.reg frustumref31_Triangles.r1) (.seq (.seq (.reg frustumref31_Triangles.r2) (.block 0 (.loop frustumref31_Triangles.b6))) (.seq (.reg frustumref31_Triangles.r7) .ret)))
theorem frustumref31_Triangles.tr : trF Try.prog [23] Try.f29 = some (frustumref31_Triangles.m, .tmp 2) := by kernel_rfl
def frustumref31_Clip.r0 : List MOp := [⟨some 1, .mkb (.tmp 0), none⟩, ⟨some 2, .mv (.const (.slice none 0 0)), none⟩]
def frustumref31_Clip.r1 : List MOp := [⟨some 3, .ld 15 true (some 1) (.tmp 1), none⟩, ⟨some 4, .call 17 [.tmp 3], none⟩, ⟨some 5, .call 29 [.tmp 4], none⟩, ⟨some 2, .mv (.tmp 5), none⟩]
def frustumref31_Clip.m : MC := .seq (.reg frustumref31_Clip.r0) (.seq (.reg frustumref31_Clip.r1) .ret)
theorem frustumref31_Clip.tr : trF Try.prog [23] Try.f20 = some (frustumref31_Clip.m, .tmp 2) := by kernel_rfl
def frustumlaw31_ClipTriangles.r0 : List MOp := [⟨some 1, .mkb (.tmp 0), none⟩, ⟨some 2, .mv (.const (.bool false)), none⟩]
def frustumlaw31_ClipTriangles.r1 : List MOp := [⟨some 3, .ld 15 true (some 1) (.tmp 1), none⟩, ⟨some 4, .call 16 [.tmp 3], none⟩, ⟨some 5, .ld 15 true (some 1) (.tmp 1), none⟩, ⟨some 6, .call 17 [.tmp 5], none⟩, ⟨some 7, .call 15 [.tmp 4, .tmp 6], none⟩, ⟨some 8, .mv (.tmp 7), none⟩, ⟨some 9, .ld 15 true (some 1) (.tmp 1), some (8, true)⟩, ⟨some 10, .call 19 [.tmp 9], some (8, true)⟩, ⟨some 11, .ld 15 true (some 1) (.tmp 1), some (8, true)⟩, ⟨some 12, .call 20 [.tmp 11], some (8, true)⟩, ⟨some 13, .call 18 [.tmp 10, .tmp 12], some (8, true)⟩, ⟨some 14, .pick (.tmp 8) (.tmp 13) (.const (.bool false)), none⟩, ⟨some 15, .mv (.tmp 14), none⟩, ⟨some 16, .call 12 [], some (15, true)⟩, ⟨some 17, .pick (.tmp 15) (.tmp 16) (.const (.bool false)), none⟩, ⟨some 2, .mv (.tmp 17), none⟩]
def frustumlaw31_ClipTriangles.m : MC := .seq (.reg frustumlaw31_ClipTriangles.r0) (.seq (.reg frustumlaw31_ClipTriangles.r1) .ret)
theorem frustumlaw31_ClipTriangles.tr : trF Try.prog [23] Try.f4 = some (frustumlaw31_ClipTriangles.m, .tmp 2) := by kernel_rfl
theorem frustumref31_Against.ok : SpecOK Try.prog 27 againstS := (sig2 aVs aInt).ok fun a r h => by
  obtain ⟨l, k⟩ := a
  (try simp only at h)
  split at h
  case isFalse => cases h
  rename_i hl
  obtain ⟨hv, hn⟩ := hl
  cases h
  refine fnLaw Try.func27 frustumref31_Against.tr (by kernel_rfl) hE (ok_cons frustumref31_Edge.ok ok_nil) ?_
  unfold frustumref31_Against.m
  refine seq_reg (σ' := ?_) ?_ ?_
  rotate_left
  · simp -implicitDefEqProofs only [frustumref31_Against.r0, ex_nil, ex_cons, exK_some, st_n, st_g, gd_b, rn_v, rn_m, rn_s, rn_a, think, prep, mkDsts, St.clear, ev, upd, init, PV.av, St.put, forgetBox, AV.cells, AV.pv, pvs, fillX, chunks, binV, xints, ldX, AV.plain, baseOk, fg_p, fg_tk, mkG, Sig.spec, tab, St.of, List.getElem?_cons_zero, List.getElem?_cons_succ, List.getElem?_nil, Option.map_some, Option.map_none, Option.bind_some, Option.isSome_some, Option.isSome_none, if_true, if_false, reduceIte, Nat.reduceEqDiff, List.map_cons, List.map_nil, List.drop_succ_cons, List.drop_zero, List.take_succ_cons, List.take_zero, List.length_cons, List.length_nil, List.length_append, List.cons_append, List.nil_append, List.append_nil, Nat.reduceAdd, Nat.reduceMul, Nat.reduceLeDiff, Nat.reduceBEq, Nat.zero_le, Nat.le_refl, Nat.zero_add, Nat.add_zero, and_self, and_true, true_and, or_true, true_or, Bool.not_true, Bool.not_false, Bool.false_eq_true, beq_self_eq_true, reduceCtorEq, Int.reduceBEq, Int.reduceBNe, Int.reduceLT, Int.reduceLE, Int.reduceAdd, Int.reduceToNat, Int.toNat_zero, Int.reduceEq, Int.toNat_natCast, c3, eq_self, Int.le_refl, decide_eq_true_eq, decide_eq_false_iff_not, not_true_eq_false, not_false_eq_true, decide_true, decide_false, Bool.true_eq_false, sig2, aVs, aInt]; rfl
  refine seq_reg (σ' := ?_) ?_ ?_
  rotate_left
  · simp -implicitDefEqProofs only [frustumref31_Against.r1, ex_nil, ex_cons, exK_some, st_n, st_g, gd_b, rn_v, rn_m, rn_s, rn_a, think, prep, mkDsts, St.clear, ev, upd, init, PV.av, St.put, forgetBox, AV.cells, AV.pv, pvs, fillX, chunks, binV, xints, ldX, AV.plain, baseOk, fg_p, fg_tk, mkG, Sig.spec, tab, St.of, List.getElem?_cons_zero, List.getElem?_cons_succ, List.getElem?_nil, Option.map_some, Option.map_none, Option.bind_some, Option.isSome_some, Option.isSome_none, if_true, if_false, reduceIte, Nat.reduceEqDiff, List.map_cons, List.map_nil, List.drop_succ_cons, List.drop_zero, List.take_succ_cons, List.take_zero, List.length_cons, List.length_nil, List.length_append, List.cons_append, List.nil_append, List.append_nil, Nat.reduceAdd, Nat.reduceMul, Nat.reduceLeDiff, Nat.reduceBEq, Nat.zero_le, Nat.le_refl, Nat.zero_add, Nat.add_zero, and_self, and_true, true_and, or_true, true_or, Bool.not_true, Bool.not_false, Bool.false_eq_true, beq_self_eq_true, reduceCtorEq, Int.reduceBEq, Int.reduceBNe, Int.reduceLT, Int.reduceLE, Int.reduceAdd, Int.reduceToNat, Int.toNat_zero, Int.reduceEq, Int.toNat_natCast, c3, eq_self, Int.le_refl, decide_eq_true_eq, decide_eq_false_iff_not, not_true_eq_false, not_false_eq_true, decide_true, decide_false, Bool.true_eq_false]; rfl
  refine seq_ex (σ'' := St.of [(0, .c (.p (cVs l))), (1, rInt k), (5, .c (.tk .tight 0 [])), (6, rInt l.length)] [] [] (0)) ⟨_, by simp -implicitDefEqProofs only [frustumref31_Against.r2, ex_nil, ex_cons, exK_some, st_n, st_g, gd_b, rn_v, rn_m, rn_s, rn_a, think, prep, mkDsts, St.clear, ev, upd, init, PV.av, St.put, forgetBox, AV.cells, AV.pv, pvs, fillX, chunks, binV, xints, ldX, AV.plain, baseOk, fg_p, fg_tk, mkG, Sig.spec, tab, St.of, List.getElem?_cons_zero, List.getElem?_cons_succ, List.getElem?_nil, Option.map_some, Option.map_none, Option.bind_some, Option.isSome_some, Option.isSome_none, if_true, if_false, reduceIte, Nat.reduceEqDiff, List.map_cons, List.map_nil, List.drop_succ_cons, List.drop_zero, List.take_succ_cons, List.take_zero, List.length_cons, List.length_nil, List.length_append, List.cons_append, List.nil_append, List.append_nil, Nat.reduceAdd, Nat.reduceMul, Nat.reduceLeDiff, Nat.reduceBEq, Nat.zero_le, Nat.le_refl, Nat.zero_add, Nat.add_zero, and_self, and_true, true_and, or_true, true_or, Bool.not_true, Bool.not_false, Bool.false_eq_true, beq_self_eq_true, reduceCtorEq, Int.reduceBEq, Int.reduceBNe, Int.reduceLT, Int.reduceLE, Int.reduceAdd, Int.reduceToNat, Int.toNat_zero, Int.reduceEq, Int.toNat_natCast, c3, eq_self, Int.le_refl, decide_eq_true_eq, decide_eq_false_iff_not, not_true_eq_false, not_false_eq_true, decide_true, decide_false, Bool.true_eq_false, cVs, List.length_map]; rfl, sub_of (all_cons rfl (all_cons rfl (all_cons rfl (all_cons rfl all_nil)))) all_nil all_nil (Nat.le_refl _)⟩ ?_
  refine seq_ ?_
  refine seq_ex (σ'' := St.of [(0, .c (.p (cVs l))), (1, rInt k), (5, .c (.tk .tight 0 [])), (6, rInt l.length), (7, rInt 0)] [] [] (0)) ⟨_, by simp -implicitDefEqProofs only [frustumref31_Against.r3, ex_nil, ex_cons, exK_some, st_n, st_g, gd_b, rn_v, rn_m, rn_s, rn_a, think, prep, mkDsts, St.clear, ev, upd, init, PV.av, St.put, forgetBox, AV.cells, AV.pv, pvs, fillX, chunks, binV, xints, ldX, AV.plain, baseOk, fg_p, fg_tk, mkG, Sig.spec, tab, St.of, List.getElem?_cons_zero, List.getElem?_cons_succ, List.getElem?_nil, Option.map_some, Option.map_none, Option.bind_some, Option.isSome_some, Option.isSome_none, if_true, if_false, reduceIte, Nat.reduceEqDiff, List.map_cons, List.map_nil, List.drop_succ_cons, List.drop_zero, List.take_succ_cons, List.take_zero, List.length_cons, List.length_nil, List.length_append, List.cons_append, List.nil_append, List.append_nil, Nat.reduceAdd, Nat.reduceMul, Nat.reduceLeDiff, Nat.reduceBEq, Nat.zero_le, Nat.le_refl, Nat.zero_add, Nat.add_zero, and_self, and_true, true_and, or_true, true_or, Bool.not_true, Bool.not_false, Bool.false_eq_true, beq_self_eq_true, reduceCtorEq, Int.reduceBEq, Int.reduceBNe, Int.reduceLT, Int.reduceLE, Int.reduceAdd, Int.reduceToNat, Int.toNat_zero, Int.reduceEq, Int.toNat_natCast, c3, eq_self, Int.le_refl, decide_eq_true_eq, decide_eq_false_iff_not, not_true_eq_false, not_false_eq_true, decide_true, decide_false, Bool.true_eq_false]; rfl, sub_of (all_cons rfl (all_cons rfl (all_cons rfl (all_cons rfl (all_cons rfl all_nil))))) all_nil all_nil (Nat.le_refl _)⟩ ?_
  refine block_ ?_
  refine loop_ (fun n σ => ∃ (j : Nat) (X : XV) (ks : List Nat) (nt : Nat), j ≤ l.length ∧ n = l.length - j ∧ Mine ks nt X 5 (((List.range j).flatMap fun i => edgeF (l.getD (prevI l.length i) default) (l.getD i default) k).map V.cs) ∧
    σ = St.of [(0, .c (.p (cVs l))), (1, rInt k), (5, .c X), (6, rInt l.length), (7, rInt j)] [] ks nt)
    l.length _ (Sub.refl _) ⟨0, .tk .tight 0 [], [], 0, Nat.zero_le _, rfl, .inl ⟨rfl, rfl⟩, rfl⟩ ?_
  rintro n σ ⟨j, X, ks, nt, hj, rfl, hX, rfl⟩
  unfold frustumref31_Against.b7
  refine seq_ (seq_ ?_)
  refine seq_reg (σ' := ?_) ?_ ?_
  rotate_left
  · simp -implicitDefEqProofs only [frustumref31_Against.r4, ex_nil, ex_cons, exK_some, st_n, st_g, gd_b, rn_v, rn_m, rn_s, rn_a, think, prep, mkDsts, St.clear, ev, upd, init, PV.av, St.put, forgetBox, AV.cells, AV.pv, pvs, fillX, chunks, binV, xints, ldX, AV.plain, baseOk, fg_p, fg_tk, mkG, Sig.spec, tab, St.of, List.getElem?_cons_zero, List.getElem?_cons_succ, List.getElem?_nil, Option.map_some, Option.map_none, Option.bind_some, Option.isSome_some, Option.isSome_none, if_true, if_false, reduceIte, Nat.reduceEqDiff, List.map_cons, List.map_nil, List.drop_succ_cons, List.drop_zero, List.take_succ_cons, List.take_zero, List.length_cons, List.length_nil, List.length_append, List.cons_append, List.nil_append, List.append_nil, Nat.reduceAdd, Nat.reduceMul, Nat.reduceLeDiff, Nat.reduceBEq, Nat.zero_le, Nat.le_refl, Nat.zero_add, Nat.add_zero, and_self, and_true, true_and, or_true, true_or, Bool.not_true, Bool.not_false, Bool.false_eq_true, beq_self_eq_true, reduceCtorEq, Int.reduceBEq, Int.reduceBNe, Int.reduceLT, Int.reduceLE, Int.reduceAdd, Int.reduceToNat, Int.toNat_zero, Int.reduceEq, Int.toNat_natCast, c3, eq_self, Int.le_refl, decide_eq_true_eq, decide_eq_false_iff_not, not_true_eq_false, not_false_eq_true, decide_true, decide_false, Bool.true_eq_false, rInt]; rfl
  refine cond_ rfl (fun h => skip_ (norm_ ?_)) (fun h => ?_)
  · have hlt : j < l.length := by have := of_decide_eq_true h; omega
    have hplt : prevI l.length j < l.length := Nat.mod_lt _ (by omega)
    obtain ⟨b, hb⟩ : ∃ b, l[j] = b := ⟨_, rfl⟩
    obtain ⟨a, ha⟩ : ∃ a, l[prevI l.length j] = a := ⟨_, rfl⟩
    have hgb : (l.map V.cs)[j]? = some b.cs := by simp [hlt, hb]
    have hga : (l.map V.cs)[prevI l.length j]? = some a.cs := by simp [hplt, ha]
    have hDb : l.getD j default = b := by simp [List.getD, hlt, hb]
    have hDa : l.getD (prevI l.length j) default = a := by simp [List.getD, hplt, ha]
    have hlb : lenOk b := hv b (by rw [← hb]; exact List.getElem_mem _)
    have hla : lenOk a := hv a (by rw [← ha]; exact List.getElem_mem _)
    have da := dV_lit a
    have db := dV_lit b
    have hE2 := edge_len a b k
    have hsofar : ∀ m : Nat, ((List.range m).flatMap fun i => edgeF (l.getD (prevI l.length i) default) (l.getD i default) k).length ≤ 2 * m := fun m => by
      induction m with
      | zero => simp
      | succ m ih =>
        rw [List.range_succ, List.flatMap_append, List.length_append]
        have := edge_len (l.getD (prevI l.length m) default) (l.getD m default) k
        simp only [List.flatMap_cons, List.flatMap_nil, List.append_nil]; omega
    have hso := hsofar j
    have hnext : ((List.range (j + 1)).flatMap fun i => edgeF (l.getD (prevI l.length i) default) (l.getD i default) k).map V.cs = (((List.range j).flatMap fun i => edgeF (l.getD (prevI l.length i) default) (l.getD i default) k).map V.cs) ++ (edgeF a b k).map V.cs := by
      rw [List.range_succ, List.flatMap_append, List.map_append]
      simp only [List.flatMap_cons, List.flatMap_nil, List.append_nil, hDa, hDb]
    have hmod : ((j : Int) + (l.length : Int) - 1).tmod (l.length : Int) = (prevI l.length j : Int) := by
      have h1 : (j : Int) + (l.length : Int) - 1 = ((j + l.length - 1 : Nat) : Int) := by omega
      rw [h1, Int.tmod_eq_emod_of_nonneg (by omega)]; rfl
    have hw1 : IntKind.i64.wrap ((j : Int) + (l.length : Int)) = (j : Int) + (l.length : Int) := i64_w' (by omega) (by omega)
    have hw2 : IntKind.i64.wrap ((j : Int) + (l.length : Int) - 1) = (j : Int) + (l.length : Int) - 1 := i64_w' (by omega) (by omega)
    have hw3 : IntKind.i64.wrap ((j : Int) + 1) = ((j + 1 : Nat) : Int) := by rw [i64_w' (by omega) (by omega)]; omega
    have hl0 : ¬ ((l.length : Int) = 0) := by omega
    have hpn : (0 : Int) ≤ (prevI l.length j : Int) := by omega
    have hjn : (0 : Int) ≤ (j : Int) := by omega
    generalize hes : ((List.range j).flatMap fun i => edgeF (l.getD (prevI l.length i) default) (l.getD i default) k).map V.cs = es at hX hnext
    have hel : es.length ≤ 2 * j := by rw [← hes]; simpa using hso
    obtain ⟨ed, hed⟩ : ∃ ed, edgeF a b k = ed := ⟨_, rfl⟩
    rw [hed] at hE2 hnext
    refine seq_ (block_ ?_)
    rcases hX with ⟨rfl, hnil⟩ | ⟨k', hk', rfl, hks⟩
    · have hlm : (l.map V.cs).length = l.length := List.length_map _
      refine last_reg (σ' := ?_) ?_ ?_
      rotate_left
      · simp -implicitDefEqProofs only [frustumref31_Against.r5, ex_nil, ex_cons, exK_some, st_n, st_g, gd_b, rn_v, rn_m, rn_s, rn_a, think, prep, mkDsts, St.clear, ev, upd, init, PV.av, St.put, forgetBox, AV.cells, AV.pv, pvs, fillX, chunks, binV, xints, ldX, AV.plain, baseOk, fg_p, fg_tk, mkG, Sig.spec, tab, St.of, List.getElem?_cons_zero, List.getElem?_cons_succ, List.getElem?_nil, Option.map_some, Option.map_none, Option.bind_some, Option.isSome_some, Option.isSome_none, if_true, if_false, reduceIte, Nat.reduceEqDiff, List.map_cons, List.map_nil, List.drop_succ_cons, List.drop_zero, List.take_succ_cons, List.take_zero, List.length_cons, List.length_nil, List.length_append, List.cons_append, List.nil_append, List.append_nil, Nat.reduceAdd, Nat.reduceMul, Nat.reduceLeDiff, Nat.reduceBEq, Nat.zero_le, Nat.le_refl, Nat.zero_add, Nat.add_zero, and_self, and_true, true_and, or_true, true_or, Bool.not_true, Bool.not_false, Bool.false_eq_true, beq_self_eq_true, reduceCtorEq, Int.reduceBEq, Int.reduceBNe, Int.reduceLT, Int.reduceLE, Int.reduceAdd, Int.reduceToNat, Int.toNat_zero, Int.reduceEq, Int.toNat_natCast, c3, eq_self, Int.le_refl, decide_eq_true_eq, decide_eq_false_iff_not, not_true_eq_false, not_false_eq_true, decide_true, decide_false, Bool.true_eq_false, V.cs, edgeS, sig3, aV, aInt, da, db, hla, hlb, hed, rInt, rVs, cVs, hw1, hw2, hmod, hl0, hpn, hjn, hga, hgb, show (ed.map V.cs).length * 56 ≤ 140737488355328 by rw [List.length_map]; omega, show (ed.map V.cs).length ≤ maxLen by rw [List.length_map]; simp only [maxLen]; omega]; rfl
      refine norm_ ?_
      refine last_reg (σ' := ?_) ?_ ?_
      rotate_left
      · simp -implicitDefEqProofs only [frustumref31_Against.r6, ex_nil, ex_cons, exK_some, st_n, st_g, gd_b, rn_v, rn_m, rn_s, rn_a, think, prep, mkDsts, St.clear, ev, upd, init, PV.av, St.put, forgetBox, AV.cells, AV.pv, pvs, fillX, chunks, binV, xints, ldX, AV.plain, baseOk, fg_p, fg_tk, mkG, Sig.spec, tab, St.of, List.getElem?_cons_zero, List.getElem?_cons_succ, List.getElem?_nil, Option.map_some, Option.map_none, Option.bind_some, Option.isSome_some, Option.isSome_none, if_true, if_false, reduceIte, Nat.reduceEqDiff, List.map_cons, List.map_nil, List.drop_succ_cons, List.drop_zero, List.take_succ_cons, List.take_zero, List.length_cons, List.length_nil, List.length_append, List.cons_append, List.nil_append, List.append_nil, Nat.reduceAdd, Nat.reduceMul, Nat.reduceLeDiff, Nat.reduceBEq, Nat.zero_le, Nat.le_refl, Nat.zero_add, Nat.add_zero, and_self, and_true, true_and, or_true, true_or, Bool.not_true, Bool.not_false, Bool.false_eq_true, beq_self_eq_true, reduceCtorEq, Int.reduceBEq, Int.reduceBNe, Int.reduceLT, Int.reduceLE, Int.reduceAdd, Int.reduceToNat, Int.toNat_zero, Int.reduceEq, Int.toNat_natCast, c3, eq_self, Int.le_refl, decide_eq_true_eq, decide_eq_false_iff_not, not_true_eq_false, not_false_eq_true, decide_true, decide_false, Bool.true_eq_false, rInt, hw3]; rfl
      refine round_ (m := l.length - (j + 1)) (σ'' := St.of [(0, .c (.p (cVs l))), (1, rInt k), (5, .c (.tk (.live nt) 5 (ed.map V.cs))), (6, rInt l.length), (7, rInt ((j + 1 : Nat) : Int))] [] [nt] (nt + 1)) (by omega) (sub_of (all_cons rfl (all_cons rfl (all_cons rfl (all_cons rfl (all_cons rfl all_nil))))) all_nil (all_cons (by simp) all_nil) (Nat.le_refl _)) ?_
      refine ⟨j + 1, _, _, _, hlt, rfl, .inr ⟨nt, Nat.lt_succ_self _, ?_, by simp⟩, rfl⟩
      rw [hnext, hnil, List.nil_append]
    · have hlm : (l.map V.cs).length = l.length := List.length_map _
      refine last_reg (σ' := ?_) ?_ ?_
      rotate_left
      · simp -implicitDefEqProofs only [frustumref31_Against.r5, ex_nil, ex_cons, exK_some, st_n, st_g, gd_b, rn_v, rn_m, rn_s, rn_a, think, prep, mkDsts, St.clear, ev, upd, init, PV.av, St.put, forgetBox, AV.cells, AV.pv, pvs, fillX, chunks, binV, xints, ldX, AV.plain, baseOk, fg_p, fg_tk, mkG, Sig.spec, tab, St.of, List.getElem?_cons_zero, List.getElem?_cons_succ, List.getElem?_nil, Option.map_some, Option.map_none, Option.bind_some, Option.isSome_some, Option.isSome_none, if_true, if_false, reduceIte, Nat.reduceEqDiff, List.map_cons, List.map_nil, List.drop_succ_cons, List.drop_zero, List.take_succ_cons, List.take_zero, List.length_cons, List.length_nil, List.length_append, List.cons_append, List.nil_append, List.append_nil, Nat.reduceAdd, Nat.reduceMul, Nat.reduceLeDiff, Nat.reduceBEq, Nat.zero_le, Nat.le_refl, Nat.zero_add, Nat.add_zero, and_self, and_true, true_and, or_true, true_or, Bool.not_true, Bool.not_false, Bool.false_eq_true, beq_self_eq_true, reduceCtorEq, Int.reduceBEq, Int.reduceBNe, Int.reduceLT, Int.reduceLE, Int.reduceAdd, Int.reduceToNat, Int.toNat_zero, Int.reduceEq, Int.toNat_natCast, c3, eq_self, Int.le_refl, decide_eq_true_eq, decide_eq_false_iff_not, not_true_eq_false, not_false_eq_true, decide_true, decide_false, Bool.true_eq_false, V.cs, edgeS, sig3, aV, aInt, da, db, hla, hlb, hed, rInt, rVs, cVs, hw1, hw2, hmod, hl0, hpn, hjn, hga, hgb, show (es.length + (ed.map V.cs).length) * 56 ≤ 140737488355328 by rw [List.length_map]; omega, show es.length + (ed.map V.cs).length ≤ maxLen by rw [List.length_map]; simp only [maxLen]; omega, show ks.contains k' = true by simpa using hks]; rfl
      refine norm_ ?_
      refine last_reg (σ' := ?_) ?_ ?_
      rotate_left
      · simp -implicitDefEqProofs only [frustumref31_Against.r6, ex_nil, ex_cons, exK_some, st_n, st_g, gd_b, rn_v, rn_m, rn_s, rn_a, think, prep, mkDsts, St.clear, ev, upd, init, PV.av, St.put, forgetBox, AV.cells, AV.pv, pvs, fillX, chunks, binV, xints, ldX, AV.plain, baseOk, fg_p, fg_tk, mkG, Sig.spec, tab, St.of, List.getElem?_cons_zero, List.getElem?_cons_succ, List.getElem?_nil, Option.map_some, Option.map_none, Option.bind_some, Option.isSome_some, Option.isSome_none, if_true, if_false, reduceIte, Nat.reduceEqDiff, List.map_cons, List.map_nil, List.drop_succ_cons, List.drop_zero, List.take_succ_cons, List.take_zero, List.length_cons, List.length_nil, List.length_append, List.cons_append, List.nil_append, List.append_nil, Nat.reduceAdd, Nat.reduceMul, Nat.reduceLeDiff, Nat.reduceBEq, Nat.zero_le, Nat.le_refl, Nat.zero_add, Nat.add_zero, and_self, and_true, true_and, or_true, true_or, Bool.not_true, Bool.not_false, Bool.false_eq_true, beq_self_eq_true, reduceCtorEq, Int.reduceBEq, Int.reduceBNe, Int.reduceLT, Int.reduceLE, Int.reduceAdd, Int.reduceToNat, Int.toNat_zero, Int.reduceEq, Int.toNat_natCast, c3, eq_self, Int.le_refl, decide_eq_true_eq, decide_eq_false_iff_not, not_true_eq_false, not_false_eq_true, decide_true, decide_false, Bool.true_eq_false, rInt, hw3]; rfl
      refine round_ (m := l.length - (j + 1)) (σ'' := St.of [(0, .c (.p (cVs l))), (1, rInt k), (5, .c (.tk (.live nt) 5 (es ++ ed.map V.cs))), (6, rInt l.length), (7, rInt ((j + 1 : Nat) : Int))] [] [nt] (nt + 1)) (by omega) (sub_of (all_cons rfl (all_cons rfl (all_cons rfl (all_cons rfl (all_cons rfl all_nil))))) all_nil (all_cons (by simp) all_nil) (Nat.le_refl _)) ?_
      refine ⟨j + 1, _, _, _, hlt, rfl, .inr ⟨nt, Nat.lt_succ_self _, ?_, by simp⟩, rfl⟩
      rw [hnext]
  · have hge : j = l.length := by have := of_decide_eq_false h; omega
    refine exit_ ?_
    subst hge
    refine norm_ ?_
    refine seq_reg (σ' := ?_) ?_ ?_
    rotate_left
    · simp -implicitDefEqProofs only [frustumref31_Against.r8, ex_nil, ex_cons, exK_some, st_n, st_g, gd_b, rn_v, rn_m, rn_s, rn_a, think, prep, mkDsts, St.clear, ev, upd, init, PV.av, St.put, forgetBox, AV.cells, AV.pv, pvs, fillX, chunks, binV, xints, ldX, AV.plain, baseOk, fg_p, fg_tk, mkG, Sig.spec, tab, St.of, List.getElem?_cons_zero, List.getElem?_cons_succ, List.getElem?_nil, Option.map_some, Option.map_none, Option.bind_some, Option.isSome_some, Option.isSome_none, if_true, if_false, reduceIte, Nat.reduceEqDiff, List.map_cons, List.map_nil, List.drop_succ_cons, List.drop_zero, List.take_succ_cons, List.take_zero, List.length_cons, List.length_nil, List.length_append, List.cons_append, List.nil_append, List.append_nil, Nat.reduceAdd, Nat.reduceMul, Nat.reduceLeDiff, Nat.reduceBEq, Nat.zero_le, Nat.le_refl, Nat.zero_add, Nat.add_zero, and_self, and_true, true_and, or_true, true_or, Bool.not_true, Bool.not_false, Bool.false_eq_true, beq_self_eq_true, reduceCtorEq, Int.reduceBEq, Int.reduceBNe, Int.reduceLT, Int.reduceLE, Int.reduceAdd, Int.reduceToNat, Int.toNat_zero, Int.reduceEq, Int.toNat_natCast, c3, eq_self, Int.le_refl, decide_eq_true_eq, decide_eq_false_iff_not, not_true_eq_false, not_false_eq_true, decide_true, decide_false, Bool.true_eq_false]; rfl
    refine ret_ ⟨.inl rfl, _, rfl, ?_⟩
    have he : (.sl 5 (((List.range l.length).flatMap fun i => edgeF (l.getD (prevI l.length i) default) (l.getD i default) k).map V.cs) : CV) = cVs (againstF l k) := rfl
    rcases hX with ⟨rfl, hnil⟩ | ⟨k', hk', rfl, hks⟩
    · refine AVle.c (y := .p (cVs (againstF l k))) ?_
      rw [← he, hnil]; exact XVle.tk0 _ _ _
    · refine AVle.c (y := .p (cVs (againstF l k))) ?_
      rw [← he]; exact XVle.refl _
theorem frustumref31_Polygon.ok : SpecOK Try.prog 17 polyS := (sig1 aT).ok fun t r h => by
  obtain ⟨u, v, w⟩ := t
  (try simp only at h)
  split at h
  case isFalse => cases h
  rename_i hl
  cases h
  have hP := poly_ok hl
  obtain ⟨lu, lv, lw⟩ := hl
  refine fnLaw Try.func17 frustumref31_Polygon.tr (by kernel_rfl) hE (ok_cons frustumref31_Saturated.ok (ok_cons frustumref31_Against.ok ok_nil)) ?_
  unfold frustumref31_Polygon.m
  have du := dV_lit u
  have dv := dV_lit v
  have dw := dV_lit w
  obtain ⟨pf, hpf⟩ : ∃ pf, pf = polyF (u, v, w) := ⟨_, rfl⟩
  have hp0 : pf 0 = [satV u, satV v, satV w] := by rw [hpf]; rfl
  have hps : ∀ i, pf (i + 1) = againstF (pf i) i := fun i => by rw [hpf]; rfl
  rw [← hpf] at hP ⊢
  refine seq_reg (σ' := ?_) ?_ ?_
  rotate_left
  · simp -implicitDefEqProofs only [frustumref31_Polygon.r0, ex_nil, ex_cons, exK_some, st_n, st_g, gd_b, rn_v, rn_m, rn_s, rn_a, think, prep, mkDsts, St.clear, ev, upd, init, PV.av, St.put, forgetBox, AV.cells, AV.pv, pvs, fillX, chunks, binV, xints, ldX, AV.plain, baseOk, fg_p, fg_tk, mkG, Sig.spec, tab, St.of, List.getElem?_cons_zero, List.getElem?_cons_succ, List.getElem?_nil, Option.map_some, Option.map_none, Option.bind_some, Option.isSome_some, Option.isSome_none, if_true, if_false, reduceIte, Nat.reduceEqDiff, List.map_cons, List.map_nil, List.drop_succ_cons, List.drop_zero, List.take_succ_cons, List.take_zero, List.length_cons, List.length_nil, List.length_append, List.cons_append, List.nil_append, List.append_nil, Nat.reduceAdd, Nat.reduceMul, Nat.reduceLeDiff, Nat.reduceBEq, Nat.zero_le, Nat.le_refl, Nat.zero_add, Nat.add_zero, and_self, and_true, true_and, or_true, true_or, Bool.not_true, Bool.not_false, Bool.false_eq_true, beq_self_eq_true, reduceCtorEq, Int.reduceBEq, Int.reduceBNe, Int.reduceLT, Int.reduceLE, Int.reduceAdd, Int.reduceToNat, Int.toNat_zero, Int.reduceEq, Int.toNat_natCast, c3, eq_self, Int.le_refl, decide_eq_true_eq, decide_eq_false_iff_not, not_true_eq_false, not_false_eq_true, decide_true, decide_false, Bool.true_eq_false, sig1, aT, T3_lit]; rfl
  generalize hsu : satV u = su at *
  generalize hsv : satV v = sv at *
  generalize hsw : satV w = sw at *
  refine seq_ex (σ'' := St.of [(3, .c (.tk .tight 5 [su.cs, sv.cs, sw.cs]))] [] [] (0)) ⟨_, by simp -implicitDefEqProofs only [frustumref31_Polygon.r1, ex_nil, ex_cons, exK_some, st_n, st_g, gd_b, rn_v, rn_m, rn_s, rn_a, think, prep, mkDsts, St.clear, ev, upd, init, PV.av, St.put, forgetBox, AV.cells, AV.pv, pvs, fillX, chunks, binV, xints, ldX, AV.plain, baseOk, fg_p, fg_tk, mkG, Sig.spec, tab, St.of, List.getElem?_cons_zero, List.getElem?_cons_succ, List.getElem?_nil, Option.map_some, Option.map_none, Option.bind_some, Option.isSome_some, Option.isSome_none, if_true, if_false, reduceIte, Nat.reduceEqDiff, List.map_cons, List.map_nil, List.drop_succ_cons, List.drop_zero, List.take_succ_cons, List.take_zero, List.length_cons, List.length_nil, List.length_append, List.cons_append, List.nil_append, List.append_nil, Nat.reduceAdd, Nat.reduceMul, Nat.reduceLeDiff, Nat.reduceBEq, Nat.zero_le, Nat.le_refl, Nat.zero_add, Nat.add_zero, and_self, and_true, true_and, or_true, true_or, Bool.not_true, Bool.not_false, Bool.false_eq_true, beq_self_eq_true, reduceCtorEq, Int.reduceBEq, Int.reduceBNe, Int.reduceLT, Int.reduceLE, Int.reduceAdd, Int.reduceToNat, Int.toNat_zero, Int.reduceEq, Int.toNat_natCast, c3, eq_self, Int.le_refl, decide_eq_true_eq, decide_eq_false_iff_not, not_true_eq_false, not_false_eq_true, decide_true, decide_false, Bool.true_eq_false, satVS, sig1, aV, du, dv, dw, lu, lv, lw, rV, V.cs, hsu, hsv, hsw]; rfl, sub_of (all_cons rfl all_nil) all_nil all_nil (Nat.le_refl _)⟩ ?_
  refine seq_ ?_
  refine seq_ex (σ'' := St.of [(3, .c (.tk .tight 5 [su.cs, sv.cs, sw.cs])), (4, rInt 0)] [] [] (0)) ⟨_, by simp -implicitDefEqProofs only [frustumref31_Polygon.r2, ex_nil, ex_cons, exK_some, st_n, st_g, gd_b, rn_v, rn_m, rn_s, rn_a, think, prep, mkDsts, St.clear, ev, upd, init, PV.av, St.put, forgetBox, AV.cells, AV.pv, pvs, fillX, chunks, binV, xints, ldX, AV.plain, baseOk, fg_p, fg_tk, mkG, Sig.spec, tab, St.of, List.getElem?_cons_zero, List.getElem?_cons_succ, List.getElem?_nil, Option.map_some, Option.map_none, Option.bind_some, Option.isSome_some, Option.isSome_none, if_true, if_false, reduceIte, Nat.reduceEqDiff, List.map_cons, List.map_nil, List.drop_succ_cons, List.drop_zero, List.take_succ_cons, List.take_zero, List.length_cons, List.length_nil, List.length_append, List.cons_append, List.nil_append, List.append_nil, Nat.reduceAdd, Nat.reduceMul, Nat.reduceLeDiff, Nat.reduceBEq, Nat.zero_le, Nat.le_refl, Nat.zero_add, Nat.add_zero, and_self, and_true, true_and, or_true, true_or, Bool.not_true, Bool.not_false, Bool.false_eq_true, beq_self_eq_true, reduceCtorEq, Int.reduceBEq, Int.reduceBNe, Int.reduceLT, Int.reduceLE, Int.reduceAdd, Int.reduceToNat, Int.toNat_zero, Int.reduceEq, Int.toNat_natCast, c3, eq_self, Int.le_refl, decide_eq_true_eq, decide_eq_false_iff_not, not_true_eq_false, not_false_eq_true, decide_true, decide_false, Bool.true_eq_false]; rfl, sub_of (all_cons rfl (all_cons rfl all_nil)) all_nil all_nil (Nat.le_refl _)⟩ ?_
  refine block_ ?_
  refine loop_ (fun n σ => ∃ (j : Nat) (X : XV), j ≤ 7 ∧ n = 7 - j ∧ X.forget = cVs (pf j) ∧ σ = St.of [(3, .c X), (4, rInt j)] [] [] 0)
    7 _ (Sub.refl _) ⟨0, _, Nat.zero_le _, rfl, by rw [hp0]; rfl, rfl⟩ ?_
  rintro n σ ⟨j, X, hj, rfl, hX, rfl⟩
  unfold frustumref31_Polygon.b6
  refine seq_ (seq_ ?_)
  refine seq_reg (σ' := ?_) ?_ ?_
  rotate_left
  · simp -implicitDefEqProofs only [frustumref31_Polygon.r3, ex_nil, ex_cons, exK_some, st_n, st_g, gd_b, rn_v, rn_m, rn_s, rn_a, think, prep, mkDsts, St.clear, ev, upd, init, PV.av, St.put, forgetBox, AV.cells, AV.pv, pvs, fillX, chunks, binV, xints, ldX, AV.plain, baseOk, fg_p, fg_tk, mkG, Sig.spec, tab, St.of, List.getElem?_cons_zero, List.getElem?_cons_succ, List.getElem?_nil, Option.map_some, Option.map_none, Option.bind_some, Option.isSome_some, Option.isSome_none, if_true, if_false, reduceIte, Nat.reduceEqDiff, List.map_cons, List.map_nil, List.drop_succ_cons, List.drop_zero, List.take_succ_cons, List.take_zero, List.length_cons, List.length_nil, List.length_append, List.cons_append, List.nil_append, List.append_nil, Nat.reduceAdd, Nat.reduceMul, Nat.reduceLeDiff, Nat.reduceBEq, Nat.zero_le, Nat.le_refl, Nat.zero_add, Nat.add_zero, and_self, and_true, true_and, or_true, true_or, Bool.not_true, Bool.not_false, Bool.false_eq_true, beq_self_eq_true, reduceCtorEq, Int.reduceBEq, Int.reduceBNe, Int.reduceLT, Int.reduceLE, Int.reduceAdd, Int.reduceToNat, Int.toNat_zero, Int.reduceEq, Int.toNat_natCast, c3, eq_self, Int.le_refl, decide_eq_true_eq, decide_eq_false_iff_not, not_true_eq_false, not_false_eq_true, decide_true, decide_false, Bool.true_eq_false, rInt]; rfl
  refine cond_ rfl (fun h => skip_ (norm_ ?_)) (fun h => ?_)
  · have hlt : j < 7 := by have := of_decide_eq_true h; omega
    obtain ⟨h1, h2⟩ := hP j
    have h3 : (pf j).length ≤ 3 * 64 := Nat.le_trans h2 (by
      have : 2 ^ j ≤ 2 ^ 6 := Nat.pow_le_pow_right (by decide) (by omega)
      omega)
    have hc : (∀ v ∈ pf j, lenOk v) ∧ 2 * (pf j).length * 56 ≤ 140737488355328 := ⟨lenM_ok h1, by omega⟩
    have hwr : IntKind.i64.wrap ((j : Int) + 1) = ((j + 1 : Nat) : Int) := by rw [i64_w' (by omega) (by omega)]; omega
    refine seq_ (block_ ?_)
    refine last_reg (σ' := ?_) ?_ ?_
    rotate_left
    · simp -implicitDefEqProofs only [frustumref31_Polygon.r4, ex_nil, ex_cons, exK_some, st_n, st_g, gd_b, rn_v, rn_m, rn_s, rn_a, think, prep, mkDsts, St.clear, ev, upd, init, PV.av, St.put, forgetBox, AV.cells, AV.pv, pvs, fillX, chunks, binV, xints, ldX, AV.plain, baseOk, fg_p, fg_tk, mkG, Sig.spec, tab, St.of, List.getElem?_cons_zero, List.getElem?_cons_succ, List.getElem?_nil, Option.map_some, Option.map_none, Option.bind_some, Option.isSome_some, Option.isSome_none, if_true, if_false, reduceIte, Nat.reduceEqDiff, List.map_cons, List.map_nil, List.drop_succ_cons, List.drop_zero, List.take_succ_cons, List.take_zero, List.length_cons, List.length_nil, List.length_append, List.cons_append, List.nil_append, List.append_nil, Nat.reduceAdd, Nat.reduceMul, Nat.reduceLeDiff, Nat.reduceBEq, Nat.zero_le, Nat.le_refl, Nat.zero_add, Nat.add_zero, and_self, and_true, true_and, or_true, true_or, Bool.not_true, Bool.not_false, Bool.false_eq_true, beq_self_eq_true, reduceCtorEq, Int.reduceBEq, Int.reduceBNe, Int.reduceLT, Int.reduceLE, Int.reduceAdd, Int.reduceToNat, Int.toNat_zero, Int.reduceEq, Int.toNat_natCast, c3, eq_self, Int.le_refl, decide_eq_true_eq, decide_eq_false_iff_not, not_true_eq_false, not_false_eq_true, decide_true, decide_false, Bool.true_eq_false, hX, againstS, sig2, aVs, aInt, cVs, dVs_enc, rVs, eq_true hc, ← hps, rInt]; rfl
    refine norm_ ?_
    refine last_reg (σ' := ?_) ?_ ?_
    rotate_left
    · simp -implicitDefEqProofs only [frustumref31_Polygon.r5, ex_nil, ex_cons, exK_some, st_n, st_g, gd_b, rn_v, rn_m, rn_s, rn_a, think, prep, mkDsts, St.clear, ev, upd, init, PV.av, St.put, forgetBox, AV.cells, AV.pv, pvs, fillX, chunks, binV, xints, ldX, AV.plain, baseOk, fg_p, fg_tk, mkG, Sig.spec, tab, St.of, List.getElem?_cons_zero, List.getElem?_cons_succ, List.getElem?_nil, Option.map_some, Option.map_none, Option.bind_some, Option.isSome_some, Option.isSome_none, if_true, if_false, reduceIte, Nat.reduceEqDiff, List.map_cons, List.map_nil, List.drop_succ_cons, List.drop_zero, List.take_succ_cons, List.take_zero, List.length_cons, List.length_nil, List.length_append, List.cons_append, List.nil_append, List.append_nil, Nat.reduceAdd, Nat.reduceMul, Nat.reduceLeDiff, Nat.reduceBEq, Nat.zero_le, Nat.le_refl, Nat.zero_add, Nat.add_zero, and_self, and_true, true_and, or_true, true_or, Bool.not_true, Bool.not_false, Bool.false_eq_true, beq_self_eq_true, reduceCtorEq, Int.reduceBEq, Int.reduceBNe, Int.reduceLT, Int.reduceLE, Int.reduceAdd, Int.reduceToNat, Int.toNat_zero, Int.reduceEq, Int.toNat_natCast, c3, eq_self, Int.le_refl, decide_eq_true_eq, decide_eq_false_iff_not, not_true_eq_false, not_false_eq_true, decide_true, decide_false, Bool.true_eq_false, rInt, hwr]; rfl
    exact round_ (m := 7 - (j + 1)) (σ'' := St.of [(3, .c (.p (cVs (pf (j + 1))))), (4, rInt ((j + 1 : Nat) : Int))] [] [] 0) (by omega) (sub_of (all_cons rfl (all_cons rfl all_nil)) all_nil all_nil (Nat.le_refl _)) ⟨j + 1, _, hlt, rfl, rfl, rfl⟩
  · have hge : j = 7 := by have := of_decide_eq_false h; omega
    refine exit_ ?_
    subst hge
    refine norm_ ?_
    refine seq_reg (σ' := ?_) ?_ ?_
    rotate_left
    · simp -implicitDefEqProofs only [frustumref31_Polygon.r7, ex_nil, ex_cons, exK_some, st_n, st_g, gd_b, rn_v, rn_m, rn_s, rn_a, think, prep, mkDsts, St.clear, ev, upd, init, PV.av, St.put, forgetBox, AV.cells, AV.pv, pvs, fillX, chunks, binV, xints, ldX, AV.plain, baseOk, fg_p, fg_tk, mkG, Sig.spec, tab, St.of, List.getElem?_cons_zero, List.getElem?_cons_succ, List.getElem?_nil, Option.map_some, Option.map_none, Option.bind_some, Option.isSome_some, Option.isSome_none, if_true, if_false, reduceIte, Nat.reduceEqDiff, List.map_cons, List.map_nil, List.drop_succ_cons, List.drop_zero, List.take_succ_cons, List.take_zero, List.length_cons, List.length_nil, List.length_append, List.cons_append, List.nil_append, List.append_nil, Nat.reduceAdd, Nat.reduceMul, Nat.reduceLeDiff, Nat.reduceBEq, Nat.zero_le, Nat.le_refl, Nat.zero_add, Nat.add_zero, and_self, and_true, true_and, or_true, true_or, Bool.not_true, Bool.not_false, Bool.false_eq_true, beq_self_eq_true, reduceCtorEq, Int.reduceBEq, Int.reduceBNe, Int.reduceLT, Int.reduceLE, Int.reduceAdd, Int.reduceToNat, Int.toNat_zero, Int.reduceEq, Int.toNat_natCast, c3, eq_self, Int.le_refl, decide_eq_true_eq, decide_eq_false_iff_not, not_true_eq_false, not_false_eq_true, decide_true, decide_false, Bool.true_eq_false]; rfl
    refine ret_ ⟨.inl rfl, _, rfl, ?_⟩
    refine AVle.c (y := .p (cVs (pf 7))) ?_
    intro w ok v hv
    have := RepX.forget hv
    rw [show X.fin.forget = X.forget from by cases X with
      | p c => rfl
      | tk t sz es => cases t <;> rfl, hX] at this
    exact this
theorem frustumref31_Triangles.ok : SpecOK Try.prog 29 trisS := (sig1 aVs).ok fun l r h => by
  (try simp only at h)
  split at h
  case isFalse => cases h
  rename_i hl
  obtain ⟨hv, hn⟩ := hl
  cases h
  refine fnLaw Try.func29 frustumref31_Triangles.tr (by kernel_rfl) hE (ok_cons frustumref31_Saturated.ok ok_nil) ?_
  unfold frustumref31_Triangles.m
  refine seq_reg (σ' := ?_) ?_ ?_
  rotate_left
  · simp -implicitDefEqProofs only [frustumref31_Triangles.r0, ex_nil, ex_cons, exK_some, st_n, st_g, gd_b, rn_v, rn_m, rn_s, rn_a, think, prep, mkDsts, St.clear, ev, upd, init, PV.av, St.put, forgetBox, AV.cells, AV.pv, pvs, fillX, chunks, binV, xints, ldX, AV.plain, baseOk, fg_p, fg_tk, mkG, Sig.spec, tab, St.of, List.getElem?_cons_zero, List.getElem?_cons_succ, List.getElem?_nil, Option.map_some, Option.map_none, Option.bind_some, Option.isSome_some, Option.isSome_none, if_true, if_false, reduceIte, Nat.reduceEqDiff, List.map_cons, List.map_nil, List.drop_succ_cons, List.drop_zero, List.take_succ_cons, List.take_zero, List.length_cons, List.length_nil, List.length_append, List.cons_append, List.nil_append, List.append_nil, Nat.reduceAdd, Nat.reduceMul, Nat.reduceLeDiff, Nat.reduceBEq, Nat.zero_le, Nat.le_refl, Nat.zero_add, Nat.add_zero, and_self, and_true, true_and, or_true, true_or, Bool.not_true, Bool.not_false, Bool.false_eq_true, beq_self_eq_true, reduceCtorEq, Int.reduceBEq, Int.reduceBNe, Int.reduceLT, Int.reduceLE, Int.reduceAdd, Int.reduceToNat, Int.toNat_zero, Int.reduceEq, Int.toNat_natCast, c3, eq_self, Int.le_refl, decide_eq_true_eq, decide_eq_false_iff_not, not_true_eq_false, not_false_eq_true, decide_true, decide_false, Bool.true_eq_false, sig1, aVs]; rfl
  refine seq_reg (σ' := ?_) ?_ ?_
  rotate_left
  · simp -implicitDefEqProofs only [frustumref31_Triangles.r1, ex_nil, ex_cons, exK_some, st_n, st_g, gd_b, rn_v, rn_m, rn_s, rn_a, think, prep, mkDsts, St.clear, ev, upd, init, PV.av, St.put, forgetBox, AV.cells, AV.pv, pvs, fillX, chunks, binV, xints, ldX, AV.plain, baseOk, fg_p, fg_tk, mkG, Sig.spec, tab, St.of, List.getElem?_cons_zero, List.getElem?_cons_succ, List.getElem?_nil, Option.map_some, Option.map_none, Option.bind_some, Option.isSome_some, Option.isSome_none, if_true, if_false, reduceIte, Nat.reduceEqDiff, List.map_cons, List.map_nil, List.drop_succ_cons, List.drop_zero, List.take_succ_cons, List.take_zero, List.length_cons, List.length_nil, List.length_append, List.cons_append, List.nil_append, List.append_nil, Nat.reduceAdd, Nat.reduceMul, Nat.reduceLeDiff, Nat.reduceBEq, Nat.zero_le, Nat.le_refl, Nat.zero_add, Nat.add_zero, and_self, and_true, true_and, or_true, true_or, Bool.not_true, Bool.not_false, Bool.false_eq_true, beq_self_eq_true, reduceCtorEq, Int.reduceBEq, Int.reduceBNe, Int.reduceLT, Int.reduceLE, Int.reduceAdd, Int.reduceToNat, Int.toNat_zero, Int.reduceEq, Int.toNat_natCast, c3, eq_self, Int.le_refl, decide_eq_true_eq, decide_eq_false_iff_not, not_true_eq_false, not_false_eq_true, decide_true, decide_false, Bool.true_eq_false]; rfl
  refine seq_ ?_
  refine seq_ex (σ'' := St.of [(0, .c (.p (cVs l))), (3, .c (.tk .tight 0 [])), (4, rInt 1)] [] [] (0)) ⟨_, by simp -implicitDefEqProofs only [frustumref31_Triangles.r2, ex_nil, ex_cons, exK_some, st_n, st_g, gd_b, rn_v, rn_m, rn_s, rn_a, think, prep, mkDsts, St.clear, ev, upd, init, PV.av, St.put, forgetBox, AV.cells, AV.pv, pvs, fillX, chunks, binV, xints, ldX, AV.plain, baseOk, fg_p, fg_tk, mkG, Sig.spec, tab, St.of, List.getElem?_cons_zero, List.getElem?_cons_succ, List.getElem?_nil, Option.map_some, Option.map_none, Option.bind_some, Option.isSome_some, Option.isSome_none, if_true, if_false, reduceIte, Nat.reduceEqDiff, List.map_cons, List.map_nil, List.drop_succ_cons, List.drop_zero, List.take_succ_cons, List.take_zero, List.length_cons, List.length_nil, List.length_append, List.cons_append, List.nil_append, List.append_nil, Nat.reduceAdd, Nat.reduceMul, Nat.reduceLeDiff, Nat.reduceBEq, Nat.zero_le, Nat.le_refl, Nat.zero_add, Nat.add_zero, and_self, and_true, true_and, or_true, true_or, Bool.not_true, Bool.not_false, Bool.false_eq_true, beq_self_eq_true, reduceCtorEq, Int.reduceBEq, Int.reduceBNe, Int.reduceLT, Int.reduceLE, Int.reduceAdd, Int.reduceToNat, Int.toNat_zero, Int.reduceEq, Int.toNat_natCast, c3, eq_self, Int.le_refl, decide_eq_true_eq, decide_eq_false_iff_not, not_true_eq_false, not_false_eq_true, decide_true, decide_false, Bool.true_eq_false]; rfl, sub_of (all_cons rfl (all_cons rfl (all_cons rfl all_nil))) all_nil all_nil (Nat.le_refl _)⟩ ?_
  refine block_ ?_
  obtain ⟨tf, htf⟩ : ∃ tf : Nat → T3, tf = fun i => (satV (l.getD 0 default), satV (l.getD (i + 1) default), satV (l.getD (i + 2) default)) := ⟨_, rfl⟩
  have hF : trisF l = (List.range (l.length - 2)).map tf := by rw [htf]; rfl
  rw [hF]
  refine loop_ (fun n σ => ∃ (j : Nat) (X : XV) (ks : List Nat) (nt : Nat), j ≤ l.length - 2 ∧ n = l.length - 2 - j ∧ Mine ks nt X 15 (((List.range j).map tf).map T3.cs) ∧
    σ = St.of [(0, .c (.p (cVs l))), (3, .c X), (4, rInt ((j : Int) + 1))] [] ks nt)
    (l.length - 2) _ (Sub.refl _) ⟨0, .tk .tight 0 [], [], 0, Nat.zero_le _, rfl, .inl ⟨rfl, rfl⟩, rfl⟩ ?_
  rintro n σ ⟨j, X, ks, nt, hj, rfl, hX, rfl⟩
  unfold frustumref31_Triangles.b6
  have hw1 : IntKind.i64.wrap ((j : Int) + 1 + 1) = (j : Int) + 2 := by rw [i64_w' (by omega) (by omega)]; omega
  refine seq_ (seq_ ?_)
  refine seq_reg (σ' := ?_) ?_ ?_
  rotate_left
  · simp -implicitDefEqProofs only [frustumref31_Triangles.r3, ex_nil, ex_cons, exK_some, st_n, st_g, gd_b, rn_v, rn_m, rn_s, rn_a, think, prep, mkDsts, St.clear, ev, upd, init, PV.av, St.put, forgetBox, AV.cells, AV.pv, pvs, fillX, chunks, binV, xints, ldX, AV.plain, baseOk, fg_p, fg_tk, mkG, Sig.spec, tab, St.of, List.getElem?_cons_zero, List.getElem?_cons_succ, List.getElem?_nil, Option.map_some, Option.map_none, Option.bind_some, Option.isSome_some, Option.isSome_none, if_true, if_false, reduceIte, Nat.reduceEqDiff, List.map_cons, List.map_nil, List.drop_succ_cons, List.drop_zero, List.take_succ_cons, List.take_zero, List.length_cons, List.length_nil, List.length_append, List.cons_append, List.nil_append, List.append_nil, Nat.reduceAdd, Nat.reduceMul, Nat.reduceLeDiff, Nat.reduceBEq, Nat.zero_le, Nat.le_refl, Nat.zero_add, Nat.add_zero, and_self, and_true, true_and, or_true, true_or, Bool.not_true, Bool.not_false, Bool.false_eq_true, beq_self_eq_true, reduceCtorEq, Int.reduceBEq, Int.reduceBNe, Int.reduceLT, Int.reduceLE, Int.reduceAdd, Int.reduceToNat, Int.toNat_zero, Int.reduceEq, Int.toNat_natCast, c3, eq_self, Int.le_refl, decide_eq_true_eq, decide_eq_false_iff_not, not_true_eq_false, not_false_eq_true, decide_true, decide_false, Bool.true_eq_false, rInt, cVs, List.length_map, hw1]; rfl
  refine cond_ rfl (fun h => skip_ (norm_ ?_)) (fun h => ?_)
  · have hlt : j + 2 < l.length := by have := of_decide_eq_true h; omega
    obtain ⟨a, ha⟩ : ∃ a, l[0]'(by omega) = a := ⟨_, rfl⟩
    obtain ⟨b, hb⟩ : ∃ b, l[j + 1]'(by omega) = b := ⟨_, rfl⟩
    obtain ⟨c, hc⟩ : ∃ c, l[j + 2]'(by omega) = c := ⟨_, rfl⟩
    have hga : (l.map V.cs)[0]? = some a.cs := by rw [List.getElem?_map, List.getElem?_eq_getElem (by omega), ha]; rfl
    have hgb : (l.map V.cs)[((j : Int) + 1).toNat]? = some b.cs := by rw [show ((j : Int) + 1).toNat = j + 1 by omega, List.getElem?_map, List.getElem?_eq_getElem (by omega), hb]; rfl
    have hgc : (l.map V.cs)[((j : Int) + 2).toNat]? = some c.cs := by rw [show ((j : Int) + 2).toNat = j + 2 by omega, List.getElem?_map, List.getElem?_eq_getElem (by omega), hc]; rfl
    have la : lenOk a := hv a (by rw [← ha]; exact List.getElem_mem _)
    have lb : lenOk b := hv b (by rw [← hb]; exact List.getElem_mem _)
    have lc : lenOk c := hv c (by rw [← hc]; exact List.getElem_mem _)
    have da := dV_lit a
    have db := dV_lit b
    have dc := dV_lit c
    have htj : tf j = (satV a, satV b, satV c) := by
      rw [htf]
      have e1 : l.getD 0 default = a := by simp [List.getD, ← ha, List.getElem?_eq_getElem (show 0 < l.length by omega)]
      have e2 : l.getD (j + 1) default = b := by simp [List.getD, ← hb, List.getElem?_eq_getElem (show j + 1 < l.length by omega)]
      have e3 : l.getD (j + 2) default = c := by simp [List.getD, ← hc, List.getElem?_eq_getElem (show j + 2 < l.length by omega)]
      simp only [e1, e2, e3]
    have hnext : ((List.range (j + 1)).map tf).map T3.cs = ((List.range j).map tf).map T3.cs ++ [T3.cs (satV a, satV b, satV c)] := by
      rw [List.range_succ, List.map_append, List.map_append]
      simp only [List.map_cons, List.map_nil, htj]
    have hel0 : (((List.range j).map tf).map T3.cs).length = j := by simp
    generalize hes : ((List.range j).map tf).map T3.cs = es at hX hnext hel0
    generalize hsa : satV a = sa at *
    generalize hsb : satV b = sb at *
    generalize hsc : satV c = sc at *
    have p1 : (0 : Int) ≤ (j : Int) + 1 := by omega
    have p2 : (0 : Int) ≤ (j : Int) + 2 := by omega
    refine seq_ (block_ ?_)
    rcases hX with ⟨rfl, hnil⟩ | ⟨k', hk', rfl, hks⟩
    · refine last_reg (σ' := ?_) ?_ ?_
      rotate_left
      · simp -implicitDefEqProofs only [frustumref31_Triangles.r4, ex_nil, ex_cons, exK_some, st_n, st_g, gd_b, rn_v, rn_m, rn_s, rn_a, think, prep, mkDsts, St.clear, ev, upd, init, PV.av, St.put, forgetBox, AV.cells, AV.pv, pvs, fillX, chunks, binV, xints, ldX, AV.plain, baseOk, fg_p, fg_tk, mkG, Sig.spec, tab, St.of, List.getElem?_cons_zero, List.getElem?_cons_succ, List.getElem?_nil, Option.map_some, Option.map_none, Option.bind_some, Option.isSome_some, Option.isSome_none, if_true, if_false, reduceIte, Nat.reduceEqDiff, List.map_cons, List.map_nil, List.drop_succ_cons, List.drop_zero, List.take_succ_cons, List.take_zero, List.length_cons, List.length_nil, List.length_append, List.cons_append, List.nil_append, List.append_nil, Nat.reduceAdd, Nat.reduceMul, Nat.reduceLeDiff, Nat.reduceBEq, Nat.zero_le, Nat.le_refl, Nat.zero_add, Nat.add_zero, and_self, and_true, true_and, or_true, true_or, Bool.not_true, Bool.not_false, Bool.false_eq_true, beq_self_eq_true, reduceCtorEq, Int.reduceBEq, Int.reduceBNe, Int.reduceLT, Int.reduceLE, Int.reduceAdd, Int.reduceToNat, Int.toNat_zero, Int.reduceEq, Int.toNat_natCast, c3, eq_self, Int.le_refl, decide_eq_true_eq, decide_eq_false_iff_not, not_true_eq_false, not_false_eq_true, decide_true, decide_false, Bool.true_eq_false, rInt, cVs, hga, hgb, hgc, p1, p2, hw1, V.cs, satVS, sig1, aV, da, db, dc, la, lb, lc, rV, hsa, hsb, hsc, show (1 : Nat) * 168 ≤ 140737488355328 by decide, show 1 ≤ maxLen by decide]; rfl
      refine norm_ ?_
      refine last_reg (σ' := ?_) ?_ ?_
      rotate_left
      · simp -implicitDefEqProofs only [frustumref31_Triangles.r5, ex_nil, ex_cons, exK_some, st_n, st_g, gd_b, rn_v, rn_m, rn_s, rn_a, think, prep, mkDsts, St.clear, ev, upd, init, PV.av, St.put, forgetBox, AV.cells, AV.pv, pvs, fillX, chunks, binV, xints, ldX, AV.plain, baseOk, fg_p, fg_tk, mkG, Sig.spec, tab, St.of, List.getElem?_cons_zero, List.getElem?_cons_succ, List.getElem?_nil, Option.map_some, Option.map_none, Option.bind_some, Option.isSome_some, Option.isSome_none, if_true, if_false, reduceIte, Nat.reduceEqDiff, List.map_cons, List.map_nil, List.drop_succ_cons, List.drop_zero, List.take_succ_cons, List.take_zero, List.length_cons, List.length_nil, List.length_append, List.cons_append, List.nil_append, List.append_nil, Nat.reduceAdd, Nat.reduceMul, Nat.reduceLeDiff, Nat.reduceBEq, Nat.zero_le, Nat.le_refl, Nat.zero_add, Nat.add_zero, and_self, and_true, true_and, or_true, true_or, Bool.not_true, Bool.not_false, Bool.false_eq_true, beq_self_eq_true, reduceCtorEq, Int.reduceBEq, Int.reduceBNe, Int.reduceLT, Int.reduceLE, Int.reduceAdd, Int.reduceToNat, Int.toNat_zero, Int.reduceEq, Int.toNat_natCast, c3, eq_self, Int.le_refl, decide_eq_true_eq, decide_eq_false_iff_not, not_true_eq_false, not_false_eq_true, decide_true, decide_false, Bool.true_eq_false, rInt, hw1]; rfl
      refine round_ (m := l.length - 2 - (j + 1)) (σ'' := St.of [(0, .c (.p (cVs l))), (3, .c (.tk (.live nt) 15 [T3.cs (sa, sb, sc)])), (4, rInt (((j + 1 : Nat) : Int) + 1))] [] [nt] (nt + 1)) (by omega) (sub_of (all_cons rfl (all_cons rfl (all_cons ?_ all_nil))) all_nil (all_cons (by simp) all_nil) (Nat.le_refl _)) ?_
      · simp -implicitDefEqProofs only [ex_nil, ex_cons, exK_some, st_n, st_g, gd_b, rn_v, rn_m, rn_s, rn_a, think, prep, mkDsts, St.clear, ev, upd, init, PV.av, St.put, forgetBox, AV.cells, AV.pv, pvs, fillX, chunks, binV, xints, ldX, AV.plain, baseOk, fg_p, fg_tk, mkG, Sig.spec, tab, St.of, List.getElem?_cons_zero, List.getElem?_cons_succ, List.getElem?_nil, Option.map_some, Option.map_none, Option.bind_some, Option.isSome_some, Option.isSome_none, if_true, if_false, reduceIte, Nat.reduceEqDiff, List.map_cons, List.map_nil, List.drop_succ_cons, List.drop_zero, List.take_succ_cons, List.take_zero, List.length_cons, List.length_nil, List.length_append, List.cons_append, List.nil_append, List.append_nil, Nat.reduceAdd, Nat.reduceMul, Nat.reduceLeDiff, Nat.reduceBEq, Nat.zero_le, Nat.le_refl, Nat.zero_add, Nat.add_zero, and_self, and_true, true_and, or_true, true_or, Bool.not_true, Bool.not_false, Bool.false_eq_true, beq_self_eq_true, reduceCtorEq, Int.reduceBEq, Int.reduceBNe, Int.reduceLT, Int.reduceLE, Int.reduceAdd, Int.reduceToNat, Int.toNat_zero, Int.reduceEq, Int.toNat_natCast, c3, eq_self, Int.le_refl, decide_eq_true_eq, decide_eq_false_iff_not, not_true_eq_false, not_false_eq_true, decide_true, decide_false, Bool.true_eq_false, rInt, show (((j + 1 : Nat) : Int) + 1) = (j : Int) + 2 by omega]
      refine ⟨j + 1, _, _, _, by omega, rfl, .inr ⟨nt, Nat.lt_succ_self _, ?_, by simp⟩, rfl⟩
      rw [hnext, hnil, List.nil_append]
    · refine last_reg (σ' := ?_) ?_ ?_
      rotate_left
      · simp -implicitDefEqProofs only [frustumref31_Triangles.r4, ex_nil, ex_cons, exK_some, st_n, st_g, gd_b, rn_v, rn_m, rn_s, rn_a, think, prep, mkDsts, St.clear, ev, upd, init, PV.av, St.put, forgetBox, AV.cells, AV.pv, pvs, fillX, chunks, binV, xints, ldX, AV.plain, baseOk, fg_p, fg_tk, mkG, Sig.spec, tab, St.of, List.getElem?_cons_zero, List.getElem?_cons_succ, List.getElem?_nil, Option.map_some, Option.map_none, Option.bind_some, Option.isSome_some, Option.isSome_none, if_true, if_false, reduceIte, Nat.reduceEqDiff, List.map_cons, List.map_nil, List.drop_succ_cons, List.drop_zero, List.take_succ_cons, List.take_zero, List.length_cons, List.length_nil, List.length_append, List.cons_append, List.nil_append, List.append_nil, Nat.reduceAdd, Nat.reduceMul, Nat.reduceLeDiff, Nat.reduceBEq, Nat.zero_le, Nat.le_refl, Nat.zero_add, Nat.add_zero, and_self, and_true, true_and, or_true, true_or, Bool.not_true, Bool.not_false, Bool.false_eq_true, beq_self_eq_true, reduceCtorEq, Int.reduceBEq, Int.reduceBNe, Int.reduceLT, Int.reduceLE, Int.reduceAdd, Int.reduceToNat, Int.toNat_zero, Int.reduceEq, Int.toNat_natCast, c3, eq_self, Int.le_refl, decide_eq_true_eq, decide_eq_false_iff_not, not_true_eq_false, not_false_eq_true, decide_true, decide_false, Bool.true_eq_false, rInt, cVs, hga, hgb, hgc, p1, p2, hw1, V.cs, satVS, sig1, aV, da, db, dc, la, lb, lc, rV, hsa, hsb, hsc, show (es.length + 1) * 168 ≤ 140737488355328 by omega, show es.length + 1 ≤ maxLen by simp only [maxLen]; omega, show ks.contains k' = true by simpa using hks]; rfl
      refine norm_ ?_
      refine last_reg (σ' := ?_) ?_ ?_
      rotate_left
      · simp -implicitDefEqProofs only [frustumref31_Triangles.r5, ex_nil, ex_cons, exK_some, st_n, st_g, gd_b, rn_v, rn_m, rn_s, rn_a, think, prep, mkDsts, St.clear, ev, upd, init, PV.av, St.put, forgetBox, AV.cells, AV.pv, pvs, fillX, chunks, binV, xints, ldX, AV.plain, baseOk, fg_p, fg_tk, mkG, Sig.spec, tab, St.of, List.getElem?_cons_zero, List.getElem?_cons_succ, List.getElem?_nil, Option.map_some, Option.map_none, Option.bind_some, Option.isSome_some, Option.isSome_none, if_true, if_false, reduceIte, Nat.reduceEqDiff, List.map_cons, List.map_nil, List.drop_succ_cons, List.drop_zero, List.take_succ_cons, List.take_zero, List.length_cons, List.length_nil, List.length_append, List.cons_append, List.nil_append, List.append_nil, Nat.reduceAdd, Nat.reduceMul, Nat.reduceLeDiff, Nat.reduceBEq, Nat.zero_le, Nat.le_refl, Nat.zero_add, Nat.add_zero, and_self, and_true, true_and, or_true, true_or, Bool.not_true, Bool.not_false, Bool.false_eq_true, beq_self_eq_true, reduceCtorEq, Int.reduceBEq, Int.reduceBNe, Int.reduceLT, Int.reduceLE, Int.reduceAdd, Int.reduceToNat, Int.toNat_zero, Int.reduceEq, Int.toNat_natCast, c3, eq_self, Int.le_refl, decide_eq_true_eq, decide_eq_false_iff_not, not_true_eq_false, not_false_eq_true, decide_true, decide_false, Bool.true_eq_false, rInt, hw1]; rfl
      refine round_ (m := l.length - 2 - (j + 1)) (σ'' := St.of [(0, .c (.p (cVs l))), (3, .c (.tk (.live nt) 15 (es ++ [T3.cs (sa, sb, sc)]))), (4, rInt (((j + 1 : Nat) : Int) + 1))] [] [nt] (nt + 1)) (by omega) (sub_of (all_cons rfl (all_cons rfl (all_cons ?_ all_nil))) all_nil (all_cons (by simp) all_nil) (Nat.le_refl _)) ?_
      · simp -implicitDefEqProofs only [ex_nil, ex_cons, exK_some, st_n, st_g, gd_b, rn_v, rn_m, rn_s, rn_a, think, prep, mkDsts, St.clear, ev, upd, init, PV.av, St.put, forgetBox, AV.cells, AV.pv, pvs, fillX, chunks, binV, xints, ldX, AV.plain, baseOk, fg_p, fg_tk, mkG, Sig.spec, tab, St.of, List.getElem?_cons_zero, List.getElem?_cons_succ, List.getElem?_nil, Option.map_some, Option.map_none, Option.bind_some, Option.isSome_some, Option.isSome_none, if_true, if_false, reduceIte, Nat.reduceEqDiff, List.map_cons, List.map_nil, List.drop_succ_cons, List.drop_zero, List.take_succ_cons, List.take_zero, List.length_cons, List.length_nil, List.length_append, List.cons_append, List.nil_append, List.append_nil, Nat.reduceAdd, Nat.reduceMul, Nat.reduceLeDiff, Nat.reduceBEq, Nat.zero_le, Nat.le_refl, Nat.zero_add, Nat.add_zero, and_self, and_true, true_and, or_true, true_or, Bool.not_true, Bool.not_false, Bool.false_eq_true, beq_self_eq_true, reduceCtorEq, Int.reduceBEq, Int.reduceBNe, Int.reduceLT, Int.reduceLE, Int.reduceAdd, Int.reduceToNat, Int.toNat_zero, Int.reduceEq, Int.toNat_natCast, c3, eq_self, Int.le_refl, decide_eq_true_eq, decide_eq_false_iff_not, not_true_eq_false, not_false_eq_true, decide_true, decide_false, Bool.true_eq_false, rInt, show (((j + 1 : Nat) : Int) + 1) = (j : Int) + 2 by omega]
      refine ⟨j + 1, _, _, _, by omega, rfl, .inr ⟨nt, Nat.lt_succ_self _, ?_, by simp⟩, rfl⟩
      rw [hnext]
  · have hge : j = l.length - 2 := by have := of_decide_eq_false h; omega
    refine exit_ ?_
    subst hge
    refine norm_ ?_
    refine seq_reg (σ' := ?_) ?_ ?_
    rotate_left
    · simp -implicitDefEqProofs only [frustumref31_Triangles.r7, ex_nil, ex_cons, exK_some, st_n, st_g, gd_b, rn_v, rn_m, rn_s, rn_a, think, prep, mkDsts, St.clear, ev, upd, init, PV.av, St.put, forgetBox, AV.cells, AV.pv, pvs, fillX, chunks, binV, xints, ldX, AV.plain, baseOk, fg_p, fg_tk, mkG, Sig.spec, tab, St.of, List.getElem?_cons_zero, List.getElem?_cons_succ, List.getElem?_nil, Option.map_some, Option.map_none, Option.bind_some, Option.isSome_some, Option.isSome_none, if_true, if_false, reduceIte, Nat.reduceEqDiff, List.map_cons, List.map_nil, List.drop_succ_cons, List.drop_zero, List.take_succ_cons, List.take_zero, List.length_cons, List.length_nil, List.length_append, List.cons_append, List.nil_append, List.append_nil, Nat.reduceAdd, Nat.reduceMul, Nat.reduceLeDiff, Nat.reduceBEq, Nat.zero_le, Nat.le_refl, Nat.zero_add, Nat.add_zero, and_self, and_true, true_and, or_true, true_or, Bool.not_true, Bool.not_false, Bool.false_eq_true, beq_self_eq_true, reduceCtorEq, Int.reduceBEq, Int.reduceBNe, Int.reduceLT, Int.reduceLE, Int.reduceAdd, Int.reduceToNat, Int.toNat_zero, Int.reduceEq, Int.toNat_natCast, c3, eq_self, Int.le_refl, decide_eq_true_eq, decide_eq_false_iff_not, not_true_eq_false, not_false_eq_true, decide_true, decide_false, Bool.true_eq_false]; rfl
    refine ret_ ⟨.inl rfl, _, rfl, ?_⟩
    rcases hX with ⟨rfl, hnil⟩ | ⟨k', hk', rfl, hks⟩
    · refine AVle.c (y := .p (.sl 15 (((List.range (l.length - 2)).map tf).map T3.cs))) ?_
      rw [hnil]; exact XVle.tk0 _ _ _
    · exact AVle.c (XVle.refl _)
theorem frustumref31_Clip.ok : SpecOK Try.prog 20 clipS := (sig1 aT).ok fun t r h => by
  obtain ⟨u, v, w⟩ := t
  (try simp only at h)
  split at h
  case isFalse => cases h
  rename_i hl
  cases h
  obtain ⟨hP1, hP2⟩ := poly_ok hl 7
  unfold clipF
  generalize hpl : polyF (u, v, w) 7 = pl at *
  have hc : (∀ v ∈ pl, lenOk v) ∧ pl.length * 168 ≤ 140737488355328 := ⟨lenM_ok hP1, by omega⟩
  refine fnLaw Try.func20 frustumref31_Clip.tr (by kernel_rfl) hE (ok_cons frustumref31_Polygon.ok (ok_cons frustumref31_Triangles.ok ok_nil)) ?_
  unfold frustumref31_Clip.m
  refine seq_reg (σ' := ?_) ?_ ?_
  rotate_left
  · simp -implicitDefEqProofs only [frustumref31_Clip.r0, ex_nil, ex_cons, exK_some, st_n, st_g, gd_b, rn_v, rn_m, rn_s, rn_a, think, prep, mkDsts, St.clear, ev, upd, init, PV.av, St.put, forgetBox, AV.cells, AV.pv, pvs, fillX, chunks, binV, xints, ldX, AV.plain, baseOk, fg_p, fg_tk, mkG, Sig.spec, tab, St.of, List.getElem?_cons_zero, List.getElem?_cons_succ, List.getElem?_nil, Option.map_some, Option.map_none, Option.bind_some, Option.isSome_some, Option.isSome_none, if_true, if_false, reduceIte, Nat.reduceEqDiff, List.map_cons, List.map_nil, List.drop_succ_cons, List.drop_zero, List.take_succ_cons, List.take_zero, List.length_cons, List.length_nil, List.length_append, List.cons_append, List.nil_append, List.append_nil, Nat.reduceAdd, Nat.reduceMul, Nat.reduceLeDiff, Nat.reduceBEq, Nat.zero_le, Nat.le_refl, Nat.zero_add, Nat.add_zero, and_self, and_true, true_and, or_true, true_or, Bool.not_true, Bool.not_false, Bool.false_eq_true, beq_self_eq_true, reduceCtorEq, Int.reduceBEq, Int.reduceBNe, Int.reduceLT, Int.reduceLE, Int.reduceAdd, Int.reduceToNat, Int.toNat_zero, Int.reduceEq, Int.toNat_natCast, c3, eq_self, Int.le_refl, decide_eq_true_eq, decide_eq_false_iff_not, not_true_eq_false, not_false_eq_true, decide_true, decide_false, Bool.true_eq_false, sig1, aT, T3_lit]; rfl
  refine seq_reg (σ' := ?_) ?_ ?_
  rotate_left
  · simp -implicitDefEqProofs only [frustumref31_Clip.r1, ex_nil, ex_cons, exK_some, st_n, st_g, gd_b, rn_v, rn_m, rn_s, rn_a, think, prep, mkDsts, St.clear, ev, upd, init, PV.av, St.put, forgetBox, AV.cells, AV.pv, pvs, fillX, chunks, binV, xints, ldX, AV.plain, baseOk, fg_p, fg_tk, mkG, Sig.spec, tab, St.of, List.getElem?_cons_zero, List.getElem?_cons_succ, List.getElem?_nil, Option.map_some, Option.map_none, Option.bind_some, Option.isSome_some, Option.isSome_none, if_true, if_false, reduceIte, Nat.reduceEqDiff, List.map_cons, List.map_nil, List.drop_succ_cons, List.drop_zero, List.take_succ_cons, List.take_zero, List.length_cons, List.length_nil, List.length_append, List.cons_append, List.nil_append, List.append_nil, Nat.reduceAdd, Nat.reduceMul, Nat.reduceLeDiff, Nat.reduceBEq, Nat.zero_le, Nat.le_refl, Nat.zero_add, Nat.add_zero, and_self, and_true, true_and, or_true, true_or, Bool.not_true, Bool.not_false, Bool.false_eq_true, beq_self_eq_true, reduceCtorEq, Int.reduceBEq, Int.reduceBNe, Int.reduceLT, Int.reduceLE, Int.reduceAdd, Int.reduceToNat, Int.toNat_zero, Int.reduceEq, Int.toNat_natCast, c3, eq_self, Int.le_refl, decide_eq_true_eq, decide_eq_false_iff_not, not_true_eq_false, not_false_eq_true, decide_true, decide_false, Bool.true_eq_false, polyS, trisS, sig1, aT, aVs, dT_lit, hl, hpl, rVs, cVs, dVs_enc, eq_true hc, rTs]; rfl
  exact ret_ ⟨.inl rfl, _, rfl, AVle.refl _⟩
/-! ### The law -/
theorem tris_lenM {l : List V} (h : ∀ v ∈ l, lenOk v) : ∀ t ∈ trisF l, lens t := by
  intro t ht
  unfold trisF at ht
  rw [List.mem_map] at ht
  obtain ⟨i, hi, rfl⟩ := ht
  have hi := List.mem_range.1 hi
  have key : ∀ q, q < l.length → lenOk (satV (l.getD q default)) := fun q hq => by
    rw [show l.getD q default = l[q] by simp [List.getD, hq]]
    exact lenOk_sat (h _ (List.getElem_mem _))
  exact ⟨key _ (by omega), key _ (by omega), key _ (by omega)⟩
def trianglesS : Am.Spec := (sig1 aT).spec fun t => if lens t then some (rBool true) else none
theorem frustumlaw31_ClipTriangles.ok : SpecOK Try.prog 4 trianglesS := (sig1 aT).ok fun t r h => by
  obtain ⟨u, v, w⟩ := t
  (try simp only at h)
  split at h
  case isFalse => cases h
  rename_i hl
  cases h
  refine fnLaw Try.func4 frustumlaw31_ClipTriangles.tr (by kernel_rfl) hE (ok_cons clip_Polygon.ok (ok_cons frustumref31_Polygon.ok (ok_cons frustumref31_SameList.ok (ok_cons clip_Clip.ok (ok_cons frustumref31_Clip.ok (ok_cons frustumref31_SameTriangles.ok (ok_cons frustumlaw31_example.ok ok_nil))))))) ?_
  unfold frustumlaw31_ClipTriangles.m
  obtain ⟨hP1, hP2⟩ := poly_ok hl 7
  have hT := tris_lenM (lenM_ok hP1)
  have hTl : (trisF (polyF (u, v, w) 7)).length = (polyF (u, v, w) 7).length - 2 := by simp [trisF]
  have hcF : clipF (u, v, w) = trisF (polyF (u, v, w) 7) := rfl
  generalize hpl : polyF (u, v, w) 7 = pl at *
  generalize hql : trisF pl = ql at *
  have hc1 : (∀ v ∈ pl, lenOk v) ∧ pl.length * 56 ≤ 140737488355328 := ⟨lenM_ok hP1, by omega⟩
  have hc2 : (∀ t ∈ ql, lens t) ∧ ql.length * 168 ≤ 140737488355328 := ⟨hT, by omega⟩
  have h1 : decide (pl = pl) = true := decide_eq_true rfl
  have h2 : decide (ql = ql) = true := decide_eq_true rfl
  refine seq_reg (σ' := ?_) ?_ ?_
  rotate_left
  · simp -implicitDefEqProofs only [frustumlaw31_ClipTriangles.r0, ex_nil, ex_cons, exK_some, st_n, st_g, gd_b, rn_v, rn_m, rn_s, rn_a, think, prep, mkDsts, St.clear, ev, upd, init, PV.av, St.put, forgetBox, AV.cells, AV.pv, pvs, fillX, chunks, binV, xints, ldX, AV.plain, baseOk, fg_p, fg_tk, mkG, Sig.spec, tab, St.of, List.getElem?_cons_zero, List.getElem?_cons_succ, List.getElem?_nil, Option.map_some, Option.map_none, Option.bind_some, Option.isSome_some, Option.isSome_none, if_true, if_false, reduceIte, Nat.reduceEqDiff, List.map_cons, List.map_nil, List.drop_succ_cons, List.drop_zero, List.take_succ_cons, List.take_zero, List.length_cons, List.length_nil, List.length_append, List.cons_append, List.nil_append, List.append_nil, Nat.reduceAdd, Nat.reduceMul, Nat.reduceLeDiff, Nat.reduceBEq, Nat.zero_le, Nat.le_refl, Nat.zero_add, Nat.add_zero, and_self, and_true, true_and, or_true, true_or, Bool.not_true, Bool.not_false, Bool.false_eq_true, beq_self_eq_true, reduceCtorEq, Int.reduceBEq, Int.reduceBNe, Int.reduceLT, Int.reduceLE, Int.reduceAdd, Int.reduceToNat, Int.toNat_zero, Int.reduceEq, Int.toNat_natCast, c3, eq_self, Int.le_refl, decide_eq_true_eq, decide_eq_false_iff_not, not_true_eq_false, not_false_eq_true, decide_true, decide_false, Bool.true_eq_false, sig1, aT, T3_lit]; rfl
  refine seq_reg (σ' := ?_) ?_ ?_
  rotate_left
  · simp -implicitDefEqProofs only [frustumlaw31_ClipTriangles.r1, ex_nil, ex_cons, exK_some, st_n, st_g, gd_b, rn_v, rn_m, rn_s, rn_a, think, prep, mkDsts, St.clear, ev, upd, init, PV.av, St.put, forgetBox, AV.cells, AV.pv, pvs, fillX, chunks, binV, xints, ldX, AV.plain, baseOk, fg_p, fg_tk, mkG, Sig.spec, tab, St.of, List.getElem?_cons_zero, List.getElem?_cons_succ, List.getElem?_nil, Option.map_some, Option.map_none, Option.bind_some, Option.isSome_some, Option.isSome_none, if_true, if_false, reduceIte, Nat.reduceEqDiff, List.map_cons, List.map_nil, List.drop_succ_cons, List.drop_zero, List.take_succ_cons, List.take_zero, List.length_cons, List.length_nil, List.length_append, List.cons_append, List.nil_append, List.append_nil, Nat.reduceAdd, Nat.reduceMul, Nat.reduceLeDiff, Nat.reduceBEq, Nat.zero_le, Nat.le_refl, Nat.zero_add, Nat.add_zero, and_self, and_true, true_and, or_true, true_or, Bool.not_true, Bool.not_false, Bool.false_eq_true, beq_self_eq_true, reduceCtorEq, Int.reduceBEq, Int.reduceBNe, Int.reduceLT, Int.reduceLE, Int.reduceAdd, Int.reduceToNat, Int.toNat_zero, Int.reduceEq, Int.toNat_natCast, c3, eq_self, Int.le_refl, decide_eq_true_eq, decide_eq_false_iff_not, not_true_eq_false, not_false_eq_true, decide_true, decide_false, Bool.true_eq_false, polyS, clipS, sameLS, sameTS, exS, sig0, sig1, sig2, aT, aVs, aTs, dT_lit, hl, hpl, hcF, rVs, rTs, cVs, cTs, dVs_enc, dTs_enc, eq_true hc1, eq_true hc2, h1, h2, rBool]; rfl
  exact ret_ ⟨.inl rfl, _, rfl, AVle.refl _⟩
theorem trianglesS_at (t : T3) (h : t.1.vs.length * 8 ≤ 140737488351232 ∧ t.2.1.vs.length * 8 ≤ 140737488351232 ∧ t.2.2.vs.length * 8 ≤ 140737488351232) : trianglesS [.agg (T3.cs t)] = some (rBool true) := by
  have e : (sig1 aT).dec [.agg (T3.cs t)] = some t := by simp only [sig1, aT, dT_enc]
  unfold trianglesS Sig.spec
  rw [e]
  exact if_pos ⟨lenOk_of h.1, lenOk_of h.2.1, lenOk_of h.2.2⟩
end Go.Proofs.Ytljndeeahnpnjaa.Cl
