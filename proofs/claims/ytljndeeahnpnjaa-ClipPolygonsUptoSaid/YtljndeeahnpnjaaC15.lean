/- Chapter 31: the law ClipPolygons. No condition beyond those that each theorem states. -/
import Derived.Test.YtljndeeahnpnjaaC12
namespace Go.Proofs.Ytljndeeahnpnjaa.Cl
open Go Go.RowKit Go.Proofs.Ytljndeeahnpnjaa.Am
set_option linter.unusedVariables false
set_option linter.unusedSimpArgs false
def frustumlaw31_ClipPolygons.r0 : List MOp := [⟨some 4, .mv (.const (.bool false)), none⟩]
def frustumlaw31_ClipPolygons.r1 : List MOp := [⟨some 5, .mv (.const (.slice none 0 0)), none⟩]
def frustumlaw31_ClipPolygons.r2 : List MOp := [⟨some 6, .mv (.const (.int .i64 0)), none⟩]
def frustumlaw31_ClipPolygons.r3 : List MOp := [⟨some 7, .mv (.tmp 6), none⟩, ⟨some 8, .mv (.tmp 0), none⟩, ⟨some 9, .len (.tmp 8), none⟩, ⟨some 10, .bin .lss (.tmp 7) (.tmp 9), none⟩]
def frustumlaw31_ClipPolygons.r4 : List MOp := [⟨some 13, .mv (.tmp 5), none⟩, ⟨some 14, .mv (.tmp 0), none⟩, ⟨some 15, .mv (.tmp 6), none⟩, ⟨some 16, .idx 5 (.tmp 14) (.tmp 15), none⟩, ⟨some 17, .adr 0 (.tmp 16), none⟩, ⟨some 18, .ld 4 true (some 1000000) (.tmp 17), none⟩, ⟨some 19, .mv (.tmp 0), none⟩, ⟨some 20, .mv (.tmp 6), none⟩, ⟨some 21, .idx 5 (.tmp 19) (.tmp 20), none⟩, ⟨some 22, .adr 4 (.tmp 21), none⟩, ⟨some 23, .ld 1 false (some 1000000) (.tmp 22), none⟩, ⟨some 24, .app 1 8 (.const (.slice none 0 0)) (.tmp 23), none⟩, ⟨some 25, .bld [.p (.int .i64 0), .p (.int .i64 0), .p (.int .i64 0), .p (.int .i64 0), .tk .tight 0 []] [(0, (4, .tmp 18)), (4, (1, .tmp 24))], none⟩, ⟨some 26, .bldS 1 5 [.p (.int .i64 0), .p (.int .i64 0), .p (.int .i64 0), .p (.int .i64 0), .tk .tight 0 []] [(0, (5, .tmp 25))], none⟩, ⟨some 27, .app 5 56 (.tmp 13) (.tmp 26), none⟩, ⟨some 5, .mv (.tmp 27), none⟩]
def frustumlaw31_ClipPolygons.r5 : List MOp := [⟨some 11, .mv (.tmp 6), none⟩, ⟨some 12, .bin .add (.tmp 11) (.const (.int .i64 1)), none⟩, ⟨some 6, .mv (.tmp 12), none⟩]
def frustumlaw31_ClipPolygons.b6 : MC := (.seq (.seq (.reg frustumlaw31_ClipPolygons.r3) (.cond (.tmp 10) .skip (.exit 0))) (.seq (.block 1 (.reg frustumlaw31_ClipPolygons.r4)) (.reg frustumlaw31_ClipPolygons.r5)))
def frustumlaw31_ClipPolygons.r7 : List MOp := [⟨some 28, .mv (.tmp 0), none⟩, ⟨some 29, .mv (.tmp 1), none⟩, ⟨some 30, .call 26 [.tmp 28, .tmp 29], none⟩, ⟨some 31, .mv (.tmp 5), none⟩, ⟨some 32, .mv (.tmp 1), none⟩, ⟨some 33, .call 27 [.tmp 31, .tmp 32], none⟩, ⟨some 34, .call 15 [.tmp 30, .tmp 33], none⟩, ⟨some 35, .mv (.tmp 34), none⟩, ⟨some 36, .mv (.tmp 0), some (35, true)⟩, ⟨some 37, .call 28 [.tmp 36], some (35, true)⟩, ⟨some 38, .mv (.tmp 5), some (35, true)⟩, ⟨some 39, .call 29 [.tmp 38], some (35, true)⟩, ⟨some 40, .call 18 [.tmp 37, .tmp 39], some (35, true)⟩, ⟨some 41, .pick (.tmp 35) (.tmp 40) (.const (.bool false)), none⟩, ⟨some 42, .mv (.tmp 41), none⟩, ⟨some 43, .mv (.tmp 0), some (42, true)⟩, ⟨some 44, .mv (.tmp 5), some (42, true)⟩, ⟨some 45, .call 15 [.tmp 43, .tmp 44], some (42, true)⟩, ⟨some 46, .pick (.tmp 42) (.tmp 45) (.const (.bool false)), none⟩, ⟨some 47, .mv (.tmp 46), none⟩, ⟨some 48, .call 12 [], some (47, true)⟩, ⟨some 49, .pick (.tmp 47) (.tmp 48) (.const (.bool false)), none⟩, ⟨some 4, .mv (.tmp 49), none⟩]
def frustumlaw31_ClipPolygons.m : MC := .seq (.reg frustumlaw31_ClipPolygons.r0) (.seq (.reg frustumlaw31_ClipPolygons.r1) (.seq (.seq (.reg frustumlaw31_ClipPolygons.r2) (.block 0 (.loop frustumlaw31_ClipPolygons.b6))) (.seq (.reg frustumlaw31_ClipPolygons.r7) .ret)))
theorem frustumlaw31_ClipPolygons.tr : trF Try.prog [23] Try.f6 = some (frustumlaw31_ClipPolygons.m, .tmp 4) := by kernel_rfl
def small (l : List V) : Prop := (∀ v ∈ l, lenOk v) ∧ l.length ≤ 1048576
instance (l : List V) : Decidable (small l) := inferInstanceAs (Decidable (_ ∧ _))
def polygonsS : Am.Spec := (sig2 aVs aInt).spec fun a => if small a.1 then some (rBool true) else none
theorem frustumlaw31_ClipPolygons.ok : SpecOK Try.prog 6 polygonsS := (sig2 aVs aInt).ok fun a r h => by
  obtain ⟨l, k⟩ := a
  (try simp only at h)
  split at h
  case isFalse => cases h
  rename_i hl
  obtain ⟨hv, hn⟩ := hl
  cases h
  refine fnLaw Try.func6 frustumlaw31_ClipPolygons.tr (by kernel_rfl) hE (ok_cons clip_Against.ok (ok_cons frustumref31_Against.ok (ok_cons frustumref31_SameList.ok (ok_cons clip_Triangles.ok (ok_cons frustumref31_Triangles.ok (ok_cons frustumref31_SameTriangles.ok (ok_cons frustumlaw31_example.ok ok_nil))))))) ?_
  unfold frustumlaw31_ClipPolygons.m
  refine seq_reg (σ' := ?_) ?_ ?_
  rotate_left
  · simp -implicitDefEqProofs only [frustumlaw31_ClipPolygons.r0, ex_nil, ex_cons, exK_some, st_n, st_g, gd_b, rn_v, rn_m, rn_s, rn_a, think, prep, mkDsts, St.clear, ev, upd, init, PV.av, St.put, forgetBox, AV.cells, AV.pv, pvs, fillX, chunks, binV, xints, ldX, AV.plain, baseOk, fg_p, fg_tk, mkG, Sig.spec, tab, St.of, List.getElem?_cons_zero, List.getElem?_cons_succ, List.getElem?_nil, Option.map_some, Option.map_none, Option.bind_some, Option.isSome_some, Option.isSome_none, if_true, if_false, reduceIte, Nat.reduceEqDiff, List.map_cons, List.map_nil, List.drop_succ_cons, List.drop_zero, List.take_succ_cons, List.take_zero, List.length_cons, List.length_nil, List.length_append, List.cons_append, List.nil_append, List.append_nil, Nat.reduceAdd, Nat.reduceMul, Nat.reduceLeDiff, Nat.reduceBEq, Nat.zero_le, Nat.le_refl, Nat.zero_add, Nat.add_zero, and_self, and_true, true_and, or_true, true_or, Bool.not_true, Bool.not_false, Bool.false_eq_true, beq_self_eq_true, reduceCtorEq, Int.reduceBEq, Int.reduceBNe, Int.reduceLT, Int.reduceLE, Int.reduceAdd, Int.reduceToNat, Int.toNat_zero, Int.reduceEq, Int.toNat_natCast, c3, eq_self, Int.le_refl, decide_eq_true_eq, decide_eq_false_iff_not, not_true_eq_false, not_false_eq_true, decide_true, decide_false, Bool.true_eq_false, sig2, aVs, aInt]; rfl
  refine seq_reg (σ' := ?_) ?_ ?_
  rotate_left
  · simp -implicitDefEqProofs only [frustumlaw31_ClipPolygons.r1, ex_nil, ex_cons, exK_some, st_n, st_g, gd_b, rn_v, rn_m, rn_s, rn_a, think, prep, mkDsts, St.clear, ev, upd, init, PV.av, St.put, forgetBox, AV.cells, AV.pv, pvs, fillX, chunks, binV, xints, ldX, AV.plain, baseOk, fg_p, fg_tk, mkG, Sig.spec, tab, St.of, List.getElem?_cons_zero, List.getElem?_cons_succ, List.getElem?_nil, Option.map_some, Option.map_none, Option.bind_some, Option.isSome_some, Option.isSome_none, if_true, if_false, reduceIte, Nat.reduceEqDiff, List.map_cons, List.map_nil, List.drop_succ_cons, List.drop_zero, List.take_succ_cons, List.take_zero, List.length_cons, List.length_nil, List.length_append, List.cons_append, List.nil_append, List.append_nil, Nat.reduceAdd, Nat.reduceMul, Nat.reduceLeDiff, Nat.reduceBEq, Nat.zero_le, Nat.le_refl, Nat.zero_add, Nat.add_zero, and_self, and_true, true_and, or_true, true_or, Bool.not_true, Bool.not_false, Bool.false_eq_true, beq_self_eq_true, reduceCtorEq, Int.reduceBEq, Int.reduceBNe, Int.reduceLT, Int.reduceLE, Int.reduceAdd, Int.reduceToNat, Int.toNat_zero, Int.reduceEq, Int.toNat_natCast, c3, eq_self, Int.le_refl, decide_eq_true_eq, decide_eq_false_iff_not, not_true_eq_false, not_false_eq_true, decide_true, decide_false, Bool.true_eq_false]; rfl
  refine seq_ ?_
  refine seq_ex (σ'' := St.of [(0, .c (.p (cVs l))), (1, rInt k), (5, .c (.tk .tight 0 [])), (6, rInt 0)] [] [] (0)) ⟨_, by simp -implicitDefEqProofs only [frustumlaw31_ClipPolygons.r2, ex_nil, ex_cons, exK_some, st_n, st_g, gd_b, rn_v, rn_m, rn_s, rn_a, think, prep, mkDsts, St.clear, ev, upd, init, PV.av, St.put, forgetBox, AV.cells, AV.pv, pvs, fillX, chunks, binV, xints, ldX, AV.plain, baseOk, fg_p, fg_tk, mkG, Sig.spec, tab, St.of, List.getElem?_cons_zero, List.getElem?_cons_succ, List.getElem?_nil, Option.map_some, Option.map_none, Option.bind_some, Option.isSome_some, Option.isSome_none, if_true, if_false, reduceIte, Nat.reduceEqDiff, List.map_cons, List.map_nil, List.drop_succ_cons, List.drop_zero, List.take_succ_cons, List.take_zero, List.length_cons, List.length_nil, List.length_append, List.cons_append, List.nil_append, List.append_nil, Nat.reduceAdd, Nat.reduceMul, Nat.reduceLeDiff, Nat.reduceBEq, Nat.zero_le, Nat.le_refl, Nat.zero_add, Nat.add_zero, and_self, and_true, true_and, or_true, true_or, Bool.not_true, Bool.not_false, Bool.false_eq_true, beq_self_eq_true, reduceCtorEq, Int.reduceBEq, Int.reduceBNe, Int.reduceLT, Int.reduceLE, Int.reduceAdd, Int.reduceToNat, Int.toNat_zero, Int.reduceEq, Int.toNat_natCast, c3, eq_self, Int.le_refl, decide_eq_true_eq, decide_eq_false_iff_not, not_true_eq_false, not_false_eq_true, decide_true, decide_false, Bool.true_eq_false]; rfl, sub_of (all_cons rfl (all_cons rfl (all_cons rfl (all_cons rfl all_nil)))) all_nil all_nil (Nat.le_refl _)⟩ ?_
  refine block_ ?_
  refine loop_ (fun n σ => ∃ (j : Nat) (X : XV) (ks : List Nat) (nt : Nat), j ≤ l.length ∧ n = l.length - j ∧ Mine ks nt X 5 ((l.take j).map V.cs) ∧
    σ = St.of [(0, .c (.p (cVs l))), (1, rInt k), (5, .c X), (6, rInt j)] [] ks nt)
    l.length _ (Sub.refl _) ⟨0, .tk .tight 0 [], [], 0, Nat.zero_le _, rfl, .inl ⟨rfl, rfl⟩, rfl⟩ ?_
  rintro n σ ⟨j, X, ks, nt, hj, rfl, hX, rfl⟩
  unfold frustumlaw31_ClipPolygons.b6
  refine seq_ (seq_ ?_)
  refine seq_reg (σ' := ?_) ?_ ?_
  rotate_left
  · simp -implicitDefEqProofs only [frustumlaw31_ClipPolygons.r3, ex_nil, ex_cons, exK_some, st_n, st_g, gd_b, rn_v, rn_m, rn_s, rn_a, think, prep, mkDsts, St.clear, ev, upd, init, PV.av, St.put, forgetBox, AV.cells, AV.pv, pvs, fillX, chunks, binV, xints, ldX, AV.plain, baseOk, fg_p, fg_tk, mkG, Sig.spec, tab, St.of, List.getElem?_cons_zero, List.getElem?_cons_succ, List.getElem?_nil, Option.map_some, Option.map_none, Option.bind_some, Option.isSome_some, Option.isSome_none, if_true, if_false, reduceIte, Nat.reduceEqDiff, List.map_cons, List.map_nil, List.drop_succ_cons, List.drop_zero, List.take_succ_cons, List.take_zero, List.length_cons, List.length_nil, List.length_append, List.cons_append, List.nil_append, List.append_nil, Nat.reduceAdd, Nat.reduceMul, Nat.reduceLeDiff, Nat.reduceBEq, Nat.zero_le, Nat.le_refl, Nat.zero_add, Nat.add_zero, and_self, and_true, true_and, or_true, true_or, Bool.not_true, Bool.not_false, Bool.false_eq_true, beq_self_eq_true, reduceCtorEq, Int.reduceBEq, Int.reduceBNe, Int.reduceLT, Int.reduceLE, Int.reduceAdd, Int.reduceToNat, Int.toNat_zero, Int.reduceEq, Int.toNat_natCast, c3, eq_self, Int.le_refl, decide_eq_true_eq, decide_eq_false_iff_not, not_true_eq_false, not_false_eq_true, decide_true, decide_false, Bool.true_eq_false, rInt, cVs, List.length_map]; rfl
  refine cond_ rfl (fun h => skip_ (norm_ ?_)) (fun h => ?_)
  · have hlt : j < l.length := by have := of_decide_eq_true h; omega
    obtain ⟨b, hb⟩ : ∃ b, l[j] = b := ⟨_, rfl⟩
    have hgb : (l.map V.cs)[j]? = some b.cs := by simp [hlt, hb]
    have hlb : lenOk b := hv b (by rw [← hb]; exact List.getElem_mem _)
    unfold lenOk at hlb
    have hwr : IntKind.i64.wrap ((j : Int) + 1) = ((j + 1 : Nat) : Int) := by rw [i64_w' (by omega) (by omega)]; omega
    have hjn : (0 : Int) ≤ (j : Int) := by omega
    have hnext : (l.take (j + 1)).map V.cs = (l.take j).map V.cs ++ [b.cs] := by
      rw [List.take_succ_eq_append_getElem hlt, List.map_append, hb]; rfl
    have hel : ((l.take j).map V.cs).length = j := by simp; omega
    generalize hes : (l.take j).map V.cs = es at hX hnext hel
    have hi1 : (b.vs.map fun n => [CV.int .i64 n]).length * 8 ≤ 140737488355328 := by rw [List.length_map]; omega
    have hi2 : (b.vs.map fun n => [CV.int .i64 n]).length ≤ maxLen := by rw [List.length_map]; simp only [maxLen]; omega
    refine seq_ (block_ ?_)
    rcases hX with ⟨rfl, hnil⟩ | ⟨k', hk', rfl, hks⟩
    · refine last_reg (σ' := ?_) ?_ ?_
      rotate_left
      · simp -implicitDefEqProofs only [frustumlaw31_ClipPolygons.r4, ex_nil, ex_cons, exK_some, st_n, st_g, gd_b, rn_v, rn_m, rn_s, rn_a, think, prep, mkDsts, St.clear, ev, upd, init, PV.av, St.put, forgetBox, AV.cells, AV.pv, pvs, fillX, chunks, binV, xints, ldX, AV.plain, baseOk, fg_p, fg_tk, mkG, Sig.spec, tab, St.of, List.getElem?_cons_zero, List.getElem?_cons_succ, List.getElem?_nil, Option.map_some, Option.map_none, Option.bind_some, Option.isSome_some, Option.isSome_none, if_true, if_false, reduceIte, Nat.reduceEqDiff, List.map_cons, List.map_nil, List.drop_succ_cons, List.drop_zero, List.take_succ_cons, List.take_zero, List.length_cons, List.length_nil, List.length_append, List.cons_append, List.nil_append, List.append_nil, Nat.reduceAdd, Nat.reduceMul, Nat.reduceLeDiff, Nat.reduceBEq, Nat.zero_le, Nat.le_refl, Nat.zero_add, Nat.add_zero, and_self, and_true, true_and, or_true, true_or, Bool.not_true, Bool.not_false, Bool.false_eq_true, beq_self_eq_true, reduceCtorEq, Int.reduceBEq, Int.reduceBNe, Int.reduceLT, Int.reduceLE, Int.reduceAdd, Int.reduceToNat, Int.toNat_zero, Int.reduceEq, Int.toNat_natCast, c3, eq_self, Int.le_refl, decide_eq_true_eq, decide_eq_false_iff_not, not_true_eq_false, not_false_eq_true, decide_true, decide_false, Bool.true_eq_false, rInt, cVs, hgb, hjn, V.cs, cInts, cInt, hi1, hi2, show (1 : Nat) * 56 ≤ 140737488355328 by decide, show 1 ≤ maxLen by decide]; rfl
      refine norm_ ?_
      refine last_reg (σ' := ?_) ?_ ?_
      rotate_left
      · simp -implicitDefEqProofs only [frustumlaw31_ClipPolygons.r5, ex_nil, ex_cons, exK_some, st_n, st_g, gd_b, rn_v, rn_m, rn_s, rn_a, think, prep, mkDsts, St.clear, ev, upd, init, PV.av, St.put, forgetBox, AV.cells, AV.pv, pvs, fillX, chunks, binV, xints, ldX, AV.plain, baseOk, fg_p, fg_tk, mkG, Sig.spec, tab, St.of, List.getElem?_cons_zero, List.getElem?_cons_succ, List.getElem?_nil, Option.map_some, Option.map_none, Option.bind_some, Option.isSome_some, Option.isSome_none, if_true, if_false, reduceIte, Nat.reduceEqDiff, List.map_cons, List.map_nil, List.drop_succ_cons, List.drop_zero, List.take_succ_cons, List.take_zero, List.length_cons, List.length_nil, List.length_append, List.cons_append, List.nil_append, List.append_nil, Nat.reduceAdd, Nat.reduceMul, Nat.reduceLeDiff, Nat.reduceBEq, Nat.zero_le, Nat.le_refl, Nat.zero_add, Nat.add_zero, and_self, and_true, true_and, or_true, true_or, Bool.not_true, Bool.not_false, Bool.false_eq_true, beq_self_eq_true, reduceCtorEq, Int.reduceBEq, Int.reduceBNe, Int.reduceLT, Int.reduceLE, Int.reduceAdd, Int.reduceToNat, Int.toNat_zero, Int.reduceEq, Int.toNat_natCast, c3, eq_self, Int.le_refl, decide_eq_true_eq, decide_eq_false_iff_not, not_true_eq_false, not_false_eq_true, decide_true, decide_false, Bool.true_eq_false, rInt, hwr]; rfl
      refine round_ (m := l.length - (j + 1)) (σ'' := St.of [(0, .c (.p (cVs l))), (1, rInt k), (5, .c (.tk (.live (nt + 1)) 5 [b.cs])), (6, rInt ((j + 1 : Nat) : Int))] [] [nt + 1] (nt + 2)) (by omega) (sub_of (all_cons rfl (all_cons rfl (all_cons rfl (all_cons rfl all_nil)))) all_nil (all_cons (by simp) all_nil) (Nat.le_refl _)) ?_
      refine ⟨j + 1, _, _, _, hlt, rfl, .inr ⟨nt + 1, Nat.lt_succ_self _, ?_, by simp⟩, rfl⟩
      rw [hnext, hnil, List.nil_append]
    · refine last_reg (σ' := ?_) ?_ ?_
      rotate_left
      · simp -implicitDefEqProofs only [frustumlaw31_ClipPolygons.r4, ex_nil, ex_cons, exK_some, st_n, st_g, gd_b, rn_v, rn_m, rn_s, rn_a, think, prep, mkDsts, St.clear, ev, upd, init, PV.av, St.put, forgetBox, AV.cells, AV.pv, pvs, fillX, chunks, binV, xints, ldX, AV.plain, baseOk, fg_p, fg_tk, mkG, Sig.spec, tab, St.of, List.getElem?_cons_zero, List.getElem?_cons_succ, List.getElem?_nil, Option.map_some, Option.map_none, Option.bind_some, Option.isSome_some, Option.isSome_none, if_true, if_false, reduceIte, Nat.reduceEqDiff, List.map_cons, List.map_nil, List.drop_succ_cons, List.drop_zero, List.take_succ_cons, List.take_zero, List.length_cons, List.length_nil, List.length_append, List.cons_append, List.nil_append, List.append_nil, Nat.reduceAdd, Nat.reduceMul, Nat.reduceLeDiff, Nat.reduceBEq, Nat.zero_le, Nat.le_refl, Nat.zero_add, Nat.add_zero, and_self, and_true, true_and, or_true, true_or, Bool.not_true, Bool.not_false, Bool.false_eq_true, beq_self_eq_true, reduceCtorEq, Int.reduceBEq, Int.reduceBNe, Int.reduceLT, Int.reduceLE, Int.reduceAdd, Int.reduceToNat, Int.toNat_zero, Int.reduceEq, Int.toNat_natCast, c3, eq_self, Int.le_refl, decide_eq_true_eq, decide_eq_false_iff_not, not_true_eq_false, not_false_eq_true, decide_true, decide_false, Bool.true_eq_false, rInt, cVs, hgb, hjn, V.cs, cInts, cInt, hi1, hi2, show (es.length + 1) * 56 ≤ 140737488355328 by omega, show es.length + 1 ≤ maxLen by simp only [maxLen]; omega, show ks.contains k' = true by simpa using hks, show ((some k' : Option Nat) == none) = false from rfl, Bool.and_true, Bool.or_true]; rfl
      refine norm_ ?_
      refine last_reg (σ' := ?_) ?_ ?_
      rotate_left
      · simp -implicitDefEqProofs only [frustumlaw31_ClipPolygons.r5, ex_nil, ex_cons, exK_some, st_n, st_g, gd_b, rn_v, rn_m, rn_s, rn_a, think, prep, mkDsts, St.clear, ev, upd, init, PV.av, St.put, forgetBox, AV.cells, AV.pv, pvs, fillX, chunks, binV, xints, ldX, AV.plain, baseOk, fg_p, fg_tk, mkG, Sig.spec, tab, St.of, List.getElem?_cons_zero, List.getElem?_cons_succ, List.getElem?_nil, Option.map_some, Option.map_none, Option.bind_some, Option.isSome_some, Option.isSome_none, if_true, if_false, reduceIte, Nat.reduceEqDiff, List.map_cons, List.map_nil, List.drop_succ_cons, List.drop_zero, List.take_succ_cons, List.take_zero, List.length_cons, List.length_nil, List.length_append, List.cons_append, List.nil_append, List.append_nil, Nat.reduceAdd, Nat.reduceMul, Nat.reduceLeDiff, Nat.reduceBEq, Nat.zero_le, Nat.le_refl, Nat.zero_add, Nat.add_zero, and_self, and_true, true_and, or_true, true_or, Bool.not_true, Bool.not_false, Bool.false_eq_true, beq_self_eq_true, reduceCtorEq, Int.reduceBEq, Int.reduceBNe, Int.reduceLT, Int.reduceLE, Int.reduceAdd, Int.reduceToNat, Int.toNat_zero, Int.reduceEq, Int.toNat_natCast, c3, eq_self, Int.le_refl, decide_eq_true_eq, decide_eq_false_iff_not, not_true_eq_false, not_false_eq_true, decide_true, decide_false, Bool.true_eq_false, rInt, hwr]; rfl
      refine round_ (m := l.length - (j + 1)) (σ'' := St.of [(0, .c (.p (cVs l))), (1, rInt k), (5, .c (.tk (.live (nt + 1)) 5 (es ++ [b.cs]))), (6, rInt ((j + 1 : Nat) : Int))] [] [nt + 1] (nt + 2)) (by omega) (sub_of (all_cons rfl (all_cons rfl (all_cons rfl (all_cons rfl all_nil)))) all_nil (all_cons (by simp) all_nil) (Nat.le_refl _)) ?_
      refine ⟨j + 1, _, _, _, hlt, rfl, .inr ⟨nt + 1, Nat.lt_succ_self _, ?_, by simp⟩, rfl⟩
      rw [hnext]
  · have hge : j = l.length := by have := of_decide_eq_false h; omega
    refine exit_ (norm_ ?_)
    subst hge
    rw [List.take_length] at hX
    have hd : X.forget = .sl 5 (l.map V.cs) ∨ (X.forget = .sl 0 [] ∧ l = []) := by
      rcases hX with ⟨rfl, hnil⟩ | ⟨k', hk', rfl, hks⟩
      · exact .inr ⟨rfl, by simpa using hnil⟩
      · exact .inl rfl
    have hag := against_lenM (k := k) (l := l) (M := 17592186044412) (fun v hv' => (lenOk_iff v).1 (hv v hv'))
    obtain ⟨A, hA⟩ : ∃ A, againstF l k = A := ⟨_, rfl⟩
    obtain ⟨T, hT⟩ : ∃ T, trisF l = T := ⟨_, rfl⟩
    rw [hA] at hag
    have hTl : T.length = l.length - 2 := by rw [← hT]; simp [trisF]
    have hTm : ∀ t ∈ T, lens t := by rw [← hT]; exact tris_lenM hv
    have c1 : (∀ v ∈ l, lenOk v) ∧ 2 * l.length * 56 ≤ 140737488355328 := ⟨hv, by omega⟩
    have c2 : (∀ v ∈ l, lenOk v) ∧ l.length * 168 ≤ 140737488355328 := ⟨hv, by omega⟩
    have c3' : (∀ v ∈ A, lenOk v) ∧ A.length * 56 ≤ 140737488355328 := ⟨lenM_ok hag.1, by omega⟩
    have c4 : (∀ t ∈ T, lens t) ∧ T.length * 168 ≤ 140737488355328 := ⟨hTm, by omega⟩
    have c5 : (∀ v ∈ l, lenOk v) ∧ l.length * 56 ≤ 140737488355328 := ⟨hv, by omega⟩
    have h1 : decide (A = A) = true := decide_eq_true rfl
    have h2 : decide (T = T) = true := decide_eq_true rfl
    have h3 : decide (l = l) = true := decide_eq_true rfl
    rcases hd with hd | ⟨hd, hnil⟩
    ·
      refine seq_reg (σ' := ?_) ?_ ?_
      rotate_left
      · simp -implicitDefEqProofs only [frustumlaw31_ClipPolygons.r7, ex_nil, ex_cons, exK_some, st_n, st_g, gd_b, rn_v, rn_m, rn_s, rn_a, think, prep, mkDsts, St.clear, ev, upd, init, PV.av, St.put, forgetBox, AV.cells, AV.pv, pvs, fillX, chunks, binV, xints, ldX, AV.plain, baseOk, fg_p, fg_tk, mkG, Sig.spec, tab, St.of, List.getElem?_cons_zero, List.getElem?_cons_succ, List.getElem?_nil, Option.map_some, Option.map_none, Option.bind_some, Option.isSome_some, Option.isSome_none, if_true, if_false, reduceIte, Nat.reduceEqDiff, List.map_cons, List.map_nil, List.drop_succ_cons, List.drop_zero, List.take_succ_cons, List.take_zero, List.length_cons, List.length_nil, List.length_append, List.cons_append, List.nil_append, List.append_nil, Nat.reduceAdd, Nat.reduceMul, Nat.reduceLeDiff, Nat.reduceBEq, Nat.zero_le, Nat.le_refl, Nat.zero_add, Nat.add_zero, and_self, and_true, true_and, or_true, true_or, Bool.not_true, Bool.not_false, Bool.false_eq_true, beq_self_eq_true, reduceCtorEq, Int.reduceBEq, Int.reduceBNe, Int.reduceLT, Int.reduceLE, Int.reduceAdd, Int.reduceToNat, Int.toNat_zero, Int.reduceEq, Int.toNat_natCast, c3, eq_self, Int.le_refl, decide_eq_true_eq, decide_eq_false_iff_not, not_true_eq_false, not_false_eq_true, decide_true, decide_false, Bool.true_eq_false, hd, againstS, trisS, sameLS, sameTS, exS, sig0, sig1, sig2, aVs, aTs, aInt, rInt, cVs, cTs, rVs, rTs, dVs_enc, dTs_enc, hA, hT, eq_true c1, eq_true c2, eq_true c3', eq_true c4, eq_true c5, h1, h2, h3, rBool]; rfl
      exact ret_ ⟨.inl rfl, _, rfl, AVle.refl _⟩
    · have d0 : dVs [] = some l := by rw [hnil]; rfl
      refine seq_reg (σ' := ?_) ?_ ?_
      rotate_left
      · simp -implicitDefEqProofs only [frustumlaw31_ClipPolygons.r7, ex_nil, ex_cons, exK_some, st_n, st_g, gd_b, rn_v, rn_m, rn_s, rn_a, think, prep, mkDsts, St.clear, ev, upd, init, PV.av, St.put, forgetBox, AV.cells, AV.pv, pvs, fillX, chunks, binV, xints, ldX, AV.plain, baseOk, fg_p, fg_tk, mkG, Sig.spec, tab, St.of, List.getElem?_cons_zero, List.getElem?_cons_succ, List.getElem?_nil, Option.map_some, Option.map_none, Option.bind_some, Option.isSome_some, Option.isSome_none, if_true, if_false, reduceIte, Nat.reduceEqDiff, List.map_cons, List.map_nil, List.drop_succ_cons, List.drop_zero, List.take_succ_cons, List.take_zero, List.length_cons, List.length_nil, List.length_append, List.cons_append, List.nil_append, List.append_nil, Nat.reduceAdd, Nat.reduceMul, Nat.reduceLeDiff, Nat.reduceBEq, Nat.zero_le, Nat.le_refl, Nat.zero_add, Nat.add_zero, and_self, and_true, true_and, or_true, true_or, Bool.not_true, Bool.not_false, Bool.false_eq_true, beq_self_eq_true, reduceCtorEq, Int.reduceBEq, Int.reduceBNe, Int.reduceLT, Int.reduceLE, Int.reduceAdd, Int.reduceToNat, Int.toNat_zero, Int.reduceEq, Int.toNat_natCast, c3, eq_self, Int.le_refl, decide_eq_true_eq, decide_eq_false_iff_not, not_true_eq_false, not_false_eq_true, decide_true, decide_false, Bool.true_eq_false, hd, againstS, trisS, sameLS, sameTS, exS, sig0, sig1, sig2, aVs, aTs, aInt, rInt, cVs, cTs, rVs, rTs, dVs_enc, dTs_enc, d0, hA, hT, eq_true c1, eq_true c2, eq_true c3', eq_true c4, eq_true c5, h1, h2, h3, rBool]; rfl
      exact ret_ ⟨.inl rfl, _, rfl, AVle.refl _⟩
theorem polygonsS_at (l : List V) (k : Int) (h : (∀ a ∈ l, a.vs.length * 8 ≤ 140737488351232) ∧ l.length ≤ 1048576) : polygonsS [.c (cVs l), .c (.int .i64 k)] = some (rBool true) := by
  have e : (sig2 aVs aInt).dec [.c (cVs l), .c (.int .i64 k)] = some (l, k) := by simp [sig2, aVs, aInt, cVs, dVs_enc]
  unfold polygonsS Sig.spec
  rw [e]
  exact if_pos ⟨fun v hv => lenOk_of (h.1 v hv), h.2⟩
end Go.Proofs.Ytljndeeahnpnjaa.Cl
