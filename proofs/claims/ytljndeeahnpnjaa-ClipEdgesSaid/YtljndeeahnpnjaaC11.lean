/- Chapter 31: the law ClipEdges. No condition beyond those that each theorem states. -/
import Derived.Test.YtljndeeahnpnjaaC10
import Derived.Test.YtljndeeahnpnjaaC8
namespace Go.Proofs.Ytljndeeahnpnjaa.Cl
open Go Go.RowKit Go.Proofs.Ytljndeeahnpnjaa.Am
set_option linter.unusedVariables false
set_option linter.unusedSimpArgs false
def frustumlaw31_ClipEdges.r0 : List MOp := [⟨some 3, .mkb (.tmp 0), none⟩, ⟨some 4, .mkb (.tmp 1), none⟩, ⟨some 6, .mv (.const (.bool false)), none⟩]
def frustumlaw31_ClipEdges.r1 : List MOp := [⟨some 7, .mv (.const (.int .i64 (-1))), none⟩]
def frustumlaw31_ClipEdges.r2 : List MOp := [⟨some 8, .mv (.tmp 7), none⟩, ⟨some 9, .bin .leq (.tmp 8) (.const (.int .i64 7)), none⟩]
def frustumlaw31_ClipEdges.r3 : List MOp := [⟨some 12, .ld 5 true (some 3) (.tmp 3), none⟩, ⟨some 13, .mv (.tmp 7), none⟩, ⟨some 14, .call 9 [.tmp 12, .tmp 13], none⟩, ⟨some 15, .ld 5 true (some 3) (.tmp 3), none⟩, ⟨some 16, .mv (.tmp 7), none⟩, ⟨some 17, .call 21 [.tmp 15, .tmp 16], none⟩, ⟨some 18, .bin .neq (.tmp 14) (.tmp 17), none⟩, ⟨some 19, .mv (.tmp 18), none⟩, ⟨some 20, .ld 5 true (some 3) (.tmp 3), some (19, false)⟩, ⟨some 21, .ld 5 true (some 4) (.tmp 4), some (19, false)⟩, ⟨some 22, .mv (.tmp 7), some (19, false)⟩, ⟨some 23, .call 11 [.tmp 20, .tmp 21, .tmp 22], some (19, false)⟩, ⟨some 24, .ld 5 true (some 3) (.tmp 3), some (19, false)⟩, ⟨some 25, .ld 5 true (some 4) (.tmp 4), some (19, false)⟩, ⟨some 26, .mv (.tmp 7), some (19, false)⟩, ⟨some 27, .call 22 [.tmp 24, .tmp 25, .tmp 26], some (19, false)⟩, ⟨some 28, .call 14 [.tmp 23, .tmp 27], some (19, false)⟩, ⟨some 29, .un .not (.tmp 28), some (19, false)⟩, ⟨some 30, .pick (.tmp 19) (.const (.bool true)) (.tmp 29), none⟩]
def frustumlaw31_ClipEdges.r4 : List MOp := [⟨some 6, .mv (.const (.bool false)), none⟩]
def frustumlaw31_ClipEdges.r5 : List MOp := [⟨some 10, .mv (.tmp 7), none⟩, ⟨some 11, .bin .add (.tmp 10) (.const (.int .i64 1)), none⟩, ⟨some 7, .mv (.tmp 11), none⟩]
def frustumlaw31_ClipEdges.b6 : MC := (.seq (.seq (.reg frustumlaw31_ClipEdges.r2) (.cond (.tmp 9) .skip (.exit 0))) (.seq (.block 1 (.seq (.reg frustumlaw31_ClipEdges.r3) (.cond (.tmp 30) (.seq (.reg frustumlaw31_ClipEdges.r4) .ret) .skip))) (.reg frustumlaw31_ClipEdges.r5)))
def frustumlaw31_ClipEdges.r7 : List MOp := [⟨some 31, .ld 5 true (some 3) (.tmp 3), none⟩, ⟨some 32, .mv (.tmp 2), none⟩, ⟨some 33, .call 9 [.tmp 31, .tmp 32], none⟩, ⟨some 34, .ld 5 true (some 3) (.tmp 3), none⟩, ⟨some 35, .mv (.tmp 2), none⟩, ⟨some 36, .call 21 [.tmp 34, .tmp 35], none⟩, ⟨some 37, .bin .eql (.tmp 33) (.tmp 36), none⟩, ⟨some 38, .mv (.tmp 37), none⟩, ⟨some 39, .ld 5 true (some 3) (.tmp 3), some (38, true)⟩, ⟨some 40, .call 23 [.tmp 39], some (38, true)⟩, ⟨some 41, .ld 5 true (some 3) (.tmp 3), some (38, true)⟩, ⟨some 42, .call 24 [.tmp 41], some (38, true)⟩, ⟨some 43, .eqb false (.tmp 40) (.tmp 42), some (38, true)⟩, ⟨some 44, .pick (.tmp 38) (.tmp 43) (.const (.bool false)), none⟩, ⟨some 45, .mv (.tmp 44), none⟩, ⟨some 46, .ld 5 true (some 4) (.tmp 4), some (45, true)⟩, ⟨some 47, .call 23 [.tmp 46], some (45, true)⟩, ⟨some 48, .ld 5 true (some 4) (.tmp 4), some (45, true)⟩, ⟨some 49, .call 24 [.tmp 48], some (45, true)⟩, ⟨some 50, .eqb false (.tmp 47) (.tmp 49), some (45, true)⟩, ⟨some 51, .pick (.tmp 45) (.tmp 50) (.const (.bool false)), none⟩, ⟨some 52, .mv (.tmp 51), none⟩, ⟨some 53, .ld 5 true (some 3) (.tmp 3), some (52, true)⟩, ⟨some 54, .ld 5 true (some 4) (.tmp 4), some (52, true)⟩, ⟨some 55, .mv (.tmp 2), some (52, true)⟩, ⟨some 56, .call 13 [.tmp 53, .tmp 54, .tmp 55], some (52, true)⟩, ⟨some 57, .ld 5 true (some 3) (.tmp 3), some (52, true)⟩, ⟨some 58, .ld 5 true (some 4) (.tmp 4), some (52, true)⟩, ⟨some 59, .mv (.tmp 2), some (52, true)⟩, ⟨some 60, .call 25 [.tmp 57, .tmp 58, .tmp 59], some (52, true)⟩, ⟨some 61, .call 15 [.tmp 56, .tmp 60], some (52, true)⟩, ⟨some 62, .pick (.tmp 52) (.tmp 61) (.const (.bool false)), none⟩, ⟨some 63, .mv (.tmp 62), none⟩, ⟨some 64, .call 12 [], some (63, true)⟩, ⟨some 65, .pick (.tmp 63) (.tmp 64) (.const (.bool false)), none⟩, ⟨some 6, .mv (.tmp 65), none⟩]
def frustumlaw31_ClipEdges.m : MC := .seq (.reg frustumlaw31_ClipEdges.r0) (.seq (.seq (.reg frustumlaw31_ClipEdges.r1) (.block 0 (.loop frustumlaw31_ClipEdges.b6))) (.seq (.reg frustumlaw31_ClipEdges.r7) .ret))
theorem frustumlaw31_ClipEdges.tr : trF Try.prog [23] Try.f5 = some (frustumlaw31_ClipEdges.m, .tmp 6) := by kernel_rfl
def edgesS : Am.Spec := (sig3 aV aV aInt).spec fun a => if lenOk a.1 ∧ lenOk a.2.1 then some (rBool true) else none
theorem frustumlaw31_ClipEdges.ok : SpecOK Try.prog 5 edgesS := (sig3 aV aV aInt).ok fun a r h => by
  obtain ⟨a, b, k⟩ := a
  (try simp only at h)
  split at h
  case isFalse => cases h
  rename_i hl
  obtain ⟨la, lb⟩ := hl
  cases h
  refine fnLaw Try.func5 frustumlaw31_ClipEdges.tr (by kernel_rfl) hE (ok_cons clip_Distance.ok (ok_cons frustumref31_Distance.ok (ok_cons clip_Intersect.ok (ok_cons frustumref31_Intersect.ok (ok_cons frustumref31_Same.ok (ok_cons clip_Inside.ok (ok_cons frustumref31_Inside.ok (ok_cons clip_Edge.ok (ok_cons frustumref31_Edge.ok (ok_cons frustumref31_SameList.ok (ok_cons frustumlaw31_example.ok ok_nil))))))))))) ?_
  unfold frustumlaw31_ClipEdges.m
  have da := dV_lit a
  have db := dV_lit b
  refine seq_reg (σ' := ?_) ?_ ?_
  rotate_left
  · simp -implicitDefEqProofs only [frustumlaw31_ClipEdges.r0, ex_nil, ex_cons, exK_some, st_n, st_g, gd_b, rn_v, rn_m, rn_s, rn_a, think, prep, mkDsts, St.clear, ev, upd, init, PV.av, St.put, forgetBox, AV.cells, AV.pv, pvs, fillX, chunks, binV, xints, ldX, AV.plain, baseOk, fg_p, fg_tk, mkG, Sig.spec, tab, St.of, List.getElem?_cons_zero, List.getElem?_cons_succ, List.getElem?_nil, Option.map_some, Option.map_none, Option.bind_some, Option.isSome_some, Option.isSome_none, if_true, if_false, reduceIte, Nat.reduceEqDiff, List.map_cons, List.map_nil, List.drop_succ_cons, List.drop_zero, List.take_succ_cons, List.take_zero, List.length_cons, List.length_nil, List.length_append, List.cons_append, List.nil_append, List.append_nil, Nat.reduceAdd, Nat.reduceMul, Nat.reduceLeDiff, Nat.reduceBEq, Nat.zero_le, Nat.le_refl, Nat.zero_add, Nat.add_zero, and_self, and_true, true_and, or_true, true_or, Bool.not_true, Bool.not_false, Bool.false_eq_true, beq_self_eq_true, reduceCtorEq, Int.reduceBEq, Int.reduceBNe, Int.reduceLT, Int.reduceLE, Int.reduceAdd, Int.reduceToNat, Int.toNat_zero, Int.reduceEq, Int.toNat_natCast, c3, eq_self, Int.le_refl, decide_eq_true_eq, decide_eq_false_iff_not, not_true_eq_false, not_false_eq_true, decide_true, decide_false, Bool.true_eq_false, sig3, aV, aInt, V.cs]; rfl
  refine seq_ ?_
  refine seq_ex (σ'' := St.of [(2, rInt k), (3, .box 3 0), (4, .box 4 0), (7, rInt (((0 : Nat) : Int) - 1))] [(3, a.cs.map .p), (4, b.cs.map .p)] [] (0)) ⟨_, by simp -implicitDefEqProofs only [frustumlaw31_ClipEdges.r1, ex_nil, ex_cons, exK_some, st_n, st_g, gd_b, rn_v, rn_m, rn_s, rn_a, think, prep, mkDsts, St.clear, ev, upd, init, PV.av, St.put, forgetBox, AV.cells, AV.pv, pvs, fillX, chunks, binV, xints, ldX, AV.plain, baseOk, fg_p, fg_tk, mkG, Sig.spec, tab, St.of, List.getElem?_cons_zero, List.getElem?_cons_succ, List.getElem?_nil, Option.map_some, Option.map_none, Option.bind_some, Option.isSome_some, Option.isSome_none, if_true, if_false, reduceIte, Nat.reduceEqDiff, List.map_cons, List.map_nil, List.drop_succ_cons, List.drop_zero, List.take_succ_cons, List.take_zero, List.length_cons, List.length_nil, List.length_append, List.cons_append, List.nil_append, List.append_nil, Nat.reduceAdd, Nat.reduceMul, Nat.reduceLeDiff, Nat.reduceBEq, Nat.zero_le, Nat.le_refl, Nat.zero_add, Nat.add_zero, and_self, and_true, true_and, or_true, true_or, Bool.not_true, Bool.not_false, Bool.false_eq_true, beq_self_eq_true, reduceCtorEq, Int.reduceBEq, Int.reduceBNe, Int.reduceLT, Int.reduceLE, Int.reduceAdd, Int.reduceToNat, Int.toNat_zero, Int.reduceEq, Int.toNat_natCast, c3, eq_self, Int.le_refl, decide_eq_true_eq, decide_eq_false_iff_not, not_true_eq_false, not_false_eq_true, decide_true, decide_false, Bool.true_eq_false]; rfl, sub_of (all_cons rfl (all_cons rfl (all_cons rfl (all_cons rfl all_nil)))) (all_cons rfl (all_cons rfl all_nil)) all_nil (Nat.le_refl _)⟩ ?_
  refine block_ ?_
  refine loop_ (fun n σ => ∃ j : Nat, j ≤ 9 ∧ n = 9 - j ∧ σ = St.of [(2, rInt k), (3, .box 3 0), (4, .box 4 0), (7, rInt ((j : Int) - 1))] [(3, a.cs.map .p), (4, b.cs.map .p)] [] 0)
    9 _ (Sub.refl _) ⟨0, Nat.zero_le _, rfl, rfl⟩ ?_
  rintro n σ ⟨j, hj, rfl, rfl⟩
  unfold frustumlaw31_ClipEdges.b6
  refine seq_ (seq_ ?_)
  refine seq_reg (σ' := ?_) ?_ ?_
  rotate_left
  · simp -implicitDefEqProofs only [frustumlaw31_ClipEdges.r2, ex_nil, ex_cons, exK_some, st_n, st_g, gd_b, rn_v, rn_m, rn_s, rn_a, think, prep, mkDsts, St.clear, ev, upd, init, PV.av, St.put, forgetBox, AV.cells, AV.pv, pvs, fillX, chunks, binV, xints, ldX, AV.plain, baseOk, fg_p, fg_tk, mkG, Sig.spec, tab, St.of, List.getElem?_cons_zero, List.getElem?_cons_succ, List.getElem?_nil, Option.map_some, Option.map_none, Option.bind_some, Option.isSome_some, Option.isSome_none, if_true, if_false, reduceIte, Nat.reduceEqDiff, List.map_cons, List.map_nil, List.drop_succ_cons, List.drop_zero, List.take_succ_cons, List.take_zero, List.length_cons, List.length_nil, List.length_append, List.cons_append, List.nil_append, List.append_nil, Nat.reduceAdd, Nat.reduceMul, Nat.reduceLeDiff, Nat.reduceBEq, Nat.zero_le, Nat.le_refl, Nat.zero_add, Nat.add_zero, and_self, and_true, true_and, or_true, true_or, Bool.not_true, Bool.not_false, Bool.false_eq_true, beq_self_eq_true, reduceCtorEq, Int.reduceBEq, Int.reduceBNe, Int.reduceLT, Int.reduceLE, Int.reduceAdd, Int.reduceToNat, Int.toNat_zero, Int.reduceEq, Int.toNat_natCast, c3, eq_self, Int.le_refl, decide_eq_true_eq, decide_eq_false_iff_not, not_true_eq_false, not_false_eq_true, decide_true, decide_false, Bool.true_eq_false, rInt]; rfl
  refine cond_ rfl (fun h => skip_ (norm_ ?_)) (fun h => ?_)
  · have hlt : j < 9 := by have := of_decide_eq_true h; omega
    have hwr : IntKind.i64.wrap ((j : Int) - 1 + 1) = ((j + 1 : Nat) : Int) - 1 := by rw [i64_w' (by omega) (by omega)]; omega
    refine seq_ (block_ ?_)
    obtain ⟨p, hp⟩ : ∃ p : Int, (j : Int) - 1 = p := ⟨_, rfl⟩
    rw [hp] at hwr ⊢
    obtain ⟨x, hx⟩ : ∃ x, distF a p = x := ⟨_, rfl⟩
    have lia := lenOk_inter (k := p) la lb
    obtain ⟨c, hc⟩ : ∃ c, interF a b p = c := ⟨_, rfl⟩
    rw [hc] at lia
    have dc := dV_lit c
    have hcc : decide (c = c) = true := decide_eq_true rfl
    have hxx : (x != x) = false := by simp
    refine seq_reg (σ' := ?_) ?_ ?_
    rotate_left
    · simp -implicitDefEqProofs only [frustumlaw31_ClipEdges.r3, ex_nil, ex_cons, exK_some, st_n, st_g, gd_b, rn_v, rn_m, rn_s, rn_a, think, prep, mkDsts, St.clear, ev, upd, init, PV.av, St.put, forgetBox, AV.cells, AV.pv, pvs, fillX, chunks, binV, xints, ldX, AV.plain, baseOk, fg_p, fg_tk, mkG, Sig.spec, tab, St.of, List.getElem?_cons_zero, List.getElem?_cons_succ, List.getElem?_nil, Option.map_some, Option.map_none, Option.bind_some, Option.isSome_some, Option.isSome_none, if_true, if_false, reduceIte, Nat.reduceEqDiff, List.map_cons, List.map_nil, List.drop_succ_cons, List.drop_zero, List.take_succ_cons, List.take_zero, List.length_cons, List.length_nil, List.length_append, List.cons_append, List.nil_append, List.append_nil, Nat.reduceAdd, Nat.reduceMul, Nat.reduceLeDiff, Nat.reduceBEq, Nat.zero_le, Nat.le_refl, Nat.zero_add, Nat.add_zero, and_self, and_true, true_and, or_true, true_or, Bool.not_true, Bool.not_false, Bool.false_eq_true, beq_self_eq_true, reduceCtorEq, Int.reduceBEq, Int.reduceBNe, Int.reduceLT, Int.reduceLE, Int.reduceAdd, Int.reduceToNat, Int.toNat_zero, Int.reduceEq, Int.toNat_natCast, c3, eq_self, Int.le_refl, decide_eq_true_eq, decide_eq_false_iff_not, not_true_eq_false, not_false_eq_true, decide_true, decide_false, Bool.true_eq_false, rInt, distS, interS, sameS, sig2, sig3, aV, aInt, da, db, dc, la, lb, lia, hx, hc, hcc, hxx, V.cs, rV, rBool]; rfl
    refine cond_ rfl (fun h => by cases h) (fun _ => skip_ (norm_ ?_))
    refine last_reg (σ' := ?_) ?_ ?_
    rotate_left
    · simp -implicitDefEqProofs only [frustumlaw31_ClipEdges.r5, ex_nil, ex_cons, exK_some, st_n, st_g, gd_b, rn_v, rn_m, rn_s, rn_a, think, prep, mkDsts, St.clear, ev, upd, init, PV.av, St.put, forgetBox, AV.cells, AV.pv, pvs, fillX, chunks, binV, xints, ldX, AV.plain, baseOk, fg_p, fg_tk, mkG, Sig.spec, tab, St.of, List.getElem?_cons_zero, List.getElem?_cons_succ, List.getElem?_nil, Option.map_some, Option.map_none, Option.bind_some, Option.isSome_some, Option.isSome_none, if_true, if_false, reduceIte, Nat.reduceEqDiff, List.map_cons, List.map_nil, List.drop_succ_cons, List.drop_zero, List.take_succ_cons, List.take_zero, List.length_cons, List.length_nil, List.length_append, List.cons_append, List.nil_append, List.append_nil, Nat.reduceAdd, Nat.reduceMul, Nat.reduceLeDiff, Nat.reduceBEq, Nat.zero_le, Nat.le_refl, Nat.zero_add, Nat.add_zero, and_self, and_true, true_and, or_true, true_or, Bool.not_true, Bool.not_false, Bool.false_eq_true, beq_self_eq_true, reduceCtorEq, Int.reduceBEq, Int.reduceBNe, Int.reduceLT, Int.reduceLE, Int.reduceAdd, Int.reduceToNat, Int.toNat_zero, Int.reduceEq, Int.toNat_natCast, c3, eq_self, Int.le_refl, decide_eq_true_eq, decide_eq_false_iff_not, not_true_eq_false, not_false_eq_true, decide_true, decide_false, Bool.true_eq_false, rInt, hwr]; rfl
    exact round_ (m := 9 - (j + 1)) (σ'' := St.of [(2, rInt k), (3, .box 3 0), (4, .box 4 0), (7, rInt (((j + 1 : Nat) : Int) - 1))] [(3, a.cs.map .p), (4, b.cs.map .p)] [] 0) (by omega) (sub_of (all_cons rfl (all_cons rfl (all_cons rfl (all_cons rfl all_nil)))) (all_cons rfl (all_cons rfl all_nil)) all_nil (Nat.le_refl _)) ⟨j + 1, hlt, rfl, rfl⟩
  · refine exit_ (norm_ ?_)
    obtain ⟨x, hx⟩ : ∃ x, distF a k = x := ⟨_, rfl⟩
    obtain ⟨p, hp⟩ : ∃ x, insF a = x := ⟨_, rfl⟩
    obtain ⟨q, hq⟩ : ∃ x, insF b = x := ⟨_, rfl⟩
    have hxx : (x == x) = true := beq_self_eq_true _
    have hpp : (p == p) = true := beq_self_eq_true _
    have hqq : (q == q) = true := beq_self_eq_true _
    have hel := edge_len a b k
    have hem := lenM_ok (edge_lenM (k := k) ((lenOk_iff _).1 la) ((lenOk_iff _).1 lb))
    obtain ⟨l, hl⟩ : ∃ l, edgeF a b k = l := ⟨_, rfl⟩
    rw [hl] at hel hem
    have hll : decide (l = l) = true := decide_eq_true rfl
    have hc : (∀ v ∈ l, lenOk v) ∧ l.length * 56 ≤ 140737488355328 := ⟨hem, by omega⟩
    refine seq_reg (σ' := ?_) ?_ ?_
    rotate_left
    · simp -implicitDefEqProofs only [frustumlaw31_ClipEdges.r7, ex_nil, ex_cons, exK_some, st_n, st_g, gd_b, rn_v, rn_m, rn_s, rn_a, think, prep, mkDsts, St.clear, ev, upd, init, PV.av, St.put, forgetBox, AV.cells, AV.pv, pvs, fillX, chunks, binV, xints, ldX, AV.plain, baseOk, fg_p, fg_tk, mkG, Sig.spec, tab, St.of, List.getElem?_cons_zero, List.getElem?_cons_succ, List.getElem?_nil, Option.map_some, Option.map_none, Option.bind_some, Option.isSome_some, Option.isSome_none, if_true, if_false, reduceIte, Nat.reduceEqDiff, List.map_cons, List.map_nil, List.drop_succ_cons, List.drop_zero, List.take_succ_cons, List.take_zero, List.length_cons, List.length_nil, List.length_append, List.cons_append, List.nil_append, List.append_nil, Nat.reduceAdd, Nat.reduceMul, Nat.reduceLeDiff, Nat.reduceBEq, Nat.zero_le, Nat.le_refl, Nat.zero_add, Nat.add_zero, and_self, and_true, true_and, or_true, true_or, Bool.not_true, Bool.not_false, Bool.false_eq_true, beq_self_eq_true, reduceCtorEq, Int.reduceBEq, Int.reduceBNe, Int.reduceLT, Int.reduceLE, Int.reduceAdd, Int.reduceToNat, Int.toNat_zero, Int.reduceEq, Int.toNat_natCast, c3, eq_self, Int.le_refl, decide_eq_true_eq, decide_eq_false_iff_not, not_true_eq_false, not_false_eq_true, decide_true, decide_false, Bool.true_eq_false, rInt, distS, insS, edgeS, sameLS, exS, sig0, sig1, sig2, sig3, aV, aVs, aInt, da, db, la, lb, hx, hp, hq, hl, hxx, hpp, hqq, hll, eq_true hc, V.cs, rVs, cVs, dVs_enc, rBool]; rfl
    exact ret_ ⟨.inl rfl, _, rfl, AVle.refl _⟩
theorem edgesS_at (a b : V) (k : Int) (ha : a.vs.length * 8 ≤ 140737488351232) (hb : b.vs.length * 8 ≤ 140737488351232) : edgesS [.agg a.cs, .agg b.cs, .c (.int .i64 k)] = some (rBool true) := by
  have h : (sig3 aV aV aInt).dec [.agg a.cs, .agg b.cs, .c (.int .i64 k)] = some (a, b, k) := by simp only [sig3, aV, aInt, dV_enc]
  unfold edgesS Sig.spec
  rw [h]
  exact if_pos ⟨lenOk_of ha, lenOk_of hb⟩
end Go.Proofs.Ytljndeeahnpnjaa.Cl
