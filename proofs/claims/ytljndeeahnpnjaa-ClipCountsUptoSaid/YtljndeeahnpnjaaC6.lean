/- Chapter 31: the reference's Same, SameList, SameTriangles. No condition beyond those that each theorem states. -/
import Derived.Test.YtljndeeahnpnjaaC5
namespace Go.Proofs.Ytljndeeahnpnjaa.Cl
open Go Go.RowKit Go.Proofs.Ytljndeeahnpnjaa.Am
set_option linter.unusedVariables false
set_option linter.unusedSimpArgs false
def frustumref31_Same.r0 : List MOp := [⟨some 2, .mkb (.tmp 0), none⟩, ⟨some 3, .mkb (.tmp 1), none⟩, ⟨some 4, .mv (.const (.bool false)), none⟩]
def frustumref31_Same.r1 : List MOp := [⟨some 6, .adr 0 (.tmp 2), none⟩, ⟨some 7, .ld 4 true (some 2) (.tmp 6), none⟩, ⟨some 8, .adr 0 (.tmp 3), none⟩, ⟨some 9, .ld 4 true (some 3) (.tmp 8), none⟩, ⟨some 10, .eqa 4 true (.tmp 7) (.tmp 9), none⟩, ⟨some 11, .mv (.tmp 10), none⟩, ⟨some 12, .adr 4 (.tmp 2), some (11, false)⟩, ⟨some 13, .ld 1 false (some 2) (.tmp 12), some (11, false)⟩, ⟨some 14, .len (.tmp 13), some (11, false)⟩, ⟨some 15, .adr 4 (.tmp 3), some (11, false)⟩, ⟨some 16, .ld 1 false (some 3) (.tmp 15), some (11, false)⟩, ⟨some 17, .len (.tmp 16), some (11, false)⟩, ⟨some 18, .bin .neq (.tmp 14) (.tmp 17), some (11, false)⟩, ⟨some 19, .pick (.tmp 11) (.const (.bool true)) (.tmp 18), none⟩]
def frustumref31_Same.r2 : List MOp := [⟨some 4, .mv (.const (.bool false)), none⟩]
def frustumref31_Same.r3 : List MOp := [⟨some 5, .mv (.const (.int .i64 0)), none⟩]
def frustumref31_Same.r4 : List MOp := [⟨some 20, .mv (.tmp 5), none⟩, ⟨some 21, .adr 4 (.tmp 2), none⟩, ⟨some 22, .ld 1 false (some 2) (.tmp 21), none⟩, ⟨some 23, .len (.tmp 22), none⟩, ⟨some 24, .bin .lss (.tmp 20) (.tmp 23), none⟩]
def frustumref31_Same.r5 : List MOp := [⟨some 27, .adr 4 (.tmp 2), none⟩, ⟨some 28, .ld 1 false (some 2) (.tmp 27), none⟩, ⟨some 29, .mv (.tmp 5), none⟩, ⟨some 30, .idx 1 (.tmp 28) (.tmp 29), none⟩, ⟨some 31, .ld 1 false (some 1000000) (.tmp 30), none⟩, ⟨some 32, .adr 4 (.tmp 3), none⟩, ⟨some 33, .ld 1 false (some 3) (.tmp 32), none⟩, ⟨some 34, .mv (.tmp 5), none⟩, ⟨some 35, .idx 1 (.tmp 33) (.tmp 34), none⟩, ⟨some 36, .ld 1 false (some 1000000) (.tmp 35), none⟩, ⟨some 37, .bin .neq (.tmp 31) (.tmp 36), none⟩]
def frustumref31_Same.r6 : List MOp := [⟨some 4, .mv (.const (.bool false)), none⟩]
def frustumref31_Same.r7 : List MOp := [⟨some 25, .mv (.tmp 5), none⟩, ⟨some 26, .bin .add (.tmp 25) (.const (.int .i64 1)), none⟩, ⟨some 5, .mv (.tmp 26), none⟩]
def frustumref31_Same.b8 : MC := (.seq (.seq (.reg frustumref31_Same.r4) (.cond (.tmp 24) .skip (.exit 0))) (.seq (.block 1 (.seq (.reg frustumref31_Same.r5) (.cond (.tmp 37) (.seq (.reg frustumref31_Same.r6) .ret) .skip))) (.reg frustumref31_Same.r7)))
def frustumref31_Same.r9 : List MOp := [⟨some 4, .mv (.const (.bool true)), none⟩]
def frustumref31_Same.m : MC := .seq (.reg frustumref31_Same.r0) (.seq (.seq (.reg frustumref31_Same.r1) (.cond (.tmp 19) (.seq (.reg frustumref31_Same.r2) .ret) .skip)) (.seq (.seq (.reg frustumref31_Same.r3) (.block 0 (.loop frustumref31_Same.b8))) (.seq (.reg frustumref31_Same.r9) .ret)))
theorem frustumref31_Same.tr : trF Try.prog [23] Try.f14 = some (frustumref31_Same.m, .tmp 4) := by kernel_rfl
def frustumref31_SameList.r0 : List MOp := [⟨some 4, .mv (.const (.bool false)), none⟩]
def frustumref31_SameList.r1 : List MOp := [⟨some 6, .mv (.tmp 0), none⟩, ⟨some 7, .len (.tmp 6), none⟩, ⟨some 8, .mv (.tmp 1), none⟩, ⟨some 9, .len (.tmp 8), none⟩, ⟨some 10, .bin .neq (.tmp 7) (.tmp 9), none⟩]
def frustumref31_SameList.r2 : List MOp := [⟨some 4, .mv (.const (.bool false)), none⟩]
def frustumref31_SameList.r3 : List MOp := [⟨some 5, .mv (.const (.int .i64 0)), none⟩]
def frustumref31_SameList.r4 : List MOp := [⟨some 11, .mv (.tmp 5), none⟩, ⟨some 12, .mv (.tmp 0), none⟩, ⟨some 13, .len (.tmp 12), none⟩, ⟨some 14, .bin .lss (.tmp 11) (.tmp 13), none⟩]
def frustumref31_SameList.r5 : List MOp := [⟨some 17, .mv (.tmp 0), none⟩, ⟨some 18, .mv (.tmp 5), none⟩, ⟨some 19, .idx 5 (.tmp 17) (.tmp 18), none⟩, ⟨some 20, .ld 5 true (some 1000000) (.tmp 19), none⟩, ⟨some 21, .mv (.tmp 1), none⟩, ⟨some 22, .mv (.tmp 5), none⟩, ⟨some 23, .idx 5 (.tmp 21) (.tmp 22), none⟩, ⟨some 24, .ld 5 true (some 1000000) (.tmp 23), none⟩, ⟨some 25, .call 14 [.tmp 20, .tmp 24], none⟩, ⟨some 26, .un .not (.tmp 25), none⟩]
def frustumref31_SameList.r6 : List MOp := [⟨some 4, .mv (.const (.bool false)), none⟩]
def frustumref31_SameList.r7 : List MOp := [⟨some 15, .mv (.tmp 5), none⟩, ⟨some 16, .bin .add (.tmp 15) (.const (.int .i64 1)), none⟩, ⟨some 5, .mv (.tmp 16), none⟩]
def frustumref31_SameList.b8 : MC := (.seq (.seq (.reg frustumref31_SameList.r4) (.cond (.tmp 14) .skip (.exit 0))) (.seq (.block 1 (.seq (.reg frustumref31_SameList.r5) (.cond (.tmp 26) (.seq (.reg frustumref31_SameList.r6) .ret) .skip))) (.reg frustumref31_SameList.r7)))
def frustumref31_SameList.r9 : List MOp := [⟨some 4, .mv (.const (.bool true)), none⟩]
def frustumref31_SameList.m : MC := .seq (.reg frustumref31_SameList.r0) (.seq (.seq (.reg frustumref31_SameList.r1) (.cond (.tmp 10) (.seq (.reg frustumref31_SameList.r2) .ret) .skip)) (.seq (.seq (.reg frustumref31_SameList.r3) (.block 0 (.loop frustumref31_SameList.b8))) (.seq (.reg frustumref31_SameList.r9) .ret)))
theorem frustumref31_SameList.tr : trF Try.prog [23] Try.f15 = some (frustumref31_SameList.m, .tmp 4) := by kernel_rfl
def frustumref31_SameTriangles.r0 : List MOp := [⟨some 4, .mv (.const (.bool false)), none⟩]
def frustumref31_SameTriangles.r1 : List MOp := [⟨some 6, .mv (.tmp 0), none⟩, ⟨some 7, .len (.tmp 6), none⟩, ⟨some 8, .mv (.tmp 1), none⟩, ⟨some 9, .len (.tmp 8), none⟩, ⟨some 10, .bin .neq (.tmp 7) (.tmp 9), none⟩]
def frustumref31_SameTriangles.r2 : List MOp := [⟨some 4, .mv (.const (.bool false)), none⟩]
def frustumref31_SameTriangles.r3 : List MOp := [⟨some 5, .mv (.const (.int .i64 0)), none⟩]
def frustumref31_SameTriangles.r4 : List MOp := [⟨some 11, .mv (.tmp 5), none⟩, ⟨some 12, .mv (.tmp 0), none⟩, ⟨some 13, .len (.tmp 12), none⟩, ⟨some 14, .bin .lss (.tmp 11) (.tmp 13), none⟩]
def frustumref31_SameTriangles.r5 : List MOp := [⟨some 17, .mv (.tmp 0), none⟩, ⟨some 18, .mv (.tmp 5), none⟩, ⟨some 19, .idx 15 (.tmp 17) (.tmp 18), none⟩, ⟨some 20, .idxA 3 5 (.tmp 19) (.const (.int .i64 0)), none⟩, ⟨some 21, .ld 5 true (some 1000000) (.tmp 20), none⟩, ⟨some 22, .mv (.tmp 1), none⟩, ⟨some 23, .mv (.tmp 5), none⟩, ⟨some 24, .idx 15 (.tmp 22) (.tmp 23), none⟩, ⟨some 25, .idxA 3 5 (.tmp 24) (.const (.int .i64 0)), none⟩, ⟨some 26, .ld 5 true (some 1000000) (.tmp 25), none⟩, ⟨some 27, .call 14 [.tmp 21, .tmp 26], none⟩, ⟨some 28, .un .not (.tmp 27), none⟩, ⟨some 29, .mv (.tmp 28), none⟩, ⟨some 30, .mv (.tmp 0), some (29, false)⟩, ⟨some 31, .mv (.tmp 5), some (29, false)⟩, ⟨some 32, .idx 15 (.tmp 30) (.tmp 31), some (29, false)⟩, ⟨some 33, .idxA 3 5 (.tmp 32) (.const (.int .i64 1)), some (29, false)⟩, ⟨some 34, .ld 5 true (some 1000000) (.tmp 33), some (29, false)⟩, ⟨some 35, .mv (.tmp 1), some (29, false)⟩, ⟨some 36, .mv (.tmp 5), some (29, false)⟩, ⟨some 37, .idx 15 (.tmp 35) (.tmp 36), some (29, false)⟩, ⟨some 38, .idxA 3 5 (.tmp 37) (.const (.int .i64 1)), some (29, false)⟩, ⟨some 39, .ld 5 true (some 1000000) (.tmp 38), some (29, false)⟩, ⟨some 40, .call 14 [.tmp 34, .tmp 39], some (29, false)⟩, ⟨some 41, .un .not (.tmp 40), some (29, false)⟩, ⟨some 42, .pick (.tmp 29) (.const (.bool true)) (.tmp 41), none⟩, ⟨some 43, .mv (.tmp 42), none⟩, ⟨some 44, .mv (.tmp 0), some (43, false)⟩, ⟨some 45, .mv (.tmp 5), some (43, false)⟩, ⟨some 46, .idx 15 (.tmp 44) (.tmp 45), some (43, false)⟩, ⟨some 47, .idxA 3 5 (.tmp 46) (.const (.int .i64 2)), some (43, false)⟩, ⟨some 48, .ld 5 true (some 1000000) (.tmp 47), some (43, false)⟩, ⟨some 49, .mv (.tmp 1), some (43, false)⟩, ⟨some 50, .mv (.tmp 5), some (43, false)⟩, ⟨some 51, .idx 15 (.tmp 49) (.tmp 50), some (43, false)⟩, ⟨some 52, .idxA 3 5 (.tmp 51) (.const (.int .i64 2)), some (43, false)⟩, ⟨some 53, .ld 5 true (some 1000000) (.tmp 52), some (43, false)⟩, ⟨some 54, .call 14 [.tmp 48, .tmp 53], some (43, false)⟩, ⟨some 55, .un .not (.tmp 54), some (43, false)⟩, ⟨some 56, .pick (.tmp 43) (.const (.bool true)) (.tmp 55), none⟩]
def frustumref31_SameTriangles.r6 : List MOp := [⟨some 4, .mv (.const (.bool false)), none⟩]
def frustumref31_SameTriangles.r7 : List MOp := [⟨some 15, .mv (.tmp 5), none⟩, ⟨some 16, .bin .add (.tmp 15) (.const (.int .i64 1)), none⟩, ⟨some 5, .mv (.tmp 16), none⟩]
def frustumref31_SameTriangles.b8 : MC := (.seq (.seq (.reg frustumref31_SameTriangles.r4) (.cond (.tmp 14) .skip (.exit 0))) (.seq (.block 1 (.seq (.reg frustumref31_SameTriangles.r5) (.cond (.tmp 56) (.seq (.reg frustumref31_SameTriangles.r6) .ret) .skip))) (.reg frustumref31_SameTriangles.r7)))
def frustumref31_SameTriangles.r9 : List MOp := [⟨some 4, .mv (.const (.bool true)), none⟩]
def frustumref31_SameTriangles.m : MC := .seq (.reg frustumref31_SameTriangles.r0) (.seq (.seq (.reg frustumref31_SameTriangles.r1) (.cond (.tmp 10) (.seq (.reg frustumref31_SameTriangles.r2) .ret) .skip)) (.seq (.seq (.reg frustumref31_SameTriangles.r3) (.block 0 (.loop frustumref31_SameTriangles.b8))) (.seq (.reg frustumref31_SameTriangles.r9) .ret)))
theorem frustumref31_SameTriangles.tr : trF Try.prog [23] Try.f18 = some (frustumref31_SameTriangles.m, .tmp 4) := by kernel_rfl
def sameS : Am.Spec := (sig2 aV aV).spec fun a => if lenOk a.1 then some (rBool (decide (a.1 = a.2))) else none
theorem V_ext {a b : V} (h1 : [a.x, a.y, a.z, a.w] = [b.x, b.y, b.z, b.w]) (h2 : a.vs = b.vs) : a = b := by
  cases a; cases b
  simp only [List.cons.injEq, and_true] at h1
  obtain ⟨e1, e2, e3, e4⟩ := h1
  simp only at e1 e2 e3 e4 h2
  subst e1; subst e2; subst e3; subst e4; subst h2; rfl
theorem frustumref31_Same.ok : SpecOK Try.prog 14 sameS := (sig2 aV aV).ok fun a r h => by
  obtain ⟨a, b⟩ := a
  (try simp only at h)
  split at h
  case isFalse => cases h
  rename_i hla
  cases h
  unfold lenOk at hla
  refine fnLaw Try.func14 frustumref31_Same.tr (by kernel_rfl) hE ok_nil ?_
  unfold frustumref31_Same.m
  refine seq_reg (σ' := ?_) ?_ ?_
  rotate_left
  · simp -implicitDefEqProofs only [frustumref31_Same.r0, ex_nil, ex_cons, exK_some, st_n, st_g, gd_b, rn_v, rn_m, rn_s, rn_a, think, prep, mkDsts, St.clear, ev, upd, init, PV.av, St.put, forgetBox, AV.cells, AV.pv, pvs, fillX, chunks, binV, xints, ldX, AV.plain, baseOk, fg_p, fg_tk, mkG, Sig.spec, tab, St.of, List.getElem?_cons_zero, List.getElem?_cons_succ, List.getElem?_nil, Option.map_some, Option.map_none, Option.bind_some, Option.isSome_some, Option.isSome_none, if_true, if_false, reduceIte, Nat.reduceEqDiff, List.map_cons, List.map_nil, List.drop_succ_cons, List.drop_zero, List.take_succ_cons, List.take_zero, List.length_cons, List.length_nil, List.length_append, List.cons_append, List.nil_append, List.append_nil, Nat.reduceAdd, Nat.reduceMul, Nat.reduceLeDiff, Nat.reduceBEq, Nat.zero_le, Nat.le_refl, Nat.zero_add, Nat.add_zero, and_self, and_true, true_and, or_true, true_or, Bool.not_true, Bool.not_false, Bool.false_eq_true, beq_self_eq_true, reduceCtorEq, Int.reduceBEq, Int.reduceBNe, Int.reduceLT, Int.reduceLE, Int.reduceAdd, Int.reduceToNat, Int.toNat_zero, Int.reduceEq, Int.toNat_natCast, c3, eq_self, Int.le_refl, decide_eq_true_eq, decide_eq_false_iff_not, not_true_eq_false, not_false_eq_true, decide_true, decide_false, Bool.true_eq_false, sig2, aV, V.cs]; rfl
  refine seq_ (seq_ ?_)
  by_cases hp : [a.x, a.y, a.z, a.w] = [b.x, b.y, b.z, b.w]
  case neg =>
    have hne : decide (a = b) = false := by
      simp only [decide_eq_false_iff_not]; intro h; subst h; exact hp rfl
    simp only [hne]
    have hpb : ([a.x, a.y, a.z, a.w] == [b.x, b.y, b.z, b.w]) = false := by
      cases hq : ([a.x, a.y, a.z, a.w] == [b.x, b.y, b.z, b.w]) with
      | false => rfl
      | true => exact absurd (eq_of_beq hq) hp
    refine seq_reg (σ' := ?_) ?_ ?_
    rotate_left
    · simp -implicitDefEqProofs only [frustumref31_Same.r1, ex_nil, ex_cons, exK_some, st_n, st_g, gd_b, rn_v, rn_m, rn_s, rn_a, think, prep, mkDsts, St.clear, ev, upd, init, PV.av, St.put, forgetBox, AV.cells, AV.pv, pvs, fillX, chunks, binV, xints, ldX, AV.plain, baseOk, fg_p, fg_tk, mkG, Sig.spec, tab, St.of, List.getElem?_cons_zero, List.getElem?_cons_succ, List.getElem?_nil, Option.map_some, Option.map_none, Option.bind_some, Option.isSome_some, Option.isSome_none, if_true, if_false, reduceIte, Nat.reduceEqDiff, List.map_cons, List.map_nil, List.drop_succ_cons, List.drop_zero, List.take_succ_cons, List.take_zero, List.length_cons, List.length_nil, List.length_append, List.cons_append, List.nil_append, List.append_nil, Nat.reduceAdd, Nat.reduceMul, Nat.reduceLeDiff, Nat.reduceBEq, Nat.zero_le, Nat.le_refl, Nat.zero_add, Nat.add_zero, and_self, and_true, true_and, or_true, true_or, Bool.not_true, Bool.not_false, Bool.false_eq_true, beq_self_eq_true, reduceCtorEq, Int.reduceBEq, Int.reduceBNe, Int.reduceLT, Int.reduceLE, Int.reduceAdd, Int.reduceToNat, Int.toNat_zero, Int.reduceEq, Int.toNat_natCast, c3, eq_self, Int.le_refl, decide_eq_true_eq, decide_eq_false_iff_not, not_true_eq_false, not_false_eq_true, decide_true, decide_false, Bool.true_eq_false, hpb]; rfl
    refine cond_ rfl (fun _ => ?_) (fun h => by cases h)
    refine seq_reg (σ' := ?_) ?_ ?_
    rotate_left
    · simp -implicitDefEqProofs only [frustumref31_Same.r2, ex_nil, ex_cons, exK_some, st_n, st_g, gd_b, rn_v, rn_m, rn_s, rn_a, think, prep, mkDsts, St.clear, ev, upd, init, PV.av, St.put, forgetBox, AV.cells, AV.pv, pvs, fillX, chunks, binV, xints, ldX, AV.plain, baseOk, fg_p, fg_tk, mkG, Sig.spec, tab, St.of, List.getElem?_cons_zero, List.getElem?_cons_succ, List.getElem?_nil, Option.map_some, Option.map_none, Option.bind_some, Option.isSome_some, Option.isSome_none, if_true, if_false, reduceIte, Nat.reduceEqDiff, List.map_cons, List.map_nil, List.drop_succ_cons, List.drop_zero, List.take_succ_cons, List.take_zero, List.length_cons, List.length_nil, List.length_append, List.cons_append, List.nil_append, List.append_nil, Nat.reduceAdd, Nat.reduceMul, Nat.reduceLeDiff, Nat.reduceBEq, Nat.zero_le, Nat.le_refl, Nat.zero_add, Nat.add_zero, and_self, and_true, true_and, or_true, true_or, Bool.not_true, Bool.not_false, Bool.false_eq_true, beq_self_eq_true, reduceCtorEq, Int.reduceBEq, Int.reduceBNe, Int.reduceLT, Int.reduceLE, Int.reduceAdd, Int.reduceToNat, Int.toNat_zero, Int.reduceEq, Int.toNat_natCast, c3, eq_self, Int.le_refl, decide_eq_true_eq, decide_eq_false_iff_not, not_true_eq_false, not_false_eq_true, decide_true, decide_false, Bool.true_eq_false]; rfl
    exact ret_ ⟨.inl rfl, _, rfl, AVle.refl _⟩
  have hpb : ([a.x, a.y, a.z, a.w] == [b.x, b.y, b.z, b.w]) = true := by rw [hp]; exact beq_self_eq_true _
  by_cases hlen : a.vs.length = b.vs.length
  case neg =>
    have hne : decide (a = b) = false := by
      simp only [decide_eq_false_iff_not]; intro h; subst h; exact hlen rfl
    simp only [hne]
    have hlb : ((a.vs.length : Int) != (b.vs.length : Int)) = true := by simp; omega
    refine seq_reg (σ' := ?_) ?_ ?_
    rotate_left
    · simp -implicitDefEqProofs only [frustumref31_Same.r1, ex_nil, ex_cons, exK_some, st_n, st_g, gd_b, rn_v, rn_m, rn_s, rn_a, think, prep, mkDsts, St.clear, ev, upd, init, PV.av, St.put, forgetBox, AV.cells, AV.pv, pvs, fillX, chunks, binV, xints, ldX, AV.plain, baseOk, fg_p, fg_tk, mkG, Sig.spec, tab, St.of, List.getElem?_cons_zero, List.getElem?_cons_succ, List.getElem?_nil, Option.map_some, Option.map_none, Option.bind_some, Option.isSome_some, Option.isSome_none, if_true, if_false, reduceIte, Nat.reduceEqDiff, List.map_cons, List.map_nil, List.drop_succ_cons, List.drop_zero, List.take_succ_cons, List.take_zero, List.length_cons, List.length_nil, List.length_append, List.cons_append, List.nil_append, List.append_nil, Nat.reduceAdd, Nat.reduceMul, Nat.reduceLeDiff, Nat.reduceBEq, Nat.zero_le, Nat.le_refl, Nat.zero_add, Nat.add_zero, and_self, and_true, true_and, or_true, true_or, Bool.not_true, Bool.not_false, Bool.false_eq_true, beq_self_eq_true, reduceCtorEq, Int.reduceBEq, Int.reduceBNe, Int.reduceLT, Int.reduceLE, Int.reduceAdd, Int.reduceToNat, Int.toNat_zero, Int.reduceEq, Int.toNat_natCast, c3, eq_self, Int.le_refl, decide_eq_true_eq, decide_eq_false_iff_not, not_true_eq_false, not_false_eq_true, decide_true, decide_false, Bool.true_eq_false, hpb, cInts, List.length_map, hlb]; rfl
    refine cond_ rfl (fun _ => ?_) (fun h => by cases h)
    refine seq_reg (σ' := ?_) ?_ ?_
    rotate_left
    · simp -implicitDefEqProofs only [frustumref31_Same.r2, ex_nil, ex_cons, exK_some, st_n, st_g, gd_b, rn_v, rn_m, rn_s, rn_a, think, prep, mkDsts, St.clear, ev, upd, init, PV.av, St.put, forgetBox, AV.cells, AV.pv, pvs, fillX, chunks, binV, xints, ldX, AV.plain, baseOk, fg_p, fg_tk, mkG, Sig.spec, tab, St.of, List.getElem?_cons_zero, List.getElem?_cons_succ, List.getElem?_nil, Option.map_some, Option.map_none, Option.bind_some, Option.isSome_some, Option.isSome_none, if_true, if_false, reduceIte, Nat.reduceEqDiff, List.map_cons, List.map_nil, List.drop_succ_cons, List.drop_zero, List.take_succ_cons, List.take_zero, List.length_cons, List.length_nil, List.length_append, List.cons_append, List.nil_append, List.append_nil, Nat.reduceAdd, Nat.reduceMul, Nat.reduceLeDiff, Nat.reduceBEq, Nat.zero_le, Nat.le_refl, Nat.zero_add, Nat.add_zero, and_self, and_true, true_and, or_true, true_or, Bool.not_true, Bool.not_false, Bool.false_eq_true, beq_self_eq_true, reduceCtorEq, Int.reduceBEq, Int.reduceBNe, Int.reduceLT, Int.reduceLE, Int.reduceAdd, Int.reduceToNat, Int.toNat_zero, Int.reduceEq, Int.toNat_natCast, c3, eq_self, Int.le_refl, decide_eq_true_eq, decide_eq_false_iff_not, not_true_eq_false, not_false_eq_true, decide_true, decide_false, Bool.true_eq_false]; rfl
    exact ret_ ⟨.inl rfl, _, rfl, AVle.refl _⟩
  have hlb : ((a.vs.length : Int) != (b.vs.length : Int)) = false := by simp; omega
  refine seq_reg (σ' := ?_) ?_ ?_
  rotate_left
  · simp -implicitDefEqProofs only [frustumref31_Same.r1, ex_nil, ex_cons, exK_some, st_n, st_g, gd_b, rn_v, rn_m, rn_s, rn_a, think, prep, mkDsts, St.clear, ev, upd, init, PV.av, St.put, forgetBox, AV.cells, AV.pv, pvs, fillX, chunks, binV, xints, ldX, AV.plain, baseOk, fg_p, fg_tk, mkG, Sig.spec, tab, St.of, List.getElem?_cons_zero, List.getElem?_cons_succ, List.getElem?_nil, Option.map_some, Option.map_none, Option.bind_some, Option.isSome_some, Option.isSome_none, if_true, if_false, reduceIte, Nat.reduceEqDiff, List.map_cons, List.map_nil, List.drop_succ_cons, List.drop_zero, List.take_succ_cons, List.take_zero, List.length_cons, List.length_nil, List.length_append, List.cons_append, List.nil_append, List.append_nil, Nat.reduceAdd, Nat.reduceMul, Nat.reduceLeDiff, Nat.reduceBEq, Nat.zero_le, Nat.le_refl, Nat.zero_add, Nat.add_zero, and_self, and_true, true_and, or_true, true_or, Bool.not_true, Bool.not_false, Bool.false_eq_true, beq_self_eq_true, reduceCtorEq, Int.reduceBEq, Int.reduceBNe, Int.reduceLT, Int.reduceLE, Int.reduceAdd, Int.reduceToNat, Int.toNat_zero, Int.reduceEq, Int.toNat_natCast, c3, eq_self, Int.le_refl, decide_eq_true_eq, decide_eq_false_iff_not, not_true_eq_false, not_false_eq_true, decide_true, decide_false, Bool.true_eq_false, hpb, cInts, List.length_map, hlb]; rfl
  refine cond_ rfl (fun h => by cases h) (fun _ => ?_)
  refine skip_ (norm_ (seq_ ?_))
  refine seq_ex (σ'' := St.of [(2, .box 2 0), (3, .box 3 0), (5, rInt 0)] [(2, a.cs.map .p), (3, b.cs.map .p)] [] (0)) ⟨_, by simp -implicitDefEqProofs only [frustumref31_Same.r3, ex_nil, ex_cons, exK_some, st_n, st_g, gd_b, rn_v, rn_m, rn_s, rn_a, think, prep, mkDsts, St.clear, ev, upd, init, PV.av, St.put, forgetBox, AV.cells, AV.pv, pvs, fillX, chunks, binV, xints, ldX, AV.plain, baseOk, fg_p, fg_tk, mkG, Sig.spec, tab, St.of, List.getElem?_cons_zero, List.getElem?_cons_succ, List.getElem?_nil, Option.map_some, Option.map_none, Option.bind_some, Option.isSome_some, Option.isSome_none, if_true, if_false, reduceIte, Nat.reduceEqDiff, List.map_cons, List.map_nil, List.drop_succ_cons, List.drop_zero, List.take_succ_cons, List.take_zero, List.length_cons, List.length_nil, List.length_append, List.cons_append, List.nil_append, List.append_nil, Nat.reduceAdd, Nat.reduceMul, Nat.reduceLeDiff, Nat.reduceBEq, Nat.zero_le, Nat.le_refl, Nat.zero_add, Nat.add_zero, and_self, and_true, true_and, or_true, true_or, Bool.not_true, Bool.not_false, Bool.false_eq_true, beq_self_eq_true, reduceCtorEq, Int.reduceBEq, Int.reduceBNe, Int.reduceLT, Int.reduceLE, Int.reduceAdd, Int.reduceToNat, Int.toNat_zero, Int.reduceEq, Int.toNat_natCast, c3, eq_self, Int.le_refl, decide_eq_true_eq, decide_eq_false_iff_not, not_true_eq_false, not_false_eq_true, decide_true, decide_false, Bool.true_eq_false]; rfl, sub_of (all_cons rfl (all_cons rfl (all_cons rfl all_nil))) (all_cons rfl (all_cons rfl all_nil)) all_nil (Nat.le_refl _)⟩ ?_
  refine block_ ?_
  refine loop_ (fun n σ => ∃ j : Nat, j ≤ a.vs.length ∧ n = a.vs.length - j ∧ (∀ q, q < j → a.vs[q]? = b.vs[q]?) ∧ σ = St.of [(2, .box 2 0), (3, .box 3 0), (5, rInt j)] [(2, a.cs.map .p), (3, b.cs.map .p)] [] 0)
    a.vs.length _ (Sub.refl _) ⟨0, Nat.zero_le _, rfl, fun q hq => by omega, rfl⟩ ?_
  rintro n σ ⟨j, hj, rfl, hq, rfl⟩
  unfold frustumref31_Same.b8
  refine seq_ (seq_ ?_)
  refine seq_reg (σ' := ?_) ?_ ?_
  rotate_left
  · simp -implicitDefEqProofs only [frustumref31_Same.r4, ex_nil, ex_cons, exK_some, st_n, st_g, gd_b, rn_v, rn_m, rn_s, rn_a, think, prep, mkDsts, St.clear, ev, upd, init, PV.av, St.put, forgetBox, AV.cells, AV.pv, pvs, fillX, chunks, binV, xints, ldX, AV.plain, baseOk, fg_p, fg_tk, mkG, Sig.spec, tab, St.of, List.getElem?_cons_zero, List.getElem?_cons_succ, List.getElem?_nil, Option.map_some, Option.map_none, Option.bind_some, Option.isSome_some, Option.isSome_none, if_true, if_false, reduceIte, Nat.reduceEqDiff, List.map_cons, List.map_nil, List.drop_succ_cons, List.drop_zero, List.take_succ_cons, List.take_zero, List.length_cons, List.length_nil, List.length_append, List.cons_append, List.nil_append, List.append_nil, Nat.reduceAdd, Nat.reduceMul, Nat.reduceLeDiff, Nat.reduceBEq, Nat.zero_le, Nat.le_refl, Nat.zero_add, Nat.add_zero, and_self, and_true, true_and, or_true, true_or, Bool.not_true, Bool.not_false, Bool.false_eq_true, beq_self_eq_true, reduceCtorEq, Int.reduceBEq, Int.reduceBNe, Int.reduceLT, Int.reduceLE, Int.reduceAdd, Int.reduceToNat, Int.toNat_zero, Int.reduceEq, Int.toNat_natCast, c3, eq_self, Int.le_refl, decide_eq_true_eq, decide_eq_false_iff_not, not_true_eq_false, not_false_eq_true, decide_true, decide_false, Bool.true_eq_false, rInt, V.cs, cInts, List.length_map]; rfl
  refine cond_ rfl (fun h => skip_ (norm_ ?_)) (fun h => ?_)
  · have hlt : j < a.vs.length := by have := of_decide_eq_true h; omega
    have hlt2 : j < b.vs.length := by omega
    have hga : (a.vs.map fun n => [CV.int .i64 n])[j]? = some [CV.int .i64 a.vs[j]] := by simp [hlt]
    have hgb : (b.vs.map fun n => [CV.int .i64 n])[j]? = some [CV.int .i64 b.vs[j]] := by simp [hlt2]
    refine seq_ (block_ ?_)
    by_cases he : a.vs[j] = b.vs[j]
    · have heb : (a.vs[j] != b.vs[j]) = false := by simp [he]
      refine seq_reg (σ' := ?_) ?_ ?_
      rotate_left
      · simp -implicitDefEqProofs only [frustumref31_Same.r5, ex_nil, ex_cons, exK_some, st_n, st_g, gd_b, rn_v, rn_m, rn_s, rn_a, think, prep, mkDsts, St.clear, ev, upd, init, PV.av, St.put, forgetBox, AV.cells, AV.pv, pvs, fillX, chunks, binV, xints, ldX, AV.plain, baseOk, fg_p, fg_tk, mkG, Sig.spec, tab, St.of, List.getElem?_cons_zero, List.getElem?_cons_succ, List.getElem?_nil, Option.map_some, Option.map_none, Option.bind_some, Option.isSome_some, Option.isSome_none, if_true, if_false, reduceIte, Nat.reduceEqDiff, List.map_cons, List.map_nil, List.drop_succ_cons, List.drop_zero, List.take_succ_cons, List.take_zero, List.length_cons, List.length_nil, List.length_append, List.cons_append, List.nil_append, List.append_nil, Nat.reduceAdd, Nat.reduceMul, Nat.reduceLeDiff, Nat.reduceBEq, Nat.zero_le, Nat.le_refl, Nat.zero_add, Nat.add_zero, and_self, and_true, true_and, or_true, true_or, Bool.not_true, Bool.not_false, Bool.false_eq_true, beq_self_eq_true, reduceCtorEq, Int.reduceBEq, Int.reduceBNe, Int.reduceLT, Int.reduceLE, Int.reduceAdd, Int.reduceToNat, Int.toNat_zero, Int.reduceEq, Int.toNat_natCast, c3, eq_self, Int.le_refl, decide_eq_true_eq, decide_eq_false_iff_not, not_true_eq_false, not_false_eq_true, decide_true, decide_false, Bool.true_eq_false, rInt, V.cs, cInts, cInt, hga, hgb, show (0 : Int) ≤ (j : Int) by omega, heb]; rfl
      refine cond_ rfl (fun h => by cases h) (fun _ => skip_ (norm_ ?_))
      have hwr : IntKind.i64.wrap ((j : Int) + 1) = ((j + 1 : Nat) : Int) := by rw [i64_w' (by omega) (by omega)]; omega
      refine last_reg (σ' := ?_) ?_ ?_
      rotate_left
      · simp -implicitDefEqProofs only [frustumref31_Same.r7, ex_nil, ex_cons, exK_some, st_n, st_g, gd_b, rn_v, rn_m, rn_s, rn_a, think, prep, mkDsts, St.clear, ev, upd, init, PV.av, St.put, forgetBox, AV.cells, AV.pv, pvs, fillX, chunks, binV, xints, ldX, AV.plain, baseOk, fg_p, fg_tk, mkG, Sig.spec, tab, St.of, List.getElem?_cons_zero, List.getElem?_cons_succ, List.getElem?_nil, Option.map_some, Option.map_none, Option.bind_some, Option.isSome_some, Option.isSome_none, if_true, if_false, reduceIte, Nat.reduceEqDiff, List.map_cons, List.map_nil, List.drop_succ_cons, List.drop_zero, List.take_succ_cons, List.take_zero, List.length_cons, List.length_nil, List.length_append, List.cons_append, List.nil_append, List.append_nil, Nat.reduceAdd, Nat.reduceMul, Nat.reduceLeDiff, Nat.reduceBEq, Nat.zero_le, Nat.le_refl, Nat.zero_add, Nat.add_zero, and_self, and_true, true_and, or_true, true_or, Bool.not_true, Bool.not_false, Bool.false_eq_true, beq_self_eq_true, reduceCtorEq, Int.reduceBEq, Int.reduceBNe, Int.reduceLT, Int.reduceLE, Int.reduceAdd, Int.reduceToNat, Int.toNat_zero, Int.reduceEq, Int.toNat_natCast, c3, eq_self, Int.le_refl, decide_eq_true_eq, decide_eq_false_iff_not, not_true_eq_false, not_false_eq_true, decide_true, decide_false, Bool.true_eq_false, rInt, hwr]; rfl
      refine round_ (m := a.vs.length - (j + 1)) (σ'' := St.of [(2, .box 2 0), (3, .box 3 0), (5, rInt ((j + 1 : Nat) : Int))] [(2, a.cs.map .p), (3, b.cs.map .p)] [] 0) (by omega) (sub_of (all_cons rfl (all_cons rfl (all_cons rfl all_nil))) (all_cons rfl (all_cons rfl all_nil)) all_nil (Nat.le_refl _)) ⟨j + 1, hlt, rfl, fun q hqj => ?_, rfl⟩
      by_cases hqe : q = j
      · subst hqe; rw [List.getElem?_eq_getElem hlt, List.getElem?_eq_getElem hlt2, he]
      · exact hq q (by omega)
    · have heb : (a.vs[j] != b.vs[j]) = true := by simp [he]
      refine seq_reg (σ' := ?_) ?_ ?_
      rotate_left
      · simp -implicitDefEqProofs only [frustumref31_Same.r5, ex_nil, ex_cons, exK_some, st_n, st_g, gd_b, rn_v, rn_m, rn_s, rn_a, think, prep, mkDsts, St.clear, ev, upd, init, PV.av, St.put, forgetBox, AV.cells, AV.pv, pvs, fillX, chunks, binV, xints, ldX, AV.plain, baseOk, fg_p, fg_tk, mkG, Sig.spec, tab, St.of, List.getElem?_cons_zero, List.getElem?_cons_succ, List.getElem?_nil, Option.map_some, Option.map_none, Option.bind_some, Option.isSome_some, Option.isSome_none, if_true, if_false, reduceIte, Nat.reduceEqDiff, List.map_cons, List.map_nil, List.drop_succ_cons, List.drop_zero, List.take_succ_cons, List.take_zero, List.length_cons, List.length_nil, List.length_append, List.cons_append, List.nil_append, List.append_nil, Nat.reduceAdd, Nat.reduceMul, Nat.reduceLeDiff, Nat.reduceBEq, Nat.zero_le, Nat.le_refl, Nat.zero_add, Nat.add_zero, and_self, and_true, true_and, or_true, true_or, Bool.not_true, Bool.not_false, Bool.false_eq_true, beq_self_eq_true, reduceCtorEq, Int.reduceBEq, Int.reduceBNe, Int.reduceLT, Int.reduceLE, Int.reduceAdd, Int.reduceToNat, Int.toNat_zero, Int.reduceEq, Int.toNat_natCast, c3, eq_self, Int.le_refl, decide_eq_true_eq, decide_eq_false_iff_not, not_true_eq_false, not_false_eq_true, decide_true, decide_false, Bool.true_eq_false, rInt, V.cs, cInts, cInt, hga, hgb, show (0 : Int) ≤ (j : Int) by omega, heb]; rfl
      refine cond_ rfl (fun _ => ?_) (fun h => by cases h)
      have hne : decide (a = b) = false := by
        simp only [decide_eq_false_iff_not]; intro h; subst h; exact he rfl
      simp only [hne]
      refine seq_reg (σ' := ?_) ?_ ?_
      rotate_left
      · simp -implicitDefEqProofs only [frustumref31_Same.r6, ex_nil, ex_cons, exK_some, st_n, st_g, gd_b, rn_v, rn_m, rn_s, rn_a, think, prep, mkDsts, St.clear, ev, upd, init, PV.av, St.put, forgetBox, AV.cells, AV.pv, pvs, fillX, chunks, binV, xints, ldX, AV.plain, baseOk, fg_p, fg_tk, mkG, Sig.spec, tab, St.of, List.getElem?_cons_zero, List.getElem?_cons_succ, List.getElem?_nil, Option.map_some, Option.map_none, Option.bind_some, Option.isSome_some, Option.isSome_none, if_true, if_false, reduceIte, Nat.reduceEqDiff, List.map_cons, List.map_nil, List.drop_succ_cons, List.drop_zero, List.take_succ_cons, List.take_zero, List.length_cons, List.length_nil, List.length_append, List.cons_append, List.nil_append, List.append_nil, Nat.reduceAdd, Nat.reduceMul, Nat.reduceLeDiff, Nat.reduceBEq, Nat.zero_le, Nat.le_refl, Nat.zero_add, Nat.add_zero, and_self, and_true, true_and, or_true, true_or, Bool.not_true, Bool.not_false, Bool.false_eq_true, beq_self_eq_true, reduceCtorEq, Int.reduceBEq, Int.reduceBNe, Int.reduceLT, Int.reduceLE, Int.reduceAdd, Int.reduceToNat, Int.toNat_zero, Int.reduceEq, Int.toNat_natCast, c3, eq_self, Int.le_refl, decide_eq_true_eq, decide_eq_false_iff_not, not_true_eq_false, not_false_eq_true, decide_true, decide_false, Bool.true_eq_false]; rfl
      exact ret_ ⟨.inl rfl, _, rfl, AVle.refl _⟩
  · have hge : j = a.vs.length := by have := of_decide_eq_false h; omega
    have heq : a = b := V_ext hp (List.ext_getElem? fun q => by
      by_cases hqj : q < j
      · exact hq q hqj
      · rw [List.getElem?_eq_none (by omega), List.getElem?_eq_none (by omega)])
    have hT : decide (a = b) = true := by simp only [decide_eq_true_eq]; exact heq
    simp only [hT]
    refine exit_ (norm_ ?_)
    refine seq_reg (σ' := ?_) ?_ ?_
    rotate_left
    · simp -implicitDefEqProofs only [frustumref31_Same.r9, ex_nil, ex_cons, exK_some, st_n, st_g, gd_b, rn_v, rn_m, rn_s, rn_a, think, prep, mkDsts, St.clear, ev, upd, init, PV.av, St.put, forgetBox, AV.cells, AV.pv, pvs, fillX, chunks, binV, xints, ldX, AV.plain, baseOk, fg_p, fg_tk, mkG, Sig.spec, tab, St.of, List.getElem?_cons_zero, List.getElem?_cons_succ, List.getElem?_nil, Option.map_some, Option.map_none, Option.bind_some, Option.isSome_some, Option.isSome_none, if_true, if_false, reduceIte, Nat.reduceEqDiff, List.map_cons, List.map_nil, List.drop_succ_cons, List.drop_zero, List.take_succ_cons, List.take_zero, List.length_cons, List.length_nil, List.length_append, List.cons_append, List.nil_append, List.append_nil, Nat.reduceAdd, Nat.reduceMul, Nat.reduceLeDiff, Nat.reduceBEq, Nat.zero_le, Nat.le_refl, Nat.zero_add, Nat.add_zero, and_self, and_true, true_and, or_true, true_or, Bool.not_true, Bool.not_false, Bool.false_eq_true, beq_self_eq_true, reduceCtorEq, Int.reduceBEq, Int.reduceBNe, Int.reduceLT, Int.reduceLE, Int.reduceAdd, Int.reduceToNat, Int.toNat_zero, Int.reduceEq, Int.toNat_natCast, c3, eq_self, Int.le_refl, decide_eq_true_eq, decide_eq_false_iff_not, not_true_eq_false, not_false_eq_true, decide_true, decide_false, Bool.true_eq_false]; rfl
    exact ret_ ⟨.inl rfl, _, rfl, AVle.refl _⟩
/-! ### Lists -/
def sameLS : Am.Spec := (sig2 aVs aVs).spec fun a => if (∀ v ∈ a.1, lenOk v) ∧ a.1.length * 56 ≤ 140737488355328 then some (rBool (decide (a.1 = a.2))) else none
theorem frustumref31_SameList.ok : SpecOK Try.prog 15 sameLS := (sig2 aVs aVs).ok fun a r h => by
  obtain ⟨l, m⟩ := a
  (try simp only at h)
  split at h
  case isFalse => cases h
  rename_i hl
  obtain ⟨hv, hn⟩ := hl
  cases h
  refine fnLaw Try.func15 frustumref31_SameList.tr (by kernel_rfl) hE (ok_cons frustumref31_Same.ok ok_nil) ?_
  unfold frustumref31_SameList.m
  refine seq_reg (σ' := ?_) ?_ ?_
  rotate_left
  · simp -implicitDefEqProofs only [frustumref31_SameList.r0, ex_nil, ex_cons, exK_some, st_n, st_g, gd_b, rn_v, rn_m, rn_s, rn_a, think, prep, mkDsts, St.clear, ev, upd, init, PV.av, St.put, forgetBox, AV.cells, AV.pv, pvs, fillX, chunks, binV, xints, ldX, AV.plain, baseOk, fg_p, fg_tk, mkG, Sig.spec, tab, St.of, List.getElem?_cons_zero, List.getElem?_cons_succ, List.getElem?_nil, Option.map_some, Option.map_none, Option.bind_some, Option.isSome_some, Option.isSome_none, if_true, if_false, reduceIte, Nat.reduceEqDiff, List.map_cons, List.map_nil, List.drop_succ_cons, List.drop_zero, List.take_succ_cons, List.take_zero, List.length_cons, List.length_nil, List.length_append, List.cons_append, List.nil_append, List.append_nil, Nat.reduceAdd, Nat.reduceMul, Nat.reduceLeDiff, Nat.reduceBEq, Nat.zero_le, Nat.le_refl, Nat.zero_add, Nat.add_zero, and_self, and_true, true_and, or_true, true_or, Bool.not_true, Bool.not_false, Bool.false_eq_true, beq_self_eq_true, reduceCtorEq, Int.reduceBEq, Int.reduceBNe, Int.reduceLT, Int.reduceLE, Int.reduceAdd, Int.reduceToNat, Int.toNat_zero, Int.reduceEq, Int.toNat_natCast, c3, eq_self, Int.le_refl, decide_eq_true_eq, decide_eq_false_iff_not, not_true_eq_false, not_false_eq_true, decide_true, decide_false, Bool.true_eq_false, sig2, aVs]; rfl
  refine seq_ (seq_ ?_)
  by_cases hlen : l.length = m.length
  case neg =>
    have hne : decide (l = m) = false := by
      simp only [decide_eq_false_iff_not]; intro h; subst h; exact hlen rfl
    simp only [hne]
    have hlb : ((l.length : Int) != (m.length : Int)) = true := by simp; omega
    refine seq_reg (σ' := ?_) ?_ ?_
    rotate_left
    · simp -implicitDefEqProofs only [frustumref31_SameList.r1, ex_nil, ex_cons, exK_some, st_n, st_g, gd_b, rn_v, rn_m, rn_s, rn_a, think, prep, mkDsts, St.clear, ev, upd, init, PV.av, St.put, forgetBox, AV.cells, AV.pv, pvs, fillX, chunks, binV, xints, ldX, AV.plain, baseOk, fg_p, fg_tk, mkG, Sig.spec, tab, St.of, List.getElem?_cons_zero, List.getElem?_cons_succ, List.getElem?_nil, Option.map_some, Option.map_none, Option.bind_some, Option.isSome_some, Option.isSome_none, if_true, if_false, reduceIte, Nat.reduceEqDiff, List.map_cons, List.map_nil, List.drop_succ_cons, List.drop_zero, List.take_succ_cons, List.take_zero, List.length_cons, List.length_nil, List.length_append, List.cons_append, List.nil_append, List.append_nil, Nat.reduceAdd, Nat.reduceMul, Nat.reduceLeDiff, Nat.reduceBEq, Nat.zero_le, Nat.le_refl, Nat.zero_add, Nat.add_zero, and_self, and_true, true_and, or_true, true_or, Bool.not_true, Bool.not_false, Bool.false_eq_true, beq_self_eq_true, reduceCtorEq, Int.reduceBEq, Int.reduceBNe, Int.reduceLT, Int.reduceLE, Int.reduceAdd, Int.reduceToNat, Int.toNat_zero, Int.reduceEq, Int.toNat_natCast, c3, eq_self, Int.le_refl, decide_eq_true_eq, decide_eq_false_iff_not, not_true_eq_false, not_false_eq_true, decide_true, decide_false, Bool.true_eq_false, cVs, List.length_map, hlb]; rfl
    refine cond_ rfl (fun _ => ?_) (fun h => by cases h)
    refine seq_reg (σ' := ?_) ?_ ?_
    rotate_left
    · simp -implicitDefEqProofs only [frustumref31_SameList.r2, ex_nil, ex_cons, exK_some, st_n, st_g, gd_b, rn_v, rn_m, rn_s, rn_a, think, prep, mkDsts, St.clear, ev, upd, init, PV.av, St.put, forgetBox, AV.cells, AV.pv, pvs, fillX, chunks, binV, xints, ldX, AV.plain, baseOk, fg_p, fg_tk, mkG, Sig.spec, tab, St.of, List.getElem?_cons_zero, List.getElem?_cons_succ, List.getElem?_nil, Option.map_some, Option.map_none, Option.bind_some, Option.isSome_some, Option.isSome_none, if_true, if_false, reduceIte, Nat.reduceEqDiff, List.map_cons, List.map_nil, List.drop_succ_cons, List.drop_zero, List.take_succ_cons, List.take_zero, List.length_cons, List.length_nil, List.length_append, List.cons_append, List.nil_append, List.append_nil, Nat.reduceAdd, Nat.reduceMul, Nat.reduceLeDiff, Nat.reduceBEq, Nat.zero_le, Nat.le_refl, Nat.zero_add, Nat.add_zero, and_self, and_true, true_and, or_true, true_or, Bool.not_true, Bool.not_false, Bool.false_eq_true, beq_self_eq_true, reduceCtorEq, Int.reduceBEq, Int.reduceBNe, Int.reduceLT, Int.reduceLE, Int.reduceAdd, Int.reduceToNat, Int.toNat_zero, Int.reduceEq, Int.toNat_natCast, c3, eq_self, Int.le_refl, decide_eq_true_eq, decide_eq_false_iff_not, not_true_eq_false, not_false_eq_true, decide_true, decide_false, Bool.true_eq_false]; rfl
    exact ret_ ⟨.inl rfl, _, rfl, AVle.refl _⟩
  have hlb : ((l.length : Int) != (m.length : Int)) = false := by simp; omega
  refine seq_reg (σ' := ?_) ?_ ?_
  rotate_left
  · simp -implicitDefEqProofs only [frustumref31_SameList.r1, ex_nil, ex_cons, exK_some, st_n, st_g, gd_b, rn_v, rn_m, rn_s, rn_a, think, prep, mkDsts, St.clear, ev, upd, init, PV.av, St.put, forgetBox, AV.cells, AV.pv, pvs, fillX, chunks, binV, xints, ldX, AV.plain, baseOk, fg_p, fg_tk, mkG, Sig.spec, tab, St.of, List.getElem?_cons_zero, List.getElem?_cons_succ, List.getElem?_nil, Option.map_some, Option.map_none, Option.bind_some, Option.isSome_some, Option.isSome_none, if_true, if_false, reduceIte, Nat.reduceEqDiff, List.map_cons, List.map_nil, List.drop_succ_cons, List.drop_zero, List.take_succ_cons, List.take_zero, List.length_cons, List.length_nil, List.length_append, List.cons_append, List.nil_append, List.append_nil, Nat.reduceAdd, Nat.reduceMul, Nat.reduceLeDiff, Nat.reduceBEq, Nat.zero_le, Nat.le_refl, Nat.zero_add, Nat.add_zero, and_self, and_true, true_and, or_true, true_or, Bool.not_true, Bool.not_false, Bool.false_eq_true, beq_self_eq_true, reduceCtorEq, Int.reduceBEq, Int.reduceBNe, Int.reduceLT, Int.reduceLE, Int.reduceAdd, Int.reduceToNat, Int.toNat_zero, Int.reduceEq, Int.toNat_natCast, c3, eq_self, Int.le_refl, decide_eq_true_eq, decide_eq_false_iff_not, not_true_eq_false, not_false_eq_true, decide_true, decide_false, Bool.true_eq_false, cVs, List.length_map, hlb]; rfl
  refine cond_ rfl (fun h => by cases h) (fun _ => ?_)
  refine skip_ (norm_ (seq_ ?_))
  refine seq_ex (σ'' := St.of [(0, .c (.p (cVs l))), (1, .c (.p (cVs m))), (5, rInt 0)] [] [] (0)) ⟨_, by simp -implicitDefEqProofs only [frustumref31_SameList.r3, ex_nil, ex_cons, exK_some, st_n, st_g, gd_b, rn_v, rn_m, rn_s, rn_a, think, prep, mkDsts, St.clear, ev, upd, init, PV.av, St.put, forgetBox, AV.cells, AV.pv, pvs, fillX, chunks, binV, xints, ldX, AV.plain, baseOk, fg_p, fg_tk, mkG, Sig.spec, tab, St.of, List.getElem?_cons_zero, List.getElem?_cons_succ, List.getElem?_nil, Option.map_some, Option.map_none, Option.bind_some, Option.isSome_some, Option.isSome_none, if_true, if_false, reduceIte, Nat.reduceEqDiff, List.map_cons, List.map_nil, List.drop_succ_cons, List.drop_zero, List.take_succ_cons, List.take_zero, List.length_cons, List.length_nil, List.length_append, List.cons_append, List.nil_append, List.append_nil, Nat.reduceAdd, Nat.reduceMul, Nat.reduceLeDiff, Nat.reduceBEq, Nat.zero_le, Nat.le_refl, Nat.zero_add, Nat.add_zero, and_self, and_true, true_and, or_true, true_or, Bool.not_true, Bool.not_false, Bool.false_eq_true, beq_self_eq_true, reduceCtorEq, Int.reduceBEq, Int.reduceBNe, Int.reduceLT, Int.reduceLE, Int.reduceAdd, Int.reduceToNat, Int.toNat_zero, Int.reduceEq, Int.toNat_natCast, c3, eq_self, Int.le_refl, decide_eq_true_eq, decide_eq_false_iff_not, not_true_eq_false, not_false_eq_true, decide_true, decide_false, Bool.true_eq_false]; rfl, sub_of (all_cons rfl (all_cons rfl (all_cons rfl all_nil))) all_nil all_nil (Nat.le_refl _)⟩ ?_
  refine block_ ?_
  refine loop_ (fun n σ => ∃ j : Nat, j ≤ l.length ∧ n = l.length - j ∧ (∀ q, q < j → l[q]? = m[q]?) ∧ σ = St.of [(0, .c (.p (cVs l))), (1, .c (.p (cVs m))), (5, rInt j)] [] [] 0)
    l.length _ (Sub.refl _) ⟨0, Nat.zero_le _, rfl, fun q hq => by omega, rfl⟩ ?_
  rintro n σ ⟨j, hj, rfl, hq, rfl⟩
  unfold frustumref31_SameList.b8
  refine seq_ (seq_ ?_)
  refine seq_reg (σ' := ?_) ?_ ?_
  rotate_left
  · simp -implicitDefEqProofs only [frustumref31_SameList.r4, ex_nil, ex_cons, exK_some, st_n, st_g, gd_b, rn_v, rn_m, rn_s, rn_a, think, prep, mkDsts, St.clear, ev, upd, init, PV.av, St.put, forgetBox, AV.cells, AV.pv, pvs, fillX, chunks, binV, xints, ldX, AV.plain, baseOk, fg_p, fg_tk, mkG, Sig.spec, tab, St.of, List.getElem?_cons_zero, List.getElem?_cons_succ, List.getElem?_nil, Option.map_some, Option.map_none, Option.bind_some, Option.isSome_some, Option.isSome_none, if_true, if_false, reduceIte, Nat.reduceEqDiff, List.map_cons, List.map_nil, List.drop_succ_cons, List.drop_zero, List.take_succ_cons, List.take_zero, List.length_cons, List.length_nil, List.length_append, List.cons_append, List.nil_append, List.append_nil, Nat.reduceAdd, Nat.reduceMul, Nat.reduceLeDiff, Nat.reduceBEq, Nat.zero_le, Nat.le_refl, Nat.zero_add, Nat.add_zero, and_self, and_true, true_and, or_true, true_or, Bool.not_true, Bool.not_false, Bool.false_eq_true, beq_self_eq_true, reduceCtorEq, Int.reduceBEq, Int.reduceBNe, Int.reduceLT, Int.reduceLE, Int.reduceAdd, Int.reduceToNat, Int.toNat_zero, Int.reduceEq, Int.toNat_natCast, c3, eq_self, Int.le_refl, decide_eq_true_eq, decide_eq_false_iff_not, not_true_eq_false, not_false_eq_true, decide_true, decide_false, Bool.true_eq_false, rInt, cVs, List.length_map]; rfl
  refine cond_ rfl (fun h => skip_ (norm_ ?_)) (fun h => ?_)
  · have hlt : j < l.length := by have := of_decide_eq_true h; omega
    have hlt2 : j < m.length := by omega
    obtain ⟨a, ha⟩ : ∃ a, l[j] = a := ⟨_, rfl⟩
    obtain ⟨b, hb⟩ : ∃ b, m[j] = b := ⟨_, rfl⟩
    have hga : (l.map V.cs)[j]? = some a.cs := by simp [hlt, ha]
    have hgb : (m.map V.cs)[j]? = some b.cs := by simp [hlt2, hb]
    have hla : lenOk a := hv a (by rw [← ha]; exact List.getElem_mem _)
    have da := dV_lit a
    have db := dV_lit b
    have hwr : IntKind.i64.wrap ((j : Int) + 1) = ((j + 1 : Nat) : Int) := by rw [i64_w' (by omega) (by omega)]; omega
    refine seq_ (block_ ?_)
    by_cases he : a = b
    · have heb : decide (a = b) = true := by simp [he]
      refine seq_reg (σ' := ?_) ?_ ?_
      rotate_left
      · simp -implicitDefEqProofs only [frustumref31_SameList.r5, ex_nil, ex_cons, exK_some, st_n, st_g, gd_b, rn_v, rn_m, rn_s, rn_a, think, prep, mkDsts, St.clear, ev, upd, init, PV.av, St.put, forgetBox, AV.cells, AV.pv, pvs, fillX, chunks, binV, xints, ldX, AV.plain, baseOk, fg_p, fg_tk, mkG, Sig.spec, tab, St.of, List.getElem?_cons_zero, List.getElem?_cons_succ, List.getElem?_nil, Option.map_some, Option.map_none, Option.bind_some, Option.isSome_some, Option.isSome_none, if_true, if_false, reduceIte, Nat.reduceEqDiff, List.map_cons, List.map_nil, List.drop_succ_cons, List.drop_zero, List.take_succ_cons, List.take_zero, List.length_cons, List.length_nil, List.length_append, List.cons_append, List.nil_append, List.append_nil, Nat.reduceAdd, Nat.reduceMul, Nat.reduceLeDiff, Nat.reduceBEq, Nat.zero_le, Nat.le_refl, Nat.zero_add, Nat.add_zero, and_self, and_true, true_and, or_true, true_or, Bool.not_true, Bool.not_false, Bool.false_eq_true, beq_self_eq_true, reduceCtorEq, Int.reduceBEq, Int.reduceBNe, Int.reduceLT, Int.reduceLE, Int.reduceAdd, Int.reduceToNat, Int.toNat_zero, Int.reduceEq, Int.toNat_natCast, c3, eq_self, Int.le_refl, decide_eq_true_eq, decide_eq_false_iff_not, not_true_eq_false, not_false_eq_true, decide_true, decide_false, Bool.true_eq_false, rInt, cVs, V.cs, hga, hgb, show (0 : Int) ≤ (j : Int) by omega, sameS, sig2, aV, da, db, hla, heb, rBool]; rfl
      refine cond_ rfl (fun h => by cases h) (fun _ => skip_ (norm_ ?_))
      refine last_reg (σ' := ?_) ?_ ?_
      rotate_left
      · simp -implicitDefEqProofs only [frustumref31_SameList.r7, ex_nil, ex_cons, exK_some, st_n, st_g, gd_b, rn_v, rn_m, rn_s, rn_a, think, prep, mkDsts, St.clear, ev, upd, init, PV.av, St.put, forgetBox, AV.cells, AV.pv, pvs, fillX, chunks, binV, xints, ldX, AV.plain, baseOk, fg_p, fg_tk, mkG, Sig.spec, tab, St.of, List.getElem?_cons_zero, List.getElem?_cons_succ, List.getElem?_nil, Option.map_some, Option.map_none, Option.bind_some, Option.isSome_some, Option.isSome_none, if_true, if_false, reduceIte, Nat.reduceEqDiff, List.map_cons, List.map_nil, List.drop_succ_cons, List.drop_zero, List.take_succ_cons, List.take_zero, List.length_cons, List.length_nil, List.length_append, List.cons_append, List.nil_append, List.append_nil, Nat.reduceAdd, Nat.reduceMul, Nat.reduceLeDiff, Nat.reduceBEq, Nat.zero_le, Nat.le_refl, Nat.zero_add, Nat.add_zero, and_self, and_true, true_and, or_true, true_or, Bool.not_true, Bool.not_false, Bool.false_eq_true, beq_self_eq_true, reduceCtorEq, Int.reduceBEq, Int.reduceBNe, Int.reduceLT, Int.reduceLE, Int.reduceAdd, Int.reduceToNat, Int.toNat_zero, Int.reduceEq, Int.toNat_natCast, c3, eq_self, Int.le_refl, decide_eq_true_eq, decide_eq_false_iff_not, not_true_eq_false, not_false_eq_true, decide_true, decide_false, Bool.true_eq_false, rInt, hwr]; rfl
      refine round_ (m := l.length - (j + 1)) (σ'' := St.of [(0, .c (.p (cVs l))), (1, .c (.p (cVs m))), (5, rInt ((j + 1 : Nat) : Int))] [] [] 0) (by omega) (sub_of (all_cons rfl (all_cons rfl (all_cons rfl all_nil))) all_nil all_nil (Nat.le_refl _)) ⟨j + 1, hlt, rfl, fun q hqj => ?_, rfl⟩
      by_cases hqe : q = j
      · subst hqe; rw [List.getElem?_eq_getElem hlt, List.getElem?_eq_getElem hlt2, ha, hb, he]
      · exact hq q (by omega)
    · have heb : decide (a = b) = false := by simp [he]
      refine seq_reg (σ' := ?_) ?_ ?_
      rotate_left
      · simp -implicitDefEqProofs only [frustumref31_SameList.r5, ex_nil, ex_cons, exK_some, st_n, st_g, gd_b, rn_v, rn_m, rn_s, rn_a, think, prep, mkDsts, St.clear, ev, upd, init, PV.av, St.put, forgetBox, AV.cells, AV.pv, pvs, fillX, chunks, binV, xints, ldX, AV.plain, baseOk, fg_p, fg_tk, mkG, Sig.spec, tab, St.of, List.getElem?_cons_zero, List.getElem?_cons_succ, List.getElem?_nil, Option.map_some, Option.map_none, Option.bind_some, Option.isSome_some, Option.isSome_none, if_true, if_false, reduceIte, Nat.reduceEqDiff, List.map_cons, List.map_nil, List.drop_succ_cons, List.drop_zero, List.take_succ_cons, List.take_zero, List.length_cons, List.length_nil, List.length_append, List.cons_append, List.nil_append, List.append_nil, Nat.reduceAdd, Nat.reduceMul, Nat.reduceLeDiff, Nat.reduceBEq, Nat.zero_le, Nat.le_refl, Nat.zero_add, Nat.add_zero, and_self, and_true, true_and, or_true, true_or, Bool.not_true, Bool.not_false, Bool.false_eq_true, beq_self_eq_true, reduceCtorEq, Int.reduceBEq, Int.reduceBNe, Int.reduceLT, Int.reduceLE, Int.reduceAdd, Int.reduceToNat, Int.toNat_zero, Int.reduceEq, Int.toNat_natCast, c3, eq_self, Int.le_refl, decide_eq_true_eq, decide_eq_false_iff_not, not_true_eq_false, not_false_eq_true, decide_true, decide_false, Bool.true_eq_false, rInt, cVs, V.cs, hga, hgb, show (0 : Int) ≤ (j : Int) by omega, sameS, sig2, aV, da, db, hla, heb, rBool]; rfl
      refine cond_ rfl (fun _ => ?_) (fun h => by cases h)
      have hne : decide (l = m) = false := by
        simp only [decide_eq_false_iff_not]; intro h; subst h; exact he (ha.symm.trans hb)
      simp only [hne]
      refine seq_reg (σ' := ?_) ?_ ?_
      rotate_left
      · simp -implicitDefEqProofs only [frustumref31_SameList.r6, ex_nil, ex_cons, exK_some, st_n, st_g, gd_b, rn_v, rn_m, rn_s, rn_a, think, prep, mkDsts, St.clear, ev, upd, init, PV.av, St.put, forgetBox, AV.cells, AV.pv, pvs, fillX, chunks, binV, xints, ldX, AV.plain, baseOk, fg_p, fg_tk, mkG, Sig.spec, tab, St.of, List.getElem?_cons_zero, List.getElem?_cons_succ, List.getElem?_nil, Option.map_some, Option.map_none, Option.bind_some, Option.isSome_some, Option.isSome_none, if_true, if_false, reduceIte, Nat.reduceEqDiff, List.map_cons, List.map_nil, List.drop_succ_cons, List.drop_zero, List.take_succ_cons, List.take_zero, List.length_cons, List.length_nil, List.length_append, List.cons_append, List.nil_append, List.append_nil, Nat.reduceAdd, Nat.reduceMul, Nat.reduceLeDiff, Nat.reduceBEq, Nat.zero_le, Nat.le_refl, Nat.zero_add, Nat.add_zero, and_self, and_true, true_and, or_true, true_or, Bool.not_true, Bool.not_false, Bool.false_eq_true, beq_self_eq_true, reduceCtorEq, Int.reduceBEq, Int.reduceBNe, Int.reduceLT, Int.reduceLE, Int.reduceAdd, Int.reduceToNat, Int.toNat_zero, Int.reduceEq, Int.toNat_natCast, c3, eq_self, Int.le_refl, decide_eq_true_eq, decide_eq_false_iff_not, not_true_eq_false, not_false_eq_true, decide_true, decide_false, Bool.true_eq_false]; rfl
      exact ret_ ⟨.inl rfl, _, rfl, AVle.refl _⟩
  · have hge : j = l.length := by have := of_decide_eq_false h; omega
    have heq : l = m := List.ext_getElem? fun q => by
      by_cases hqj : q < j
      · exact hq q hqj
      · rw [List.getElem?_eq_none (by omega), List.getElem?_eq_none (by omega)]
    have hT : decide (l = m) = true := by simp only [decide_eq_true_eq]; exact heq
    simp only [hT]
    refine exit_ (norm_ ?_)
    refine seq_reg (σ' := ?_) ?_ ?_
    rotate_left
    · simp -implicitDefEqProofs only [frustumref31_SameList.r9, ex_nil, ex_cons, exK_some, st_n, st_g, gd_b, rn_v, rn_m, rn_s, rn_a, think, prep, mkDsts, St.clear, ev, upd, init, PV.av, St.put, forgetBox, AV.cells, AV.pv, pvs, fillX, chunks, binV, xints, ldX, AV.plain, baseOk, fg_p, fg_tk, mkG, Sig.spec, tab, St.of, List.getElem?_cons_zero, List.getElem?_cons_succ, List.getElem?_nil, Option.map_some, Option.map_none, Option.bind_some, Option.isSome_some, Option.isSome_none, if_true, if_false, reduceIte, Nat.reduceEqDiff, List.map_cons, List.map_nil, List.drop_succ_cons, List.drop_zero, List.take_succ_cons, List.take_zero, List.length_cons, List.length_nil, List.length_append, List.cons_append, List.nil_append, List.append_nil, Nat.reduceAdd, Nat.reduceMul, Nat.reduceLeDiff, Nat.reduceBEq, Nat.zero_le, Nat.le_refl, Nat.zero_add, Nat.add_zero, and_self, and_true, true_and, or_true, true_or, Bool.not_true, Bool.not_false, Bool.false_eq_true, beq_self_eq_true, reduceCtorEq, Int.reduceBEq, Int.reduceBNe, Int.reduceLT, Int.reduceLE, Int.reduceAdd, Int.reduceToNat, Int.toNat_zero, Int.reduceEq, Int.toNat_natCast, c3, eq_self, Int.le_refl, decide_eq_true_eq, decide_eq_false_iff_not, not_true_eq_false, not_false_eq_true, decide_true, decide_false, Bool.true_eq_false]; rfl
    exact ret_ ⟨.inl rfl, _, rfl, AVle.refl _⟩
def sameTS : Am.Spec := (sig2 aTs aTs).spec fun a => if (∀ v ∈ a.1, lens v) ∧ a.1.length * 168 ≤ 140737488355328 then some (rBool (decide (a.1 = a.2))) else none
theorem frustumref31_SameTriangles.ok : SpecOK Try.prog 18 sameTS := (sig2 aTs aTs).ok fun a r h => by
  obtain ⟨l, m⟩ := a
  (try simp only at h)
  split at h
  case isFalse => cases h
  rename_i hl
  obtain ⟨hv, hn⟩ := hl
  cases h
  refine fnLaw Try.func18 frustumref31_SameTriangles.tr (by kernel_rfl) hE (ok_cons frustumref31_Same.ok ok_nil) ?_
  unfold frustumref31_SameTriangles.m
  refine seq_reg (σ' := ?_) ?_ ?_
  rotate_left
  · simp -implicitDefEqProofs only [frustumref31_SameTriangles.r0, ex_nil, ex_cons, exK_some, st_n, st_g, gd_b, rn_v, rn_m, rn_s, rn_a, think, prep, mkDsts, St.clear, ev, upd, init, PV.av, St.put, forgetBox, AV.cells, AV.pv, pvs, fillX, chunks, binV, xints, ldX, AV.plain, baseOk, fg_p, fg_tk, mkG, Sig.spec, tab, St.of, List.getElem?_cons_zero, List.getElem?_cons_succ, List.getElem?_nil, Option.map_some, Option.map_none, Option.bind_some, Option.isSome_some, Option.isSome_none, if_true, if_false, reduceIte, Nat.reduceEqDiff, List.map_cons, List.map_nil, List.drop_succ_cons, List.drop_zero, List.take_succ_cons, List.take_zero, List.length_cons, List.length_nil, List.length_append, List.cons_append, List.nil_append, List.append_nil, Nat.reduceAdd, Nat.reduceMul, Nat.reduceLeDiff, Nat.reduceBEq, Nat.zero_le, Nat.le_refl, Nat.zero_add, Nat.add_zero, and_self, and_true, true_and, or_true, true_or, Bool.not_true, Bool.not_false, Bool.false_eq_true, beq_self_eq_true, reduceCtorEq, Int.reduceBEq, Int.reduceBNe, Int.reduceLT, Int.reduceLE, Int.reduceAdd, Int.reduceToNat, Int.toNat_zero, Int.reduceEq, Int.toNat_natCast, c3, eq_self, Int.le_refl, decide_eq_true_eq, decide_eq_false_iff_not, not_true_eq_false, not_false_eq_true, decide_true, decide_false, Bool.true_eq_false, sig2, aTs]; rfl
  refine seq_ (seq_ ?_)
  by_cases hlen : l.length = m.length
  case neg =>
    have hne : decide (l = m) = false := by
      simp only [decide_eq_false_iff_not]; intro h; subst h; exact hlen rfl
    simp only [hne]
    have hlb : ((l.length : Int) != (m.length : Int)) = true := by simp; omega
    refine seq_reg (σ' := ?_) ?_ ?_
    rotate_left
    · simp -implicitDefEqProofs only [frustumref31_SameTriangles.r1, ex_nil, ex_cons, exK_some, st_n, st_g, gd_b, rn_v, rn_m, rn_s, rn_a, think, prep, mkDsts, St.clear, ev, upd, init, PV.av, St.put, forgetBox, AV.cells, AV.pv, pvs, fillX, chunks, binV, xints, ldX, AV.plain, baseOk, fg_p, fg_tk, mkG, Sig.spec, tab, St.of, List.getElem?_cons_zero, List.getElem?_cons_succ, List.getElem?_nil, Option.map_some, Option.map_none, Option.bind_some, Option.isSome_some, Option.isSome_none, if_true, if_false, reduceIte, Nat.reduceEqDiff, List.map_cons, List.map_nil, List.drop_succ_cons, List.drop_zero, List.take_succ_cons, List.take_zero, List.length_cons, List.length_nil, List.length_append, List.cons_append, List.nil_append, List.append_nil, Nat.reduceAdd, Nat.reduceMul, Nat.reduceLeDiff, Nat.reduceBEq, Nat.zero_le, Nat.le_refl, Nat.zero_add, Nat.add_zero, and_self, and_true, true_and, or_true, true_or, Bool.not_true, Bool.not_false, Bool.false_eq_true, beq_self_eq_true, reduceCtorEq, Int.reduceBEq, Int.reduceBNe, Int.reduceLT, Int.reduceLE, Int.reduceAdd, Int.reduceToNat, Int.toNat_zero, Int.reduceEq, Int.toNat_natCast, c3, eq_self, Int.le_refl, decide_eq_true_eq, decide_eq_false_iff_not, not_true_eq_false, not_false_eq_true, decide_true, decide_false, Bool.true_eq_false, cTs, List.length_map, hlb]; rfl
    refine cond_ rfl (fun _ => ?_) (fun h => by cases h)
    refine seq_reg (σ' := ?_) ?_ ?_
    rotate_left
    · simp -implicitDefEqProofs only [frustumref31_SameTriangles.r2, ex_nil, ex_cons, exK_some, st_n, st_g, gd_b, rn_v, rn_m, rn_s, rn_a, think, prep, mkDsts, St.clear, ev, upd, init, PV.av, St.put, forgetBox, AV.cells, AV.pv, pvs, fillX, chunks, binV, xints, ldX, AV.plain, baseOk, fg_p, fg_tk, mkG, Sig.spec, tab, St.of, List.getElem?_cons_zero, List.getElem?_cons_succ, List.getElem?_nil, Option.map_some, Option.map_none, Option.bind_some, Option.isSome_some, Option.isSome_none, if_true, if_false, reduceIte, Nat.reduceEqDiff, List.map_cons, List.map_nil, List.drop_succ_cons, List.drop_zero, List.take_succ_cons, List.take_zero, List.length_cons, List.length_nil, List.length_append, List.cons_append, List.nil_append, List.append_nil, Nat.reduceAdd, Nat.reduceMul, Nat.reduceLeDiff, Nat.reduceBEq, Nat.zero_le, Nat.le_refl, Nat.zero_add, Nat.add_zero, and_self, and_true, true_and, or_true, true_or, Bool.not_true, Bool.not_false, Bool.false_eq_true, beq_self_eq_true, reduceCtorEq, Int.reduceBEq, Int.reduceBNe, Int.reduceLT, Int.reduceLE, Int.reduceAdd, Int.reduceToNat, Int.toNat_zero, Int.reduceEq, Int.toNat_natCast, c3, eq_self, Int.le_refl, decide_eq_true_eq, decide_eq_false_iff_not, not_true_eq_false, not_false_eq_true, decide_true, decide_false, Bool.true_eq_false]; rfl
    exact ret_ ⟨.inl rfl, _, rfl, AVle.refl _⟩
  have hlb : ((l.length : Int) != (m.length : Int)) = false := by simp; omega
  refine seq_reg (σ' := ?_) ?_ ?_
  rotate_left
  · simp -implicitDefEqProofs only [frustumref31_SameTriangles.r1, ex_nil, ex_cons, exK_some, st_n, st_g, gd_b, rn_v, rn_m, rn_s, rn_a, think, prep, mkDsts, St.clear, ev, upd, init, PV.av, St.put, forgetBox, AV.cells, AV.pv, pvs, fillX, chunks, binV, xints, ldX, AV.plain, baseOk, fg_p, fg_tk, mkG, Sig.spec, tab, St.of, List.getElem?_cons_zero, List.getElem?_cons_succ, List.getElem?_nil, Option.map_some, Option.map_none, Option.bind_some, Option.isSome_some, Option.isSome_none, if_true, if_false, reduceIte, Nat.reduceEqDiff, List.map_cons, List.map_nil, List.drop_succ_cons, List.drop_zero, List.take_succ_cons, List.take_zero, List.length_cons, List.length_nil, List.length_append, List.cons_append, List.nil_append, List.append_nil, Nat.reduceAdd, Nat.reduceMul, Nat.reduceLeDiff, Nat.reduceBEq, Nat.zero_le, Nat.le_refl, Nat.zero_add, Nat.add_zero, and_self, and_true, true_and, or_true, true_or, Bool.not_true, Bool.not_false, Bool.false_eq_true, beq_self_eq_true, reduceCtorEq, Int.reduceBEq, Int.reduceBNe, Int.reduceLT, Int.reduceLE, Int.reduceAdd, Int.reduceToNat, Int.toNat_zero, Int.reduceEq, Int.toNat_natCast, c3, eq_self, Int.le_refl, decide_eq_true_eq, decide_eq_false_iff_not, not_true_eq_false, not_false_eq_true, decide_true, decide_false, Bool.true_eq_false, cTs, List.length_map, hlb]; rfl
  refine cond_ rfl (fun h => by cases h) (fun _ => ?_)
  refine skip_ (norm_ (seq_ ?_))
  refine seq_ex (σ'' := St.of [(0, .c (.p (cTs l))), (1, .c (.p (cTs m))), (5, rInt 0)] [] [] (0)) ⟨_, by simp -implicitDefEqProofs only [frustumref31_SameTriangles.r3, ex_nil, ex_cons, exK_some, st_n, st_g, gd_b, rn_v, rn_m, rn_s, rn_a, think, prep, mkDsts, St.clear, ev, upd, init, PV.av, St.put, forgetBox, AV.cells, AV.pv, pvs, fillX, chunks, binV, xints, ldX, AV.plain, baseOk, fg_p, fg_tk, mkG, Sig.spec, tab, St.of, List.getElem?_cons_zero, List.getElem?_cons_succ, List.getElem?_nil, Option.map_some, Option.map_none, Option.bind_some, Option.isSome_some, Option.isSome_none, if_true, if_false, reduceIte, Nat.reduceEqDiff, List.map_cons, List.map_nil, List.drop_succ_cons, List.drop_zero, List.take_succ_cons, List.take_zero, List.length_cons, List.length_nil, List.length_append, List.cons_append, List.nil_append, List.append_nil, Nat.reduceAdd, Nat.reduceMul, Nat.reduceLeDiff, Nat.reduceBEq, Nat.zero_le, Nat.le_refl, Nat.zero_add, Nat.add_zero, and_self, and_true, true_and, or_true, true_or, Bool.not_true, Bool.not_false, Bool.false_eq_true, beq_self_eq_true, reduceCtorEq, Int.reduceBEq, Int.reduceBNe, Int.reduceLT, Int.reduceLE, Int.reduceAdd, Int.reduceToNat, Int.toNat_zero, Int.reduceEq, Int.toNat_natCast, c3, eq_self, Int.le_refl, decide_eq_true_eq, decide_eq_false_iff_not, not_true_eq_false, not_false_eq_true, decide_true, decide_false, Bool.true_eq_false]; rfl, sub_of (all_cons rfl (all_cons rfl (all_cons rfl all_nil))) all_nil all_nil (Nat.le_refl _)⟩ ?_
  refine block_ ?_
  refine loop_ (fun n σ => ∃ j : Nat, j ≤ l.length ∧ n = l.length - j ∧ (∀ q, q < j → l[q]? = m[q]?) ∧ σ = St.of [(0, .c (.p (cTs l))), (1, .c (.p (cTs m))), (5, rInt j)] [] [] 0)
    l.length _ (Sub.refl _) ⟨0, Nat.zero_le _, rfl, fun q hq => by omega, rfl⟩ ?_
  rintro n σ ⟨j, hj, rfl, hq, rfl⟩
  unfold frustumref31_SameTriangles.b8
  refine seq_ (seq_ ?_)
  refine seq_reg (σ' := ?_) ?_ ?_
  rotate_left
  · simp -implicitDefEqProofs only [frustumref31_SameTriangles.r4, ex_nil, ex_cons, exK_some, st_n, st_g, gd_b, rn_v, rn_m, rn_s, rn_a, think, prep, mkDsts, St.clear, ev, upd, init, PV.av, St.put, forgetBox, AV.cells, AV.pv, pvs, fillX, chunks, binV, xints, ldX, AV.plain, baseOk, fg_p, fg_tk, mkG, Sig.spec, tab, St.of, List.getElem?_cons_zero, List.getElem?_cons_succ, List.getElem?_nil, Option.map_some, Option.map_none, Option.bind_some, Option.isSome_some, Option.isSome_none, if_true, if_false, reduceIte, Nat.reduceEqDiff, List.map_cons, List.map_nil, List.drop_succ_cons, List.drop_zero, List.take_succ_cons, List.take_zero, List.length_cons, List.length_nil, List.length_append, List.cons_append, List.nil_append, List.append_nil, Nat.reduceAdd, Nat.reduceMul, Nat.reduceLeDiff, Nat.reduceBEq, Nat.zero_le, Nat.le_refl, Nat.zero_add, Nat.add_zero, and_self, and_true, true_and, or_true, true_or, Bool.not_true, Bool.not_false, Bool.false_eq_true, beq_self_eq_true, reduceCtorEq, Int.reduceBEq, Int.reduceBNe, Int.reduceLT, Int.reduceLE, Int.reduceAdd, Int.reduceToNat, Int.toNat_zero, Int.reduceEq, Int.toNat_natCast, c3, eq_self, Int.le_refl, decide_eq_true_eq, decide_eq_false_iff_not, not_true_eq_false, not_false_eq_true, decide_true, decide_false, Bool.true_eq_false, rInt, cTs, List.length_map]; rfl
  refine cond_ rfl (fun h => skip_ (norm_ ?_)) (fun h => ?_)
  · have hlt : j < l.length := by have := of_decide_eq_true h; omega
    have hlt2 : j < m.length := by omega
    obtain ⟨a, b, c, ha⟩ : ∃ a b c, l[j] = (a, b, c) := ⟨_, _, _, rfl⟩
    obtain ⟨d, e, f, hb⟩ : ∃ d e f, m[j] = (d, e, f) := ⟨_, _, _, rfl⟩
    have hga : (l.map T3.cs)[j]? = some (T3.cs (a, b, c)) := by simp [hlt, ha]
    have hgb : (m.map T3.cs)[j]? = some (T3.cs (d, e, f)) := by simp [hlt2, hb]
    have hla : lens (a, b, c) := hv _ (by rw [← ha]; exact List.getElem_mem _)
    obtain ⟨la, lb, lc⟩ := hla
    simp only at la lb lc
    have da := dV_lit a
    have db := dV_lit b
    have dc := dV_lit c
    have dd := dV_lit d
    have de := dV_lit e
    have df := dV_lit f
    have hwr : IntKind.i64.wrap ((j : Int) + 1) = ((j + 1 : Nat) : Int) := by rw [i64_w' (by omega) (by omega)]; omega
    have hj0 : (0 : Int) ≤ (j : Int) := by omega
    have hneq : (a, b, c) ≠ (d, e, f) → decide (l = m) = false := fun h => by
      simp only [decide_eq_false_iff_not]; intro h'; subst h'; exact h (ha.symm.trans hb)
    refine seq_ (block_ ?_)
    by_cases h1 : a = d
    case neg =>
      have g1 : decide (a = d) = false := by simp [h1]
      refine seq_reg (σ' := ?_) ?_ ?_
      rotate_left
      · simp -implicitDefEqProofs only [frustumref31_SameTriangles.r5, ex_nil, ex_cons, exK_some, st_n, st_g, gd_b, rn_v, rn_m, rn_s, rn_a, think, prep, mkDsts, St.clear, ev, upd, init, PV.av, St.put, forgetBox, AV.cells, AV.pv, pvs, fillX, chunks, binV, xints, ldX, AV.plain, baseOk, fg_p, fg_tk, mkG, Sig.spec, tab, St.of, List.getElem?_cons_zero, List.getElem?_cons_succ, List.getElem?_nil, Option.map_some, Option.map_none, Option.bind_some, Option.isSome_some, Option.isSome_none, if_true, if_false, reduceIte, Nat.reduceEqDiff, List.map_cons, List.map_nil, List.drop_succ_cons, List.drop_zero, List.take_succ_cons, List.take_zero, List.length_cons, List.length_nil, List.length_append, List.cons_append, List.nil_append, List.append_nil, Nat.reduceAdd, Nat.reduceMul, Nat.reduceLeDiff, Nat.reduceBEq, Nat.zero_le, Nat.le_refl, Nat.zero_add, Nat.add_zero, and_self, and_true, true_and, or_true, true_or, Bool.not_true, Bool.not_false, Bool.false_eq_true, beq_self_eq_true, reduceCtorEq, Int.reduceBEq, Int.reduceBNe, Int.reduceLT, Int.reduceLE, Int.reduceAdd, Int.reduceToNat, Int.toNat_zero, Int.reduceEq, Int.toNat_natCast, c3, eq_self, Int.le_refl, decide_eq_true_eq, decide_eq_false_iff_not, not_true_eq_false, not_false_eq_true, decide_true, decide_false, Bool.true_eq_false, rInt, cTs, T3_lit, hga, hgb, hj0, sameS, sig2, aV, da, db, dc, dd, de, df, la, lb, lc, g1, rBool]; rfl
      refine cond_ rfl (fun _ => ?_) (fun h => by cases h)
      simp only [hneq (by simp [h1])]
      refine seq_reg (σ' := ?_) ?_ ?_
      rotate_left
      · simp -implicitDefEqProofs only [frustumref31_SameTriangles.r6, ex_nil, ex_cons, exK_some, st_n, st_g, gd_b, rn_v, rn_m, rn_s, rn_a, think, prep, mkDsts, St.clear, ev, upd, init, PV.av, St.put, forgetBox, AV.cells, AV.pv, pvs, fillX, chunks, binV, xints, ldX, AV.plain, baseOk, fg_p, fg_tk, mkG, Sig.spec, tab, St.of, List.getElem?_cons_zero, List.getElem?_cons_succ, List.getElem?_nil, Option.map_some, Option.map_none, Option.bind_some, Option.isSome_some, Option.isSome_none, if_true, if_false, reduceIte, Nat.reduceEqDiff, List.map_cons, List.map_nil, List.drop_succ_cons, List.drop_zero, List.take_succ_cons, List.take_zero, List.length_cons, List.length_nil, List.length_append, List.cons_append, List.nil_append, List.append_nil, Nat.reduceAdd, Nat.reduceMul, Nat.reduceLeDiff, Nat.reduceBEq, Nat.zero_le, Nat.le_refl, Nat.zero_add, Nat.add_zero, and_self, and_true, true_and, or_true, true_or, Bool.not_true, Bool.not_false, Bool.false_eq_true, beq_self_eq_true, reduceCtorEq, Int.reduceBEq, Int.reduceBNe, Int.reduceLT, Int.reduceLE, Int.reduceAdd, Int.reduceToNat, Int.toNat_zero, Int.reduceEq, Int.toNat_natCast, c3, eq_self, Int.le_refl, decide_eq_true_eq, decide_eq_false_iff_not, not_true_eq_false, not_false_eq_true, decide_true, decide_false, Bool.true_eq_false]; rfl
      exact ret_ ⟨.inl rfl, _, rfl, AVle.refl _⟩
    have g1 : decide (a = d) = true := by simp [h1]
    by_cases h2 : b = e
    case neg =>
      have g2 : decide (b = e) = false := by simp [h2]
      refine seq_reg (σ' := ?_) ?_ ?_
      rotate_left
      · simp -implicitDefEqProofs only [frustumref31_SameTriangles.r5, ex_nil, ex_cons, exK_some, st_n, st_g, gd_b, rn_v, rn_m, rn_s, rn_a, think, prep, mkDsts, St.clear, ev, upd, init, PV.av, St.put, forgetBox, AV.cells, AV.pv, pvs, fillX, chunks, binV, xints, ldX, AV.plain, baseOk, fg_p, fg_tk, mkG, Sig.spec, tab, St.of, List.getElem?_cons_zero, List.getElem?_cons_succ, List.getElem?_nil, Option.map_some, Option.map_none, Option.bind_some, Option.isSome_some, Option.isSome_none, if_true, if_false, reduceIte, Nat.reduceEqDiff, List.map_cons, List.map_nil, List.drop_succ_cons, List.drop_zero, List.take_succ_cons, List.take_zero, List.length_cons, List.length_nil, List.length_append, List.cons_append, List.nil_append, List.append_nil, Nat.reduceAdd, Nat.reduceMul, Nat.reduceLeDiff, Nat.reduceBEq, Nat.zero_le, Nat.le_refl, Nat.zero_add, Nat.add_zero, and_self, and_true, true_and, or_true, true_or, Bool.not_true, Bool.not_false, Bool.false_eq_true, beq_self_eq_true, reduceCtorEq, Int.reduceBEq, Int.reduceBNe, Int.reduceLT, Int.reduceLE, Int.reduceAdd, Int.reduceToNat, Int.toNat_zero, Int.reduceEq, Int.toNat_natCast, c3, eq_self, Int.le_refl, decide_eq_true_eq, decide_eq_false_iff_not, not_true_eq_false, not_false_eq_true, decide_true, decide_false, Bool.true_eq_false, rInt, cTs, T3_lit, hga, hgb, hj0, sameS, sig2, aV, da, db, dc, dd, de, df, la, lb, lc, g1, g2, rBool]; rfl
      refine cond_ rfl (fun _ => ?_) (fun h => by cases h)
      simp only [hneq (by simp [h2])]
      refine seq_reg (σ' := ?_) ?_ ?_
      rotate_left
      · simp -implicitDefEqProofs only [frustumref31_SameTriangles.r6, ex_nil, ex_cons, exK_some, st_n, st_g, gd_b, rn_v, rn_m, rn_s, rn_a, think, prep, mkDsts, St.clear, ev, upd, init, PV.av, St.put, forgetBox, AV.cells, AV.pv, pvs, fillX, chunks, binV, xints, ldX, AV.plain, baseOk, fg_p, fg_tk, mkG, Sig.spec, tab, St.of, List.getElem?_cons_zero, List.getElem?_cons_succ, List.getElem?_nil, Option.map_some, Option.map_none, Option.bind_some, Option.isSome_some, Option.isSome_none, if_true, if_false, reduceIte, Nat.reduceEqDiff, List.map_cons, List.map_nil, List.drop_succ_cons, List.drop_zero, List.take_succ_cons, List.take_zero, List.length_cons, List.length_nil, List.length_append, List.cons_append, List.nil_append, List.append_nil, Nat.reduceAdd, Nat.reduceMul, Nat.reduceLeDiff, Nat.reduceBEq, Nat.zero_le, Nat.le_refl, Nat.zero_add, Nat.add_zero, and_self, and_true, true_and, or_true, true_or, Bool.not_true, Bool.not_false, Bool.false_eq_true, beq_self_eq_true, reduceCtorEq, Int.reduceBEq, Int.reduceBNe, Int.reduceLT, Int.reduceLE, Int.reduceAdd, Int.reduceToNat, Int.toNat_zero, Int.reduceEq, Int.toNat_natCast, c3, eq_self, Int.le_refl, decide_eq_true_eq, decide_eq_false_iff_not, not_true_eq_false, not_false_eq_true, decide_true, decide_false, Bool.true_eq_false]; rfl
      exact ret_ ⟨.inl rfl, _, rfl, AVle.refl _⟩
    have g2 : decide (b = e) = true := by simp [h2]
    by_cases h3 : c = f
    case neg =>
      have g3 : decide (c = f) = false := by simp [h3]
      refine seq_reg (σ' := ?_) ?_ ?_
      rotate_left
      · simp -implicitDefEqProofs only [frustumref31_SameTriangles.r5, ex_nil, ex_cons, exK_some, st_n, st_g, gd_b, rn_v, rn_m, rn_s, rn_a, think, prep, mkDsts, St.clear, ev, upd, init, PV.av, St.put, forgetBox, AV.cells, AV.pv, pvs, fillX, chunks, binV, xints, ldX, AV.plain, baseOk, fg_p, fg_tk, mkG, Sig.spec, tab, St.of, List.getElem?_cons_zero, List.getElem?_cons_succ, List.getElem?_nil, Option.map_some, Option.map_none, Option.bind_some, Option.isSome_some, Option.isSome_none, if_true, if_false, reduceIte, Nat.reduceEqDiff, List.map_cons, List.map_nil, List.drop_succ_cons, List.drop_zero, List.take_succ_cons, List.take_zero, List.length_cons, List.length_nil, List.length_append, List.cons_append, List.nil_append, List.append_nil, Nat.reduceAdd, Nat.reduceMul, Nat.reduceLeDiff, Nat.reduceBEq, Nat.zero_le, Nat.le_refl, Nat.zero_add, Nat.add_zero, and_self, and_true, true_and, or_true, true_or, Bool.not_true, Bool.not_false, Bool.false_eq_true, beq_self_eq_true, reduceCtorEq, Int.reduceBEq, Int.reduceBNe, Int.reduceLT, Int.reduceLE, Int.reduceAdd, Int.reduceToNat, Int.toNat_zero, Int.reduceEq, Int.toNat_natCast, c3, eq_self, Int.le_refl, decide_eq_true_eq, decide_eq_false_iff_not, not_true_eq_false, not_false_eq_true, decide_true, decide_false, Bool.true_eq_false, rInt, cTs, T3_lit, hga, hgb, hj0, sameS, sig2, aV, da, db, dc, dd, de, df, la, lb, lc, g1, g2, g3, rBool]; rfl
      refine cond_ rfl (fun _ => ?_) (fun h => by cases h)
      simp only [hneq (by simp [h3])]
      refine seq_reg (σ' := ?_) ?_ ?_
      rotate_left
      · simp -implicitDefEqProofs only [frustumref31_SameTriangles.r6, ex_nil, ex_cons, exK_some, st_n, st_g, gd_b, rn_v, rn_m, rn_s, rn_a, think, prep, mkDsts, St.clear, ev, upd, init, PV.av, St.put, forgetBox, AV.cells, AV.pv, pvs, fillX, chunks, binV, xints, ldX, AV.plain, baseOk, fg_p, fg_tk, mkG, Sig.spec, tab, St.of, List.getElem?_cons_zero, List.getElem?_cons_succ, List.getElem?_nil, Option.map_some, Option.map_none, Option.bind_some, Option.isSome_some, Option.isSome_none, if_true, if_false, reduceIte, Nat.reduceEqDiff, List.map_cons, List.map_nil, List.drop_succ_cons, List.drop_zero, List.take_succ_cons, List.take_zero, List.length_cons, List.length_nil, List.length_append, List.cons_append, List.nil_append, List.append_nil, Nat.reduceAdd, Nat.reduceMul, Nat.reduceLeDiff, Nat.reduceBEq, Nat.zero_le, Nat.le_refl, Nat.zero_add, Nat.add_zero, and_self, and_true, true_and, or_true, true_or, Bool.not_true, Bool.not_false, Bool.false_eq_true, beq_self_eq_true, reduceCtorEq, Int.reduceBEq, Int.reduceBNe, Int.reduceLT, Int.reduceLE, Int.reduceAdd, Int.reduceToNat, Int.toNat_zero, Int.reduceEq, Int.toNat_natCast, c3, eq_self, Int.le_refl, decide_eq_true_eq, decide_eq_false_iff_not, not_true_eq_false, not_false_eq_true, decide_true, decide_false, Bool.true_eq_false]; rfl
      exact ret_ ⟨.inl rfl, _, rfl, AVle.refl _⟩
    have g3 : decide (c = f) = true := by simp [h3]
    refine seq_reg (σ' := ?_) ?_ ?_
    rotate_left
    · simp -implicitDefEqProofs only [frustumref31_SameTriangles.r5, ex_nil, ex_cons, exK_some, st_n, st_g, gd_b, rn_v, rn_m, rn_s, rn_a, think, prep, mkDsts, St.clear, ev, upd, init, PV.av, St.put, forgetBox, AV.cells, AV.pv, pvs, fillX, chunks, binV, xints, ldX, AV.plain, baseOk, fg_p, fg_tk, mkG, Sig.spec, tab, St.of, List.getElem?_cons_zero, List.getElem?_cons_succ, List.getElem?_nil, Option.map_some, Option.map_none, Option.bind_some, Option.isSome_some, Option.isSome_none, if_true, if_false, reduceIte, Nat.reduceEqDiff, List.map_cons, List.map_nil, List.drop_succ_cons, List.drop_zero, List.take_succ_cons, List.take_zero, List.length_cons, List.length_nil, List.length_append, List.cons_append, List.nil_append, List.append_nil, Nat.reduceAdd, Nat.reduceMul, Nat.reduceLeDiff, Nat.reduceBEq, Nat.zero_le, Nat.le_refl, Nat.zero_add, Nat.add_zero, and_self, and_true, true_and, or_true, true_or, Bool.not_true, Bool.not_false, Bool.false_eq_true, beq_self_eq_true, reduceCtorEq, Int.reduceBEq, Int.reduceBNe, Int.reduceLT, Int.reduceLE, Int.reduceAdd, Int.reduceToNat, Int.toNat_zero, Int.reduceEq, Int.toNat_natCast, c3, eq_self, Int.le_refl, decide_eq_true_eq, decide_eq_false_iff_not, not_true_eq_false, not_false_eq_true, decide_true, decide_false, Bool.true_eq_false, rInt, cTs, T3_lit, hga, hgb, hj0, sameS, sig2, aV, da, db, dc, dd, de, df, la, lb, lc, g1, g2, g3, rBool]; rfl
    refine cond_ rfl (fun h => by cases h) (fun _ => skip_ (norm_ ?_))
    refine last_reg (σ' := ?_) ?_ ?_
    rotate_left
    · simp -implicitDefEqProofs only [frustumref31_SameTriangles.r7, ex_nil, ex_cons, exK_some, st_n, st_g, gd_b, rn_v, rn_m, rn_s, rn_a, think, prep, mkDsts, St.clear, ev, upd, init, PV.av, St.put, forgetBox, AV.cells, AV.pv, pvs, fillX, chunks, binV, xints, ldX, AV.plain, baseOk, fg_p, fg_tk, mkG, Sig.spec, tab, St.of, List.getElem?_cons_zero, List.getElem?_cons_succ, List.getElem?_nil, Option.map_some, Option.map_none, Option.bind_some, Option.isSome_some, Option.isSome_none, if_true, if_false, reduceIte, Nat.reduceEqDiff, List.map_cons, List.map_nil, List.drop_succ_cons, List.drop_zero, List.take_succ_cons, List.take_zero, List.length_cons, List.length_nil, List.length_append, List.cons_append, List.nil_append, List.append_nil, Nat.reduceAdd, Nat.reduceMul, Nat.reduceLeDiff, Nat.reduceBEq, Nat.zero_le, Nat.le_refl, Nat.zero_add, Nat.add_zero, and_self, and_true, true_and, or_true, true_or, Bool.not_true, Bool.not_false, Bool.false_eq_true, beq_self_eq_true, reduceCtorEq, Int.reduceBEq, Int.reduceBNe, Int.reduceLT, Int.reduceLE, Int.reduceAdd, Int.reduceToNat, Int.toNat_zero, Int.reduceEq, Int.toNat_natCast, c3, eq_self, Int.le_refl, decide_eq_true_eq, decide_eq_false_iff_not, not_true_eq_false, not_false_eq_true, decide_true, decide_false, Bool.true_eq_false, rInt, hwr]; rfl
    refine round_ (m := l.length - (j + 1)) (σ'' := St.of [(0, .c (.p (cTs l))), (1, .c (.p (cTs m))), (5, rInt ((j + 1 : Nat) : Int))] [] [] 0) (by omega) (sub_of (all_cons rfl (all_cons rfl (all_cons rfl all_nil))) all_nil all_nil (Nat.le_refl _)) ⟨j + 1, hlt, rfl, fun q hqj => ?_, rfl⟩
    by_cases hqe : q = j
    · subst hqe; rw [List.getElem?_eq_getElem hlt, List.getElem?_eq_getElem hlt2, ha, hb, h1, h2, h3]
    · exact hq q (by omega)
  · have hge : j = l.length := by have := of_decide_eq_false h; omega
    have heq : l = m := List.ext_getElem? fun q => by
      by_cases hqj : q < j
      · exact hq q hqj
      · rw [List.getElem?_eq_none (by omega), List.getElem?_eq_none (by omega)]
    have hT : decide (l = m) = true := by simp only [decide_eq_true_eq]; exact heq
    simp only [hT]
    refine exit_ (norm_ ?_)
    refine seq_reg (σ' := ?_) ?_ ?_
    rotate_left
    · simp -implicitDefEqProofs only [frustumref31_SameTriangles.r9, ex_nil, ex_cons, exK_some, st_n, st_g, gd_b, rn_v, rn_m, rn_s, rn_a, think, prep, mkDsts, St.clear, ev, upd, init, PV.av, St.put, forgetBox, AV.cells, AV.pv, pvs, fillX, chunks, binV, xints, ldX, AV.plain, baseOk, fg_p, fg_tk, mkG, Sig.spec, tab, St.of, List.getElem?_cons_zero, List.getElem?_cons_succ, List.getElem?_nil, Option.map_some, Option.map_none, Option.bind_some, Option.isSome_some, Option.isSome_none, if_true, if_false, reduceIte, Nat.reduceEqDiff, List.map_cons, List.map_nil, List.drop_succ_cons, List.drop_zero, List.take_succ_cons, List.take_zero, List.length_cons, List.length_nil, List.length_append, List.cons_append, List.nil_append, List.append_nil, Nat.reduceAdd, Nat.reduceMul, Nat.reduceLeDiff, Nat.reduceBEq, Nat.zero_le, Nat.le_refl, Nat.zero_add, Nat.add_zero, and_self, and_true, true_and, or_true, true_or, Bool.not_true, Bool.not_false, Bool.false_eq_true, beq_self_eq_true, reduceCtorEq, Int.reduceBEq, Int.reduceBNe, Int.reduceLT, Int.reduceLE, Int.reduceAdd, Int.reduceToNat, Int.toNat_zero, Int.reduceEq, Int.toNat_natCast, c3, eq_self, Int.le_refl, decide_eq_true_eq, decide_eq_false_iff_not, not_true_eq_false, not_false_eq_true, decide_true, decide_false, Bool.true_eq_false]; rfl
    exact ret_ ⟨.inl rfl, _, rfl, AVle.refl _⟩
end Go.Proofs.Ytljndeeahnpnjaa.Cl
