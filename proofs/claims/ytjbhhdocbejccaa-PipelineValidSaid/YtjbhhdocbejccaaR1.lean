/- Chapter 43: the reference's unused. No condition beyond those that each theorem states. -/
import Derived.Test.YtjbhhdocbejccaaJ
namespace Go.Proofs.Ytjbhhdocbejccaa.Pl
open Go Go.RowKit Go.Proofs.Ytjbhhdocbejccaa.Am
open List renaming getElem?_cons_zero → κa, getElem?_cons_succ → κb, getElem?_nil → κc, map_cons → κj, map_nil → κk, drop_succ_cons → κl, drop_zero → κm, take_succ_cons → κn, take_zero → κo, length_cons → κp, length_nil → κq, length_append → κr, cons_append → κs, nil_append → κt, append_nil → κu
open Option renaming map_some → κd, map_none → κe, bind_some → κf, isSome_some → κg, isSome_none → κh
open Nat renaming reduceEqDiff → κi, reduceAdd → κv, reduceMul → κw, reduceLeDiff → κx, reduceBEq → κy, zero_le → κz, le_refl → κa1, zero_add → κb1, add_zero → κc1
open Bool renaming not_true → κd1, not_false → κe1, false_eq_true → κf1, true_eq_false → κq1
open Int renaming reduceBEq → κg1, reduceBNe → κh1, reduceLT → κi1, reduceLE → κj1, reduceAdd → κk1, reduceToNat → κl1, toNat_zero → κm1, reduceEq → κn1, toNat_natCast → κo1, le_refl → κp1
set_option linter.unusedVariables false
set_option linter.unusedSimpArgs false
set_option maxHeartbeats 16000000
set_option maxRecDepth 100000
def r22_unused.S : Am.Spec := fun args => match args with
  | [.agg [.int .i64 op, .int .i64 d, .int .i64 a, .int .i64 b, .int .i64 c, .int .i64 m]] => if 1 ≤ op ∧ op ≤ 52 then some (rBool (unuB op d a b c m)) else none
  | _ => none
theorem r22_unused.ok : SpecOK Try.prog 71 r22_unused.S := fun args r h => by
  unfold r22_unused.S at h
  split at h
  case h_2 => cases h
  split at h
  case isFalse => cases h
  rename_i op d a b c m hop
  cases h
  refine fnLaw Try.func71 r22_unused.tr rfl hE (ok_cons r22_Operands.ok ok_nil) ?_
  have hO : opsS [.c (.int .i64 op)] = some (.tup [.bool (dB op), .bool (aB op), .bool (bB op), .bool (cB op), .bool (mB op)]) := if_pos hop
  unfold r22_unused.m
  refine seq_reg (σ' := ?_) ?_ ?_
  rotate_left
  · simp -implicitDefEqProofs only [r22_unused.r0, ex_nil, ex_cons, exK_some, st_n, st_g, gd_b, gd_u, rn_v, rn_m, rn_s, rn_a, think, prep, mkDsts, St.clear, ev, upd, init, PV.av, St.put, forgetBox, AV.cells, AV.pv, pvs, fillX, chunks, binV, xints, ldX, AV.plain, baseOk, fg_p, fg_tk, mkG, Sig.spec, tab, St.of, κa, κb, κc, κd, κe, κf, κg, κh, if_true, if_false, reduceIte, κi, κj, κk, κl, κm, κn, κo, κp, κq, κr, κs, κt, κu, κv, κw, κx, κy, κz, κa1, κb1, κc1, and_self, and_true, true_and, or_true, true_or, κd1, κe1, κf1, beq_self_eq_true, reduceCtorEq, κg1, κh1, κi1, κj1, κk1, κl1, κm1, κn1, κo1, c3, eq_self, κp1, decide_eq_true_eq, decide_eq_false_iff_not, not_true_eq_false, not_false_eq_true, decide_true, decide_false, κq1]; rfl
  refine seq_ex (σ'' := St.of [(1, .box 1 0), (3, rBool (dB op)), (4, rBool (aB op)), (5, rBool (bB op)), (6, rBool (cB op)), (7, rBool (mB op))] [(1, [.p (.int .i64 op), .p (.int .i64 d), .p (.int .i64 a), .p (.int .i64 b), .p (.int .i64 c), .p (.int .i64 m)])] [] 0) ⟨_, by simp -implicitDefEqProofs only [r22_unused.r1, r22_Operands.S, hO, rBool, ex_nil, ex_cons, exK_some, st_n, st_g, gd_b, gd_u, rn_v, rn_m, rn_s, rn_a, think, prep, mkDsts, St.clear, ev, upd, init, PV.av, St.put, forgetBox, AV.cells, AV.pv, pvs, fillX, chunks, binV, xints, ldX, AV.plain, baseOk, fg_p, fg_tk, mkG, Sig.spec, tab, St.of, κa, κb, κc, κd, κe, κf, κg, κh, if_true, if_false, reduceIte, κi, κj, κk, κl, κm, κn, κo, κp, κq, κr, κs, κt, κu, κv, κw, κx, κy, κz, κa1, κb1, κc1, and_self, and_true, true_and, or_true, true_or, κd1, κe1, κf1, beq_self_eq_true, reduceCtorEq, κg1, κh1, κi1, κj1, κk1, κl1, κm1, κn1, κo1, c3, eq_self, κp1, decide_eq_true_eq, decide_eq_false_iff_not, not_true_eq_false, not_false_eq_true, decide_true, decide_false, κq1]; rfl, sub_of (all_cons rfl (all_cons rfl (all_cons rfl (all_cons rfl (all_cons rfl (all_cons rfl all_nil)))))) (all_cons rfl all_nil) all_nil (Nat.le_refl _)⟩ ?_
  unfold unuB
  generalize dB op = D
  generalize aB op = A
  generalize bB op = B
  generalize cB op = C
  generalize mB op = M
  cases D with
  | true =>
    cases A with
    | true =>
      cases B with
      | true =>
        cases C with
        | true =>
          cases M with
          | true =>
            rw [show decide ((true = false ∧ d ≠ 0 ∨ true = false ∧ a ≠ 0 ∨ true = false ∧ b ≠ 0 ∨ true = false ∧ c ≠ 0 ∨ true = false ∧ m ≠ 0)) = false from decide_eq_false (by simp [])]
            refine seq_reg (σ' := ?_) ?_ ?_
            rotate_left
            · simp -implicitDefEqProofs only [r22_unused.r2, ex_nil, ex_cons, exK_some, st_n, st_g, gd_b, gd_u, rn_v, rn_m, rn_s, rn_a, think, prep, mkDsts, St.clear, ev, upd, init, PV.av, St.put, forgetBox, AV.cells, AV.pv, pvs, fillX, chunks, binV, xints, ldX, AV.plain, baseOk, fg_p, fg_tk, mkG, Sig.spec, tab, St.of, κa, κb, κc, κd, κe, κf, κg, κh, if_true, if_false, reduceIte, κi, κj, κk, κl, κm, κn, κo, κp, κq, κr, κs, κt, κu, κv, κw, κx, κy, κz, κa1, κb1, κc1, and_self, and_true, true_and, or_true, true_or, κd1, κe1, κf1, beq_self_eq_true, reduceCtorEq, κg1, κh1, κi1, κj1, κk1, κl1, κm1, κn1, κo1, c3, eq_self, κp1, decide_eq_true_eq, decide_eq_false_iff_not, not_true_eq_false, not_false_eq_true, decide_true, decide_false, κq1, rBool]; rfl
            exact ret_ ⟨.inl rfl, _, rfl, AVle.refl _⟩
          | false =>
            by_cases v4 : m = 0
            · have g4 : (m != 0) = false := by simpa using v4
              rw [show decide ((true = false ∧ d ≠ 0 ∨ true = false ∧ a ≠ 0 ∨ true = false ∧ b ≠ 0 ∨ true = false ∧ c ≠ 0 ∨ false = false ∧ m ≠ 0)) = false from decide_eq_false (by simp [v4])]
              refine seq_reg (σ' := ?_) ?_ ?_
              rotate_left
              · simp -implicitDefEqProofs only [r22_unused.r2, ex_nil, ex_cons, exK_some, st_n, st_g, gd_b, gd_u, rn_v, rn_m, rn_s, rn_a, think, prep, mkDsts, St.clear, ev, upd, init, PV.av, St.put, forgetBox, AV.cells, AV.pv, pvs, fillX, chunks, binV, xints, ldX, AV.plain, baseOk, fg_p, fg_tk, mkG, Sig.spec, tab, St.of, κa, κb, κc, κd, κe, κf, κg, κh, if_true, if_false, reduceIte, κi, κj, κk, κl, κm, κn, κo, κp, κq, κr, κs, κt, κu, κv, κw, κx, κy, κz, κa1, κb1, κc1, and_self, and_true, true_and, or_true, true_or, κd1, κe1, κf1, beq_self_eq_true, reduceCtorEq, κg1, κh1, κi1, κj1, κk1, κl1, κm1, κn1, κo1, c3, eq_self, κp1, decide_eq_true_eq, decide_eq_false_iff_not, not_true_eq_false, not_false_eq_true, decide_true, decide_false, κq1, rBool, g4]; rfl
              exact ret_ ⟨.inl rfl, _, rfl, AVle.refl _⟩
            · have g4 : (m != 0) = true := by simpa using v4
              rw [show decide ((true = false ∧ d ≠ 0 ∨ true = false ∧ a ≠ 0 ∨ true = false ∧ b ≠ 0 ∨ true = false ∧ c ≠ 0 ∨ false = false ∧ m ≠ 0)) = true from decide_eq_true (by simp [v4])]
              refine seq_reg (σ' := ?_) ?_ ?_
              rotate_left
              · simp -implicitDefEqProofs only [r22_unused.r2, ex_nil, ex_cons, exK_some, st_n, st_g, gd_b, gd_u, rn_v, rn_m, rn_s, rn_a, think, prep, mkDsts, St.clear, ev, upd, init, PV.av, St.put, forgetBox, AV.cells, AV.pv, pvs, fillX, chunks, binV, xints, ldX, AV.plain, baseOk, fg_p, fg_tk, mkG, Sig.spec, tab, St.of, κa, κb, κc, κd, κe, κf, κg, κh, if_true, if_false, reduceIte, κi, κj, κk, κl, κm, κn, κo, κp, κq, κr, κs, κt, κu, κv, κw, κx, κy, κz, κa1, κb1, κc1, and_self, and_true, true_and, or_true, true_or, κd1, κe1, κf1, beq_self_eq_true, reduceCtorEq, κg1, κh1, κi1, κj1, κk1, κl1, κm1, κn1, κo1, c3, eq_self, κp1, decide_eq_true_eq, decide_eq_false_iff_not, not_true_eq_false, not_false_eq_true, decide_true, decide_false, κq1, rBool, g4]; rfl
              exact ret_ ⟨.inl rfl, _, rfl, AVle.refl _⟩
        | false =>
          by_cases v3 : c = 0
          · have g3 : (c != 0) = false := by simpa using v3
            cases M with
            | true =>
              rw [show decide ((true = false ∧ d ≠ 0 ∨ true = false ∧ a ≠ 0 ∨ true = false ∧ b ≠ 0 ∨ false = false ∧ c ≠ 0 ∨ true = false ∧ m ≠ 0)) = false from decide_eq_false (by simp [v3])]
              refine seq_reg (σ' := ?_) ?_ ?_
              rotate_left
              · simp -implicitDefEqProofs only [r22_unused.r2, ex_nil, ex_cons, exK_some, st_n, st_g, gd_b, gd_u, rn_v, rn_m, rn_s, rn_a, think, prep, mkDsts, St.clear, ev, upd, init, PV.av, St.put, forgetBox, AV.cells, AV.pv, pvs, fillX, chunks, binV, xints, ldX, AV.plain, baseOk, fg_p, fg_tk, mkG, Sig.spec, tab, St.of, κa, κb, κc, κd, κe, κf, κg, κh, if_true, if_false, reduceIte, κi, κj, κk, κl, κm, κn, κo, κp, κq, κr, κs, κt, κu, κv, κw, κx, κy, κz, κa1, κb1, κc1, and_self, and_true, true_and, or_true, true_or, κd1, κe1, κf1, beq_self_eq_true, reduceCtorEq, κg1, κh1, κi1, κj1, κk1, κl1, κm1, κn1, κo1, c3, eq_self, κp1, decide_eq_true_eq, decide_eq_false_iff_not, not_true_eq_false, not_false_eq_true, decide_true, decide_false, κq1, rBool, g3]; rfl
              exact ret_ ⟨.inl rfl, _, rfl, AVle.refl _⟩
            | false =>
              by_cases v4 : m = 0
              · have g4 : (m != 0) = false := by simpa using v4
                rw [show decide ((true = false ∧ d ≠ 0 ∨ true = false ∧ a ≠ 0 ∨ true = false ∧ b ≠ 0 ∨ false = false ∧ c ≠ 0 ∨ false = false ∧ m ≠ 0)) = false from decide_eq_false (by simp [v3, v4])]
                refine seq_reg (σ' := ?_) ?_ ?_
                rotate_left
                · simp -implicitDefEqProofs only [r22_unused.r2, ex_nil, ex_cons, exK_some, st_n, st_g, gd_b, gd_u, rn_v, rn_m, rn_s, rn_a, think, prep, mkDsts, St.clear, ev, upd, init, PV.av, St.put, forgetBox, AV.cells, AV.pv, pvs, fillX, chunks, binV, xints, ldX, AV.plain, baseOk, fg_p, fg_tk, mkG, Sig.spec, tab, St.of, κa, κb, κc, κd, κe, κf, κg, κh, if_true, if_false, reduceIte, κi, κj, κk, κl, κm, κn, κo, κp, κq, κr, κs, κt, κu, κv, κw, κx, κy, κz, κa1, κb1, κc1, and_self, and_true, true_and, or_true, true_or, κd1, κe1, κf1, beq_self_eq_true, reduceCtorEq, κg1, κh1, κi1, κj1, κk1, κl1, κm1, κn1, κo1, c3, eq_self, κp1, decide_eq_true_eq, decide_eq_false_iff_not, not_true_eq_false, not_false_eq_true, decide_true, decide_false, κq1, rBool, g3, g4]; rfl
                exact ret_ ⟨.inl rfl, _, rfl, AVle.refl _⟩
              · have g4 : (m != 0) = true := by simpa using v4
                rw [show decide ((true = false ∧ d ≠ 0 ∨ true = false ∧ a ≠ 0 ∨ true = false ∧ b ≠ 0 ∨ false = false ∧ c ≠ 0 ∨ false = false ∧ m ≠ 0)) = true from decide_eq_true (by simp [v4])]
                refine seq_reg (σ' := ?_) ?_ ?_
                rotate_left
                · simp -implicitDefEqProofs only [r22_unused.r2, ex_nil, ex_cons, exK_some, st_n, st_g, gd_b, gd_u, rn_v, rn_m, rn_s, rn_a, think, prep, mkDsts, St.clear, ev, upd, init, PV.av, St.put, forgetBox, AV.cells, AV.pv, pvs, fillX, chunks, binV, xints, ldX, AV.plain, baseOk, fg_p, fg_tk, mkG, Sig.spec, tab, St.of, κa, κb, κc, κd, κe, κf, κg, κh, if_true, if_false, reduceIte, κi, κj, κk, κl, κm, κn, κo, κp, κq, κr, κs, κt, κu, κv, κw, κx, κy, κz, κa1, κb1, κc1, and_self, and_true, true_and, or_true, true_or, κd1, κe1, κf1, beq_self_eq_true, reduceCtorEq, κg1, κh1, κi1, κj1, κk1, κl1, κm1, κn1, κo1, c3, eq_self, κp1, decide_eq_true_eq, decide_eq_false_iff_not, not_true_eq_false, not_false_eq_true, decide_true, decide_false, κq1, rBool, g3, g4]; rfl
                exact ret_ ⟨.inl rfl, _, rfl, AVle.refl _⟩
          · have g3 : (c != 0) = true := by simpa using v3
            rw [show decide ((true = false ∧ d ≠ 0 ∨ true = false ∧ a ≠ 0 ∨ true = false ∧ b ≠ 0 ∨ false = false ∧ c ≠ 0 ∨ M = false ∧ m ≠ 0)) = true from decide_eq_true (by simp [v3])]
            refine seq_reg (σ' := ?_) ?_ ?_
            rotate_left
            · simp -implicitDefEqProofs only [r22_unused.r2, ex_nil, ex_cons, exK_some, st_n, st_g, gd_b, gd_u, rn_v, rn_m, rn_s, rn_a, think, prep, mkDsts, St.clear, ev, upd, init, PV.av, St.put, forgetBox, AV.cells, AV.pv, pvs, fillX, chunks, binV, xints, ldX, AV.plain, baseOk, fg_p, fg_tk, mkG, Sig.spec, tab, St.of, κa, κb, κc, κd, κe, κf, κg, κh, if_true, if_false, reduceIte, κi, κj, κk, κl, κm, κn, κo, κp, κq, κr, κs, κt, κu, κv, κw, κx, κy, κz, κa1, κb1, κc1, and_self, and_true, true_and, or_true, true_or, κd1, κe1, κf1, beq_self_eq_true, reduceCtorEq, κg1, κh1, κi1, κj1, κk1, κl1, κm1, κn1, κo1, c3, eq_self, κp1, decide_eq_true_eq, decide_eq_false_iff_not, not_true_eq_false, not_false_eq_true, decide_true, decide_false, κq1, rBool, g3]; rfl
            exact ret_ ⟨.inl rfl, _, rfl, AVle.refl _⟩
      | false =>
        by_cases v2 : b = 0
        · have g2 : (b != 0) = false := by simpa using v2
          cases C with
          | true =>
            cases M with
            | true =>
              rw [show decide ((true = false ∧ d ≠ 0 ∨ true = false ∧ a ≠ 0 ∨ false = false ∧ b ≠ 0 ∨ true = false ∧ c ≠ 0 ∨ true = false ∧ m ≠ 0)) = false from decide_eq_false (by simp [v2])]
              refine seq_reg (σ' := ?_) ?_ ?_
              rotate_left
              · simp -implicitDefEqProofs only [r22_unused.r2, ex_nil, ex_cons, exK_some, st_n, st_g, gd_b, gd_u, rn_v, rn_m, rn_s, rn_a, think, prep, mkDsts, St.clear, ev, upd, init, PV.av, St.put, forgetBox, AV.cells, AV.pv, pvs, fillX, chunks, binV, xints, ldX, AV.plain, baseOk, fg_p, fg_tk, mkG, Sig.spec, tab, St.of, κa, κb, κc, κd, κe, κf, κg, κh, if_true, if_false, reduceIte, κi, κj, κk, κl, κm, κn, κo, κp, κq, κr, κs, κt, κu, κv, κw, κx, κy, κz, κa1, κb1, κc1, and_self, and_true, true_and, or_true, true_or, κd1, κe1, κf1, beq_self_eq_true, reduceCtorEq, κg1, κh1, κi1, κj1, κk1, κl1, κm1, κn1, κo1, c3, eq_self, κp1, decide_eq_true_eq, decide_eq_false_iff_not, not_true_eq_false, not_false_eq_true, decide_true, decide_false, κq1, rBool, g2]; rfl
              exact ret_ ⟨.inl rfl, _, rfl, AVle.refl _⟩
            | false =>
              by_cases v4 : m = 0
              · have g4 : (m != 0) = false := by simpa using v4
                rw [show decide ((true = false ∧ d ≠ 0 ∨ true = false ∧ a ≠ 0 ∨ false = false ∧ b ≠ 0 ∨ true = false ∧ c ≠ 0 ∨ false = false ∧ m ≠ 0)) = false from decide_eq_false (by simp [v2, v4])]
                refine seq_reg (σ' := ?_) ?_ ?_
                rotate_left
                · simp -implicitDefEqProofs only [r22_unused.r2, ex_nil, ex_cons, exK_some, st_n, st_g, gd_b, gd_u, rn_v, rn_m, rn_s, rn_a, think, prep, mkDsts, St.clear, ev, upd, init, PV.av, St.put, forgetBox, AV.cells, AV.pv, pvs, fillX, chunks, binV, xints, ldX, AV.plain, baseOk, fg_p, fg_tk, mkG, Sig.spec, tab, St.of, κa, κb, κc, κd, κe, κf, κg, κh, if_true, if_false, reduceIte, κi, κj, κk, κl, κm, κn, κo, κp, κq, κr, κs, κt, κu, κv, κw, κx, κy, κz, κa1, κb1, κc1, and_self, and_true, true_and, or_true, true_or, κd1, κe1, κf1, beq_self_eq_true, reduceCtorEq, κg1, κh1, κi1, κj1, κk1, κl1, κm1, κn1, κo1, c3, eq_self, κp1, decide_eq_true_eq, decide_eq_false_iff_not, not_true_eq_false, not_false_eq_true, decide_true, decide_false, κq1, rBool, g2, g4]; rfl
                exact ret_ ⟨.inl rfl, _, rfl, AVle.refl _⟩
              · have g4 : (m != 0) = true := by simpa using v4
                rw [show decide ((true = false ∧ d ≠ 0 ∨ true = false ∧ a ≠ 0 ∨ false = false ∧ b ≠ 0 ∨ true = false ∧ c ≠ 0 ∨ false = false ∧ m ≠ 0)) = true from decide_eq_true (by simp [v4])]
                refine seq_reg (σ' := ?_) ?_ ?_
                rotate_left
                · simp -implicitDefEqProofs only [r22_unused.r2, ex_nil, ex_cons, exK_some, st_n, st_g, gd_b, gd_u, rn_v, rn_m, rn_s, rn_a, think, prep, mkDsts, St.clear, ev, upd, init, PV.av, St.put, forgetBox, AV.cells, AV.pv, pvs, fillX, chunks, binV, xints, ldX, AV.plain, baseOk, fg_p, fg_tk, mkG, Sig.spec, tab, St.of, κa, κb, κc, κd, κe, κf, κg, κh, if_true, if_false, reduceIte, κi, κj, κk, κl, κm, κn, κo, κp, κq, κr, κs, κt, κu, κv, κw, κx, κy, κz, κa1, κb1, κc1, and_self, and_true, true_and, or_true, true_or, κd1, κe1, κf1, beq_self_eq_true, reduceCtorEq, κg1, κh1, κi1, κj1, κk1, κl1, κm1, κn1, κo1, c3, eq_self, κp1, decide_eq_true_eq, decide_eq_false_iff_not, not_true_eq_false, not_false_eq_true, decide_true, decide_false, κq1, rBool, g2, g4]; rfl
                exact ret_ ⟨.inl rfl, _, rfl, AVle.refl _⟩
          | false =>
            by_cases v3 : c = 0
            · have g3 : (c != 0) = false := by simpa using v3
              cases M with
              | true =>
                rw [show decide ((true = false ∧ d ≠ 0 ∨ true = false ∧ a ≠ 0 ∨ false = false ∧ b ≠ 0 ∨ false = false ∧ c ≠ 0 ∨ true = false ∧ m ≠ 0)) = false from decide_eq_false (by simp [v2, v3])]
                refine seq_reg (σ' := ?_) ?_ ?_
                rotate_left
                · simp -implicitDefEqProofs only [r22_unused.r2, ex_nil, ex_cons, exK_some, st_n, st_g, gd_b, gd_u, rn_v, rn_m, rn_s, rn_a, think, prep, mkDsts, St.clear, ev, upd, init, PV.av, St.put, forgetBox, AV.cells, AV.pv, pvs, fillX, chunks, binV, xints, ldX, AV.plain, baseOk, fg_p, fg_tk, mkG, Sig.spec, tab, St.of, κa, κb, κc, κd, κe, κf, κg, κh, if_true, if_false, reduceIte, κi, κj, κk, κl, κm, κn, κo, κp, κq, κr, κs, κt, κu, κv, κw, κx, κy, κz, κa1, κb1, κc1, and_self, and_true, true_and, or_true, true_or, κd1, κe1, κf1, beq_self_eq_true, reduceCtorEq, κg1, κh1, κi1, κj1, κk1, κl1, κm1, κn1, κo1, c3, eq_self, κp1, decide_eq_true_eq, decide_eq_false_iff_not, not_true_eq_false, not_false_eq_true, decide_true, decide_false, κq1, rBool, g2, g3]; rfl
                exact ret_ ⟨.inl rfl, _, rfl, AVle.refl _⟩
              | false =>
                by_cases v4 : m = 0
                · have g4 : (m != 0) = false := by simpa using v4
                  rw [show decide ((true = false ∧ d ≠ 0 ∨ true = false ∧ a ≠ 0 ∨ false = false ∧ b ≠ 0 ∨ false = false ∧ c ≠ 0 ∨ false = false ∧ m ≠ 0)) = false from decide_eq_false (by simp [v2, v3, v4])]
                  refine seq_reg (σ' := ?_) ?_ ?_
                  rotate_left
                  · simp -implicitDefEqProofs only [r22_unused.r2, ex_nil, ex_cons, exK_some, st_n, st_g, gd_b, gd_u, rn_v, rn_m, rn_s, rn_a, think, prep, mkDsts, St.clear, ev, upd, init, PV.av, St.put, forgetBox, AV.cells, AV.pv, pvs, fillX, chunks, binV, xints, ldX, AV.plain, baseOk, fg_p, fg_tk, mkG, Sig.spec, tab, St.of, κa, κb, κc, κd, κe, κf, κg, κh, if_true, if_false, reduceIte, κi, κj, κk, κl, κm, κn, κo, κp, κq, κr, κs, κt, κu, κv, κw, κx, κy, κz, κa1, κb1, κc1, and_self, and_true, true_and, or_true, true_or, κd1, κe1, κf1, beq_self_eq_true, reduceCtorEq, κg1, κh1, κi1, κj1, κk1, κl1, κm1, κn1, κo1, c3, eq_self, κp1, decide_eq_true_eq, decide_eq_false_iff_not, not_true_eq_false, not_false_eq_true, decide_true, decide_false, κq1, rBool, g2, g3, g4]; rfl
                  exact ret_ ⟨.inl rfl, _, rfl, AVle.refl _⟩
                · have g4 : (m != 0) = true := by simpa using v4
                  rw [show decide ((true = false ∧ d ≠ 0 ∨ true = false ∧ a ≠ 0 ∨ false = false ∧ b ≠ 0 ∨ false = false ∧ c ≠ 0 ∨ false = false ∧ m ≠ 0)) = true from decide_eq_true (by simp [v4])]
                  refine seq_reg (σ' := ?_) ?_ ?_
                  rotate_left
                  · simp -implicitDefEqProofs only [r22_unused.r2, ex_nil, ex_cons, exK_some, st_n, st_g, gd_b, gd_u, rn_v, rn_m, rn_s, rn_a, think, prep, mkDsts, St.clear, ev, upd, init, PV.av, St.put, forgetBox, AV.cells, AV.pv, pvs, fillX, chunks, binV, xints, ldX, AV.plain, baseOk, fg_p, fg_tk, mkG, Sig.spec, tab, St.of, κa, κb, κc, κd, κe, κf, κg, κh, if_true, if_false, reduceIte, κi, κj, κk, κl, κm, κn, κo, κp, κq, κr, κs, κt, κu, κv, κw, κx, κy, κz, κa1, κb1, κc1, and_self, and_true, true_and, or_true, true_or, κd1, κe1, κf1, beq_self_eq_true, reduceCtorEq, κg1, κh1, κi1, κj1, κk1, κl1, κm1, κn1, κo1, c3, eq_self, κp1, decide_eq_true_eq, decide_eq_false_iff_not, not_true_eq_false, not_false_eq_true, decide_true, decide_false, κq1, rBool, g2, g3, g4]; rfl
                  exact ret_ ⟨.inl rfl, _, rfl, AVle.refl _⟩
            · have g3 : (c != 0) = true := by simpa using v3
              rw [show decide ((true = false ∧ d ≠ 0 ∨ true = false ∧ a ≠ 0 ∨ false = false ∧ b ≠ 0 ∨ false = false ∧ c ≠ 0 ∨ M = false ∧ m ≠ 0)) = true from decide_eq_true (by simp [v3])]
              refine seq_reg (σ' := ?_) ?_ ?_
              rotate_left
              · simp -implicitDefEqProofs only [r22_unused.r2, ex_nil, ex_cons, exK_some, st_n, st_g, gd_b, gd_u, rn_v, rn_m, rn_s, rn_a, think, prep, mkDsts, St.clear, ev, upd, init, PV.av, St.put, forgetBox, AV.cells, AV.pv, pvs, fillX, chunks, binV, xints, ldX, AV.plain, baseOk, fg_p, fg_tk, mkG, Sig.spec, tab, St.of, κa, κb, κc, κd, κe, κf, κg, κh, if_true, if_false, reduceIte, κi, κj, κk, κl, κm, κn, κo, κp, κq, κr, κs, κt, κu, κv, κw, κx, κy, κz, κa1, κb1, κc1, and_self, and_true, true_and, or_true, true_or, κd1, κe1, κf1, beq_self_eq_true, reduceCtorEq, κg1, κh1, κi1, κj1, κk1, κl1, κm1, κn1, κo1, c3, eq_self, κp1, decide_eq_true_eq, decide_eq_false_iff_not, not_true_eq_false, not_false_eq_true, decide_true, decide_false, κq1, rBool, g2, g3]; rfl
              exact ret_ ⟨.inl rfl, _, rfl, AVle.refl _⟩
        · have g2 : (b != 0) = true := by simpa using v2
          rw [show decide ((true = false ∧ d ≠ 0 ∨ true = false ∧ a ≠ 0 ∨ false = false ∧ b ≠ 0 ∨ C = false ∧ c ≠ 0 ∨ M = false ∧ m ≠ 0)) = true from decide_eq_true (by simp [v2])]
          refine seq_reg (σ' := ?_) ?_ ?_
          rotate_left
          · simp -implicitDefEqProofs only [r22_unused.r2, ex_nil, ex_cons, exK_some, st_n, st_g, gd_b, gd_u, rn_v, rn_m, rn_s, rn_a, think, prep, mkDsts, St.clear, ev, upd, init, PV.av, St.put, forgetBox, AV.cells, AV.pv, pvs, fillX, chunks, binV, xints, ldX, AV.plain, baseOk, fg_p, fg_tk, mkG, Sig.spec, tab, St.of, κa, κb, κc, κd, κe, κf, κg, κh, if_true, if_false, reduceIte, κi, κj, κk, κl, κm, κn, κo, κp, κq, κr, κs, κt, κu, κv, κw, κx, κy, κz, κa1, κb1, κc1, and_self, and_true, true_and, or_true, true_or, κd1, κe1, κf1, beq_self_eq_true, reduceCtorEq, κg1, κh1, κi1, κj1, κk1, κl1, κm1, κn1, κo1, c3, eq_self, κp1, decide_eq_true_eq, decide_eq_false_iff_not, not_true_eq_false, not_false_eq_true, decide_true, decide_false, κq1, rBool, g2]; rfl
          exact ret_ ⟨.inl rfl, _, rfl, AVle.refl _⟩
    | false =>
      by_cases v1 : a = 0
      · have g1 : (a != 0) = false := by simpa using v1
        cases B with
        | true =>
          cases C with
          | true =>
            cases M with
            | true =>
              rw [show decide ((true = false ∧ d ≠ 0 ∨ false = false ∧ a ≠ 0 ∨ true = false ∧ b ≠ 0 ∨ true = false ∧ c ≠ 0 ∨ true = false ∧ m ≠ 0)) = false from decide_eq_false (by simp [v1])]
              refine seq_reg (σ' := ?_) ?_ ?_
              rotate_left
              · simp -implicitDefEqProofs only [r22_unused.r2, ex_nil, ex_cons, exK_some, st_n, st_g, gd_b, gd_u, rn_v, rn_m, rn_s, rn_a, think, prep, mkDsts, St.clear, ev, upd, init, PV.av, St.put, forgetBox, AV.cells, AV.pv, pvs, fillX, chunks, binV, xints, ldX, AV.plain, baseOk, fg_p, fg_tk, mkG, Sig.spec, tab, St.of, κa, κb, κc, κd, κe, κf, κg, κh, if_true, if_false, reduceIte, κi, κj, κk, κl, κm, κn, κo, κp, κq, κr, κs, κt, κu, κv, κw, κx, κy, κz, κa1, κb1, κc1, and_self, and_true, true_and, or_true, true_or, κd1, κe1, κf1, beq_self_eq_true, reduceCtorEq, κg1, κh1, κi1, κj1, κk1, κl1, κm1, κn1, κo1, c3, eq_self, κp1, decide_eq_true_eq, decide_eq_false_iff_not, not_true_eq_false, not_false_eq_true, decide_true, decide_false, κq1, rBool, g1]; rfl
              exact ret_ ⟨.inl rfl, _, rfl, AVle.refl _⟩
            | false =>
              by_cases v4 : m = 0
              · have g4 : (m != 0) = false := by simpa using v4
                rw [show decide ((true = false ∧ d ≠ 0 ∨ false = false ∧ a ≠ 0 ∨ true = false ∧ b ≠ 0 ∨ true = false ∧ c ≠ 0 ∨ false = false ∧ m ≠ 0)) = false from decide_eq_false (by simp [v1, v4])]
                refine seq_reg (σ' := ?_) ?_ ?_
                rotate_left
                · simp -implicitDefEqProofs only [r22_unused.r2, ex_nil, ex_cons, exK_some, st_n, st_g, gd_b, gd_u, rn_v, rn_m, rn_s, rn_a, think, prep, mkDsts, St.clear, ev, upd, init, PV.av, St.put, forgetBox, AV.cells, AV.pv, pvs, fillX, chunks, binV, xints, ldX, AV.plain, baseOk, fg_p, fg_tk, mkG, Sig.spec, tab, St.of, κa, κb, κc, κd, κe, κf, κg, κh, if_true, if_false, reduceIte, κi, κj, κk, κl, κm, κn, κo, κp, κq, κr, κs, κt, κu, κv, κw, κx, κy, κz, κa1, κb1, κc1, and_self, and_true, true_and, or_true, true_or, κd1, κe1, κf1, beq_self_eq_true, reduceCtorEq, κg1, κh1, κi1, κj1, κk1, κl1, κm1, κn1, κo1, c3, eq_self, κp1, decide_eq_true_eq, decide_eq_false_iff_not, not_true_eq_false, not_false_eq_true, decide_true, decide_false, κq1, rBool, g1, g4]; rfl
                exact ret_ ⟨.inl rfl, _, rfl, AVle.refl _⟩
              · have g4 : (m != 0) = true := by simpa using v4
                rw [show decide ((true = false ∧ d ≠ 0 ∨ false = false ∧ a ≠ 0 ∨ true = false ∧ b ≠ 0 ∨ true = false ∧ c ≠ 0 ∨ false = false ∧ m ≠ 0)) = true from decide_eq_true (by simp [v4])]
                refine seq_reg (σ' := ?_) ?_ ?_
                rotate_left
                · simp -implicitDefEqProofs only [r22_unused.r2, ex_nil, ex_cons, exK_some, st_n, st_g, gd_b, gd_u, rn_v, rn_m, rn_s, rn_a, think, prep, mkDsts, St.clear, ev, upd, init, PV.av, St.put, forgetBox, AV.cells, AV.pv, pvs, fillX, chunks, binV, xints, ldX, AV.plain, baseOk, fg_p, fg_tk, mkG, Sig.spec, tab, St.of, κa, κb, κc, κd, κe, κf, κg, κh, if_true, if_false, reduceIte, κi, κj, κk, κl, κm, κn, κo, κp, κq, κr, κs, κt, κu, κv, κw, κx, κy, κz, κa1, κb1, κc1, and_self, and_true, true_and, or_true, true_or, κd1, κe1, κf1, beq_self_eq_true, reduceCtorEq, κg1, κh1, κi1, κj1, κk1, κl1, κm1, κn1, κo1, c3, eq_self, κp1, decide_eq_true_eq, decide_eq_false_iff_not, not_true_eq_false, not_false_eq_true, decide_true, decide_false, κq1, rBool, g1, g4]; rfl
                exact ret_ ⟨.inl rfl, _, rfl, AVle.refl _⟩
          | false =>
            by_cases v3 : c = 0
            · have g3 : (c != 0) = false := by simpa using v3
              cases M with
              | true =>
                rw [show decide ((true = false ∧ d ≠ 0 ∨ false = false ∧ a ≠ 0 ∨ true = false ∧ b ≠ 0 ∨ false = false ∧ c ≠ 0 ∨ true = false ∧ m ≠ 0)) = false from decide_eq_false (by simp [v1, v3])]
                refine seq_reg (σ' := ?_) ?_ ?_
                rotate_left
                · simp -implicitDefEqProofs only [r22_unused.r2, ex_nil, ex_cons, exK_some, st_n, st_g, gd_b, gd_u, rn_v, rn_m, rn_s, rn_a, think, prep, mkDsts, St.clear, ev, upd, init, PV.av, St.put, forgetBox, AV.cells, AV.pv, pvs, fillX, chunks, binV, xints, ldX, AV.plain, baseOk, fg_p, fg_tk, mkG, Sig.spec, tab, St.of, κa, κb, κc, κd, κe, κf, κg, κh, if_true, if_false, reduceIte, κi, κj, κk, κl, κm, κn, κo, κp, κq, κr, κs, κt, κu, κv, κw, κx, κy, κz, κa1, κb1, κc1, and_self, and_true, true_and, or_true, true_or, κd1, κe1, κf1, beq_self_eq_true, reduceCtorEq, κg1, κh1, κi1, κj1, κk1, κl1, κm1, κn1, κo1, c3, eq_self, κp1, decide_eq_true_eq, decide_eq_false_iff_not, not_true_eq_false, not_false_eq_true, decide_true, decide_false, κq1, rBool, g1, g3]; rfl
                exact ret_ ⟨.inl rfl, _, rfl, AVle.refl _⟩
              | false =>
                by_cases v4 : m = 0
                · have g4 : (m != 0) = false := by simpa using v4
                  rw [show decide ((true = false ∧ d ≠ 0 ∨ false = false ∧ a ≠ 0 ∨ true = false ∧ b ≠ 0 ∨ false = false ∧ c ≠ 0 ∨ false = false ∧ m ≠ 0)) = false from decide_eq_false (by simp [v1, v3, v4])]
                  refine seq_reg (σ' := ?_) ?_ ?_
                  rotate_left
                  · simp -implicitDefEqProofs only [r22_unused.r2, ex_nil, ex_cons, exK_some, st_n, st_g, gd_b, gd_u, rn_v, rn_m, rn_s, rn_a, think, prep, mkDsts, St.clear, ev, upd, init, PV.av, St.put, forgetBox, AV.cells, AV.pv, pvs, fillX, chunks, binV, xints, ldX, AV.plain, baseOk, fg_p, fg_tk, mkG, Sig.spec, tab, St.of, κa, κb, κc, κd, κe, κf, κg, κh, if_true, if_false, reduceIte, κi, κj, κk, κl, κm, κn, κo, κp, κq, κr, κs, κt, κu, κv, κw, κx, κy, κz, κa1, κb1, κc1, and_self, and_true, true_and, or_true, true_or, κd1, κe1, κf1, beq_self_eq_true, reduceCtorEq, κg1, κh1, κi1, κj1, κk1, κl1, κm1, κn1, κo1, c3, eq_self, κp1, decide_eq_true_eq, decide_eq_false_iff_not, not_true_eq_false, not_false_eq_true, decide_true, decide_false, κq1, rBool, g1, g3, g4]; rfl
                  exact ret_ ⟨.inl rfl, _, rfl, AVle.refl _⟩
                · have g4 : (m != 0) = true := by simpa using v4
                  rw [show decide ((true = false ∧ d ≠ 0 ∨ false = false ∧ a ≠ 0 ∨ true = false ∧ b ≠ 0 ∨ false = false ∧ c ≠ 0 ∨ false = false ∧ m ≠ 0)) = true from decide_eq_true (by simp [v4])]
                  refine seq_reg (σ' := ?_) ?_ ?_
                  rotate_left
                  · simp -implicitDefEqProofs only [r22_unused.r2, ex_nil, ex_cons, exK_some, st_n, st_g, gd_b, gd_u, rn_v, rn_m, rn_s, rn_a, think, prep, mkDsts, St.clear, ev, upd, init, PV.av, St.put, forgetBox, AV.cells, AV.pv, pvs, fillX, chunks, binV, xints, ldX, AV.plain, baseOk, fg_p, fg_tk, mkG, Sig.spec, tab, St.of, κa, κb, κc, κd, κe, κf, κg, κh, if_true, if_false, reduceIte, κi, κj, κk, κl, κm, κn, κo, κp, κq, κr, κs, κt, κu, κv, κw, κx, κy, κz, κa1, κb1, κc1, and_self, and_true, true_and, or_true, true_or, κd1, κe1, κf1, beq_self_eq_true, reduceCtorEq, κg1, κh1, κi1, κj1, κk1, κl1, κm1, κn1, κo1, c3, eq_self, κp1, decide_eq_true_eq, decide_eq_false_iff_not, not_true_eq_false, not_false_eq_true, decide_true, decide_false, κq1, rBool, g1, g3, g4]; rfl
                  exact ret_ ⟨.inl rfl, _, rfl, AVle.refl _⟩
            · have g3 : (c != 0) = true := by simpa using v3
              rw [show decide ((true = false ∧ d ≠ 0 ∨ false = false ∧ a ≠ 0 ∨ true = false ∧ b ≠ 0 ∨ false = false ∧ c ≠ 0 ∨ M = false ∧ m ≠ 0)) = true from decide_eq_true (by simp [v3])]
              refine seq_reg (σ' := ?_) ?_ ?_
              rotate_left
              · simp -implicitDefEqProofs only [r22_unused.r2, ex_nil, ex_cons, exK_some, st_n, st_g, gd_b, gd_u, rn_v, rn_m, rn_s, rn_a, think, prep, mkDsts, St.clear, ev, upd, init, PV.av, St.put, forgetBox, AV.cells, AV.pv, pvs, fillX, chunks, binV, xints, ldX, AV.plain, baseOk, fg_p, fg_tk, mkG, Sig.spec, tab, St.of, κa, κb, κc, κd, κe, κf, κg, κh, if_true, if_false, reduceIte, κi, κj, κk, κl, κm, κn, κo, κp, κq, κr, κs, κt, κu, κv, κw, κx, κy, κz, κa1, κb1, κc1, and_self, and_true, true_and, or_true, true_or, κd1, κe1, κf1, beq_self_eq_true, reduceCtorEq, κg1, κh1, κi1, κj1, κk1, κl1, κm1, κn1, κo1, c3, eq_self, κp1, decide_eq_true_eq, decide_eq_false_iff_not, not_true_eq_false, not_false_eq_true, decide_true, decide_false, κq1, rBool, g1, g3]; rfl
              exact ret_ ⟨.inl rfl, _, rfl, AVle.refl _⟩
        | false =>
          by_cases v2 : b = 0
          · have g2 : (b != 0) = false := by simpa using v2
            cases C with
            | true =>
              cases M with
              | true =>
                rw [show decide ((true = false ∧ d ≠ 0 ∨ false = false ∧ a ≠ 0 ∨ false = false ∧ b ≠ 0 ∨ true = false ∧ c ≠ 0 ∨ true = false ∧ m ≠ 0)) = false from decide_eq_false (by simp [v1, v2])]
                refine seq_reg (σ' := ?_) ?_ ?_
                rotate_left
                · simp -implicitDefEqProofs only [r22_unused.r2, ex_nil, ex_cons, exK_some, st_n, st_g, gd_b, gd_u, rn_v, rn_m, rn_s, rn_a, think, prep, mkDsts, St.clear, ev, upd, init, PV.av, St.put, forgetBox, AV.cells, AV.pv, pvs, fillX, chunks, binV, xints, ldX, AV.plain, baseOk, fg_p, fg_tk, mkG, Sig.spec, tab, St.of, κa, κb, κc, κd, κe, κf, κg, κh, if_true, if_false, reduceIte, κi, κj, κk, κl, κm, κn, κo, κp, κq, κr, κs, κt, κu, κv, κw, κx, κy, κz, κa1, κb1, κc1, and_self, and_true, true_and, or_true, true_or, κd1, κe1, κf1, beq_self_eq_true, reduceCtorEq, κg1, κh1, κi1, κj1, κk1, κl1, κm1, κn1, κo1, c3, eq_self, κp1, decide_eq_true_eq, decide_eq_false_iff_not, not_true_eq_false, not_false_eq_true, decide_true, decide_false, κq1, rBool, g1, g2]; rfl
                exact ret_ ⟨.inl rfl, _, rfl, AVle.refl _⟩
              | false =>
                by_cases v4 : m = 0
                · have g4 : (m != 0) = false := by simpa using v4
                  rw [show decide ((true = false ∧ d ≠ 0 ∨ false = false ∧ a ≠ 0 ∨ false = false ∧ b ≠ 0 ∨ true = false ∧ c ≠ 0 ∨ false = false ∧ m ≠ 0)) = false from decide_eq_false (by simp [v1, v2, v4])]
                  refine seq_reg (σ' := ?_) ?_ ?_
                  rotate_left
                  · simp -implicitDefEqProofs only [r22_unused.r2, ex_nil, ex_cons, exK_some, st_n, st_g, gd_b, gd_u, rn_v, rn_m, rn_s, rn_a, think, prep, mkDsts, St.clear, ev, upd, init, PV.av, St.put, forgetBox, AV.cells, AV.pv, pvs, fillX, chunks, binV, xints, ldX, AV.plain, baseOk, fg_p, fg_tk, mkG, Sig.spec, tab, St.of, κa, κb, κc, κd, κe, κf, κg, κh, if_true, if_false, reduceIte, κi, κj, κk, κl, κm, κn, κo, κp, κq, κr, κs, κt, κu, κv, κw, κx, κy, κz, κa1, κb1, κc1, and_self, and_true, true_and, or_true, true_or, κd1, κe1, κf1, beq_self_eq_true, reduceCtorEq, κg1, κh1, κi1, κj1, κk1, κl1, κm1, κn1, κo1, c3, eq_self, κp1, decide_eq_true_eq, decide_eq_false_iff_not, not_true_eq_false, not_false_eq_true, decide_true, decide_false, κq1, rBool, g1, g2, g4]; rfl
                  exact ret_ ⟨.inl rfl, _, rfl, AVle.refl _⟩
                · have g4 : (m != 0) = true := by simpa using v4
                  rw [show decide ((true = false ∧ d ≠ 0 ∨ false = false ∧ a ≠ 0 ∨ false = false ∧ b ≠ 0 ∨ true = false ∧ c ≠ 0 ∨ false = false ∧ m ≠ 0)) = true from decide_eq_true (by simp [v4])]
                  refine seq_reg (σ' := ?_) ?_ ?_
                  rotate_left
                  · simp -implicitDefEqProofs only [r22_unused.r2, ex_nil, ex_cons, exK_some, st_n, st_g, gd_b, gd_u, rn_v, rn_m, rn_s, rn_a, think, prep, mkDsts, St.clear, ev, upd, init, PV.av, St.put, forgetBox, AV.cells, AV.pv, pvs, fillX, chunks, binV, xints, ldX, AV.plain, baseOk, fg_p, fg_tk, mkG, Sig.spec, tab, St.of, κa, κb, κc, κd, κe, κf, κg, κh, if_true, if_false, reduceIte, κi, κj, κk, κl, κm, κn, κo, κp, κq, κr, κs, κt, κu, κv, κw, κx, κy, κz, κa1, κb1, κc1, and_self, and_true, true_and, or_true, true_or, κd1, κe1, κf1, beq_self_eq_true, reduceCtorEq, κg1, κh1, κi1, κj1, κk1, κl1, κm1, κn1, κo1, c3, eq_self, κp1, decide_eq_true_eq, decide_eq_false_iff_not, not_true_eq_false, not_false_eq_true, decide_true, decide_false, κq1, rBool, g1, g2, g4]; rfl
                  exact ret_ ⟨.inl rfl, _, rfl, AVle.refl _⟩
            | false =>
              by_cases v3 : c = 0
              · have g3 : (c != 0) = false := by simpa using v3
                cases M with
                | true =>
                  rw [show decide ((true = false ∧ d ≠ 0 ∨ false = false ∧ a ≠ 0 ∨ false = false ∧ b ≠ 0 ∨ false = false ∧ c ≠ 0 ∨ true = false ∧ m ≠ 0)) = false from decide_eq_false (by simp [v1, v2, v3])]
                  refine seq_reg (σ' := ?_) ?_ ?_
                  rotate_left
                  · simp -implicitDefEqProofs only [r22_unused.r2, ex_nil, ex_cons, exK_some, st_n, st_g, gd_b, gd_u, rn_v, rn_m, rn_s, rn_a, think, prep, mkDsts, St.clear, ev, upd, init, PV.av, St.put, forgetBox, AV.cells, AV.pv, pvs, fillX, chunks, binV, xints, ldX, AV.plain, baseOk, fg_p, fg_tk, mkG, Sig.spec, tab, St.of, κa, κb, κc, κd, κe, κf, κg, κh, if_true, if_false, reduceIte, κi, κj, κk, κl, κm, κn, κo, κp, κq, κr, κs, κt, κu, κv, κw, κx, κy, κz, κa1, κb1, κc1, and_self, and_true, true_and, or_true, true_or, κd1, κe1, κf1, beq_self_eq_true, reduceCtorEq, κg1, κh1, κi1, κj1, κk1, κl1, κm1, κn1, κo1, c3, eq_self, κp1, decide_eq_true_eq, decide_eq_false_iff_not, not_true_eq_false, not_false_eq_true, decide_true, decide_false, κq1, rBool, g1, g2, g3]; rfl
                  exact ret_ ⟨.inl rfl, _, rfl, AVle.refl _⟩
                | false =>
                  by_cases v4 : m = 0
                  · have g4 : (m != 0) = false := by simpa using v4
                    rw [show decide ((true = false ∧ d ≠ 0 ∨ false = false ∧ a ≠ 0 ∨ false = false ∧ b ≠ 0 ∨ false = false ∧ c ≠ 0 ∨ false = false ∧ m ≠ 0)) = false from decide_eq_false (by simp [v1, v2, v3, v4])]
                    refine seq_reg (σ' := ?_) ?_ ?_
                    rotate_left
                    · simp -implicitDefEqProofs only [r22_unused.r2, ex_nil, ex_cons, exK_some, st_n, st_g, gd_b, gd_u, rn_v, rn_m, rn_s, rn_a, think, prep, mkDsts, St.clear, ev, upd, init, PV.av, St.put, forgetBox, AV.cells, AV.pv, pvs, fillX, chunks, binV, xints, ldX, AV.plain, baseOk, fg_p, fg_tk, mkG, Sig.spec, tab, St.of, κa, κb, κc, κd, κe, κf, κg, κh, if_true, if_false, reduceIte, κi, κj, κk, κl, κm, κn, κo, κp, κq, κr, κs, κt, κu, κv, κw, κx, κy, κz, κa1, κb1, κc1, and_self, and_true, true_and, or_true, true_or, κd1, κe1, κf1, beq_self_eq_true, reduceCtorEq, κg1, κh1, κi1, κj1, κk1, κl1, κm1, κn1, κo1, c3, eq_self, κp1, decide_eq_true_eq, decide_eq_false_iff_not, not_true_eq_false, not_false_eq_true, decide_true, decide_false, κq1, rBool, g1, g2, g3, g4]; rfl
                    exact ret_ ⟨.inl rfl, _, rfl, AVle.refl _⟩
                  · have g4 : (m != 0) = true := by simpa using v4
                    rw [show decide ((true = false ∧ d ≠ 0 ∨ false = false ∧ a ≠ 0 ∨ false = false ∧ b ≠ 0 ∨ false = false ∧ c ≠ 0 ∨ false = false ∧ m ≠ 0)) = true from decide_eq_true (by simp [v4])]
                    refine seq_reg (σ' := ?_) ?_ ?_
                    rotate_left
                    · simp -implicitDefEqProofs only [r22_unused.r2, ex_nil, ex_cons, exK_some, st_n, st_g, gd_b, gd_u, rn_v, rn_m, rn_s, rn_a, think, prep, mkDsts, St.clear, ev, upd, init, PV.av, St.put, forgetBox, AV.cells, AV.pv, pvs, fillX, chunks, binV, xints, ldX, AV.plain, baseOk, fg_p, fg_tk, mkG, Sig.spec, tab, St.of, κa, κb, κc, κd, κe, κf, κg, κh, if_true, if_false, reduceIte, κi, κj, κk, κl, κm, κn, κo, κp, κq, κr, κs, κt, κu, κv, κw, κx, κy, κz, κa1, κb1, κc1, and_self, and_true, true_and, or_true, true_or, κd1, κe1, κf1, beq_self_eq_true, reduceCtorEq, κg1, κh1, κi1, κj1, κk1, κl1, κm1, κn1, κo1, c3, eq_self, κp1, decide_eq_true_eq, decide_eq_false_iff_not, not_true_eq_false, not_false_eq_true, decide_true, decide_false, κq1, rBool, g1, g2, g3, g4]; rfl
                    exact ret_ ⟨.inl rfl, _, rfl, AVle.refl _⟩
              · have g3 : (c != 0) = true := by simpa using v3
                rw [show decide ((true = false ∧ d ≠ 0 ∨ false = false ∧ a ≠ 0 ∨ false = false ∧ b ≠ 0 ∨ false = false ∧ c ≠ 0 ∨ M = false ∧ m ≠ 0)) = true from decide_eq_true (by simp [v3])]
                refine seq_reg (σ' := ?_) ?_ ?_
                rotate_left
                · simp -implicitDefEqProofs only [r22_unused.r2, ex_nil, ex_cons, exK_some, st_n, st_g, gd_b, gd_u, rn_v, rn_m, rn_s, rn_a, think, prep, mkDsts, St.clear, ev, upd, init, PV.av, St.put, forgetBox, AV.cells, AV.pv, pvs, fillX, chunks, binV, xints, ldX, AV.plain, baseOk, fg_p, fg_tk, mkG, Sig.spec, tab, St.of, κa, κb, κc, κd, κe, κf, κg, κh, if_true, if_false, reduceIte, κi, κj, κk, κl, κm, κn, κo, κp, κq, κr, κs, κt, κu, κv, κw, κx, κy, κz, κa1, κb1, κc1, and_self, and_true, true_and, or_true, true_or, κd1, κe1, κf1, beq_self_eq_true, reduceCtorEq, κg1, κh1, κi1, κj1, κk1, κl1, κm1, κn1, κo1, c3, eq_self, κp1, decide_eq_true_eq, decide_eq_false_iff_not, not_true_eq_false, not_false_eq_true, decide_true, decide_false, κq1, rBool, g1, g2, g3]; rfl
                exact ret_ ⟨.inl rfl, _, rfl, AVle.refl _⟩
          · have g2 : (b != 0) = true := by simpa using v2
            rw [show decide ((true = false ∧ d ≠ 0 ∨ false = false ∧ a ≠ 0 ∨ false = false ∧ b ≠ 0 ∨ C = false ∧ c ≠ 0 ∨ M = false ∧ m ≠ 0)) = true from decide_eq_true (by simp [v2])]
            refine seq_reg (σ' := ?_) ?_ ?_
            rotate_left
            · simp -implicitDefEqProofs only [r22_unused.r2, ex_nil, ex_cons, exK_some, st_n, st_g, gd_b, gd_u, rn_v, rn_m, rn_s, rn_a, think, prep, mkDsts, St.clear, ev, upd, init, PV.av, St.put, forgetBox, AV.cells, AV.pv, pvs, fillX, chunks, binV, xints, ldX, AV.plain, baseOk, fg_p, fg_tk, mkG, Sig.spec, tab, St.of, κa, κb, κc, κd, κe, κf, κg, κh, if_true, if_false, reduceIte, κi, κj, κk, κl, κm, κn, κo, κp, κq, κr, κs, κt, κu, κv, κw, κx, κy, κz, κa1, κb1, κc1, and_self, and_true, true_and, or_true, true_or, κd1, κe1, κf1, beq_self_eq_true, reduceCtorEq, κg1, κh1, κi1, κj1, κk1, κl1, κm1, κn1, κo1, c3, eq_self, κp1, decide_eq_true_eq, decide_eq_false_iff_not, not_true_eq_false, not_false_eq_true, decide_true, decide_false, κq1, rBool, g1, g2]; rfl
            exact ret_ ⟨.inl rfl, _, rfl, AVle.refl _⟩
      · have g1 : (a != 0) = true := by simpa using v1
        rw [show decide ((true = false ∧ d ≠ 0 ∨ false = false ∧ a ≠ 0 ∨ B = false ∧ b ≠ 0 ∨ C = false ∧ c ≠ 0 ∨ M = false ∧ m ≠ 0)) = true from decide_eq_true (by simp [v1])]
        refine seq_reg (σ' := ?_) ?_ ?_
        rotate_left
        · simp -implicitDefEqProofs only [r22_unused.r2, ex_nil, ex_cons, exK_some, st_n, st_g, gd_b, gd_u, rn_v, rn_m, rn_s, rn_a, think, prep, mkDsts, St.clear, ev, upd, init, PV.av, St.put, forgetBox, AV.cells, AV.pv, pvs, fillX, chunks, binV, xints, ldX, AV.plain, baseOk, fg_p, fg_tk, mkG, Sig.spec, tab, St.of, κa, κb, κc, κd, κe, κf, κg, κh, if_true, if_false, reduceIte, κi, κj, κk, κl, κm, κn, κo, κp, κq, κr, κs, κt, κu, κv, κw, κx, κy, κz, κa1, κb1, κc1, and_self, and_true, true_and, or_true, true_or, κd1, κe1, κf1, beq_self_eq_true, reduceCtorEq, κg1, κh1, κi1, κj1, κk1, κl1, κm1, κn1, κo1, c3, eq_self, κp1, decide_eq_true_eq, decide_eq_false_iff_not, not_true_eq_false, not_false_eq_true, decide_true, decide_false, κq1, rBool, g1]; rfl
        exact ret_ ⟨.inl rfl, _, rfl, AVle.refl _⟩
  | false =>
    by_cases v0 : d = 0
    · have g0 : (d != 0) = false := by simpa using v0
      cases A with
      | true =>
        cases B with
        | true =>
          cases C with
          | true =>
            cases M with
            | true =>
              rw [show decide ((false = false ∧ d ≠ 0 ∨ true = false ∧ a ≠ 0 ∨ true = false ∧ b ≠ 0 ∨ true = false ∧ c ≠ 0 ∨ true = false ∧ m ≠ 0)) = false from decide_eq_false (by simp [v0])]
              refine seq_reg (σ' := ?_) ?_ ?_
              rotate_left
              · simp -implicitDefEqProofs only [r22_unused.r2, ex_nil, ex_cons, exK_some, st_n, st_g, gd_b, gd_u, rn_v, rn_m, rn_s, rn_a, think, prep, mkDsts, St.clear, ev, upd, init, PV.av, St.put, forgetBox, AV.cells, AV.pv, pvs, fillX, chunks, binV, xints, ldX, AV.plain, baseOk, fg_p, fg_tk, mkG, Sig.spec, tab, St.of, κa, κb, κc, κd, κe, κf, κg, κh, if_true, if_false, reduceIte, κi, κj, κk, κl, κm, κn, κo, κp, κq, κr, κs, κt, κu, κv, κw, κx, κy, κz, κa1, κb1, κc1, and_self, and_true, true_and, or_true, true_or, κd1, κe1, κf1, beq_self_eq_true, reduceCtorEq, κg1, κh1, κi1, κj1, κk1, κl1, κm1, κn1, κo1, c3, eq_self, κp1, decide_eq_true_eq, decide_eq_false_iff_not, not_true_eq_false, not_false_eq_true, decide_true, decide_false, κq1, rBool, g0]; rfl
              exact ret_ ⟨.inl rfl, _, rfl, AVle.refl _⟩
            | false =>
              by_cases v4 : m = 0
              · have g4 : (m != 0) = false := by simpa using v4
                rw [show decide ((false = false ∧ d ≠ 0 ∨ true = false ∧ a ≠ 0 ∨ true = false ∧ b ≠ 0 ∨ true = false ∧ c ≠ 0 ∨ false = false ∧ m ≠ 0)) = false from decide_eq_false (by simp [v0, v4])]
                refine seq_reg (σ' := ?_) ?_ ?_
                rotate_left
                · simp -implicitDefEqProofs only [r22_unused.r2, ex_nil, ex_cons, exK_some, st_n, st_g, gd_b, gd_u, rn_v, rn_m, rn_s, rn_a, think, prep, mkDsts, St.clear, ev, upd, init, PV.av, St.put, forgetBox, AV.cells, AV.pv, pvs, fillX, chunks, binV, xints, ldX, AV.plain, baseOk, fg_p, fg_tk, mkG, Sig.spec, tab, St.of, κa, κb, κc, κd, κe, κf, κg, κh, if_true, if_false, reduceIte, κi, κj, κk, κl, κm, κn, κo, κp, κq, κr, κs, κt, κu, κv, κw, κx, κy, κz, κa1, κb1, κc1, and_self, and_true, true_and, or_true, true_or, κd1, κe1, κf1, beq_self_eq_true, reduceCtorEq, κg1, κh1, κi1, κj1, κk1, κl1, κm1, κn1, κo1, c3, eq_self, κp1, decide_eq_true_eq, decide_eq_false_iff_not, not_true_eq_false, not_false_eq_true, decide_true, decide_false, κq1, rBool, g0, g4]; rfl
                exact ret_ ⟨.inl rfl, _, rfl, AVle.refl _⟩
              · have g4 : (m != 0) = true := by simpa using v4
                rw [show decide ((false = false ∧ d ≠ 0 ∨ true = false ∧ a ≠ 0 ∨ true = false ∧ b ≠ 0 ∨ true = false ∧ c ≠ 0 ∨ false = false ∧ m ≠ 0)) = true from decide_eq_true (by simp [v4])]
                refine seq_reg (σ' := ?_) ?_ ?_
                rotate_left
                · simp -implicitDefEqProofs only [r22_unused.r2, ex_nil, ex_cons, exK_some, st_n, st_g, gd_b, gd_u, rn_v, rn_m, rn_s, rn_a, think, prep, mkDsts, St.clear, ev, upd, init, PV.av, St.put, forgetBox, AV.cells, AV.pv, pvs, fillX, chunks, binV, xints, ldX, AV.plain, baseOk, fg_p, fg_tk, mkG, Sig.spec, tab, St.of, κa, κb, κc, κd, κe, κf, κg, κh, if_true, if_false, reduceIte, κi, κj, κk, κl, κm, κn, κo, κp, κq, κr, κs, κt, κu, κv, κw, κx, κy, κz, κa1, κb1, κc1, and_self, and_true, true_and, or_true, true_or, κd1, κe1, κf1, beq_self_eq_true, reduceCtorEq, κg1, κh1, κi1, κj1, κk1, κl1, κm1, κn1, κo1, c3, eq_self, κp1, decide_eq_true_eq, decide_eq_false_iff_not, not_true_eq_false, not_false_eq_true, decide_true, decide_false, κq1, rBool, g0, g4]; rfl
                exact ret_ ⟨.inl rfl, _, rfl, AVle.refl _⟩
          | false =>
            by_cases v3 : c = 0
            · have g3 : (c != 0) = false := by simpa using v3
              cases M with
              | true =>
                rw [show decide ((false = false ∧ d ≠ 0 ∨ true = false ∧ a ≠ 0 ∨ true = false ∧ b ≠ 0 ∨ false = false ∧ c ≠ 0 ∨ true = false ∧ m ≠ 0)) = false from decide_eq_false (by simp [v0, v3])]
                refine seq_reg (σ' := ?_) ?_ ?_
                rotate_left
                · simp -implicitDefEqProofs only [r22_unused.r2, ex_nil, ex_cons, exK_some, st_n, st_g, gd_b, gd_u, rn_v, rn_m, rn_s, rn_a, think, prep, mkDsts, St.clear, ev, upd, init, PV.av, St.put, forgetBox, AV.cells, AV.pv, pvs, fillX, chunks, binV, xints, ldX, AV.plain, baseOk, fg_p, fg_tk, mkG, Sig.spec, tab, St.of, κa, κb, κc, κd, κe, κf, κg, κh, if_true, if_false, reduceIte, κi, κj, κk, κl, κm, κn, κo, κp, κq, κr, κs, κt, κu, κv, κw, κx, κy, κz, κa1, κb1, κc1, and_self, and_true, true_and, or_true, true_or, κd1, κe1, κf1, beq_self_eq_true, reduceCtorEq, κg1, κh1, κi1, κj1, κk1, κl1, κm1, κn1, κo1, c3, eq_self, κp1, decide_eq_true_eq, decide_eq_false_iff_not, not_true_eq_false, not_false_eq_true, decide_true, decide_false, κq1, rBool, g0, g3]; rfl
                exact ret_ ⟨.inl rfl, _, rfl, AVle.refl _⟩
              | false =>
                by_cases v4 : m = 0
                · have g4 : (m != 0) = false := by simpa using v4
                  rw [show decide ((false = false ∧ d ≠ 0 ∨ true = false ∧ a ≠ 0 ∨ true = false ∧ b ≠ 0 ∨ false = false ∧ c ≠ 0 ∨ false = false ∧ m ≠ 0)) = false from decide_eq_false (by simp [v0, v3, v4])]
                  refine seq_reg (σ' := ?_) ?_ ?_
                  rotate_left
                  · simp -implicitDefEqProofs only [r22_unused.r2, ex_nil, ex_cons, exK_some, st_n, st_g, gd_b, gd_u, rn_v, rn_m, rn_s, rn_a, think, prep, mkDsts, St.clear, ev, upd, init, PV.av, St.put, forgetBox, AV.cells, AV.pv, pvs, fillX, chunks, binV, xints, ldX, AV.plain, baseOk, fg_p, fg_tk, mkG, Sig.spec, tab, St.of, κa, κb, κc, κd, κe, κf, κg, κh, if_true, if_false, reduceIte, κi, κj, κk, κl, κm, κn, κo, κp, κq, κr, κs, κt, κu, κv, κw, κx, κy, κz, κa1, κb1, κc1, and_self, and_true, true_and, or_true, true_or, κd1, κe1, κf1, beq_self_eq_true, reduceCtorEq, κg1, κh1, κi1, κj1, κk1, κl1, κm1, κn1, κo1, c3, eq_self, κp1, decide_eq_true_eq, decide_eq_false_iff_not, not_true_eq_false, not_false_eq_true, decide_true, decide_false, κq1, rBool, g0, g3, g4]; rfl
                  exact ret_ ⟨.inl rfl, _, rfl, AVle.refl _⟩
                · have g4 : (m != 0) = true := by simpa using v4
                  rw [show decide ((false = false ∧ d ≠ 0 ∨ true = false ∧ a ≠ 0 ∨ true = false ∧ b ≠ 0 ∨ false = false ∧ c ≠ 0 ∨ false = false ∧ m ≠ 0)) = true from decide_eq_true (by simp [v4])]
                  refine seq_reg (σ' := ?_) ?_ ?_
                  rotate_left
                  · simp -implicitDefEqProofs only [r22_unused.r2, ex_nil, ex_cons, exK_some, st_n, st_g, gd_b, gd_u, rn_v, rn_m, rn_s, rn_a, think, prep, mkDsts, St.clear, ev, upd, init, PV.av, St.put, forgetBox, AV.cells, AV.pv, pvs, fillX, chunks, binV, xints, ldX, AV.plain, baseOk, fg_p, fg_tk, mkG, Sig.spec, tab, St.of, κa, κb, κc, κd, κe, κf, κg, κh, if_true, if_false, reduceIte, κi, κj, κk, κl, κm, κn, κo, κp, κq, κr, κs, κt, κu, κv, κw, κx, κy, κz, κa1, κb1, κc1, and_self, and_true, true_and, or_true, true_or, κd1, κe1, κf1, beq_self_eq_true, reduceCtorEq, κg1, κh1, κi1, κj1, κk1, κl1, κm1, κn1, κo1, c3, eq_self, κp1, decide_eq_true_eq, decide_eq_false_iff_not, not_true_eq_false, not_false_eq_true, decide_true, decide_false, κq1, rBool, g0, g3, g4]; rfl
                  exact ret_ ⟨.inl rfl, _, rfl, AVle.refl _⟩
            · have g3 : (c != 0) = true := by simpa using v3
              rw [show decide ((false = false ∧ d ≠ 0 ∨ true = false ∧ a ≠ 0 ∨ true = false ∧ b ≠ 0 ∨ false = false ∧ c ≠ 0 ∨ M = false ∧ m ≠ 0)) = true from decide_eq_true (by simp [v3])]
              refine seq_reg (σ' := ?_) ?_ ?_
              rotate_left
              · simp -implicitDefEqProofs only [r22_unused.r2, ex_nil, ex_cons, exK_some, st_n, st_g, gd_b, gd_u, rn_v, rn_m, rn_s, rn_a, think, prep, mkDsts, St.clear, ev, upd, init, PV.av, St.put, forgetBox, AV.cells, AV.pv, pvs, fillX, chunks, binV, xints, ldX, AV.plain, baseOk, fg_p, fg_tk, mkG, Sig.spec, tab, St.of, κa, κb, κc, κd, κe, κf, κg, κh, if_true, if_false, reduceIte, κi, κj, κk, κl, κm, κn, κo, κp, κq, κr, κs, κt, κu, κv, κw, κx, κy, κz, κa1, κb1, κc1, and_self, and_true, true_and, or_true, true_or, κd1, κe1, κf1, beq_self_eq_true, reduceCtorEq, κg1, κh1, κi1, κj1, κk1, κl1, κm1, κn1, κo1, c3, eq_self, κp1, decide_eq_true_eq, decide_eq_false_iff_not, not_true_eq_false, not_false_eq_true, decide_true, decide_false, κq1, rBool, g0, g3]; rfl
              exact ret_ ⟨.inl rfl, _, rfl, AVle.refl _⟩
        | false =>
          by_cases v2 : b = 0
          · have g2 : (b != 0) = false := by simpa using v2
            cases C with
            | true =>
              cases M with
              | true =>
                rw [show decide ((false = false ∧ d ≠ 0 ∨ true = false ∧ a ≠ 0 ∨ false = false ∧ b ≠ 0 ∨ true = false ∧ c ≠ 0 ∨ true = false ∧ m ≠ 0)) = false from decide_eq_false (by simp [v0, v2])]
                refine seq_reg (σ' := ?_) ?_ ?_
                rotate_left
                · simp -implicitDefEqProofs only [r22_unused.r2, ex_nil, ex_cons, exK_some, st_n, st_g, gd_b, gd_u, rn_v, rn_m, rn_s, rn_a, think, prep, mkDsts, St.clear, ev, upd, init, PV.av, St.put, forgetBox, AV.cells, AV.pv, pvs, fillX, chunks, binV, xints, ldX, AV.plain, baseOk, fg_p, fg_tk, mkG, Sig.spec, tab, St.of, κa, κb, κc, κd, κe, κf, κg, κh, if_true, if_false, reduceIte, κi, κj, κk, κl, κm, κn, κo, κp, κq, κr, κs, κt, κu, κv, κw, κx, κy, κz, κa1, κb1, κc1, and_self, and_true, true_and, or_true, true_or, κd1, κe1, κf1, beq_self_eq_true, reduceCtorEq, κg1, κh1, κi1, κj1, κk1, κl1, κm1, κn1, κo1, c3, eq_self, κp1, decide_eq_true_eq, decide_eq_false_iff_not, not_true_eq_false, not_false_eq_true, decide_true, decide_false, κq1, rBool, g0, g2]; rfl
                exact ret_ ⟨.inl rfl, _, rfl, AVle.refl _⟩
              | false =>
                by_cases v4 : m = 0
                · have g4 : (m != 0) = false := by simpa using v4
                  rw [show decide ((false = false ∧ d ≠ 0 ∨ true = false ∧ a ≠ 0 ∨ false = false ∧ b ≠ 0 ∨ true = false ∧ c ≠ 0 ∨ false = false ∧ m ≠ 0)) = false from decide_eq_false (by simp [v0, v2, v4])]
                  refine seq_reg (σ' := ?_) ?_ ?_
                  rotate_left
                  · simp -implicitDefEqProofs only [r22_unused.r2, ex_nil, ex_cons, exK_some, st_n, st_g, gd_b, gd_u, rn_v, rn_m, rn_s, rn_a, think, prep, mkDsts, St.clear, ev, upd, init, PV.av, St.put, forgetBox, AV.cells, AV.pv, pvs, fillX, chunks, binV, xints, ldX, AV.plain, baseOk, fg_p, fg_tk, mkG, Sig.spec, tab, St.of, κa, κb, κc, κd, κe, κf, κg, κh, if_true, if_false, reduceIte, κi, κj, κk, κl, κm, κn, κo, κp, κq, κr, κs, κt, κu, κv, κw, κx, κy, κz, κa1, κb1, κc1, and_self, and_true, true_and, or_true, true_or, κd1, κe1, κf1, beq_self_eq_true, reduceCtorEq, κg1, κh1, κi1, κj1, κk1, κl1, κm1, κn1, κo1, c3, eq_self, κp1, decide_eq_true_eq, decide_eq_false_iff_not, not_true_eq_false, not_false_eq_true, decide_true, decide_false, κq1, rBool, g0, g2, g4]; rfl
                  exact ret_ ⟨.inl rfl, _, rfl, AVle.refl _⟩
                · have g4 : (m != 0) = true := by simpa using v4
                  rw [show decide ((false = false ∧ d ≠ 0 ∨ true = false ∧ a ≠ 0 ∨ false = false ∧ b ≠ 0 ∨ true = false ∧ c ≠ 0 ∨ false = false ∧ m ≠ 0)) = true from decide_eq_true (by simp [v4])]
                  refine seq_reg (σ' := ?_) ?_ ?_
                  rotate_left
                  · simp -implicitDefEqProofs only [r22_unused.r2, ex_nil, ex_cons, exK_some, st_n, st_g, gd_b, gd_u, rn_v, rn_m, rn_s, rn_a, think, prep, mkDsts, St.clear, ev, upd, init, PV.av, St.put, forgetBox, AV.cells, AV.pv, pvs, fillX, chunks, binV, xints, ldX, AV.plain, baseOk, fg_p, fg_tk, mkG, Sig.spec, tab, St.of, κa, κb, κc, κd, κe, κf, κg, κh, if_true, if_false, reduceIte, κi, κj, κk, κl, κm, κn, κo, κp, κq, κr, κs, κt, κu, κv, κw, κx, κy, κz, κa1, κb1, κc1, and_self, and_true, true_and, or_true, true_or, κd1, κe1, κf1, beq_self_eq_true, reduceCtorEq, κg1, κh1, κi1, κj1, κk1, κl1, κm1, κn1, κo1, c3, eq_self, κp1, decide_eq_true_eq, decide_eq_false_iff_not, not_true_eq_false, not_false_eq_true, decide_true, decide_false, κq1, rBool, g0, g2, g4]; rfl
                  exact ret_ ⟨.inl rfl, _, rfl, AVle.refl _⟩
            | false =>
              by_cases v3 : c = 0
              · have g3 : (c != 0) = false := by simpa using v3
                cases M with
                | true =>
                  rw [show decide ((false = false ∧ d ≠ 0 ∨ true = false ∧ a ≠ 0 ∨ false = false ∧ b ≠ 0 ∨ false = false ∧ c ≠ 0 ∨ true = false ∧ m ≠ 0)) = false from decide_eq_false (by simp [v0, v2, v3])]
                  refine seq_reg (σ' := ?_) ?_ ?_
                  rotate_left
                  · simp -implicitDefEqProofs only [r22_unused.r2, ex_nil, ex_cons, exK_some, st_n, st_g, gd_b, gd_u, rn_v, rn_m, rn_s, rn_a, think, prep, mkDsts, St.clear, ev, upd, init, PV.av, St.put, forgetBox, AV.cells, AV.pv, pvs, fillX, chunks, binV, xints, ldX, AV.plain, baseOk, fg_p, fg_tk, mkG, Sig.spec, tab, St.of, κa, κb, κc, κd, κe, κf, κg, κh, if_true, if_false, reduceIte, κi, κj, κk, κl, κm, κn, κo, κp, κq, κr, κs, κt, κu, κv, κw, κx, κy, κz, κa1, κb1, κc1, and_self, and_true, true_and, or_true, true_or, κd1, κe1, κf1, beq_self_eq_true, reduceCtorEq, κg1, κh1, κi1, κj1, κk1, κl1, κm1, κn1, κo1, c3, eq_self, κp1, decide_eq_true_eq, decide_eq_false_iff_not, not_true_eq_false, not_false_eq_true, decide_true, decide_false, κq1, rBool, g0, g2, g3]; rfl
                  exact ret_ ⟨.inl rfl, _, rfl, AVle.refl _⟩
                | false =>
                  by_cases v4 : m = 0
                  · have g4 : (m != 0) = false := by simpa using v4
                    rw [show decide ((false = false ∧ d ≠ 0 ∨ true = false ∧ a ≠ 0 ∨ false = false ∧ b ≠ 0 ∨ false = false ∧ c ≠ 0 ∨ false = false ∧ m ≠ 0)) = false from decide_eq_false (by simp [v0, v2, v3, v4])]
                    refine seq_reg (σ' := ?_) ?_ ?_
                    rotate_left
                    · simp -implicitDefEqProofs only [r22_unused.r2, ex_nil, ex_cons, exK_some, st_n, st_g, gd_b, gd_u, rn_v, rn_m, rn_s, rn_a, think, prep, mkDsts, St.clear, ev, upd, init, PV.av, St.put, forgetBox, AV.cells, AV.pv, pvs, fillX, chunks, binV, xints, ldX, AV.plain, baseOk, fg_p, fg_tk, mkG, Sig.spec, tab, St.of, κa, κb, κc, κd, κe, κf, κg, κh, if_true, if_false, reduceIte, κi, κj, κk, κl, κm, κn, κo, κp, κq, κr, κs, κt, κu, κv, κw, κx, κy, κz, κa1, κb1, κc1, and_self, and_true, true_and, or_true, true_or, κd1, κe1, κf1, beq_self_eq_true, reduceCtorEq, κg1, κh1, κi1, κj1, κk1, κl1, κm1, κn1, κo1, c3, eq_self, κp1, decide_eq_true_eq, decide_eq_false_iff_not, not_true_eq_false, not_false_eq_true, decide_true, decide_false, κq1, rBool, g0, g2, g3, g4]; rfl
                    exact ret_ ⟨.inl rfl, _, rfl, AVle.refl _⟩
                  · have g4 : (m != 0) = true := by simpa using v4
                    rw [show decide ((false = false ∧ d ≠ 0 ∨ true = false ∧ a ≠ 0 ∨ false = false ∧ b ≠ 0 ∨ false = false ∧ c ≠ 0 ∨ false = false ∧ m ≠ 0)) = true from decide_eq_true (by simp [v4])]
                    refine seq_reg (σ' := ?_) ?_ ?_
                    rotate_left
                    · simp -implicitDefEqProofs only [r22_unused.r2, ex_nil, ex_cons, exK_some, st_n, st_g, gd_b, gd_u, rn_v, rn_m, rn_s, rn_a, think, prep, mkDsts, St.clear, ev, upd, init, PV.av, St.put, forgetBox, AV.cells, AV.pv, pvs, fillX, chunks, binV, xints, ldX, AV.plain, baseOk, fg_p, fg_tk, mkG, Sig.spec, tab, St.of, κa, κb, κc, κd, κe, κf, κg, κh, if_true, if_false, reduceIte, κi, κj, κk, κl, κm, κn, κo, κp, κq, κr, κs, κt, κu, κv, κw, κx, κy, κz, κa1, κb1, κc1, and_self, and_true, true_and, or_true, true_or, κd1, κe1, κf1, beq_self_eq_true, reduceCtorEq, κg1, κh1, κi1, κj1, κk1, κl1, κm1, κn1, κo1, c3, eq_self, κp1, decide_eq_true_eq, decide_eq_false_iff_not, not_true_eq_false, not_false_eq_true, decide_true, decide_false, κq1, rBool, g0, g2, g3, g4]; rfl
                    exact ret_ ⟨.inl rfl, _, rfl, AVle.refl _⟩
              · have g3 : (c != 0) = true := by simpa using v3
                rw [show decide ((false = false ∧ d ≠ 0 ∨ true = false ∧ a ≠ 0 ∨ false = false ∧ b ≠ 0 ∨ false = false ∧ c ≠ 0 ∨ M = false ∧ m ≠ 0)) = true from decide_eq_true (by simp [v3])]
                refine seq_reg (σ' := ?_) ?_ ?_
                rotate_left
                · simp -implicitDefEqProofs only [r22_unused.r2, ex_nil, ex_cons, exK_some, st_n, st_g, gd_b, gd_u, rn_v, rn_m, rn_s, rn_a, think, prep, mkDsts, St.clear, ev, upd, init, PV.av, St.put, forgetBox, AV.cells, AV.pv, pvs, fillX, chunks, binV, xints, ldX, AV.plain, baseOk, fg_p, fg_tk, mkG, Sig.spec, tab, St.of, κa, κb, κc, κd, κe, κf, κg, κh, if_true, if_false, reduceIte, κi, κj, κk, κl, κm, κn, κo, κp, κq, κr, κs, κt, κu, κv, κw, κx, κy, κz, κa1, κb1, κc1, and_self, and_true, true_and, or_true, true_or, κd1, κe1, κf1, beq_self_eq_true, reduceCtorEq, κg1, κh1, κi1, κj1, κk1, κl1, κm1, κn1, κo1, c3, eq_self, κp1, decide_eq_true_eq, decide_eq_false_iff_not, not_true_eq_false, not_false_eq_true, decide_true, decide_false, κq1, rBool, g0, g2, g3]; rfl
                exact ret_ ⟨.inl rfl, _, rfl, AVle.refl _⟩
          · have g2 : (b != 0) = true := by simpa using v2
            rw [show decide ((false = false ∧ d ≠ 0 ∨ true = false ∧ a ≠ 0 ∨ false = false ∧ b ≠ 0 ∨ C = false ∧ c ≠ 0 ∨ M = false ∧ m ≠ 0)) = true from decide_eq_true (by simp [v2])]
            refine seq_reg (σ' := ?_) ?_ ?_
            rotate_left
            · simp -implicitDefEqProofs only [r22_unused.r2, ex_nil, ex_cons, exK_some, st_n, st_g, gd_b, gd_u, rn_v, rn_m, rn_s, rn_a, think, prep, mkDsts, St.clear, ev, upd, init, PV.av, St.put, forgetBox, AV.cells, AV.pv, pvs, fillX, chunks, binV, xints, ldX, AV.plain, baseOk, fg_p, fg_tk, mkG, Sig.spec, tab, St.of, κa, κb, κc, κd, κe, κf, κg, κh, if_true, if_false, reduceIte, κi, κj, κk, κl, κm, κn, κo, κp, κq, κr, κs, κt, κu, κv, κw, κx, κy, κz, κa1, κb1, κc1, and_self, and_true, true_and, or_true, true_or, κd1, κe1, κf1, beq_self_eq_true, reduceCtorEq, κg1, κh1, κi1, κj1, κk1, κl1, κm1, κn1, κo1, c3, eq_self, κp1, decide_eq_true_eq, decide_eq_false_iff_not, not_true_eq_false, not_false_eq_true, decide_true, decide_false, κq1, rBool, g0, g2]; rfl
            exact ret_ ⟨.inl rfl, _, rfl, AVle.refl _⟩
      | false =>
        by_cases v1 : a = 0
        · have g1 : (a != 0) = false := by simpa using v1
          cases B with
          | true =>
            cases C with
            | true =>
              cases M with
              | true =>
                rw [show decide ((false = false ∧ d ≠ 0 ∨ false = false ∧ a ≠ 0 ∨ true = false ∧ b ≠ 0 ∨ true = false ∧ c ≠ 0 ∨ true = false ∧ m ≠ 0)) = false from decide_eq_false (by simp [v0, v1])]
                refine seq_reg (σ' := ?_) ?_ ?_
                rotate_left
                · simp -implicitDefEqProofs only [r22_unused.r2, ex_nil, ex_cons, exK_some, st_n, st_g, gd_b, gd_u, rn_v, rn_m, rn_s, rn_a, think, prep, mkDsts, St.clear, ev, upd, init, PV.av, St.put, forgetBox, AV.cells, AV.pv, pvs, fillX, chunks, binV, xints, ldX, AV.plain, baseOk, fg_p, fg_tk, mkG, Sig.spec, tab, St.of, κa, κb, κc, κd, κe, κf, κg, κh, if_true, if_false, reduceIte, κi, κj, κk, κl, κm, κn, κo, κp, κq, κr, κs, κt, κu, κv, κw, κx, κy, κz, κa1, κb1, κc1, and_self, and_true, true_and, or_true, true_or, κd1, κe1, κf1, beq_self_eq_true, reduceCtorEq, κg1, κh1, κi1, κj1, κk1, κl1, κm1, κn1, κo1, c3, eq_self, κp1, decide_eq_true_eq, decide_eq_false_iff_not, not_true_eq_false, not_false_eq_true, decide_true, decide_false, κq1, rBool, g0, g1]; rfl
                exact ret_ ⟨.inl rfl, _, rfl, AVle.refl _⟩
              | false =>
                by_cases v4 : m = 0
                · have g4 : (m != 0) = false := by simpa using v4
                  rw [show decide ((false = false ∧ d ≠ 0 ∨ false = false ∧ a ≠ 0 ∨ true = false ∧ b ≠ 0 ∨ true = false ∧ c ≠ 0 ∨ false = false ∧ m ≠ 0)) = false from decide_eq_false (by simp [v0, v1, v4])]
                  refine seq_reg (σ' := ?_) ?_ ?_
                  rotate_left
                  · simp -implicitDefEqProofs only [r22_unused.r2, ex_nil, ex_cons, exK_some, st_n, st_g, gd_b, gd_u, rn_v, rn_m, rn_s, rn_a, think, prep, mkDsts, St.clear, ev, upd, init, PV.av, St.put, forgetBox, AV.cells, AV.pv, pvs, fillX, chunks, binV, xints, ldX, AV.plain, baseOk, fg_p, fg_tk, mkG, Sig.spec, tab, St.of, κa, κb, κc, κd, κe, κf, κg, κh, if_true, if_false, reduceIte, κi, κj, κk, κl, κm, κn, κo, κp, κq, κr, κs, κt, κu, κv, κw, κx, κy, κz, κa1, κb1, κc1, and_self, and_true, true_and, or_true, true_or, κd1, κe1, κf1, beq_self_eq_true, reduceCtorEq, κg1, κh1, κi1, κj1, κk1, κl1, κm1, κn1, κo1, c3, eq_self, κp1, decide_eq_true_eq, decide_eq_false_iff_not, not_true_eq_false, not_false_eq_true, decide_true, decide_false, κq1, rBool, g0, g1, g4]; rfl
                  exact ret_ ⟨.inl rfl, _, rfl, AVle.refl _⟩
                · have g4 : (m != 0) = true := by simpa using v4
                  rw [show decide ((false = false ∧ d ≠ 0 ∨ false = false ∧ a ≠ 0 ∨ true = false ∧ b ≠ 0 ∨ true = false ∧ c ≠ 0 ∨ false = false ∧ m ≠ 0)) = true from decide_eq_true (by simp [v4])]
                  refine seq_reg (σ' := ?_) ?_ ?_
                  rotate_left
                  · simp -implicitDefEqProofs only [r22_unused.r2, ex_nil, ex_cons, exK_some, st_n, st_g, gd_b, gd_u, rn_v, rn_m, rn_s, rn_a, think, prep, mkDsts, St.clear, ev, upd, init, PV.av, St.put, forgetBox, AV.cells, AV.pv, pvs, fillX, chunks, binV, xints, ldX, AV.plain, baseOk, fg_p, fg_tk, mkG, Sig.spec, tab, St.of, κa, κb, κc, κd, κe, κf, κg, κh, if_true, if_false, reduceIte, κi, κj, κk, κl, κm, κn, κo, κp, κq, κr, κs, κt, κu, κv, κw, κx, κy, κz, κa1, κb1, κc1, and_self, and_true, true_and, or_true, true_or, κd1, κe1, κf1, beq_self_eq_true, reduceCtorEq, κg1, κh1, κi1, κj1, κk1, κl1, κm1, κn1, κo1, c3, eq_self, κp1, decide_eq_true_eq, decide_eq_false_iff_not, not_true_eq_false, not_false_eq_true, decide_true, decide_false, κq1, rBool, g0, g1, g4]; rfl
                  exact ret_ ⟨.inl rfl, _, rfl, AVle.refl _⟩
            | false =>
              by_cases v3 : c = 0
              · have g3 : (c != 0) = false := by simpa using v3
                cases M with
                | true =>
                  rw [show decide ((false = false ∧ d ≠ 0 ∨ false = false ∧ a ≠ 0 ∨ true = false ∧ b ≠ 0 ∨ false = false ∧ c ≠ 0 ∨ true = false ∧ m ≠ 0)) = false from decide_eq_false (by simp [v0, v1, v3])]
                  refine seq_reg (σ' := ?_) ?_ ?_
                  rotate_left
                  · simp -implicitDefEqProofs only [r22_unused.r2, ex_nil, ex_cons, exK_some, st_n, st_g, gd_b, gd_u, rn_v, rn_m, rn_s, rn_a, think, prep, mkDsts, St.clear, ev, upd, init, PV.av, St.put, forgetBox, AV.cells, AV.pv, pvs, fillX, chunks, binV, xints, ldX, AV.plain, baseOk, fg_p, fg_tk, mkG, Sig.spec, tab, St.of, κa, κb, κc, κd, κe, κf, κg, κh, if_true, if_false, reduceIte, κi, κj, κk, κl, κm, κn, κo, κp, κq, κr, κs, κt, κu, κv, κw, κx, κy, κz, κa1, κb1, κc1, and_self, and_true, true_and, or_true, true_or, κd1, κe1, κf1, beq_self_eq_true, reduceCtorEq, κg1, κh1, κi1, κj1, κk1, κl1, κm1, κn1, κo1, c3, eq_self, κp1, decide_eq_true_eq, decide_eq_false_iff_not, not_true_eq_false, not_false_eq_true, decide_true, decide_false, κq1, rBool, g0, g1, g3]; rfl
                  exact ret_ ⟨.inl rfl, _, rfl, AVle.refl _⟩
                | false =>
                  by_cases v4 : m = 0
                  · have g4 : (m != 0) = false := by simpa using v4
                    rw [show decide ((false = false ∧ d ≠ 0 ∨ false = false ∧ a ≠ 0 ∨ true = false ∧ b ≠ 0 ∨ false = false ∧ c ≠ 0 ∨ false = false ∧ m ≠ 0)) = false from decide_eq_false (by simp [v0, v1, v3, v4])]
                    refine seq_reg (σ' := ?_) ?_ ?_
                    rotate_left
                    · simp -implicitDefEqProofs only [r22_unused.r2, ex_nil, ex_cons, exK_some, st_n, st_g, gd_b, gd_u, rn_v, rn_m, rn_s, rn_a, think, prep, mkDsts, St.clear, ev, upd, init, PV.av, St.put, forgetBox, AV.cells, AV.pv, pvs, fillX, chunks, binV, xints, ldX, AV.plain, baseOk, fg_p, fg_tk, mkG, Sig.spec, tab, St.of, κa, κb, κc, κd, κe, κf, κg, κh, if_true, if_false, reduceIte, κi, κj, κk, κl, κm, κn, κo, κp, κq, κr, κs, κt, κu, κv, κw, κx, κy, κz, κa1, κb1, κc1, and_self, and_true, true_and, or_true, true_or, κd1, κe1, κf1, beq_self_eq_true, reduceCtorEq, κg1, κh1, κi1, κj1, κk1, κl1, κm1, κn1, κo1, c3, eq_self, κp1, decide_eq_true_eq, decide_eq_false_iff_not, not_true_eq_false, not_false_eq_true, decide_true, decide_false, κq1, rBool, g0, g1, g3, g4]; rfl
                    exact ret_ ⟨.inl rfl, _, rfl, AVle.refl _⟩
                  · have g4 : (m != 0) = true := by simpa using v4
                    rw [show decide ((false = false ∧ d ≠ 0 ∨ false = false ∧ a ≠ 0 ∨ true = false ∧ b ≠ 0 ∨ false = false ∧ c ≠ 0 ∨ false = false ∧ m ≠ 0)) = true from decide_eq_true (by simp [v4])]
                    refine seq_reg (σ' := ?_) ?_ ?_
                    rotate_left
                    · simp -implicitDefEqProofs only [r22_unused.r2, ex_nil, ex_cons, exK_some, st_n, st_g, gd_b, gd_u, rn_v, rn_m, rn_s, rn_a, think, prep, mkDsts, St.clear, ev, upd, init, PV.av, St.put, forgetBox, AV.cells, AV.pv, pvs, fillX, chunks, binV, xints, ldX, AV.plain, baseOk, fg_p, fg_tk, mkG, Sig.spec, tab, St.of, κa, κb, κc, κd, κe, κf, κg, κh, if_true, if_false, reduceIte, κi, κj, κk, κl, κm, κn, κo, κp, κq, κr, κs, κt, κu, κv, κw, κx, κy, κz, κa1, κb1, κc1, and_self, and_true, true_and, or_true, true_or, κd1, κe1, κf1, beq_self_eq_true, reduceCtorEq, κg1, κh1, κi1, κj1, κk1, κl1, κm1, κn1, κo1, c3, eq_self, κp1, decide_eq_true_eq, decide_eq_false_iff_not, not_true_eq_false, not_false_eq_true, decide_true, decide_false, κq1, rBool, g0, g1, g3, g4]; rfl
                    exact ret_ ⟨.inl rfl, _, rfl, AVle.refl _⟩
              · have g3 : (c != 0) = true := by simpa using v3
                rw [show decide ((false = false ∧ d ≠ 0 ∨ false = false ∧ a ≠ 0 ∨ true = false ∧ b ≠ 0 ∨ false = false ∧ c ≠ 0 ∨ M = false ∧ m ≠ 0)) = true from decide_eq_true (by simp [v3])]
                refine seq_reg (σ' := ?_) ?_ ?_
                rotate_left
                · simp -implicitDefEqProofs only [r22_unused.r2, ex_nil, ex_cons, exK_some, st_n, st_g, gd_b, gd_u, rn_v, rn_m, rn_s, rn_a, think, prep, mkDsts, St.clear, ev, upd, init, PV.av, St.put, forgetBox, AV.cells, AV.pv, pvs, fillX, chunks, binV, xints, ldX, AV.plain, baseOk, fg_p, fg_tk, mkG, Sig.spec, tab, St.of, κa, κb, κc, κd, κe, κf, κg, κh, if_true, if_false, reduceIte, κi, κj, κk, κl, κm, κn, κo, κp, κq, κr, κs, κt, κu, κv, κw, κx, κy, κz, κa1, κb1, κc1, and_self, and_true, true_and, or_true, true_or, κd1, κe1, κf1, beq_self_eq_true, reduceCtorEq, κg1, κh1, κi1, κj1, κk1, κl1, κm1, κn1, κo1, c3, eq_self, κp1, decide_eq_true_eq, decide_eq_false_iff_not, not_true_eq_false, not_false_eq_true, decide_true, decide_false, κq1, rBool, g0, g1, g3]; rfl
                exact ret_ ⟨.inl rfl, _, rfl, AVle.refl _⟩
          | false =>
            by_cases v2 : b = 0
            · have g2 : (b != 0) = false := by simpa using v2
              cases C with
              | true =>
                cases M with
                | true =>
                  rw [show decide ((false = false ∧ d ≠ 0 ∨ false = false ∧ a ≠ 0 ∨ false = false ∧ b ≠ 0 ∨ true = false ∧ c ≠ 0 ∨ true = false ∧ m ≠ 0)) = false from decide_eq_false (by simp [v0, v1, v2])]
                  refine seq_reg (σ' := ?_) ?_ ?_
                  rotate_left
                  · simp -implicitDefEqProofs only [r22_unused.r2, ex_nil, ex_cons, exK_some, st_n, st_g, gd_b, gd_u, rn_v, rn_m, rn_s, rn_a, think, prep, mkDsts, St.clear, ev, upd, init, PV.av, St.put, forgetBox, AV.cells, AV.pv, pvs, fillX, chunks, binV, xints, ldX, AV.plain, baseOk, fg_p, fg_tk, mkG, Sig.spec, tab, St.of, κa, κb, κc, κd, κe, κf, κg, κh, if_true, if_false, reduceIte, κi, κj, κk, κl, κm, κn, κo, κp, κq, κr, κs, κt, κu, κv, κw, κx, κy, κz, κa1, κb1, κc1, and_self, and_true, true_and, or_true, true_or, κd1, κe1, κf1, beq_self_eq_true, reduceCtorEq, κg1, κh1, κi1, κj1, κk1, κl1, κm1, κn1, κo1, c3, eq_self, κp1, decide_eq_true_eq, decide_eq_false_iff_not, not_true_eq_false, not_false_eq_true, decide_true, decide_false, κq1, rBool, g0, g1, g2]; rfl
                  exact ret_ ⟨.inl rfl, _, rfl, AVle.refl _⟩
                | false =>
                  by_cases v4 : m = 0
                  · have g4 : (m != 0) = false := by simpa using v4
                    rw [show decide ((false = false ∧ d ≠ 0 ∨ false = false ∧ a ≠ 0 ∨ false = false ∧ b ≠ 0 ∨ true = false ∧ c ≠ 0 ∨ false = false ∧ m ≠ 0)) = false from decide_eq_false (by simp [v0, v1, v2, v4])]
                    refine seq_reg (σ' := ?_) ?_ ?_
                    rotate_left
                    · simp -implicitDefEqProofs only [r22_unused.r2, ex_nil, ex_cons, exK_some, st_n, st_g, gd_b, gd_u, rn_v, rn_m, rn_s, rn_a, think, prep, mkDsts, St.clear, ev, upd, init, PV.av, St.put, forgetBox, AV.cells, AV.pv, pvs, fillX, chunks, binV, xints, ldX, AV.plain, baseOk, fg_p, fg_tk, mkG, Sig.spec, tab, St.of, κa, κb, κc, κd, κe, κf, κg, κh, if_true, if_false, reduceIte, κi, κj, κk, κl, κm, κn, κo, κp, κq, κr, κs, κt, κu, κv, κw, κx, κy, κz, κa1, κb1, κc1, and_self, and_true, true_and, or_true, true_or, κd1, κe1, κf1, beq_self_eq_true, reduceCtorEq, κg1, κh1, κi1, κj1, κk1, κl1, κm1, κn1, κo1, c3, eq_self, κp1, decide_eq_true_eq, decide_eq_false_iff_not, not_true_eq_false, not_false_eq_true, decide_true, decide_false, κq1, rBool, g0, g1, g2, g4]; rfl
                    exact ret_ ⟨.inl rfl, _, rfl, AVle.refl _⟩
                  · have g4 : (m != 0) = true := by simpa using v4
                    rw [show decide ((false = false ∧ d ≠ 0 ∨ false = false ∧ a ≠ 0 ∨ false = false ∧ b ≠ 0 ∨ true = false ∧ c ≠ 0 ∨ false = false ∧ m ≠ 0)) = true from decide_eq_true (by simp [v4])]
                    refine seq_reg (σ' := ?_) ?_ ?_
                    rotate_left
                    · simp -implicitDefEqProofs only [r22_unused.r2, ex_nil, ex_cons, exK_some, st_n, st_g, gd_b, gd_u, rn_v, rn_m, rn_s, rn_a, think, prep, mkDsts, St.clear, ev, upd, init, PV.av, St.put, forgetBox, AV.cells, AV.pv, pvs, fillX, chunks, binV, xints, ldX, AV.plain, baseOk, fg_p, fg_tk, mkG, Sig.spec, tab, St.of, κa, κb, κc, κd, κe, κf, κg, κh, if_true, if_false, reduceIte, κi, κj, κk, κl, κm, κn, κo, κp, κq, κr, κs, κt, κu, κv, κw, κx, κy, κz, κa1, κb1, κc1, and_self, and_true, true_and, or_true, true_or, κd1, κe1, κf1, beq_self_eq_true, reduceCtorEq, κg1, κh1, κi1, κj1, κk1, κl1, κm1, κn1, κo1, c3, eq_self, κp1, decide_eq_true_eq, decide_eq_false_iff_not, not_true_eq_false, not_false_eq_true, decide_true, decide_false, κq1, rBool, g0, g1, g2, g4]; rfl
                    exact ret_ ⟨.inl rfl, _, rfl, AVle.refl _⟩
              | false =>
                by_cases v3 : c = 0
                · have g3 : (c != 0) = false := by simpa using v3
                  cases M with
                  | true =>
                    rw [show decide ((false = false ∧ d ≠ 0 ∨ false = false ∧ a ≠ 0 ∨ false = false ∧ b ≠ 0 ∨ false = false ∧ c ≠ 0 ∨ true = false ∧ m ≠ 0)) = false from decide_eq_false (by simp [v0, v1, v2, v3])]
                    refine seq_reg (σ' := ?_) ?_ ?_
                    rotate_left
                    · simp -implicitDefEqProofs only [r22_unused.r2, ex_nil, ex_cons, exK_some, st_n, st_g, gd_b, gd_u, rn_v, rn_m, rn_s, rn_a, think, prep, mkDsts, St.clear, ev, upd, init, PV.av, St.put, forgetBox, AV.cells, AV.pv, pvs, fillX, chunks, binV, xints, ldX, AV.plain, baseOk, fg_p, fg_tk, mkG, Sig.spec, tab, St.of, κa, κb, κc, κd, κe, κf, κg, κh, if_true, if_false, reduceIte, κi, κj, κk, κl, κm, κn, κo, κp, κq, κr, κs, κt, κu, κv, κw, κx, κy, κz, κa1, κb1, κc1, and_self, and_true, true_and, or_true, true_or, κd1, κe1, κf1, beq_self_eq_true, reduceCtorEq, κg1, κh1, κi1, κj1, κk1, κl1, κm1, κn1, κo1, c3, eq_self, κp1, decide_eq_true_eq, decide_eq_false_iff_not, not_true_eq_false, not_false_eq_true, decide_true, decide_false, κq1, rBool, g0, g1, g2, g3]; rfl
                    exact ret_ ⟨.inl rfl, _, rfl, AVle.refl _⟩
                  | false =>
                    by_cases v4 : m = 0
                    · have g4 : (m != 0) = false := by simpa using v4
                      rw [show decide ((false = false ∧ d ≠ 0 ∨ false = false ∧ a ≠ 0 ∨ false = false ∧ b ≠ 0 ∨ false = false ∧ c ≠ 0 ∨ false = false ∧ m ≠ 0)) = false from decide_eq_false (by simp [v0, v1, v2, v3, v4])]
                      refine seq_reg (σ' := ?_) ?_ ?_
                      rotate_left
                      · simp -implicitDefEqProofs only [r22_unused.r2, ex_nil, ex_cons, exK_some, st_n, st_g, gd_b, gd_u, rn_v, rn_m, rn_s, rn_a, think, prep, mkDsts, St.clear, ev, upd, init, PV.av, St.put, forgetBox, AV.cells, AV.pv, pvs, fillX, chunks, binV, xints, ldX, AV.plain, baseOk, fg_p, fg_tk, mkG, Sig.spec, tab, St.of, κa, κb, κc, κd, κe, κf, κg, κh, if_true, if_false, reduceIte, κi, κj, κk, κl, κm, κn, κo, κp, κq, κr, κs, κt, κu, κv, κw, κx, κy, κz, κa1, κb1, κc1, and_self, and_true, true_and, or_true, true_or, κd1, κe1, κf1, beq_self_eq_true, reduceCtorEq, κg1, κh1, κi1, κj1, κk1, κl1, κm1, κn1, κo1, c3, eq_self, κp1, decide_eq_true_eq, decide_eq_false_iff_not, not_true_eq_false, not_false_eq_true, decide_true, decide_false, κq1, rBool, g0, g1, g2, g3, g4]; rfl
                      exact ret_ ⟨.inl rfl, _, rfl, AVle.refl _⟩
                    · have g4 : (m != 0) = true := by simpa using v4
                      rw [show decide ((false = false ∧ d ≠ 0 ∨ false = false ∧ a ≠ 0 ∨ false = false ∧ b ≠ 0 ∨ false = false ∧ c ≠ 0 ∨ false = false ∧ m ≠ 0)) = true from decide_eq_true (by simp [v4])]
                      refine seq_reg (σ' := ?_) ?_ ?_
                      rotate_left
                      · simp -implicitDefEqProofs only [r22_unused.r2, ex_nil, ex_cons, exK_some, st_n, st_g, gd_b, gd_u, rn_v, rn_m, rn_s, rn_a, think, prep, mkDsts, St.clear, ev, upd, init, PV.av, St.put, forgetBox, AV.cells, AV.pv, pvs, fillX, chunks, binV, xints, ldX, AV.plain, baseOk, fg_p, fg_tk, mkG, Sig.spec, tab, St.of, κa, κb, κc, κd, κe, κf, κg, κh, if_true, if_false, reduceIte, κi, κj, κk, κl, κm, κn, κo, κp, κq, κr, κs, κt, κu, κv, κw, κx, κy, κz, κa1, κb1, κc1, and_self, and_true, true_and, or_true, true_or, κd1, κe1, κf1, beq_self_eq_true, reduceCtorEq, κg1, κh1, κi1, κj1, κk1, κl1, κm1, κn1, κo1, c3, eq_self, κp1, decide_eq_true_eq, decide_eq_false_iff_not, not_true_eq_false, not_false_eq_true, decide_true, decide_false, κq1, rBool, g0, g1, g2, g3, g4]; rfl
                      exact ret_ ⟨.inl rfl, _, rfl, AVle.refl _⟩
                · have g3 : (c != 0) = true := by simpa using v3
                  rw [show decide ((false = false ∧ d ≠ 0 ∨ false = false ∧ a ≠ 0 ∨ false = false ∧ b ≠ 0 ∨ false = false ∧ c ≠ 0 ∨ M = false ∧ m ≠ 0)) = true from decide_eq_true (by simp [v3])]
                  refine seq_reg (σ' := ?_) ?_ ?_
                  rotate_left
                  · simp -implicitDefEqProofs only [r22_unused.r2, ex_nil, ex_cons, exK_some, st_n, st_g, gd_b, gd_u, rn_v, rn_m, rn_s, rn_a, think, prep, mkDsts, St.clear, ev, upd, init, PV.av, St.put, forgetBox, AV.cells, AV.pv, pvs, fillX, chunks, binV, xints, ldX, AV.plain, baseOk, fg_p, fg_tk, mkG, Sig.spec, tab, St.of, κa, κb, κc, κd, κe, κf, κg, κh, if_true, if_false, reduceIte, κi, κj, κk, κl, κm, κn, κo, κp, κq, κr, κs, κt, κu, κv, κw, κx, κy, κz, κa1, κb1, κc1, and_self, and_true, true_and, or_true, true_or, κd1, κe1, κf1, beq_self_eq_true, reduceCtorEq, κg1, κh1, κi1, κj1, κk1, κl1, κm1, κn1, κo1, c3, eq_self, κp1, decide_eq_true_eq, decide_eq_false_iff_not, not_true_eq_false, not_false_eq_true, decide_true, decide_false, κq1, rBool, g0, g1, g2, g3]; rfl
                  exact ret_ ⟨.inl rfl, _, rfl, AVle.refl _⟩
            · have g2 : (b != 0) = true := by simpa using v2
              rw [show decide ((false = false ∧ d ≠ 0 ∨ false = false ∧ a ≠ 0 ∨ false = false ∧ b ≠ 0 ∨ C = false ∧ c ≠ 0 ∨ M = false ∧ m ≠ 0)) = true from decide_eq_true (by simp [v2])]
              refine seq_reg (σ' := ?_) ?_ ?_
              rotate_left
              · simp -implicitDefEqProofs only [r22_unused.r2, ex_nil, ex_cons, exK_some, st_n, st_g, gd_b, gd_u, rn_v, rn_m, rn_s, rn_a, think, prep, mkDsts, St.clear, ev, upd, init, PV.av, St.put, forgetBox, AV.cells, AV.pv, pvs, fillX, chunks, binV, xints, ldX, AV.plain, baseOk, fg_p, fg_tk, mkG, Sig.spec, tab, St.of, κa, κb, κc, κd, κe, κf, κg, κh, if_true, if_false, reduceIte, κi, κj, κk, κl, κm, κn, κo, κp, κq, κr, κs, κt, κu, κv, κw, κx, κy, κz, κa1, κb1, κc1, and_self, and_true, true_and, or_true, true_or, κd1, κe1, κf1, beq_self_eq_true, reduceCtorEq, κg1, κh1, κi1, κj1, κk1, κl1, κm1, κn1, κo1, c3, eq_self, κp1, decide_eq_true_eq, decide_eq_false_iff_not, not_true_eq_false, not_false_eq_true, decide_true, decide_false, κq1, rBool, g0, g1, g2]; rfl
              exact ret_ ⟨.inl rfl, _, rfl, AVle.refl _⟩
        · have g1 : (a != 0) = true := by simpa using v1
          rw [show decide ((false = false ∧ d ≠ 0 ∨ false = false ∧ a ≠ 0 ∨ B = false ∧ b ≠ 0 ∨ C = false ∧ c ≠ 0 ∨ M = false ∧ m ≠ 0)) = true from decide_eq_true (by simp [v1])]
          refine seq_reg (σ' := ?_) ?_ ?_
          rotate_left
          · simp -implicitDefEqProofs only [r22_unused.r2, ex_nil, ex_cons, exK_some, st_n, st_g, gd_b, gd_u, rn_v, rn_m, rn_s, rn_a, think, prep, mkDsts, St.clear, ev, upd, init, PV.av, St.put, forgetBox, AV.cells, AV.pv, pvs, fillX, chunks, binV, xints, ldX, AV.plain, baseOk, fg_p, fg_tk, mkG, Sig.spec, tab, St.of, κa, κb, κc, κd, κe, κf, κg, κh, if_true, if_false, reduceIte, κi, κj, κk, κl, κm, κn, κo, κp, κq, κr, κs, κt, κu, κv, κw, κx, κy, κz, κa1, κb1, κc1, and_self, and_true, true_and, or_true, true_or, κd1, κe1, κf1, beq_self_eq_true, reduceCtorEq, κg1, κh1, κi1, κj1, κk1, κl1, κm1, κn1, κo1, c3, eq_self, κp1, decide_eq_true_eq, decide_eq_false_iff_not, not_true_eq_false, not_false_eq_true, decide_true, decide_false, κq1, rBool, g0, g1]; rfl
          exact ret_ ⟨.inl rfl, _, rfl, AVle.refl _⟩
    · have g0 : (d != 0) = true := by simpa using v0
      rw [show decide ((false = false ∧ d ≠ 0 ∨ A = false ∧ a ≠ 0 ∨ B = false ∧ b ≠ 0 ∨ C = false ∧ c ≠ 0 ∨ M = false ∧ m ≠ 0)) = true from decide_eq_true (by simp [v0])]
      refine seq_reg (σ' := ?_) ?_ ?_
      rotate_left
      · simp -implicitDefEqProofs only [r22_unused.r2, ex_nil, ex_cons, exK_some, st_n, st_g, gd_b, gd_u, rn_v, rn_m, rn_s, rn_a, think, prep, mkDsts, St.clear, ev, upd, init, PV.av, St.put, forgetBox, AV.cells, AV.pv, pvs, fillX, chunks, binV, xints, ldX, AV.plain, baseOk, fg_p, fg_tk, mkG, Sig.spec, tab, St.of, κa, κb, κc, κd, κe, κf, κg, κh, if_true, if_false, reduceIte, κi, κj, κk, κl, κm, κn, κo, κp, κq, κr, κs, κt, κu, κv, κw, κx, κy, κz, κa1, κb1, κc1, and_self, and_true, true_and, or_true, true_or, κd1, κe1, κf1, beq_self_eq_true, reduceCtorEq, κg1, κh1, κi1, κj1, κk1, κl1, κm1, κn1, κo1, c3, eq_self, κp1, decide_eq_true_eq, decide_eq_false_iff_not, not_true_eq_false, not_false_eq_true, decide_true, decide_false, κq1, rBool, g0]; rfl
      exact ret_ ⟨.inl rfl, _, rfl, AVle.refl _⟩
end Go.Proofs.Ytjbhhdocbejccaa.Pl
