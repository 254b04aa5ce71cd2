/- Chapter 43: numbers and small states: the validators. No condition beyond those that each theorem states. -/
import Derived.Test.YtjbhhdocbejccaaKb
namespace Go.Proofs.Ytjbhhdocbejccaa.Pl
open Go Go.RowKit Go.Proofs.Ytjbhhdocbejccaa.Am
open List renaming getElem?_cons_zero → κa, getElem?_cons_succ → κb, getElem?_nil → κc, map_cons → κj, map_nil → κk, drop_succ_cons → κl, drop_zero → κm, take_succ_cons → κn, take_zero → κo, length_cons → κp, length_nil → κq, length_append → κr, cons_append → κs, nil_append → κt, append_nil → κu
open Option renaming map_some → κd, map_none → κe, bind_some → κf, isSome_some → κg, isSome_none → κh
open Nat renaming reduceEqDiff → κi, reduceAdd → κv, reduceMul → κw, reduceLeDiff → κx, reduceBEq → κy, zero_le → κz, le_refl → κa1, zero_add → κb1, add_zero → κc1
open Bool renaming not_true → κd1, not_false → κe1, false_eq_true → κf1, true_eq_false → κq1
open Int renaming reduceBEq → κg1, reduceBNe → κh1, reduceLT → κi1, reduceLE → κj1, reduceAdd → κk1, reduceToNat → κl1, toNat_zero → κm1, reduceEq → κn1, toNat_natCast → κo1, le_refl → κp1
set_option linter.unusedVariables false
set_option linter.unusedSimpArgs false
set_option maxHeartbeats 8000000
set_option maxRecDepth 100000
theorem hE : ∀ t ∈ [60], EqOk Try.prog t := fun t ht => by
  have : t = 60 := by simpa using ht
  subst this
  exact eqOk_of (by kernel_rfl)
def rInt (n : Int) : AV := .c (.p (.int .i64 n))
def rBool (b : Bool) : AV := .c (.p (.bool b))
def withinB (x a b : Int) : Bool := decide (a ≤ x ∧ x ≤ b)
def isa_within.S : Am.Spec := fun args => match args with
  | [.c (.int .i64 x), .c (.int .i64 a), .c (.int .i64 b)] => some (rBool (withinB x a b))
  | _ => none
theorem isa_within.ok : SpecOK Try.prog 81 isa_within.S := fun args r h => by
  unfold isa_within.S at h
  split at h
  · cases h
    rename_i x a b
    refine runC_law (n := 0) Try.func81 isa_within.tr rfl hE ok_nil ?_
    by_cases h0 : a ≤ x
    · by_cases h1 : x ≤ b
      · have hp : withinB x a b = true := decide_eq_true ⟨h0, h1⟩
        rw [hp]
        simp -implicitDefEqProofs only [runC, mrun, result, AV.fin, XV.fin, Option.bind, Option.map, isa_within.r0, isa_within.r1, isa_within.m, ex_nil, ex_cons, exK_some, st_n, st_g, gd_b, gd_u, rn_v, rn_m, rn_s, rn_a, think, prep, mkDsts, St.clear, ev, upd, init, PV.av, St.put, forgetBox, AV.cells, AV.pv, pvs, fillX, chunks, binV, xints, ldX, AV.plain, baseOk, fg_p, fg_tk, mkG, Sig.spec, tab, St.of, κa, κb, κc, κd, κe, κf, κg, κh, if_true, if_false, reduceIte, κi, κj, κk, κl, κm, κn, κo, κp, κq, κr, κs, κt, κu, κv, κw, κx, κy, κz, κa1, κb1, κc1, and_self, and_true, true_and, or_true, true_or, κd1, κe1, κf1, beq_self_eq_true, reduceCtorEq, κg1, κh1, κi1, κj1, κk1, κl1, κm1, κn1, κo1, c3, eq_self, κp1, decide_eq_true_eq, decide_eq_false_iff_not, not_true_eq_false, not_false_eq_true, decide_true, decide_false, κq1, ge_iff_le, gt_iff_lt, rBool, rInt, h0, h1]
      · have hp : withinB x a b = false := decide_eq_false (fun h => h1 (h.2))
        rw [hp]
        simp -implicitDefEqProofs only [runC, mrun, result, AV.fin, XV.fin, Option.bind, Option.map, isa_within.r0, isa_within.r1, isa_within.m, ex_nil, ex_cons, exK_some, st_n, st_g, gd_b, gd_u, rn_v, rn_m, rn_s, rn_a, think, prep, mkDsts, St.clear, ev, upd, init, PV.av, St.put, forgetBox, AV.cells, AV.pv, pvs, fillX, chunks, binV, xints, ldX, AV.plain, baseOk, fg_p, fg_tk, mkG, Sig.spec, tab, St.of, κa, κb, κc, κd, κe, κf, κg, κh, if_true, if_false, reduceIte, κi, κj, κk, κl, κm, κn, κo, κp, κq, κr, κs, κt, κu, κv, κw, κx, κy, κz, κa1, κb1, κc1, and_self, and_true, true_and, or_true, true_or, κd1, κe1, κf1, beq_self_eq_true, reduceCtorEq, κg1, κh1, κi1, κj1, κk1, κl1, κm1, κn1, κo1, c3, eq_self, κp1, decide_eq_true_eq, decide_eq_false_iff_not, not_true_eq_false, not_false_eq_true, decide_true, decide_false, κq1, ge_iff_le, gt_iff_lt, rBool, rInt, h0, h1]
    · have hp : withinB x a b = false := decide_eq_false (fun h => h0 (h.1))
      rw [hp]
      simp -implicitDefEqProofs only [runC, mrun, result, AV.fin, XV.fin, Option.bind, Option.map, isa_within.r0, isa_within.r1, isa_within.m, ex_nil, ex_cons, exK_some, st_n, st_g, gd_b, gd_u, rn_v, rn_m, rn_s, rn_a, think, prep, mkDsts, St.clear, ev, upd, init, PV.av, St.put, forgetBox, AV.cells, AV.pv, pvs, fillX, chunks, binV, xints, ldX, AV.plain, baseOk, fg_p, fg_tk, mkG, Sig.spec, tab, St.of, κa, κb, κc, κd, κe, κf, κg, κh, if_true, if_false, reduceIte, κi, κj, κk, κl, κm, κn, κo, κp, κq, κr, κs, κt, κu, κv, κw, κx, κy, κz, κa1, κb1, κc1, and_self, and_true, true_and, or_true, true_or, κd1, κe1, κf1, beq_self_eq_true, reduceCtorEq, κg1, κh1, κi1, κj1, κk1, κl1, κm1, κn1, κo1, c3, eq_self, κp1, decide_eq_true_eq, decide_eq_false_iff_not, not_true_eq_false, not_false_eq_true, decide_true, decide_false, κq1, ge_iff_le, gt_iff_lt, rBool, rInt, h0]
  · cases h
def r32_within.S : Am.Spec := fun args => match args with
  | [.c (.int .i64 x), .c (.int .i64 a), .c (.int .i64 b)] => some (rBool (withinB x a b))
  | _ => none
theorem r32_within.ok : SpecOK Try.prog 53 r32_within.S := fun args r h => by
  unfold r32_within.S at h
  split at h
  · cases h
    rename_i x a b
    refine runC_law (n := 0) Try.func53 r32_within.tr rfl hE ok_nil ?_
    by_cases h0 : a ≤ x
    · by_cases h1 : x ≤ b
      · have hp : withinB x a b = true := decide_eq_true ⟨h0, h1⟩
        rw [hp]
        simp -implicitDefEqProofs only [runC, mrun, result, AV.fin, XV.fin, Option.bind, Option.map, r32_within.r0, r32_within.r1, r32_within.m, ex_nil, ex_cons, exK_some, st_n, st_g, gd_b, gd_u, rn_v, rn_m, rn_s, rn_a, think, prep, mkDsts, St.clear, ev, upd, init, PV.av, St.put, forgetBox, AV.cells, AV.pv, pvs, fillX, chunks, binV, xints, ldX, AV.plain, baseOk, fg_p, fg_tk, mkG, Sig.spec, tab, St.of, κa, κb, κc, κd, κe, κf, κg, κh, if_true, if_false, reduceIte, κi, κj, κk, κl, κm, κn, κo, κp, κq, κr, κs, κt, κu, κv, κw, κx, κy, κz, κa1, κb1, κc1, and_self, and_true, true_and, or_true, true_or, κd1, κe1, κf1, beq_self_eq_true, reduceCtorEq, κg1, κh1, κi1, κj1, κk1, κl1, κm1, κn1, κo1, c3, eq_self, κp1, decide_eq_true_eq, decide_eq_false_iff_not, not_true_eq_false, not_false_eq_true, decide_true, decide_false, κq1, ge_iff_le, gt_iff_lt, rBool, rInt, h0, h1]
      · have hp : withinB x a b = false := decide_eq_false (fun h => h1 (h.2))
        rw [hp]
        simp -implicitDefEqProofs only [runC, mrun, result, AV.fin, XV.fin, Option.bind, Option.map, r32_within.r0, r32_within.r1, r32_within.m, ex_nil, ex_cons, exK_some, st_n, st_g, gd_b, gd_u, rn_v, rn_m, rn_s, rn_a, think, prep, mkDsts, St.clear, ev, upd, init, PV.av, St.put, forgetBox, AV.cells, AV.pv, pvs, fillX, chunks, binV, xints, ldX, AV.plain, baseOk, fg_p, fg_tk, mkG, Sig.spec, tab, St.of, κa, κb, κc, κd, κe, κf, κg, κh, if_true, if_false, reduceIte, κi, κj, κk, κl, κm, κn, κo, κp, κq, κr, κs, κt, κu, κv, κw, κx, κy, κz, κa1, κb1, κc1, and_self, and_true, true_and, or_true, true_or, κd1, κe1, κf1, beq_self_eq_true, reduceCtorEq, κg1, κh1, κi1, κj1, κk1, κl1, κm1, κn1, κo1, c3, eq_self, κp1, decide_eq_true_eq, decide_eq_false_iff_not, not_true_eq_false, not_false_eq_true, decide_true, decide_false, κq1, ge_iff_le, gt_iff_lt, rBool, rInt, h0, h1]
    · have hp : withinB x a b = false := decide_eq_false (fun h => h0 (h.1))
      rw [hp]
      simp -implicitDefEqProofs only [runC, mrun, result, AV.fin, XV.fin, Option.bind, Option.map, r32_within.r0, r32_within.r1, r32_within.m, ex_nil, ex_cons, exK_some, st_n, st_g, gd_b, gd_u, rn_v, rn_m, rn_s, rn_a, think, prep, mkDsts, St.clear, ev, upd, init, PV.av, St.put, forgetBox, AV.cells, AV.pv, pvs, fillX, chunks, binV, xints, ldX, AV.plain, baseOk, fg_p, fg_tk, mkG, Sig.spec, tab, St.of, κa, κb, κc, κd, κe, κf, κg, κh, if_true, if_false, reduceIte, κi, κj, κk, κl, κm, κn, κo, κp, κq, κr, κs, κt, κu, κv, κw, κx, κy, κz, κa1, κb1, κc1, and_self, and_true, true_and, or_true, true_or, κd1, κe1, κf1, beq_self_eq_true, reduceCtorEq, κg1, κh1, κi1, κj1, κk1, κl1, κm1, κn1, κo1, c3, eq_self, κp1, decide_eq_true_eq, decide_eq_false_iff_not, not_true_eq_false, not_false_eq_true, decide_true, decide_false, κq1, ge_iff_le, gt_iff_lt, rBool, rInt, h0]
  · cases h
def opB (x : Int) : Bool := decide (1 ≤ x ∧ x ≤ 52)
def isa_Valid.S : Am.Spec := fun args => match args with
  | [.c (.int .i64 x)] => some (rBool (opB x))
  | _ => none
theorem isa_Valid.ok : SpecOK Try.prog 87 isa_Valid.S := fun args r h => by
  unfold isa_Valid.S at h
  split at h
  · cases h
    rename_i x
    refine runC_law (n := 0) Try.func87 isa_Valid.tr rfl hE ok_nil ?_
    by_cases h0 : 1 ≤ x
    · by_cases h1 : x ≤ 52
      · have hp : opB x = true := decide_eq_true ⟨h0, h1⟩
        rw [hp]
        simp -implicitDefEqProofs only [runC, mrun, result, AV.fin, XV.fin, Option.bind, Option.map, isa_Valid.r0, isa_Valid.r1, isa_Valid.m, ex_nil, ex_cons, exK_some, st_n, st_g, gd_b, gd_u, rn_v, rn_m, rn_s, rn_a, think, prep, mkDsts, St.clear, ev, upd, init, PV.av, St.put, forgetBox, AV.cells, AV.pv, pvs, fillX, chunks, binV, xints, ldX, AV.plain, baseOk, fg_p, fg_tk, mkG, Sig.spec, tab, St.of, κa, κb, κc, κd, κe, κf, κg, κh, if_true, if_false, reduceIte, κi, κj, κk, κl, κm, κn, κo, κp, κq, κr, κs, κt, κu, κv, κw, κx, κy, κz, κa1, κb1, κc1, and_self, and_true, true_and, or_true, true_or, κd1, κe1, κf1, beq_self_eq_true, reduceCtorEq, κg1, κh1, κi1, κj1, κk1, κl1, κm1, κn1, κo1, c3, eq_self, κp1, decide_eq_true_eq, decide_eq_false_iff_not, not_true_eq_false, not_false_eq_true, decide_true, decide_false, κq1, ge_iff_le, gt_iff_lt, rBool, rInt, h0, h1]
      · have hp : opB x = false := decide_eq_false (fun h => h1 (h.2))
        rw [hp]
        simp -implicitDefEqProofs only [runC, mrun, result, AV.fin, XV.fin, Option.bind, Option.map, isa_Valid.r0, isa_Valid.r1, isa_Valid.m, ex_nil, ex_cons, exK_some, st_n, st_g, gd_b, gd_u, rn_v, rn_m, rn_s, rn_a, think, prep, mkDsts, St.clear, ev, upd, init, PV.av, St.put, forgetBox, AV.cells, AV.pv, pvs, fillX, chunks, binV, xints, ldX, AV.plain, baseOk, fg_p, fg_tk, mkG, Sig.spec, tab, St.of, κa, κb, κc, κd, κe, κf, κg, κh, if_true, if_false, reduceIte, κi, κj, κk, κl, κm, κn, κo, κp, κq, κr, κs, κt, κu, κv, κw, κx, κy, κz, κa1, κb1, κc1, and_self, and_true, true_and, or_true, true_or, κd1, κe1, κf1, beq_self_eq_true, reduceCtorEq, κg1, κh1, κi1, κj1, κk1, κl1, κm1, κn1, κo1, c3, eq_self, κp1, decide_eq_true_eq, decide_eq_false_iff_not, not_true_eq_false, not_false_eq_true, decide_true, decide_false, κq1, ge_iff_le, gt_iff_lt, rBool, rInt, h0, h1]
    · have hp : opB x = false := decide_eq_false (fun h => h0 (h.1))
      rw [hp]
      simp -implicitDefEqProofs only [runC, mrun, result, AV.fin, XV.fin, Option.bind, Option.map, isa_Valid.r0, isa_Valid.r1, isa_Valid.m, ex_nil, ex_cons, exK_some, st_n, st_g, gd_b, gd_u, rn_v, rn_m, rn_s, rn_a, think, prep, mkDsts, St.clear, ev, upd, init, PV.av, St.put, forgetBox, AV.cells, AV.pv, pvs, fillX, chunks, binV, xints, ldX, AV.plain, baseOk, fg_p, fg_tk, mkG, Sig.spec, tab, St.of, κa, κb, κc, κd, κe, κf, κg, κh, if_true, if_false, reduceIte, κi, κj, κk, κl, κm, κn, κo, κp, κq, κr, κs, κt, κu, κv, κw, κx, κy, κz, κa1, κb1, κc1, and_self, and_true, true_and, or_true, true_or, κd1, κe1, κf1, beq_self_eq_true, reduceCtorEq, κg1, κh1, κi1, κj1, κk1, κl1, κm1, κn1, κo1, c3, eq_self, κp1, decide_eq_true_eq, decide_eq_false_iff_not, not_true_eq_false, not_false_eq_true, decide_true, decide_false, κq1, ge_iff_le, gt_iff_lt, rBool, rInt, h0]
  · cases h
def r22_Valid.S : Am.Spec := fun args => match args with
  | [.c (.int .i64 x)] => some (rBool (opB x))
  | _ => none
theorem r22_Valid.ok : SpecOK Try.prog 70 r22_Valid.S := fun args r h => by
  unfold r22_Valid.S at h
  split at h
  · cases h
    rename_i x
    refine runC_law (n := 0) Try.func70 r22_Valid.tr rfl hE ok_nil ?_
    by_cases h0 : 1 ≤ x
    · by_cases h1 : x ≤ 52
      · have hp : opB x = true := decide_eq_true ⟨h0, h1⟩
        rw [hp]
        simp -implicitDefEqProofs only [runC, mrun, result, AV.fin, XV.fin, Option.bind, Option.map, r22_Valid.r0, r22_Valid.r1, r22_Valid.m, ex_nil, ex_cons, exK_some, st_n, st_g, gd_b, gd_u, rn_v, rn_m, rn_s, rn_a, think, prep, mkDsts, St.clear, ev, upd, init, PV.av, St.put, forgetBox, AV.cells, AV.pv, pvs, fillX, chunks, binV, xints, ldX, AV.plain, baseOk, fg_p, fg_tk, mkG, Sig.spec, tab, St.of, κa, κb, κc, κd, κe, κf, κg, κh, if_true, if_false, reduceIte, κi, κj, κk, κl, κm, κn, κo, κp, κq, κr, κs, κt, κu, κv, κw, κx, κy, κz, κa1, κb1, κc1, and_self, and_true, true_and, or_true, true_or, κd1, κe1, κf1, beq_self_eq_true, reduceCtorEq, κg1, κh1, κi1, κj1, κk1, κl1, κm1, κn1, κo1, c3, eq_self, κp1, decide_eq_true_eq, decide_eq_false_iff_not, not_true_eq_false, not_false_eq_true, decide_true, decide_false, κq1, ge_iff_le, gt_iff_lt, rBool, rInt, h0, h1]
      · have hp : opB x = false := decide_eq_false (fun h => h1 (h.2))
        rw [hp]
        simp -implicitDefEqProofs only [runC, mrun, result, AV.fin, XV.fin, Option.bind, Option.map, r22_Valid.r0, r22_Valid.r1, r22_Valid.m, ex_nil, ex_cons, exK_some, st_n, st_g, gd_b, gd_u, rn_v, rn_m, rn_s, rn_a, think, prep, mkDsts, St.clear, ev, upd, init, PV.av, St.put, forgetBox, AV.cells, AV.pv, pvs, fillX, chunks, binV, xints, ldX, AV.plain, baseOk, fg_p, fg_tk, mkG, Sig.spec, tab, St.of, κa, κb, κc, κd, κe, κf, κg, κh, if_true, if_false, reduceIte, κi, κj, κk, κl, κm, κn, κo, κp, κq, κr, κs, κt, κu, κv, κw, κx, κy, κz, κa1, κb1, κc1, and_self, and_true, true_and, or_true, true_or, κd1, κe1, κf1, beq_self_eq_true, reduceCtorEq, κg1, κh1, κi1, κj1, κk1, κl1, κm1, κn1, κo1, c3, eq_self, κp1, decide_eq_true_eq, decide_eq_false_iff_not, not_true_eq_false, not_false_eq_true, decide_true, decide_false, κq1, ge_iff_le, gt_iff_lt, rBool, rInt, h0, h1]
    · have hp : opB x = false := decide_eq_false (fun h => h0 (h.1))
      rw [hp]
      simp -implicitDefEqProofs only [runC, mrun, result, AV.fin, XV.fin, Option.bind, Option.map, r22_Valid.r0, r22_Valid.r1, r22_Valid.m, ex_nil, ex_cons, exK_some, st_n, st_g, gd_b, gd_u, rn_v, rn_m, rn_s, rn_a, think, prep, mkDsts, St.clear, ev, upd, init, PV.av, St.put, forgetBox, AV.cells, AV.pv, pvs, fillX, chunks, binV, xints, ldX, AV.plain, baseOk, fg_p, fg_tk, mkG, Sig.spec, tab, St.of, κa, κb, κc, κd, κe, κf, κg, κh, if_true, if_false, reduceIte, κi, κj, κk, κl, κm, κn, κo, κp, κq, κr, κs, κt, κu, κv, κw, κx, κy, κz, κa1, κb1, κc1, and_self, and_true, true_and, or_true, true_or, κd1, κe1, κf1, beq_self_eq_true, reduceCtorEq, κg1, κh1, κi1, κj1, κk1, κl1, κm1, κn1, κo1, c3, eq_self, κp1, decide_eq_true_eq, decide_eq_false_iff_not, not_true_eq_false, not_false_eq_true, decide_true, decide_false, κq1, ge_iff_le, gt_iff_lt, rBool, rInt, h0]
  · cases h
def cmpB (x : Int) : Bool := decide (1 ≤ x ∧ x ≤ 8)
def depth_ValidCompare.S : Am.Spec := fun args => match args with
  | [.c (.int .i64 x)] => some (rBool (cmpB x))
  | _ => none
theorem depth_ValidCompare.ok : SpecOK Try.prog 44 depth_ValidCompare.S := fun args r h => by
  unfold depth_ValidCompare.S at h
  split at h
  · cases h
    rename_i x
    refine runC_law (n := 0) Try.func44 depth_ValidCompare.tr rfl hE ok_nil ?_
    by_cases h0 : 1 ≤ x
    · by_cases h1 : x ≤ 8
      · have hp : cmpB x = true := decide_eq_true ⟨h0, h1⟩
        rw [hp]
        simp -implicitDefEqProofs only [runC, mrun, result, AV.fin, XV.fin, Option.bind, Option.map, depth_ValidCompare.r0, depth_ValidCompare.r1, depth_ValidCompare.m, ex_nil, ex_cons, exK_some, st_n, st_g, gd_b, gd_u, rn_v, rn_m, rn_s, rn_a, think, prep, mkDsts, St.clear, ev, upd, init, PV.av, St.put, forgetBox, AV.cells, AV.pv, pvs, fillX, chunks, binV, xints, ldX, AV.plain, baseOk, fg_p, fg_tk, mkG, Sig.spec, tab, St.of, κa, κb, κc, κd, κe, κf, κg, κh, if_true, if_false, reduceIte, κi, κj, κk, κl, κm, κn, κo, κp, κq, κr, κs, κt, κu, κv, κw, κx, κy, κz, κa1, κb1, κc1, and_self, and_true, true_and, or_true, true_or, κd1, κe1, κf1, beq_self_eq_true, reduceCtorEq, κg1, κh1, κi1, κj1, κk1, κl1, κm1, κn1, κo1, c3, eq_self, κp1, decide_eq_true_eq, decide_eq_false_iff_not, not_true_eq_false, not_false_eq_true, decide_true, decide_false, κq1, ge_iff_le, gt_iff_lt, rBool, rInt, h0, h1]
      · have hp : cmpB x = false := decide_eq_false (fun h => h1 (h.2))
        rw [hp]
        simp -implicitDefEqProofs only [runC, mrun, result, AV.fin, XV.fin, Option.bind, Option.map, depth_ValidCompare.r0, depth_ValidCompare.r1, depth_ValidCompare.m, ex_nil, ex_cons, exK_some, st_n, st_g, gd_b, gd_u, rn_v, rn_m, rn_s, rn_a, think, prep, mkDsts, St.clear, ev, upd, init, PV.av, St.put, forgetBox, AV.cells, AV.pv, pvs, fillX, chunks, binV, xints, ldX, AV.plain, baseOk, fg_p, fg_tk, mkG, Sig.spec, tab, St.of, κa, κb, κc, κd, κe, κf, κg, κh, if_true, if_false, reduceIte, κi, κj, κk, κl, κm, κn, κo, κp, κq, κr, κs, κt, κu, κv, κw, κx, κy, κz, κa1, κb1, κc1, and_self, and_true, true_and, or_true, true_or, κd1, κe1, κf1, beq_self_eq_true, reduceCtorEq, κg1, κh1, κi1, κj1, κk1, κl1, κm1, κn1, κo1, c3, eq_self, κp1, decide_eq_true_eq, decide_eq_false_iff_not, not_true_eq_false, not_false_eq_true, decide_true, decide_false, κq1, ge_iff_le, gt_iff_lt, rBool, rInt, h0, h1]
    · have hp : cmpB x = false := decide_eq_false (fun h => h0 (h.1))
      rw [hp]
      simp -implicitDefEqProofs only [runC, mrun, result, AV.fin, XV.fin, Option.bind, Option.map, depth_ValidCompare.r0, depth_ValidCompare.r1, depth_ValidCompare.m, ex_nil, ex_cons, exK_some, st_n, st_g, gd_b, gd_u, rn_v, rn_m, rn_s, rn_a, think, prep, mkDsts, St.clear, ev, upd, init, PV.av, St.put, forgetBox, AV.cells, AV.pv, pvs, fillX, chunks, binV, xints, ldX, AV.plain, baseOk, fg_p, fg_tk, mkG, Sig.spec, tab, St.of, κa, κb, κc, κd, κe, κf, κg, κh, if_true, if_false, reduceIte, κi, κj, κk, κl, κm, κn, κo, κp, κq, κr, κs, κt, κu, κv, κw, κx, κy, κz, κa1, κb1, κc1, and_self, and_true, true_and, or_true, true_or, κd1, κe1, κf1, beq_self_eq_true, reduceCtorEq, κg1, κh1, κi1, κj1, κk1, κl1, κm1, κn1, κo1, c3, eq_self, κp1, decide_eq_true_eq, decide_eq_false_iff_not, not_true_eq_false, not_false_eq_true, decide_true, decide_false, κq1, ge_iff_le, gt_iff_lt, rBool, rInt, h0]
  · cases h
def r38_ValidCompare.S : Am.Spec := fun args => match args with
  | [.c (.int .i64 x)] => some (rBool (cmpB x))
  | _ => none
theorem r38_ValidCompare.ok : SpecOK Try.prog 54 r38_ValidCompare.S := fun args r h => by
  unfold r38_ValidCompare.S at h
  split at h
  · cases h
    rename_i x
    refine runC_law (n := 0) Try.func54 r38_ValidCompare.tr rfl hE ok_nil ?_
    by_cases h0 : 1 ≤ x
    · by_cases h1 : x ≤ 8
      · have hp : cmpB x = true := decide_eq_true ⟨h0, h1⟩
        rw [hp]
        simp -implicitDefEqProofs only [runC, mrun, result, AV.fin, XV.fin, Option.bind, Option.map, r38_ValidCompare.r0, r38_ValidCompare.r1, r38_ValidCompare.m, ex_nil, ex_cons, exK_some, st_n, st_g, gd_b, gd_u, rn_v, rn_m, rn_s, rn_a, think, prep, mkDsts, St.clear, ev, upd, init, PV.av, St.put, forgetBox, AV.cells, AV.pv, pvs, fillX, chunks, binV, xints, ldX, AV.plain, baseOk, fg_p, fg_tk, mkG, Sig.spec, tab, St.of, κa, κb, κc, κd, κe, κf, κg, κh, if_true, if_false, reduceIte, κi, κj, κk, κl, κm, κn, κo, κp, κq, κr, κs, κt, κu, κv, κw, κx, κy, κz, κa1, κb1, κc1, and_self, and_true, true_and, or_true, true_or, κd1, κe1, κf1, beq_self_eq_true, reduceCtorEq, κg1, κh1, κi1, κj1, κk1, κl1, κm1, κn1, κo1, c3, eq_self, κp1, decide_eq_true_eq, decide_eq_false_iff_not, not_true_eq_false, not_false_eq_true, decide_true, decide_false, κq1, ge_iff_le, gt_iff_lt, rBool, rInt, h0, h1]
      · have hp : cmpB x = false := decide_eq_false (fun h => h1 (h.2))
        rw [hp]
        simp -implicitDefEqProofs only [runC, mrun, result, AV.fin, XV.fin, Option.bind, Option.map, r38_ValidCompare.r0, r38_ValidCompare.r1, r38_ValidCompare.m, ex_nil, ex_cons, exK_some, st_n, st_g, gd_b, gd_u, rn_v, rn_m, rn_s, rn_a, think, prep, mkDsts, St.clear, ev, upd, init, PV.av, St.put, forgetBox, AV.cells, AV.pv, pvs, fillX, chunks, binV, xints, ldX, AV.plain, baseOk, fg_p, fg_tk, mkG, Sig.spec, tab, St.of, κa, κb, κc, κd, κe, κf, κg, κh, if_true, if_false, reduceIte, κi, κj, κk, κl, κm, κn, κo, κp, κq, κr, κs, κt, κu, κv, κw, κx, κy, κz, κa1, κb1, κc1, and_self, and_true, true_and, or_true, true_or, κd1, κe1, κf1, beq_self_eq_true, reduceCtorEq, κg1, κh1, κi1, κj1, κk1, κl1, κm1, κn1, κo1, c3, eq_self, κp1, decide_eq_true_eq, decide_eq_false_iff_not, not_true_eq_false, not_false_eq_true, decide_true, decide_false, κq1, ge_iff_le, gt_iff_lt, rBool, rInt, h0, h1]
    · have hp : cmpB x = false := decide_eq_false (fun h => h0 (h.1))
      rw [hp]
      simp -implicitDefEqProofs only [runC, mrun, result, AV.fin, XV.fin, Option.bind, Option.map, r38_ValidCompare.r0, r38_ValidCompare.r1, r38_ValidCompare.m, ex_nil, ex_cons, exK_some, st_n, st_g, gd_b, gd_u, rn_v, rn_m, rn_s, rn_a, think, prep, mkDsts, St.clear, ev, upd, init, PV.av, St.put, forgetBox, AV.cells, AV.pv, pvs, fillX, chunks, binV, xints, ldX, AV.plain, baseOk, fg_p, fg_tk, mkG, Sig.spec, tab, St.of, κa, κb, κc, κd, κe, κf, κg, κh, if_true, if_false, reduceIte, κi, κj, κk, κl, κm, κn, κo, κp, κq, κr, κs, κt, κu, κv, κw, κx, κy, κz, κa1, κb1, κc1, and_self, and_true, true_and, or_true, true_or, κd1, κe1, κf1, beq_self_eq_true, reduceCtorEq, κg1, κh1, κi1, κj1, κk1, κl1, κm1, κn1, κo1, c3, eq_self, κp1, decide_eq_true_eq, decide_eq_false_iff_not, not_true_eq_false, not_false_eq_true, decide_true, decide_false, κq1, ge_iff_le, gt_iff_lt, rBool, rInt, h0]
  · cases h
def byteB (x : Int) : Bool := decide (0 ≤ x ∧ x ≤ 255)
def st_inByte.S : Am.Spec := fun args => match args with
  | [.c (.int .i64 x)] => some (rBool (byteB x))
  | _ => none
theorem st_inByte.ok : SpecOK Try.prog 46 st_inByte.S := fun args r h => by
  unfold st_inByte.S at h
  split at h
  · cases h
    rename_i x
    refine runC_law (n := 0) Try.func46 st_inByte.tr rfl hE ok_nil ?_
    by_cases h0 : 0 ≤ x
    · by_cases h1 : x ≤ 255
      · have hp : byteB x = true := decide_eq_true ⟨h0, h1⟩
        rw [hp]
        simp -implicitDefEqProofs only [runC, mrun, result, AV.fin, XV.fin, Option.bind, Option.map, st_inByte.r0, st_inByte.r1, st_inByte.m, ex_nil, ex_cons, exK_some, st_n, st_g, gd_b, gd_u, rn_v, rn_m, rn_s, rn_a, think, prep, mkDsts, St.clear, ev, upd, init, PV.av, St.put, forgetBox, AV.cells, AV.pv, pvs, fillX, chunks, binV, xints, ldX, AV.plain, baseOk, fg_p, fg_tk, mkG, Sig.spec, tab, St.of, κa, κb, κc, κd, κe, κf, κg, κh, if_true, if_false, reduceIte, κi, κj, κk, κl, κm, κn, κo, κp, κq, κr, κs, κt, κu, κv, κw, κx, κy, κz, κa1, κb1, κc1, and_self, and_true, true_and, or_true, true_or, κd1, κe1, κf1, beq_self_eq_true, reduceCtorEq, κg1, κh1, κi1, κj1, κk1, κl1, κm1, κn1, κo1, c3, eq_self, κp1, decide_eq_true_eq, decide_eq_false_iff_not, not_true_eq_false, not_false_eq_true, decide_true, decide_false, κq1, ge_iff_le, gt_iff_lt, rBool, rInt, h0, h1]
      · have hp : byteB x = false := decide_eq_false (fun h => h1 (h.2))
        rw [hp]
        simp -implicitDefEqProofs only [runC, mrun, result, AV.fin, XV.fin, Option.bind, Option.map, st_inByte.r0, st_inByte.r1, st_inByte.m, ex_nil, ex_cons, exK_some, st_n, st_g, gd_b, gd_u, rn_v, rn_m, rn_s, rn_a, think, prep, mkDsts, St.clear, ev, upd, init, PV.av, St.put, forgetBox, AV.cells, AV.pv, pvs, fillX, chunks, binV, xints, ldX, AV.plain, baseOk, fg_p, fg_tk, mkG, Sig.spec, tab, St.of, κa, κb, κc, κd, κe, κf, κg, κh, if_true, if_false, reduceIte, κi, κj, κk, κl, κm, κn, κo, κp, κq, κr, κs, κt, κu, κv, κw, κx, κy, κz, κa1, κb1, κc1, and_self, and_true, true_and, or_true, true_or, κd1, κe1, κf1, beq_self_eq_true, reduceCtorEq, κg1, κh1, κi1, κj1, κk1, κl1, κm1, κn1, κo1, c3, eq_self, κp1, decide_eq_true_eq, decide_eq_false_iff_not, not_true_eq_false, not_false_eq_true, decide_true, decide_false, κq1, ge_iff_le, gt_iff_lt, rBool, rInt, h0, h1]
    · have hp : byteB x = false := decide_eq_false (fun h => h0 (h.1))
      rw [hp]
      simp -implicitDefEqProofs only [runC, mrun, result, AV.fin, XV.fin, Option.bind, Option.map, st_inByte.r0, st_inByte.r1, st_inByte.m, ex_nil, ex_cons, exK_some, st_n, st_g, gd_b, gd_u, rn_v, rn_m, rn_s, rn_a, think, prep, mkDsts, St.clear, ev, upd, init, PV.av, St.put, forgetBox, AV.cells, AV.pv, pvs, fillX, chunks, binV, xints, ldX, AV.plain, baseOk, fg_p, fg_tk, mkG, Sig.spec, tab, St.of, κa, κb, κc, κd, κe, κf, κg, κh, if_true, if_false, reduceIte, κi, κj, κk, κl, κm, κn, κo, κp, κq, κr, κs, κt, κu, κv, κw, κx, κy, κz, κa1, κb1, κc1, and_self, and_true, true_and, or_true, true_or, κd1, κe1, κf1, beq_self_eq_true, reduceCtorEq, κg1, κh1, κi1, κj1, κk1, κl1, κm1, κn1, κo1, c3, eq_self, κp1, decide_eq_true_eq, decide_eq_false_iff_not, not_true_eq_false, not_false_eq_true, decide_true, decide_false, κq1, ge_iff_le, gt_iff_lt, rBool, rInt, h0]
  · cases h
def r39_octet.S : Am.Spec := fun args => match args with
  | [.c (.int .i64 x)] => some (rBool (byteB x))
  | _ => none
theorem r39_octet.ok : SpecOK Try.prog 56 r39_octet.S := fun args r h => by
  unfold r39_octet.S at h
  split at h
  · cases h
    rename_i x
    refine runC_law (n := 0) Try.func56 r39_octet.tr rfl hE ok_nil ?_
    by_cases h0 : 0 ≤ x
    · by_cases h1 : x ≤ 255
      · have hp : byteB x = true := decide_eq_true ⟨h0, h1⟩
        rw [hp]
        simp -implicitDefEqProofs only [runC, mrun, result, AV.fin, XV.fin, Option.bind, Option.map, r39_octet.r0, r39_octet.r1, r39_octet.m, ex_nil, ex_cons, exK_some, st_n, st_g, gd_b, gd_u, rn_v, rn_m, rn_s, rn_a, think, prep, mkDsts, St.clear, ev, upd, init, PV.av, St.put, forgetBox, AV.cells, AV.pv, pvs, fillX, chunks, binV, xints, ldX, AV.plain, baseOk, fg_p, fg_tk, mkG, Sig.spec, tab, St.of, κa, κb, κc, κd, κe, κf, κg, κh, if_true, if_false, reduceIte, κi, κj, κk, κl, κm, κn, κo, κp, κq, κr, κs, κt, κu, κv, κw, κx, κy, κz, κa1, κb1, κc1, and_self, and_true, true_and, or_true, true_or, κd1, κe1, κf1, beq_self_eq_true, reduceCtorEq, κg1, κh1, κi1, κj1, κk1, κl1, κm1, κn1, κo1, c3, eq_self, κp1, decide_eq_true_eq, decide_eq_false_iff_not, not_true_eq_false, not_false_eq_true, decide_true, decide_false, κq1, ge_iff_le, gt_iff_lt, rBool, rInt, h0, h1]
      · have hp : byteB x = false := decide_eq_false (fun h => h1 (h.2))
        rw [hp]
        simp -implicitDefEqProofs only [runC, mrun, result, AV.fin, XV.fin, Option.bind, Option.map, r39_octet.r0, r39_octet.r1, r39_octet.m, ex_nil, ex_cons, exK_some, st_n, st_g, gd_b, gd_u, rn_v, rn_m, rn_s, rn_a, think, prep, mkDsts, St.clear, ev, upd, init, PV.av, St.put, forgetBox, AV.cells, AV.pv, pvs, fillX, chunks, binV, xints, ldX, AV.plain, baseOk, fg_p, fg_tk, mkG, Sig.spec, tab, St.of, κa, κb, κc, κd, κe, κf, κg, κh, if_true, if_false, reduceIte, κi, κj, κk, κl, κm, κn, κo, κp, κq, κr, κs, κt, κu, κv, κw, κx, κy, κz, κa1, κb1, κc1, and_self, and_true, true_and, or_true, true_or, κd1, κe1, κf1, beq_self_eq_true, reduceCtorEq, κg1, κh1, κi1, κj1, κk1, κl1, κm1, κn1, κo1, c3, eq_self, κp1, decide_eq_true_eq, decide_eq_false_iff_not, not_true_eq_false, not_false_eq_true, decide_true, decide_false, κq1, ge_iff_le, gt_iff_lt, rBool, rInt, h0, h1]
    · have hp : byteB x = false := decide_eq_false (fun h => h0 (h.1))
      rw [hp]
      simp -implicitDefEqProofs only [runC, mrun, result, AV.fin, XV.fin, Option.bind, Option.map, r39_octet.r0, r39_octet.r1, r39_octet.m, ex_nil, ex_cons, exK_some, st_n, st_g, gd_b, gd_u, rn_v, rn_m, rn_s, rn_a, think, prep, mkDsts, St.clear, ev, upd, init, PV.av, St.put, forgetBox, AV.cells, AV.pv, pvs, fillX, chunks, binV, xints, ldX, AV.plain, baseOk, fg_p, fg_tk, mkG, Sig.spec, tab, St.of, κa, κb, κc, κd, κe, κf, κg, κh, if_true, if_false, reduceIte, κi, κj, κk, κl, κm, κn, κo, κp, κq, κr, κs, κt, κu, κv, κw, κx, κy, κz, κa1, κb1, κc1, and_self, and_true, true_and, or_true, true_or, κd1, κe1, κf1, beq_self_eq_true, reduceCtorEq, κg1, κh1, κi1, κj1, κk1, κl1, κm1, κn1, κo1, c3, eq_self, κp1, decide_eq_true_eq, decide_eq_false_iff_not, not_true_eq_false, not_false_eq_true, decide_true, decide_false, κq1, ge_iff_le, gt_iff_lt, rBool, rInt, h0]
  · cases h
end Go.Proofs.Ytjbhhdocbejccaa.Pl
