/- Chapter 43: Validate of package pipeline. No condition beyond those that each theorem states. -/
import Derived.Test.YtjbhhdocbejccaaP2
namespace Go.Proofs.Ytjbhhdocbejccaa.Pl
open Go Go.RowKit Go.Proofs.Ytjbhhdocbejccaa.Am
open List renaming getElem?_cons_zero → κa, getElem?_cons_succ → κb, getElem?_nil → κc, map_cons → κj, map_nil → κk, drop_succ_cons → κl, drop_zero → κm, take_succ_cons → κn, take_zero → κo, length_cons → κp, length_nil → κq, length_append → κr, cons_append → κs, nil_append → κt, append_nil → κu
open Option renaming map_some → κd, map_none → κe, bind_some → κf, isSome_some → κg, isSome_none → κh
open Nat renaming reduceEqDiff → κi, reduceAdd → κv, reduceMul → κw, reduceLeDiff → κx, reduceBEq → κy, zero_le → κz, le_refl → κa1, zero_add → κb1, add_zero → κc1
open Bool renaming not_true → κd1, not_false → κe1, false_eq_true → κf1, true_eq_false → κq1
open Int renaming reduceBEq → κg1, reduceBNe → κh1, reduceLT → κi1, reduceLE → κj1, reduceAdd → κk1, reduceToNat → κl1, toNat_zero → κm1, reduceEq → κn1, toNat_natCast → κo1, le_refl → κp1
set_option linter.unusedVariables false
set_option linter.unusedSimpArgs false
set_option maxHeartbeats 16000000
set_option maxRecDepth 100000
theorem valid_rng {p : Pg} (h : validS p = 0) : rngP p = true := by
  unfold validS at h
  split at h
  · omega
  · split at h
    · omega
    · rename_i h'; simpa using h'
theorem shaders_rngs {p : Pl} (h : shadersB p = true) : rngs p = true := by
  simp only [shadersB, Bool.and_eq_true] at h
  obtain ⟨h1, h2, h3⟩ := h
  have v1 := valid_rng (of_decide_eq_true h1).2
  simp only [rngs, v1, Bool.true_and]
  cases hg : p.hg with
  | false => rfl
  | true =>
    rw [hg, if_pos rfl] at h3
    simp [valid_rng (of_decide_eq_true h3).2]
theorem vatsS_eq (l : List At) : fetch_Valid.S [.c (.sl 4 (l.map At.cs))] = some (rBool (attsB l)) := cSpec_eq encAts_inj l
def atsB (p : Pl) : Bool := attsB p.ats && (compsL p.ats == p.v.inp)
def kdB (p : Pl) : Bool := decide (1 ≤ p.topo ∧ p.topo ≤ 3 ∧ 1 ≤ p.cull ∧ p.cull ≤ 3)
def vptB (p : Pl) : Bool := vpB p.vx p.vy p.vw p.vh p.vn p.vm
def sxB (p : Pl) : Bool := dsB p.dc p.db && (stB p.f1 p.f2 p.f3 p.f4 p.b1 p.b2 p.b3 p.b4 p.sr p.sm p.sw && blB p.c1 p.c2 p.c3 p.c4 p.c5 p.c6 p.bm)
def fmB (p : Pl) : Bool := decide (1 ≤ p.fmt ∧ p.fmt ≤ 6 ∧ 0 ≤ bitsF p.dfm)
def validP (p : Pl) : Int := if shadersB p = false then 17 else if atsB p = false then 11 else if linkB p = false then 18 else if kdB p = false then 10 else if vptB p = false then 6 else if sxB p = false then 16 else if fmB p = false then 14 else if sampB p.smp = false then 15 else 0
noncomputable def pl_Validate.S : Am.Spec := cSpec encPl fun p => some (rInt (validP p))
theorem vPS_eq (p : Pl) : pl_Validate.S [.agg [.int .i64 p.v.st, .int .i64 p.v.rg, .int .i64 p.v.inp, .int .i64 p.v.out, .int .i64 p.v.un, .int .i64 p.v.tx, .int .i64 p.v.bf, .sl 6 (p.v.code.map Ins.cs), .int .i64 p.g.st, .int .i64 p.g.rg, .int .i64 p.g.inp, .int .i64 p.g.out, .int .i64 p.g.un, .int .i64 p.g.tx, .int .i64 p.g.bf, .sl 6 (p.g.code.map Ins.cs), .int .i64 p.f.st, .int .i64 p.f.rg, .int .i64 p.f.inp, .int .i64 p.f.out, .int .i64 p.f.un, .int .i64 p.f.tx, .int .i64 p.f.bf, .sl 6 (p.f.code.map Ins.cs), .bool p.hg, .sl 4 (p.ats.map At.cs), .int .i64 p.topo, .int .i64 p.cull, .bool p.fc, .int .i64 p.vx, .int .i64 p.vy, .int .i64 p.vw, .int .i64 p.vh, .int .i64 p.vn, .int .i64 p.vm, .bool p.dt, .bool p.dw, .int .i64 p.dc, .int .i64 p.db, .bool p.se, .int .i64 p.f1, .int .i64 p.f2, .int .i64 p.f3, .int .i64 p.f4, .int .i64 p.b1, .int .i64 p.b2, .int .i64 p.b3, .int .i64 p.b4, .int .i64 p.sr, .int .i64 p.sm, .int .i64 p.sw, .bool p.be, .int .i64 p.c1, .int .i64 p.c2, .int .i64 p.c3, .int .i64 p.c4, .int .i64 p.c5, .int .i64 p.c6, .int .i64 p.bm, .int .i64 p.smp, .int .i64 p.fmt, .int .i64 p.dfm]] = some (rInt (validP p)) := cSpec_eq encPl_inj p
theorem pl_Validate.ok : SpecOK Try.prog 7 pl_Validate.S := cSpec_ok fun p r h => by
  cases h
  have qsh := shadersS_eq p
  have qlk := linkS_eq p
  have qva := vatsS_eq p.ats
  have qco := compsS_eq p.ats
  have sub0 : ∀ σ T b, σ.tm 1 = some (.box 1 0) → σ.tm T = some (rBool b) → σ.hp 1 = some p.xs → σ.nt = 0 → Sub (St.of [(1, .box 1 0), (T, rBool b)] [(1, p.xs)] [] 0) σ := fun σ T b h1 h2 h3 h4 => sub_of (all_cons h1 (all_cons h2 all_nil)) (all_cons h3 all_nil) all_nil (Nat.le_of_eq h4)
  refine fnLaw Try.func7 pl_Validate.tr rfl hE (ok_cons pl_shaders.ok (ok_cons fetch_Valid.ok (ok_cons fetch_Components.ok (ok_cons pl_linked.ok (ok_cons vp_Valid.ok (ok_cons depth_ValidState.ok (ok_cons st_Valid.ok (ok_cons bl_Valid.ok (ok_cons depth_Bits.ok (ok_cons cov_ValidSamples.ok ok_nil)))))))))) ?_
  unfold pl_Validate.m
  refine seq_ex (σ'' := St.of [(1, .box 1 0)] [(1, p.xs)] [] 0) ⟨_, by simp -implicitDefEqProofs only [pl_Validate.r0, encPl, Pl.cs, ex_nil, ex_cons, exK_some, st_n, st_g, gd_b, gd_u, rn_v, rn_m, rn_s, rn_a, think, prep, mkDsts, St.clear, ev, upd, init, PV.av, St.put, forgetBox, AV.cells, AV.pv, pvs, fillX, chunks, binV, xints, ldX, AV.plain, baseOk, fg_p, fg_tk, mkG, Sig.spec, tab, St.of, κa, κb, κc, κd, κe, κf, κg, κh, if_true, if_false, reduceIte, κi, κj, κk, κl, κm, κn, κo, κp, κq, κr, κs, κt, κu, κv, κw, κx, κy, κz, κa1, κb1, κc1, and_self, and_true, true_and, or_true, true_or, κd1, κe1, κf1, beq_self_eq_true, reduceCtorEq, κg1, κh1, κi1, κj1, κk1, κl1, κm1, κn1, κo1, c3, eq_self, κp1, decide_eq_true_eq, decide_eq_false_iff_not, not_true_eq_false, not_false_eq_true, decide_true, decide_false, κq1]; rfl, sub_of (all_cons rfl all_nil) (all_cons rfl all_nil) all_nil (Nat.le_refl _)⟩ ?_
  refine seq_ (block_ ?_)
  refine seq_ex (σ'' := St.of [(1, .box 1 0), (3, rBool (!shadersB p))] [(1, p.xs)] [] 0) ?_ ?_
  · cases hb : shadersB p
    all_goals exact ⟨_, by simp -implicitDefEqProofs only [pl_Validate.r1, Pl.xs, rBool, rInt, ge_iff_le, gt_iff_lt, qsh, hb, ex_nil, ex_cons, exK_some, st_n, st_g, gd_b, gd_u, rn_v, rn_m, rn_s, rn_a, think, prep, mkDsts, St.clear, ev, upd, init, PV.av, St.put, forgetBox, AV.cells, AV.pv, pvs, fillX, chunks, binV, xints, ldX, AV.plain, baseOk, fg_p, fg_tk, mkG, Sig.spec, tab, St.of, κa, κb, κc, κd, κe, κf, κg, κh, if_true, if_false, reduceIte, κi, κj, κk, κl, κm, κn, κo, κp, κq, κr, κs, κt, κu, κv, κw, κx, κy, κz, κa1, κb1, κc1, and_self, and_true, true_and, or_true, true_or, κd1, κe1, κf1, beq_self_eq_true, reduceCtorEq, κg1, κh1, κi1, κj1, κk1, κl1, κm1, κn1, κo1, c3, eq_self, κp1, decide_eq_true_eq, decide_eq_false_iff_not, not_true_eq_false, not_false_eq_true, decide_true, decide_false, κq1]; rfl, sub0 _ _ _ rfl rfl rfl rfl⟩
  cases h0 : shadersB p with
  | false =>
    have hV : validP p = 17 := by unfold validP; rw [if_pos h0]
    rw [hV]
    refine cond_ rfl (fun _ => ?_) (fun h => by simp at h)
    refine seq_reg (σ' := ?_) ?_ ?_
    rotate_left
    · simp -implicitDefEqProofs only [pl_Validate.r2, ex_nil, ex_cons, exK_some, st_n, st_g, gd_b, gd_u, rn_v, rn_m, rn_s, rn_a, think, prep, mkDsts, St.clear, ev, upd, init, PV.av, St.put, forgetBox, AV.cells, AV.pv, pvs, fillX, chunks, binV, xints, ldX, AV.plain, baseOk, fg_p, fg_tk, mkG, Sig.spec, tab, St.of, κa, κb, κc, κd, κe, κf, κg, κh, if_true, if_false, reduceIte, κi, κj, κk, κl, κm, κn, κo, κp, κq, κr, κs, κt, κu, κv, κw, κx, κy, κz, κa1, κb1, κc1, and_self, and_true, true_and, or_true, true_or, κd1, κe1, κf1, beq_self_eq_true, reduceCtorEq, κg1, κh1, κi1, κj1, κk1, κl1, κm1, κn1, κo1, c3, eq_self, κp1, decide_eq_true_eq, decide_eq_false_iff_not, not_true_eq_false, not_false_eq_true, decide_true, decide_false, κq1]; rfl
    exact ret_ ⟨.inl rfl, _, rfl, AVle.refl _⟩
  | true =>
  refine cond_ rfl (fun h => by simp at h) (fun _ => ?_)
  have hrg := shaders_rngs h0
  replace qlk := qlk hrg
  refine seq_ex (σ'' := St.of [(1, .box 1 0), (7, rBool (!atsB p))] [(1, p.xs)] [] 0) ?_ ?_
  · unfold atsB
    cases hb : attsB p.ats with
    | false =>
      exact ⟨_, by simp -implicitDefEqProofs only [pl_Validate.r3, Pl.xs, rBool, rInt, ge_iff_le, gt_iff_lt, qva, hb, ex_nil, ex_cons, exK_some, st_n, st_g, gd_b, gd_u, rn_v, rn_m, rn_s, rn_a, think, prep, mkDsts, St.clear, ev, upd, init, PV.av, St.put, forgetBox, AV.cells, AV.pv, pvs, fillX, chunks, binV, xints, ldX, AV.plain, baseOk, fg_p, fg_tk, mkG, Sig.spec, tab, St.of, κa, κb, κc, κd, κe, κf, κg, κh, if_true, if_false, reduceIte, κi, κj, κk, κl, κm, κn, κo, κp, κq, κr, κs, κt, κu, κv, κw, κx, κy, κz, κa1, κb1, κc1, and_self, and_true, true_and, or_true, true_or, κd1, κe1, κf1, beq_self_eq_true, reduceCtorEq, κg1, κh1, κi1, κj1, κk1, κl1, κm1, κn1, κo1, c3, eq_self, κp1, decide_eq_true_eq, decide_eq_false_iff_not, not_true_eq_false, not_false_eq_true, decide_true, decide_false, κq1]; rfl, sub0 _ _ _ rfl rfl rfl rfl⟩
    | true =>
      have hl := (of_decide_eq_true hb).1
      by_cases hc : compsL p.ats = p.v.inp
      · have g1 : (compsL p.ats == p.v.inp) = true := by simpa using hc
        have g2 : (compsL p.ats != p.v.inp) = false := by simpa using hc
        rw [g1]
        exact ⟨_, by simp -implicitDefEqProofs only [pl_Validate.r3, Pl.xs, rBool, rInt, ge_iff_le, gt_iff_lt, qva, hb, qco hl, g2, ex_nil, ex_cons, exK_some, st_n, st_g, gd_b, gd_u, rn_v, rn_m, rn_s, rn_a, think, prep, mkDsts, St.clear, ev, upd, init, PV.av, St.put, forgetBox, AV.cells, AV.pv, pvs, fillX, chunks, binV, xints, ldX, AV.plain, baseOk, fg_p, fg_tk, mkG, Sig.spec, tab, St.of, κa, κb, κc, κd, κe, κf, κg, κh, if_true, if_false, reduceIte, κi, κj, κk, κl, κm, κn, κo, κp, κq, κr, κs, κt, κu, κv, κw, κx, κy, κz, κa1, κb1, κc1, and_self, and_true, true_and, or_true, true_or, κd1, κe1, κf1, beq_self_eq_true, reduceCtorEq, κg1, κh1, κi1, κj1, κk1, κl1, κm1, κn1, κo1, c3, eq_self, κp1, decide_eq_true_eq, decide_eq_false_iff_not, not_true_eq_false, not_false_eq_true, decide_true, decide_false, κq1]; rfl, sub0 _ _ _ rfl rfl rfl rfl⟩
      · have g1 : (compsL p.ats == p.v.inp) = false := by simpa using hc
        have g2 : (compsL p.ats != p.v.inp) = true := by simpa using hc
        rw [g1]
        exact ⟨_, by simp -implicitDefEqProofs only [pl_Validate.r3, Pl.xs, rBool, rInt, ge_iff_le, gt_iff_lt, qva, hb, qco hl, g2, ex_nil, ex_cons, exK_some, st_n, st_g, gd_b, gd_u, rn_v, rn_m, rn_s, rn_a, think, prep, mkDsts, St.clear, ev, upd, init, PV.av, St.put, forgetBox, AV.cells, AV.pv, pvs, fillX, chunks, binV, xints, ldX, AV.plain, baseOk, fg_p, fg_tk, mkG, Sig.spec, tab, St.of, κa, κb, κc, κd, κe, κf, κg, κh, if_true, if_false, reduceIte, κi, κj, κk, κl, κm, κn, κo, κp, κq, κr, κs, κt, κu, κv, κw, κx, κy, κz, κa1, κb1, κc1, and_self, and_true, true_and, or_true, true_or, κd1, κe1, κf1, beq_self_eq_true, reduceCtorEq, κg1, κh1, κi1, κj1, κk1, κl1, κm1, κn1, κo1, c3, eq_self, κp1, decide_eq_true_eq, decide_eq_false_iff_not, not_true_eq_false, not_false_eq_true, decide_true, decide_false, κq1]; rfl, sub0 _ _ _ rfl rfl rfl rfl⟩
  cases h1 : atsB p with
  | false =>
    have hV : validP p = 11 := by unfold validP; rw [if_neg (by rw [h0]; simp), if_pos h1]
    rw [hV]
    refine cond_ rfl (fun _ => ?_) (fun h => by simp at h)
    refine seq_reg (σ' := ?_) ?_ ?_
    rotate_left
    · simp -implicitDefEqProofs only [pl_Validate.r4, ex_nil, ex_cons, exK_some, st_n, st_g, gd_b, gd_u, rn_v, rn_m, rn_s, rn_a, think, prep, mkDsts, St.clear, ev, upd, init, PV.av, St.put, forgetBox, AV.cells, AV.pv, pvs, fillX, chunks, binV, xints, ldX, AV.plain, baseOk, fg_p, fg_tk, mkG, Sig.spec, tab, St.of, κa, κb, κc, κd, κe, κf, κg, κh, if_true, if_false, reduceIte, κi, κj, κk, κl, κm, κn, κo, κp, κq, κr, κs, κt, κu, κv, κw, κx, κy, κz, κa1, κb1, κc1, and_self, and_true, true_and, or_true, true_or, κd1, κe1, κf1, beq_self_eq_true, reduceCtorEq, κg1, κh1, κi1, κj1, κk1, κl1, κm1, κn1, κo1, c3, eq_self, κp1, decide_eq_true_eq, decide_eq_false_iff_not, not_true_eq_false, not_false_eq_true, decide_true, decide_false, κq1]; rfl
    exact ret_ ⟨.inl rfl, _, rfl, AVle.refl _⟩
  | true =>
  refine cond_ rfl (fun h => by simp at h) (fun _ => ?_)
  refine seq_ex (σ'' := St.of [(1, .box 1 0), (21, rBool (!linkB p))] [(1, p.xs)] [] 0) ?_ ?_
  · cases hb : linkB p
    all_goals exact ⟨_, by simp -implicitDefEqProofs only [pl_Validate.r5, Pl.xs, rBool, rInt, ge_iff_le, gt_iff_lt, qlk, hb, ex_nil, ex_cons, exK_some, st_n, st_g, gd_b, gd_u, rn_v, rn_m, rn_s, rn_a, think, prep, mkDsts, St.clear, ev, upd, init, PV.av, St.put, forgetBox, AV.cells, AV.pv, pvs, fillX, chunks, binV, xints, ldX, AV.plain, baseOk, fg_p, fg_tk, mkG, Sig.spec, tab, St.of, κa, κb, κc, κd, κe, κf, κg, κh, if_true, if_false, reduceIte, κi, κj, κk, κl, κm, κn, κo, κp, κq, κr, κs, κt, κu, κv, κw, κx, κy, κz, κa1, κb1, κc1, and_self, and_true, true_and, or_true, true_or, κd1, κe1, κf1, beq_self_eq_true, reduceCtorEq, κg1, κh1, κi1, κj1, κk1, κl1, κm1, κn1, κo1, c3, eq_self, κp1, decide_eq_true_eq, decide_eq_false_iff_not, not_true_eq_false, not_false_eq_true, decide_true, decide_false, κq1]; rfl, sub0 _ _ _ rfl rfl rfl rfl⟩
  cases h2 : linkB p with
  | false =>
    have hV : validP p = 18 := by unfold validP; rw [if_neg (by rw [h0]; simp), if_neg (by rw [h1]; simp), if_pos h2]
    rw [hV]
    refine cond_ rfl (fun _ => ?_) (fun h => by simp at h)
    refine seq_reg (σ' := ?_) ?_ ?_
    rotate_left
    · simp -implicitDefEqProofs only [pl_Validate.r6, ex_nil, ex_cons, exK_some, st_n, st_g, gd_b, gd_u, rn_v, rn_m, rn_s, rn_a, think, prep, mkDsts, St.clear, ev, upd, init, PV.av, St.put, forgetBox, AV.cells, AV.pv, pvs, fillX, chunks, binV, xints, ldX, AV.plain, baseOk, fg_p, fg_tk, mkG, Sig.spec, tab, St.of, κa, κb, κc, κd, κe, κf, κg, κh, if_true, if_false, reduceIte, κi, κj, κk, κl, κm, κn, κo, κp, κq, κr, κs, κt, κu, κv, κw, κx, κy, κz, κa1, κb1, κc1, and_self, and_true, true_and, or_true, true_or, κd1, κe1, κf1, beq_self_eq_true, reduceCtorEq, κg1, κh1, κi1, κj1, κk1, κl1, κm1, κn1, κo1, c3, eq_self, κp1, decide_eq_true_eq, decide_eq_false_iff_not, not_true_eq_false, not_false_eq_true, decide_true, decide_false, κq1]; rfl
    exact ret_ ⟨.inl rfl, _, rfl, AVle.refl _⟩
  | true =>
  refine cond_ rfl (fun h => by simp at h) (fun _ => ?_)
  refine seq_ex (σ'' := St.of [(1, .box 1 0), (25, rBool (!kdB p))] [(1, p.xs)] [] 0) ?_ ?_
  · by_cases c0 : p.topo < 1
    · have hp : kdB p = false := decide_eq_false (fun h => by have := h.1; omega)
      rw [hp]
      exact ⟨_, by simp -implicitDefEqProofs only [pl_Validate.r7, Pl.xs, rBool, rInt, ge_iff_le, gt_iff_lt, c0, ex_nil, ex_cons, exK_some, st_n, st_g, gd_b, gd_u, rn_v, rn_m, rn_s, rn_a, think, prep, mkDsts, St.clear, ev, upd, init, PV.av, St.put, forgetBox, AV.cells, AV.pv, pvs, fillX, chunks, binV, xints, ldX, AV.plain, baseOk, fg_p, fg_tk, mkG, Sig.spec, tab, St.of, κa, κb, κc, κd, κe, κf, κg, κh, if_true, if_false, reduceIte, κi, κj, κk, κl, κm, κn, κo, κp, κq, κr, κs, κt, κu, κv, κw, κx, κy, κz, κa1, κb1, κc1, and_self, and_true, true_and, or_true, true_or, κd1, κe1, κf1, beq_self_eq_true, reduceCtorEq, κg1, κh1, κi1, κj1, κk1, κl1, κm1, κn1, κo1, c3, eq_self, κp1, decide_eq_true_eq, decide_eq_false_iff_not, not_true_eq_false, not_false_eq_true, decide_true, decide_false, κq1]; rfl, sub0 _ _ _ rfl rfl rfl rfl⟩
    by_cases c1 : 3 < p.topo
    · have hp : kdB p = false := decide_eq_false (fun h => by have := h.2.1; omega)
      rw [hp]
      exact ⟨_, by simp -implicitDefEqProofs only [pl_Validate.r7, Pl.xs, rBool, rInt, ge_iff_le, gt_iff_lt, c0, c1, ex_nil, ex_cons, exK_some, st_n, st_g, gd_b, gd_u, rn_v, rn_m, rn_s, rn_a, think, prep, mkDsts, St.clear, ev, upd, init, PV.av, St.put, forgetBox, AV.cells, AV.pv, pvs, fillX, chunks, binV, xints, ldX, AV.plain, baseOk, fg_p, fg_tk, mkG, Sig.spec, tab, St.of, κa, κb, κc, κd, κe, κf, κg, κh, if_true, if_false, reduceIte, κi, κj, κk, κl, κm, κn, κo, κp, κq, κr, κs, κt, κu, κv, κw, κx, κy, κz, κa1, κb1, κc1, and_self, and_true, true_and, or_true, true_or, κd1, κe1, κf1, beq_self_eq_true, reduceCtorEq, κg1, κh1, κi1, κj1, κk1, κl1, κm1, κn1, κo1, c3, eq_self, κp1, decide_eq_true_eq, decide_eq_false_iff_not, not_true_eq_false, not_false_eq_true, decide_true, decide_false, κq1]; rfl, sub0 _ _ _ rfl rfl rfl rfl⟩
    by_cases c2 : p.cull < 1
    · have hp : kdB p = false := decide_eq_false (fun h => by have := h.2.2.1; omega)
      rw [hp]
      exact ⟨_, by simp -implicitDefEqProofs only [pl_Validate.r7, Pl.xs, rBool, rInt, ge_iff_le, gt_iff_lt, c0, c1, c2, ex_nil, ex_cons, exK_some, st_n, st_g, gd_b, gd_u, rn_v, rn_m, rn_s, rn_a, think, prep, mkDsts, St.clear, ev, upd, init, PV.av, St.put, forgetBox, AV.cells, AV.pv, pvs, fillX, chunks, binV, xints, ldX, AV.plain, baseOk, fg_p, fg_tk, mkG, Sig.spec, tab, St.of, κa, κb, κc, κd, κe, κf, κg, κh, if_true, if_false, reduceIte, κi, κj, κk, κl, κm, κn, κo, κp, κq, κr, κs, κt, κu, κv, κw, κx, κy, κz, κa1, κb1, κc1, and_self, and_true, true_and, or_true, true_or, κd1, κe1, κf1, beq_self_eq_true, reduceCtorEq, κg1, κh1, κi1, κj1, κk1, κl1, κm1, κn1, κo1, c3, eq_self, κp1, decide_eq_true_eq, decide_eq_false_iff_not, not_true_eq_false, not_false_eq_true, decide_true, decide_false, κq1]; rfl, sub0 _ _ _ rfl rfl rfl rfl⟩
    by_cases c3 : 3 < p.cull
    · have hp : kdB p = false := decide_eq_false (fun h => by have := h.2.2.2; omega)
      rw [hp]
      exact ⟨_, by simp -implicitDefEqProofs only [pl_Validate.r7, Pl.xs, rBool, rInt, ge_iff_le, gt_iff_lt, c0, c1, c2, c3, ex_nil, ex_cons, exK_some, st_n, st_g, gd_b, gd_u, rn_v, rn_m, rn_s, rn_a, think, prep, mkDsts, St.clear, ev, upd, init, PV.av, St.put, forgetBox, AV.cells, AV.pv, pvs, fillX, chunks, binV, xints, ldX, AV.plain, baseOk, fg_p, fg_tk, mkG, Sig.spec, tab, St.of, κa, κb, κc, κd, κe, κf, κg, κh, if_true, if_false, reduceIte, κi, κj, κk, κl, κm, κn, κo, κp, κq, κr, κs, κt, κu, κv, κw, κx, κy, κz, κa1, κb1, κc1, and_self, and_true, true_and, or_true, true_or, κd1, κe1, κf1, beq_self_eq_true, reduceCtorEq, κg1, κh1, κi1, κj1, κk1, κl1, κm1, κn1, κo1, c3, eq_self, κp1, decide_eq_true_eq, decide_eq_false_iff_not, not_true_eq_false, not_false_eq_true, decide_true, decide_false, κq1]; rfl, sub0 _ _ _ rfl rfl rfl rfl⟩
    have hp : kdB p = true := decide_eq_true ⟨by omega, by omega, by omega, by omega⟩
    rw [hp]
    exact ⟨_, by simp -implicitDefEqProofs only [pl_Validate.r7, Pl.xs, rBool, rInt, ge_iff_le, gt_iff_lt, c0, c1, c2, c3, ex_nil, ex_cons, exK_some, st_n, st_g, gd_b, gd_u, rn_v, rn_m, rn_s, rn_a, think, prep, mkDsts, St.clear, ev, upd, init, PV.av, St.put, forgetBox, AV.cells, AV.pv, pvs, fillX, chunks, binV, xints, ldX, AV.plain, baseOk, fg_p, fg_tk, mkG, Sig.spec, tab, St.of, κa, κb, κc, κd, κe, κf, κg, κh, if_true, if_false, reduceIte, κi, κj, κk, κl, κm, κn, κo, κp, κq, κr, κs, κt, κu, κv, κw, κx, κy, κz, κa1, κb1, κc1, and_self, and_true, true_and, or_true, true_or, κd1, κe1, κf1, beq_self_eq_true, reduceCtorEq, κg1, κh1, κi1, κj1, κk1, κl1, κm1, κn1, κo1, c3, eq_self, κp1, decide_eq_true_eq, decide_eq_false_iff_not, not_true_eq_false, not_false_eq_true, decide_true, decide_false, κq1]; rfl, sub0 _ _ _ rfl rfl rfl rfl⟩
  cases h3 : kdB p with
  | false =>
    have hV : validP p = 10 := by unfold validP; rw [if_neg (by rw [h0]; simp), if_neg (by rw [h1]; simp), if_neg (by rw [h2]; simp), if_pos h3]
    rw [hV]
    refine cond_ rfl (fun _ => ?_) (fun h => by simp at h)
    refine seq_reg (σ' := ?_) ?_ ?_
    rotate_left
    · simp -implicitDefEqProofs only [pl_Validate.r8, ex_nil, ex_cons, exK_some, st_n, st_g, gd_b, gd_u, rn_v, rn_m, rn_s, rn_a, think, prep, mkDsts, St.clear, ev, upd, init, PV.av, St.put, forgetBox, AV.cells, AV.pv, pvs, fillX, chunks, binV, xints, ldX, AV.plain, baseOk, fg_p, fg_tk, mkG, Sig.spec, tab, St.of, κa, κb, κc, κd, κe, κf, κg, κh, if_true, if_false, reduceIte, κi, κj, κk, κl, κm, κn, κo, κp, κq, κr, κs, κt, κu, κv, κw, κx, κy, κz, κa1, κb1, κc1, and_self, and_true, true_and, or_true, true_or, κd1, κe1, κf1, beq_self_eq_true, reduceCtorEq, κg1, κh1, κi1, κj1, κk1, κl1, κm1, κn1, κo1, c3, eq_self, κp1, decide_eq_true_eq, decide_eq_false_iff_not, not_true_eq_false, not_false_eq_true, decide_true, decide_false, κq1]; rfl
    exact ret_ ⟨.inl rfl, _, rfl, AVle.refl _⟩
  | true =>
  refine cond_ rfl (fun h => by simp at h) (fun _ => ?_)
  refine seq_ex (σ'' := St.of [(1, .box 1 0), (44, rBool (!vptB p))] [(1, p.xs)] [] 0) ?_ ?_
  · unfold vptB
    cases hb : vpB p.vx p.vy p.vw p.vh p.vn p.vm
    all_goals exact ⟨_, by simp -implicitDefEqProofs only [pl_Validate.r9, Pl.xs, rBool, rInt, ge_iff_le, gt_iff_lt, vp_Valid.S, hb, ex_nil, ex_cons, exK_some, st_n, st_g, gd_b, gd_u, rn_v, rn_m, rn_s, rn_a, think, prep, mkDsts, St.clear, ev, upd, init, PV.av, St.put, forgetBox, AV.cells, AV.pv, pvs, fillX, chunks, binV, xints, ldX, AV.plain, baseOk, fg_p, fg_tk, mkG, Sig.spec, tab, St.of, κa, κb, κc, κd, κe, κf, κg, κh, if_true, if_false, reduceIte, κi, κj, κk, κl, κm, κn, κo, κp, κq, κr, κs, κt, κu, κv, κw, κx, κy, κz, κa1, κb1, κc1, and_self, and_true, true_and, or_true, true_or, κd1, κe1, κf1, beq_self_eq_true, reduceCtorEq, κg1, κh1, κi1, κj1, κk1, κl1, κm1, κn1, κo1, c3, eq_self, κp1, decide_eq_true_eq, decide_eq_false_iff_not, not_true_eq_false, not_false_eq_true, decide_true, decide_false, κq1]; rfl, sub0 _ _ _ rfl rfl rfl rfl⟩
  cases h4 : vptB p with
  | false =>
    have hV : validP p = 6 := by unfold validP; rw [if_neg (by rw [h0]; simp), if_neg (by rw [h1]; simp), if_neg (by rw [h2]; simp), if_neg (by rw [h3]; simp), if_pos h4]
    rw [hV]
    refine cond_ rfl (fun _ => ?_) (fun h => by simp at h)
    refine seq_reg (σ' := ?_) ?_ ?_
    rotate_left
    · simp -implicitDefEqProofs only [pl_Validate.r10, ex_nil, ex_cons, exK_some, st_n, st_g, gd_b, gd_u, rn_v, rn_m, rn_s, rn_a, think, prep, mkDsts, St.clear, ev, upd, init, PV.av, St.put, forgetBox, AV.cells, AV.pv, pvs, fillX, chunks, binV, xints, ldX, AV.plain, baseOk, fg_p, fg_tk, mkG, Sig.spec, tab, St.of, κa, κb, κc, κd, κe, κf, κg, κh, if_true, if_false, reduceIte, κi, κj, κk, κl, κm, κn, κo, κp, κq, κr, κs, κt, κu, κv, κw, κx, κy, κz, κa1, κb1, κc1, and_self, and_true, true_and, or_true, true_or, κd1, κe1, κf1, beq_self_eq_true, reduceCtorEq, κg1, κh1, κi1, κj1, κk1, κl1, κm1, κn1, κo1, c3, eq_self, κp1, decide_eq_true_eq, decide_eq_false_iff_not, not_true_eq_false, not_false_eq_true, decide_true, decide_false, κq1]; rfl
    exact ret_ ⟨.inl rfl, _, rfl, AVle.refl _⟩
  | true =>
  refine cond_ rfl (fun h => by simp at h) (fun _ => ?_)
  refine seq_ex (σ'' := St.of [(1, .box 1 0), (49, rBool (!sxB p))] [(1, p.xs)] [] 0) ?_ ?_
  · unfold sxB
    cases hb : dsB p.dc p.db <;> cases hc : stB p.f1 p.f2 p.f3 p.f4 p.b1 p.b2 p.b3 p.b4 p.sr p.sm p.sw <;> cases hd : blB p.c1 p.c2 p.c3 p.c4 p.c5 p.c6 p.bm
    all_goals exact ⟨_, by simp -implicitDefEqProofs only [pl_Validate.r11, Pl.xs, rBool, rInt, ge_iff_le, gt_iff_lt, depth_ValidState.S, st_Valid.S, bl_Valid.S, hb, hc, hd, ex_nil, ex_cons, exK_some, st_n, st_g, gd_b, gd_u, rn_v, rn_m, rn_s, rn_a, think, prep, mkDsts, St.clear, ev, upd, init, PV.av, St.put, forgetBox, AV.cells, AV.pv, pvs, fillX, chunks, binV, xints, ldX, AV.plain, baseOk, fg_p, fg_tk, mkG, Sig.spec, tab, St.of, κa, κb, κc, κd, κe, κf, κg, κh, if_true, if_false, reduceIte, κi, κj, κk, κl, κm, κn, κo, κp, κq, κr, κs, κt, κu, κv, κw, κx, κy, κz, κa1, κb1, κc1, and_self, and_true, true_and, or_true, true_or, κd1, κe1, κf1, beq_self_eq_true, reduceCtorEq, κg1, κh1, κi1, κj1, κk1, κl1, κm1, κn1, κo1, c3, eq_self, κp1, decide_eq_true_eq, decide_eq_false_iff_not, not_true_eq_false, not_false_eq_true, decide_true, decide_false, κq1]; rfl, sub0 _ _ _ rfl rfl rfl rfl⟩
  cases h5 : sxB p with
  | false =>
    have hV : validP p = 16 := by unfold validP; rw [if_neg (by rw [h0]; simp), if_neg (by rw [h1]; simp), if_neg (by rw [h2]; simp), if_neg (by rw [h3]; simp), if_neg (by rw [h4]; simp), if_pos h5]
    rw [hV]
    refine cond_ rfl (fun _ => ?_) (fun h => by simp at h)
    refine seq_reg (σ' := ?_) ?_ ?_
    rotate_left
    · simp -implicitDefEqProofs only [pl_Validate.r12, ex_nil, ex_cons, exK_some, st_n, st_g, gd_b, gd_u, rn_v, rn_m, rn_s, rn_a, think, prep, mkDsts, St.clear, ev, upd, init, PV.av, St.put, forgetBox, AV.cells, AV.pv, pvs, fillX, chunks, binV, xints, ldX, AV.plain, baseOk, fg_p, fg_tk, mkG, Sig.spec, tab, St.of, κa, κb, κc, κd, κe, κf, κg, κh, if_true, if_false, reduceIte, κi, κj, κk, κl, κm, κn, κo, κp, κq, κr, κs, κt, κu, κv, κw, κx, κy, κz, κa1, κb1, κc1, and_self, and_true, true_and, or_true, true_or, κd1, κe1, κf1, beq_self_eq_true, reduceCtorEq, κg1, κh1, κi1, κj1, κk1, κl1, κm1, κn1, κo1, c3, eq_self, κp1, decide_eq_true_eq, decide_eq_false_iff_not, not_true_eq_false, not_false_eq_true, decide_true, decide_false, κq1]; rfl
    exact ret_ ⟨.inl rfl, _, rfl, AVle.refl _⟩
  | true =>
  refine cond_ rfl (fun h => by simp at h) (fun _ => ?_)
  refine seq_ex (σ'' := St.of [(1, .box 1 0), (66, rBool (!fmB p))] [(1, p.xs)] [] 0) ?_ ?_
  · by_cases c0 : p.fmt < 1
    · have hp : fmB p = false := decide_eq_false (fun h => by have := h.1; omega)
      rw [hp]
      exact ⟨_, by simp -implicitDefEqProofs only [pl_Validate.r13, Pl.xs, rBool, rInt, ge_iff_le, gt_iff_lt, depth_Bits.S, c0, ex_nil, ex_cons, exK_some, st_n, st_g, gd_b, gd_u, rn_v, rn_m, rn_s, rn_a, think, prep, mkDsts, St.clear, ev, upd, init, PV.av, St.put, forgetBox, AV.cells, AV.pv, pvs, fillX, chunks, binV, xints, ldX, AV.plain, baseOk, fg_p, fg_tk, mkG, Sig.spec, tab, St.of, κa, κb, κc, κd, κe, κf, κg, κh, if_true, if_false, reduceIte, κi, κj, κk, κl, κm, κn, κo, κp, κq, κr, κs, κt, κu, κv, κw, κx, κy, κz, κa1, κb1, κc1, and_self, and_true, true_and, or_true, true_or, κd1, κe1, κf1, beq_self_eq_true, reduceCtorEq, κg1, κh1, κi1, κj1, κk1, κl1, κm1, κn1, κo1, c3, eq_self, κp1, decide_eq_true_eq, decide_eq_false_iff_not, not_true_eq_false, not_false_eq_true, decide_true, decide_false, κq1]; rfl, sub0 _ _ _ rfl rfl rfl rfl⟩
    by_cases c1 : 6 < p.fmt
    · have hp : fmB p = false := decide_eq_false (fun h => by have := h.2.1; omega)
      rw [hp]
      exact ⟨_, by simp -implicitDefEqProofs only [pl_Validate.r13, Pl.xs, rBool, rInt, ge_iff_le, gt_iff_lt, depth_Bits.S, c0, c1, ex_nil, ex_cons, exK_some, st_n, st_g, gd_b, gd_u, rn_v, rn_m, rn_s, rn_a, think, prep, mkDsts, St.clear, ev, upd, init, PV.av, St.put, forgetBox, AV.cells, AV.pv, pvs, fillX, chunks, binV, xints, ldX, AV.plain, baseOk, fg_p, fg_tk, mkG, Sig.spec, tab, St.of, κa, κb, κc, κd, κe, κf, κg, κh, if_true, if_false, reduceIte, κi, κj, κk, κl, κm, κn, κo, κp, κq, κr, κs, κt, κu, κv, κw, κx, κy, κz, κa1, κb1, κc1, and_self, and_true, true_and, or_true, true_or, κd1, κe1, κf1, beq_self_eq_true, reduceCtorEq, κg1, κh1, κi1, κj1, κk1, κl1, κm1, κn1, κo1, c3, eq_self, κp1, decide_eq_true_eq, decide_eq_false_iff_not, not_true_eq_false, not_false_eq_true, decide_true, decide_false, κq1]; rfl, sub0 _ _ _ rfl rfl rfl rfl⟩
    by_cases c2 : bitsF p.dfm < 0
    · have hp : fmB p = false := decide_eq_false (fun h => by have := h.2.2; omega)
      rw [hp]
      exact ⟨_, by simp -implicitDefEqProofs only [pl_Validate.r13, Pl.xs, rBool, rInt, ge_iff_le, gt_iff_lt, depth_Bits.S, c0, c1, c2, ex_nil, ex_cons, exK_some, st_n, st_g, gd_b, gd_u, rn_v, rn_m, rn_s, rn_a, think, prep, mkDsts, St.clear, ev, upd, init, PV.av, St.put, forgetBox, AV.cells, AV.pv, pvs, fillX, chunks, binV, xints, ldX, AV.plain, baseOk, fg_p, fg_tk, mkG, Sig.spec, tab, St.of, κa, κb, κc, κd, κe, κf, κg, κh, if_true, if_false, reduceIte, κi, κj, κk, κl, κm, κn, κo, κp, κq, κr, κs, κt, κu, κv, κw, κx, κy, κz, κa1, κb1, κc1, and_self, and_true, true_and, or_true, true_or, κd1, κe1, κf1, beq_self_eq_true, reduceCtorEq, κg1, κh1, κi1, κj1, κk1, κl1, κm1, κn1, κo1, c3, eq_self, κp1, decide_eq_true_eq, decide_eq_false_iff_not, not_true_eq_false, not_false_eq_true, decide_true, decide_false, κq1]; rfl, sub0 _ _ _ rfl rfl rfl rfl⟩
    have hp : fmB p = true := decide_eq_true ⟨by omega, by omega, by omega⟩
    rw [hp]
    exact ⟨_, by simp -implicitDefEqProofs only [pl_Validate.r13, Pl.xs, rBool, rInt, ge_iff_le, gt_iff_lt, depth_Bits.S, c0, c1, c2, ex_nil, ex_cons, exK_some, st_n, st_g, gd_b, gd_u, rn_v, rn_m, rn_s, rn_a, think, prep, mkDsts, St.clear, ev, upd, init, PV.av, St.put, forgetBox, AV.cells, AV.pv, pvs, fillX, chunks, binV, xints, ldX, AV.plain, baseOk, fg_p, fg_tk, mkG, Sig.spec, tab, St.of, κa, κb, κc, κd, κe, κf, κg, κh, if_true, if_false, reduceIte, κi, κj, κk, κl, κm, κn, κo, κp, κq, κr, κs, κt, κu, κv, κw, κx, κy, κz, κa1, κb1, κc1, and_self, and_true, true_and, or_true, true_or, κd1, κe1, κf1, beq_self_eq_true, reduceCtorEq, κg1, κh1, κi1, κj1, κk1, κl1, κm1, κn1, κo1, c3, eq_self, κp1, decide_eq_true_eq, decide_eq_false_iff_not, not_true_eq_false, not_false_eq_true, decide_true, decide_false, κq1]; rfl, sub0 _ _ _ rfl rfl rfl rfl⟩
  cases h6 : fmB p with
  | false =>
    have hV : validP p = 14 := by unfold validP; rw [if_neg (by rw [h0]; simp), if_neg (by rw [h1]; simp), if_neg (by rw [h2]; simp), if_neg (by rw [h3]; simp), if_neg (by rw [h4]; simp), if_neg (by rw [h5]; simp), if_pos h6]
    rw [hV]
    refine cond_ rfl (fun _ => ?_) (fun h => by simp at h)
    refine seq_reg (σ' := ?_) ?_ ?_
    rotate_left
    · simp -implicitDefEqProofs only [pl_Validate.r14, ex_nil, ex_cons, exK_some, st_n, st_g, gd_b, gd_u, rn_v, rn_m, rn_s, rn_a, think, prep, mkDsts, St.clear, ev, upd, init, PV.av, St.put, forgetBox, AV.cells, AV.pv, pvs, fillX, chunks, binV, xints, ldX, AV.plain, baseOk, fg_p, fg_tk, mkG, Sig.spec, tab, St.of, κa, κb, κc, κd, κe, κf, κg, κh, if_true, if_false, reduceIte, κi, κj, κk, κl, κm, κn, κo, κp, κq, κr, κs, κt, κu, κv, κw, κx, κy, κz, κa1, κb1, κc1, and_self, and_true, true_and, or_true, true_or, κd1, κe1, κf1, beq_self_eq_true, reduceCtorEq, κg1, κh1, κi1, κj1, κk1, κl1, κm1, κn1, κo1, c3, eq_self, κp1, decide_eq_true_eq, decide_eq_false_iff_not, not_true_eq_false, not_false_eq_true, decide_true, decide_false, κq1]; rfl
    exact ret_ ⟨.inl rfl, _, rfl, AVle.refl _⟩
  | true =>
  refine cond_ rfl (fun h => by simp at h) (fun _ => ?_)
  refine seq_ex (σ'' := St.of [(1, .box 1 0), (81, rBool (!sampB p.smp))] [(1, p.xs)] [] 0) ?_ ?_
  · cases hb : sampB p.smp
    all_goals exact ⟨_, by simp -implicitDefEqProofs only [pl_Validate.r15, Pl.xs, rBool, rInt, ge_iff_le, gt_iff_lt, cov_ValidSamples.S, hb, ex_nil, ex_cons, exK_some, st_n, st_g, gd_b, gd_u, rn_v, rn_m, rn_s, rn_a, think, prep, mkDsts, St.clear, ev, upd, init, PV.av, St.put, forgetBox, AV.cells, AV.pv, pvs, fillX, chunks, binV, xints, ldX, AV.plain, baseOk, fg_p, fg_tk, mkG, Sig.spec, tab, St.of, κa, κb, κc, κd, κe, κf, κg, κh, if_true, if_false, reduceIte, κi, κj, κk, κl, κm, κn, κo, κp, κq, κr, κs, κt, κu, κv, κw, κx, κy, κz, κa1, κb1, κc1, and_self, and_true, true_and, or_true, true_or, κd1, κe1, κf1, beq_self_eq_true, reduceCtorEq, κg1, κh1, κi1, κj1, κk1, κl1, κm1, κn1, κo1, c3, eq_self, κp1, decide_eq_true_eq, decide_eq_false_iff_not, not_true_eq_false, not_false_eq_true, decide_true, decide_false, κq1]; rfl, sub0 _ _ _ rfl rfl rfl rfl⟩
  cases h7 : sampB p.smp with
  | false =>
    have hV : validP p = 15 := by unfold validP; rw [if_neg (by rw [h0]; simp), if_neg (by rw [h1]; simp), if_neg (by rw [h2]; simp), if_neg (by rw [h3]; simp), if_neg (by rw [h4]; simp), if_neg (by rw [h5]; simp), if_neg (by rw [h6]; simp), if_pos h7]
    rw [hV]
    refine cond_ rfl (fun _ => ?_) (fun h => by simp at h)
    refine seq_reg (σ' := ?_) ?_ ?_
    rotate_left
    · simp -implicitDefEqProofs only [pl_Validate.r16, ex_nil, ex_cons, exK_some, st_n, st_g, gd_b, gd_u, rn_v, rn_m, rn_s, rn_a, think, prep, mkDsts, St.clear, ev, upd, init, PV.av, St.put, forgetBox, AV.cells, AV.pv, pvs, fillX, chunks, binV, xints, ldX, AV.plain, baseOk, fg_p, fg_tk, mkG, Sig.spec, tab, St.of, κa, κb, κc, κd, κe, κf, κg, κh, if_true, if_false, reduceIte, κi, κj, κk, κl, κm, κn, κo, κp, κq, κr, κs, κt, κu, κv, κw, κx, κy, κz, κa1, κb1, κc1, and_self, and_true, true_and, or_true, true_or, κd1, κe1, κf1, beq_self_eq_true, reduceCtorEq, κg1, κh1, κi1, κj1, κk1, κl1, κm1, κn1, κo1, c3, eq_self, κp1, decide_eq_true_eq, decide_eq_false_iff_not, not_true_eq_false, not_false_eq_true, decide_true, decide_false, κq1]; rfl
    exact ret_ ⟨.inl rfl, _, rfl, AVle.refl _⟩
  | true =>
  refine cond_ rfl (fun h => by simp at h) (fun _ => ?_)
  refine skip_ (norm_ ?_)
  have hV : validP p = 0 := by unfold validP; rw [if_neg (by rw [h0]; simp), if_neg (by rw [h1]; simp), if_neg (by rw [h2]; simp), if_neg (by rw [h3]; simp), if_neg (by rw [h4]; simp), if_neg (by rw [h5]; simp), if_neg (by rw [h6]; simp), if_neg (by rw [h7]; simp)]
  rw [hV]
  refine seq_reg (σ' := ?_) ?_ ?_
  rotate_left
  · simp -implicitDefEqProofs only [pl_Validate.r17, ex_nil, ex_cons, exK_some, st_n, st_g, gd_b, gd_u, rn_v, rn_m, rn_s, rn_a, think, prep, mkDsts, St.clear, ev, upd, init, PV.av, St.put, forgetBox, AV.cells, AV.pv, pvs, fillX, chunks, binV, xints, ldX, AV.plain, baseOk, fg_p, fg_tk, mkG, Sig.spec, tab, St.of, κa, κb, κc, κd, κe, κf, κg, κh, if_true, if_false, reduceIte, κi, κj, κk, κl, κm, κn, κo, κp, κq, κr, κs, κt, κu, κv, κw, κx, κy, κz, κa1, κb1, κc1, and_self, and_true, true_and, or_true, true_or, κd1, κe1, κf1, beq_self_eq_true, reduceCtorEq, κg1, κh1, κi1, κj1, κk1, κl1, κm1, κn1, κo1, c3, eq_self, κp1, decide_eq_true_eq, decide_eq_false_iff_not, not_true_eq_false, not_false_eq_true, decide_true, decide_false, κq1]; rfl
  exact ret_ ⟨.inl rfl, _, rfl, AVle.refl _⟩
end Go.Proofs.Ytjbhhdocbejccaa.Pl
