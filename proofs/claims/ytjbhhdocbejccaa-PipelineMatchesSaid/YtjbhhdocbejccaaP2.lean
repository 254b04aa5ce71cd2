/- Chapter 43: shaders, Varyings, linked, Validate of package pipeline. No condition beyond those that each theorem states. -/
import Derived.Test.YtjbhhdocbejccaaP1
namespace Go.Proofs.Ytjbhhdocbejccaa.Pl
open Go Go.RowKit Go.Proofs.Ytjbhhdocbejccaa.Am
open Go.Proofs.Ytjbhhdocbejccaa.Am renaming ex_nil → κa,ex_cons → κb,exK_some → κc,st_n → κd,st_g → κe,gd_b → κf,gd_u → κg,rn_v → κh,rn_m → κi,rn_s → κj,rn_a → κk,think → κl,prep → κm,mkDsts → κn,ev → κp,upd → κq,init → κr,forgetBox → κu,pvs → κx,fillX → κy,chunks → κz,binV → κa1,xints → κb1,ldX → κc1,baseOk → κe1,fg_p → κf1,fg_tk → κg1,mkG → κh1,tab → κj1,c3 → κa3
open Go.Proofs.Ytjbhhdocbejccaa.Am.St renaming clear → κo,put → κt,of → κk1
open Go.Proofs.Ytjbhhdocbejccaa.Am.PV renaming av → κs
open Go.Proofs.Ytjbhhdocbejccaa.Am.AV renaming cells → κv,pv → κw,plain → κd1
open Go.Proofs.Ytjbhhdocbejccaa.Am.Sig renaming spec → κi1
open List renaming getElem?_cons_zero → κl1,getElem?_cons_succ → κm1,getElem?_nil → κn1,map_cons → κu1,map_nil → κv1,drop_succ_cons → κw1,drop_zero → κx1,take_succ_cons → κy1,take_zero → κz1,length_cons → κa2,length_nil → κb2,length_append → κc2,cons_append → κd2,nil_append → κe2,append_nil → κf2
open Option renaming map_some → κo1,map_none → κp1,bind_some → κq1,isSome_some → κr1,isSome_none → κs1
open Nat renaming reduceEqDiff → κt1,reduceAdd → κg2,reduceMul → κh2,reduceLeDiff → κi2,reduceBEq → κj2,zero_le → κk2,le_refl → κl2,zero_add → κm2,add_zero → κn2
open Bool renaming not_true → κo2,not_false → κp2,false_eq_true → κq2,true_eq_false → κc3
open Int renaming reduceBEq → κr2,reduceBNe → κs2,reduceLT → κt2,reduceLE → κu2,reduceAdd → κv2,reduceToNat → κw2,toNat_zero → κx2,reduceEq → κy2,toNat_natCast → κz2,le_refl → κb3
set_option linter.unusedVariables false
set_option linter.unusedSimpArgs false
set_option maxHeartbeats 16000000
set_option maxRecDepth 100000
def shadersB (p : Pl) : Bool := shB p.v 1 && (shB p.f 3 && (if p.hg = true then shB p.g 2 else zeroB p.g))
noncomputable def pl_shaders.S : Am.Spec := cSpec encPl fun p => some (rBool (shadersB p))
theorem shadersS_eq (p : Pl) : pl_shaders.S [.agg [.int .i64 p.v.st,.int .i64 p.v.rg,.int .i64 p.v.inp,.int .i64 p.v.out,.int .i64 p.v.un,.int .i64 p.v.tx,.int .i64 p.v.bf,.sl 6 (p.v.code.map Ins.cs),.int .i64 p.g.st,.int .i64 p.g.rg,.int .i64 p.g.inp,.int .i64 p.g.out,.int .i64 p.g.un,.int .i64 p.g.tx,.int .i64 p.g.bf,.sl 6 (p.g.code.map Ins.cs),.int .i64 p.f.st,.int .i64 p.f.rg,.int .i64 p.f.inp,.int .i64 p.f.out,.int .i64 p.f.un,.int .i64 p.f.tx,.int .i64 p.f.bf,.sl 6 (p.f.code.map Ins.cs),.bool p.hg,.sl 4 (p.ats.map At.cs),.int .i64 p.topo,.int .i64 p.cull,.bool p.fc,.int .i64 p.vx,.int .i64 p.vy,.int .i64 p.vw,.int .i64 p.vh,.int .i64 p.vn,.int .i64 p.vm,.bool p.dt,.bool p.dw,.int .i64 p.dc,.int .i64 p.db,.bool p.se,.int .i64 p.f1,.int .i64 p.f2,.int .i64 p.f3,.int .i64 p.f4,.int .i64 p.b1,.int .i64 p.b2,.int .i64 p.b3,.int .i64 p.b4,.int .i64 p.sr,.int .i64 p.sm,.int .i64 p.sw,.bool p.be,.int .i64 p.c1,.int .i64 p.c2,.int .i64 p.c3,.int .i64 p.c4,.int .i64 p.c5,.int .i64 p.c6,.int .i64 p.bm,.int .i64 p.smp,.int .i64 p.fmt,.int .i64 p.dfm]] = some (rBool (shadersB p)) := cSpec_eq encPl_inj p
theorem pl_shaders.ok : SpecOK Try.prog 16 pl_shaders.S := cSpec_ok fun p r h => by
  cases h
  refine runC_law (n := 0) Try.func16 pl_shaders.tr rfl hE (ok_cons pl_shader.ok (ok_cons isa_Equal.ok ok_nil)) ?_
  have q1 := shS_eq p.v 1
  have q2 := shS_eq p.f 3
  have q3 := shS_eq p.g 2
  have q4 := eqS_eq p.g
  cases h1 : shB p.v 1 with
  | false =>
    simp only [shadersB,h1,Bool.false_and]
    simp -implicitDefEqProofs only [runC,mrun,result,AV.fin,XV.fin,Option.bind,Option.map,pl_shaders.r0,pl_shaders.r1,pl_shaders.r2,pl_shaders.r3,pl_shaders.r4,pl_shaders.r5,pl_shaders.m,κa,κb,κc,κd,κe,κf,κg,κh,κi,κj,κk,κl,κm,κn,κo,κp,κq,κr,κs,κt,κu,κv,κw,κx,κy,κz,κa1,κb1,κc1,κd1,κe1,κf1,κg1,κh1,κi1,κj1,κk1,κl1,κm1,κn1,κo1,κp1,κq1,κr1,κs1,if_true,if_false,reduceIte,κt1,κu1,κv1,κw1,κx1,κy1,κz1,κa2,κb2,κc2,κd2,κe2,κf2,κg2,κh2,κi2,κj2,κk2,κl2,κm2,κn2,κo2,κp2,κq2,reduceCtorEq,κr2,κs2,κt2,κu2,κv2,κw2,κx2,κy2,κz2,κa3,eq_self,κb3,κc3,zL,encPl,Pl.cs,rBool,q1,h1]
  | true =>
    cases h2 : shB p.f 3 with
    | false =>
      simp only [shadersB,h1,h2,Bool.false_and,Bool.true_and]
      simp -implicitDefEqProofs only [runC,mrun,result,AV.fin,XV.fin,Option.bind,Option.map,pl_shaders.r0,pl_shaders.r1,pl_shaders.r2,pl_shaders.r3,pl_shaders.r4,pl_shaders.r5,pl_shaders.m,κa,κb,κc,κd,κe,κf,κg,κh,κi,κj,κk,κl,κm,κn,κo,κp,κq,κr,κs,κt,κu,κv,κw,κx,κy,κz,κa1,κb1,κc1,κd1,κe1,κf1,κg1,κh1,κi1,κj1,κk1,κl1,κm1,κn1,κo1,κp1,κq1,κr1,κs1,if_true,if_false,reduceIte,κt1,κu1,κv1,κw1,κx1,κy1,κz1,κa2,κb2,κc2,κd2,κe2,κf2,κg2,κh2,κi2,κj2,κk2,κl2,κm2,κn2,κo2,κp2,κq2,reduceCtorEq,κr2,κs2,κt2,κu2,κv2,κw2,κx2,κy2,κz2,κa3,eq_self,κb3,κc3,zL,encPl,Pl.cs,rBool,q1,h1,q2,h2]
    | true =>
      cases h3 : p.hg with
      | true =>
        simp only [shadersB,h1,h2,h3,Bool.true_and,if_true]
        simp -implicitDefEqProofs only [runC,mrun,result,AV.fin,XV.fin,Option.bind,Option.map,pl_shaders.r0,pl_shaders.r1,pl_shaders.r2,pl_shaders.r3,pl_shaders.r4,pl_shaders.r5,pl_shaders.m,κa,κb,κc,κd,κe,κf,κg,κh,κi,κj,κk,κl,κm,κn,κo,κp,κq,κr,κs,κt,κu,κv,κw,κx,κy,κz,κa1,κb1,κc1,κd1,κe1,κf1,κg1,κh1,κi1,κj1,κk1,κl1,κm1,κn1,κo1,κp1,κq1,κr1,κs1,if_true,if_false,reduceIte,κt1,κu1,κv1,κw1,κx1,κy1,κz1,κa2,κb2,κc2,κd2,κe2,κf2,κg2,κh2,κi2,κj2,κk2,κl2,κm2,κn2,κo2,κp2,κq2,reduceCtorEq,κr2,κs2,κt2,κu2,κv2,κw2,κx2,κy2,κz2,κa3,eq_self,κb3,κc3,zL,encPl,Pl.cs,rBool,q1,h1,q2,h2,h3,q3]
      | false =>
        simp only [shadersB,h1,h2,h3,Bool.true_and,Bool.false_eq_true,if_false]
        simp -implicitDefEqProofs only [runC,mrun,result,AV.fin,XV.fin,Option.bind,Option.map,pl_shaders.r0,pl_shaders.r1,pl_shaders.r2,pl_shaders.r3,pl_shaders.r4,pl_shaders.r5,pl_shaders.m,κa,κb,κc,κd,κe,κf,κg,κh,κi,κj,κk,κl,κm,κn,κo,κp,κq,κr,κs,κt,κu,κv,κw,κx,κy,κz,κa1,κb1,κc1,κd1,κe1,κf1,κg1,κh1,κi1,κj1,κk1,κl1,κm1,κn1,κo1,κp1,κq1,κr1,κs1,if_true,if_false,reduceIte,κt1,κu1,κv1,κw1,κx1,κy1,κz1,κa2,κb2,κc2,κd2,κe2,κf2,κg2,κh2,κi2,κj2,κk2,κl2,κm2,κn2,κo2,κp2,κq2,reduceCtorEq,κr2,κs2,κt2,κu2,κv2,κw2,κx2,κy2,κz2,κa3,eq_self,κb3,κc3,zL,encPl,Pl.cs,rBool,q1,h1,q2,h2,h3,q4]
def varN (n : Int) : Int := (if 4 > n then 4 else n) - 4
def outP (p : Pl) : Int := if p.hg = true then p.g.out else p.v.out
def varyF (p : Pl) : Int := varN (outP p)
def rngs (p : Pl) : Bool := rngP p.v && (!p.hg || rngP p.g)
theorem rng_out {p : Pg} (h : rngP p = true) : 0 ≤ p.out ∧ p.out ≤ 32 ∧ 0 ≤ p.inp ∧ p.inp ≤ 32 := by
  simp only [rngP,cmpP,resP,withinB,Bool.and_eq_true,decide_eq_true_eq] at h; omega
noncomputable def pl_Varyings.S : Am.Spec := cSpec encPl fun p => if rngs p = true then some (rInt (varyF p)) else none
theorem varyS_eq (p : Pl) (h : rngs p = true) : pl_Varyings.S [.agg [.int .i64 p.v.st,.int .i64 p.v.rg,.int .i64 p.v.inp,.int .i64 p.v.out,.int .i64 p.v.un,.int .i64 p.v.tx,.int .i64 p.v.bf,.sl 6 (p.v.code.map Ins.cs),.int .i64 p.g.st,.int .i64 p.g.rg,.int .i64 p.g.inp,.int .i64 p.g.out,.int .i64 p.g.un,.int .i64 p.g.tx,.int .i64 p.g.bf,.sl 6 (p.g.code.map Ins.cs),.int .i64 p.f.st,.int .i64 p.f.rg,.int .i64 p.f.inp,.int .i64 p.f.out,.int .i64 p.f.un,.int .i64 p.f.tx,.int .i64 p.f.bf,.sl 6 (p.f.code.map Ins.cs),.bool p.hg,.sl 4 (p.ats.map At.cs),.int .i64 p.topo,.int .i64 p.cull,.bool p.fc,.int .i64 p.vx,.int .i64 p.vy,.int .i64 p.vw,.int .i64 p.vh,.int .i64 p.vn,.int .i64 p.vm,.bool p.dt,.bool p.dw,.int .i64 p.dc,.int .i64 p.db,.bool p.se,.int .i64 p.f1,.int .i64 p.f2,.int .i64 p.f3,.int .i64 p.f4,.int .i64 p.b1,.int .i64 p.b2,.int .i64 p.b3,.int .i64 p.b4,.int .i64 p.sr,.int .i64 p.sm,.int .i64 p.sw,.bool p.be,.int .i64 p.c1,.int .i64 p.c2,.int .i64 p.c3,.int .i64 p.c4,.int .i64 p.c5,.int .i64 p.c6,.int .i64 p.bm,.int .i64 p.smp,.int .i64 p.fmt,.int .i64 p.dfm]] = some (rInt (varyF p)) := by
  have := cSpec_eq (res := fun p => if rngs p = true then some (rInt (varyF p)) else none) encPl_inj p
  rw [if_pos h] at this
  exact this
theorem pl_Varyings.ok : SpecOK Try.prog 36 pl_Varyings.S := cSpec_ok fun p r h => by
  (try simp only at h)
  split at h
  case isFalse => cases h
  rename_i hr
  cases h
  refine runC_law (n := 0) Try.func36 pl_Varyings.tr rfl hE ok_nil ?_
  simp only [rngs,Bool.and_eq_true,Bool.or_eq_true,Bool.not_eq_true'] at hr
  cases hg : p.hg with
  | true =>
    have hb := rng_out (show rngP p.g = true by rcases hr.2 with h | h; rw [hg] at h; cases h; exact h)
    have hw : IntKind.i64.wrap ((if 4 > p.g.out then 4 else p.g.out) - 4) = varN p.g.out := by
      unfold varN; split
      · rfl
      · exact i64_w' (by omega) (by omega)
    simp only [varyF,outP,hg,if_true]
    simp -implicitDefEqProofs only [runC,mrun,result,AV.fin,XV.fin,Option.bind,Option.map,pl_Varyings.r0,pl_Varyings.r1,pl_Varyings.r2,pl_Varyings.r3,pl_Varyings.r4,pl_Varyings.m,κa,κb,κc,κd,κe,κf,κg,κh,κi,κj,κk,κl,κm,κn,κo,κp,κq,κr,κs,κt,κu,κv,κw,κx,κy,κz,κa1,κb1,κc1,κd1,κe1,κf1,κg1,κh1,κi1,κj1,κk1,κl1,κm1,κn1,κo1,κp1,κq1,κr1,κs1,if_true,if_false,reduceIte,κt1,κu1,κv1,κw1,κx1,κy1,κz1,κa2,κb2,κc2,κd2,κe2,κf2,κg2,κh2,κi2,κj2,κk2,κl2,κm2,κn2,κo2,κp2,κq2,reduceCtorEq,κr2,κs2,κt2,κu2,κv2,κw2,κx2,κy2,κz2,κa3,eq_self,κb3,κc3,zL,encPl,Pl.cs,rInt,hg,hw]
  | false =>
    have hb := rng_out hr.1
    have hw : IntKind.i64.wrap ((if 4 > p.v.out then 4 else p.v.out) - 4) = varN p.v.out := by
      unfold varN; split
      · rfl
      · exact i64_w' (by omega) (by omega)
    simp only [varyF,outP,hg,Bool.false_eq_true,if_false]
    simp -implicitDefEqProofs only [runC,mrun,result,AV.fin,XV.fin,Option.bind,Option.map,pl_Varyings.r0,pl_Varyings.r1,pl_Varyings.r2,pl_Varyings.r3,pl_Varyings.r4,pl_Varyings.m,κa,κb,κc,κd,κe,κf,κg,κh,κi,κj,κk,κl,κm,κn,κo,κp,κq,κr,κs,κt,κu,κv,κw,κx,κy,κz,κa1,κb1,κc1,κd1,κe1,κf1,κg1,κh1,κi1,κj1,κk1,κl1,κm1,κn1,κo1,κp1,κq1,κr1,κs1,if_true,if_false,reduceIte,κt1,κu1,κv1,κw1,κx1,κy1,κz1,κa2,κb2,κc2,κd2,κe2,κf2,κg2,κh2,κi2,κj2,κk2,κl2,κm2,κn2,κo2,κp2,κq2,reduceCtorEq,κr2,κs2,κt2,κu2,κv2,κw2,κx2,κy2,κz2,κa3,eq_self,κb3,κc3,zL,encPl,Pl.cs,rInt,hg,hw]
def linkB (p : Pl) : Bool := decide ((p.hg = true → p.g.inp = 3 * p.v.out ∧ 4 ≤ p.g.out) ∧ 4 ≤ p.v.out ∧ p.f.inp = varyF p ∧ 4 ≤ p.f.out)
noncomputable def pl_linked.S : Am.Spec := cSpec encPl fun p => if rngs p = true then some (rBool (linkB p)) else none
theorem linkS_eq (p : Pl) (h : rngs p = true) : pl_linked.S [.agg [.int .i64 p.v.st,.int .i64 p.v.rg,.int .i64 p.v.inp,.int .i64 p.v.out,.int .i64 p.v.un,.int .i64 p.v.tx,.int .i64 p.v.bf,.sl 6 (p.v.code.map Ins.cs),.int .i64 p.g.st,.int .i64 p.g.rg,.int .i64 p.g.inp,.int .i64 p.g.out,.int .i64 p.g.un,.int .i64 p.g.tx,.int .i64 p.g.bf,.sl 6 (p.g.code.map Ins.cs),.int .i64 p.f.st,.int .i64 p.f.rg,.int .i64 p.f.inp,.int .i64 p.f.out,.int .i64 p.f.un,.int .i64 p.f.tx,.int .i64 p.f.bf,.sl 6 (p.f.code.map Ins.cs),.bool p.hg,.sl 4 (p.ats.map At.cs),.int .i64 p.topo,.int .i64 p.cull,.bool p.fc,.int .i64 p.vx,.int .i64 p.vy,.int .i64 p.vw,.int .i64 p.vh,.int .i64 p.vn,.int .i64 p.vm,.bool p.dt,.bool p.dw,.int .i64 p.dc,.int .i64 p.db,.bool p.se,.int .i64 p.f1,.int .i64 p.f2,.int .i64 p.f3,.int .i64 p.f4,.int .i64 p.b1,.int .i64 p.b2,.int .i64 p.b3,.int .i64 p.b4,.int .i64 p.sr,.int .i64 p.sm,.int .i64 p.sw,.bool p.be,.int .i64 p.c1,.int .i64 p.c2,.int .i64 p.c3,.int .i64 p.c4,.int .i64 p.c5,.int .i64 p.c6,.int .i64 p.bm,.int .i64 p.smp,.int .i64 p.fmt,.int .i64 p.dfm]] = some (rBool (linkB p)) := by
  have := cSpec_eq (res := fun p => if rngs p = true then some (rBool (linkB p)) else none) encPl_inj p
  rw [if_pos h] at this
  exact this
theorem pl_linked.ok : SpecOK Try.prog 19 pl_linked.S := cSpec_ok fun p r h => by
  (try simp only at h)
  split at h
  case isFalse => cases h
  rename_i hr
  cases h
  refine fnLaw Try.func19 pl_linked.tr rfl hE (ok_cons pl_Varyings.ok ok_nil) ?_
  have q := varyS_eq p hr
  simp only [rngs,Bool.and_eq_true,Bool.or_eq_true,Bool.not_eq_true'] at hr
  have hb := rng_out hr.1
  have hw : IntKind.i64.wrap (3 * p.v.out) = 3 * p.v.out := i64_w' (by omega) (by omega)
  unfold pl_linked.m
  refine seq_reg (σ' := ?_) ?_ ?_
  rotate_left
  · simp -implicitDefEqProofs only [pl_linked.r0,κa,κb,κc,κd,κe,κf,κg,κh,κi,κj,κk,κl,κm,κn,κo,κp,κq,κr,κs,κt,κu,κv,κw,κx,κy,κz,κa1,κb1,κc1,κd1,κe1,κf1,κg1,κh1,κi1,κj1,κk1,κl1,κm1,κn1,κo1,κp1,κq1,κr1,κs1,if_true,if_false,reduceIte,κt1,κu1,κv1,κw1,κx1,κy1,κz1,κa2,κb2,κc2,κd2,κe2,κf2,κg2,κh2,κi2,κj2,κk2,κl2,κm2,κn2,κo2,κp2,κq2,reduceCtorEq,κr2,κs2,κt2,κu2,κv2,κw2,κx2,κy2,κz2,κa3,eq_self,κb3,κc3,zL,encPl,Pl.cs]; rfl
  refine seq_ (seq_ ?_)
  have rest : ∀ (hgood : p.hg = true → p.g.inp = 3 * p.v.out ∧ 4 ≤ p.g.out),mwp (mkG [(36,pl_Varyings.S)]) (.seq (.reg pl_linked.r3) .ret) (fun e σ => (e = Exit.ret ∨ e = Exit.normal) ∧ ∃ r',result σ (.tmp 2) = some r' ∧ AVle r' (rBool (linkB p))) (St.of [(1,.box 1 0)] [(1,p.xs)] [] 0) := fun hgood => by
    by_cases c1 : 4 ≤ p.v.out
    case neg =>
      have hp : linkB p = false := decide_eq_false (fun h => c1 h.2.1)
      rw [hp]
      refine seq_reg (σ' := ?_) ?_ ?_
      rotate_left
      · simp -implicitDefEqProofs only [pl_linked.r3,κa,κb,κc,κd,κe,κf,κg,κh,κi,κj,κk,κl,κm,κn,κo,κp,κq,κr,κs,κt,κu,κv,κw,κx,κy,κz,κa1,κb1,κc1,κd1,κe1,κf1,κg1,κh1,κi1,κj1,κk1,κl1,κm1,κn1,κo1,κp1,κq1,κr1,κs1,if_true,if_false,reduceIte,κt1,κu1,κv1,κw1,κx1,κy1,κz1,κa2,κb2,κc2,κd2,κe2,κf2,κg2,κh2,κi2,κj2,κk2,κl2,κm2,κn2,κo2,κp2,κq2,reduceCtorEq,κr2,κs2,κt2,κu2,κv2,κw2,κx2,κy2,κz2,κa3,eq_self,κb3,κc3,zL,Pl.xs,ge_iff_le,c1]; rfl
      exact ret_ ⟨.inl rfl,_,rfl,AVle.refl _⟩
    by_cases c2 : p.f.inp = varyF p
    case neg =>
      have hp : linkB p = false := decide_eq_false (fun h => c2 h.2.2.1)
      have g2 : (p.f.inp == varyF p) = false := by simpa using c2
      rw [hp]
      refine seq_reg (σ' := ?_) ?_ ?_
      rotate_left
      · simp -implicitDefEqProofs only [pl_linked.r3,κa,κb,κc,κd,κe,κf,κg,κh,κi,κj,κk,κl,κm,κn,κo,κp,κq,κr,κs,κt,κu,κv,κw,κx,κy,κz,κa1,κb1,κc1,κd1,κe1,κf1,κg1,κh1,κi1,κj1,κk1,κl1,κm1,κn1,κo1,κp1,κq1,κr1,κs1,if_true,if_false,reduceIte,κt1,κu1,κv1,κw1,κx1,κy1,κz1,κa2,κb2,κc2,κd2,κe2,κf2,κg2,κh2,κi2,κj2,κk2,κl2,κm2,κn2,κo2,κp2,κq2,reduceCtorEq,κr2,κs2,κt2,κu2,κv2,κw2,κx2,κy2,κz2,κa3,eq_self,κb3,κc3,zL,Pl.xs,ge_iff_le,c1,q,rInt,g2]; rfl
      exact ret_ ⟨.inl rfl,_,rfl,AVle.refl _⟩
    have g2 : (p.f.inp == varyF p) = true := by simpa using c2
    by_cases c3 : 4 ≤ p.f.out
    · have hp : linkB p = true := decide_eq_true ⟨hgood,c1,c2,c3⟩
      rw [hp]
      refine seq_reg (σ' := ?_) ?_ ?_
      rotate_left
      · simp -implicitDefEqProofs only [pl_linked.r3,κa,κb,κc,κd,κe,κf,κg,κh,κi,κj,κk,κl,κm,κn,κo,κp,κq,κr,κs,κt,κu,κv,κw,κx,κy,κz,κa1,κb1,κc1,κd1,κe1,κf1,κg1,κh1,κi1,κj1,κk1,κl1,κm1,κn1,κo1,κp1,κq1,κr1,κs1,if_true,if_false,reduceIte,κt1,κu1,κv1,κw1,κx1,κy1,κz1,κa2,κb2,κc2,κd2,κe2,κf2,κg2,κh2,κi2,κj2,κk2,κl2,κm2,κn2,κo2,κp2,κq2,reduceCtorEq,κr2,κs2,κt2,κu2,κv2,κw2,κx2,κy2,κz2,κa3,eq_self,κb3,κc3,zL,Pl.xs,ge_iff_le,c1,q,rInt,g2,c3]; rfl
      exact ret_ ⟨.inl rfl,_,rfl,AVle.refl _⟩
    · have hp : linkB p = false := decide_eq_false (fun h => c3 h.2.2.2)
      rw [hp]
      refine seq_reg (σ' := ?_) ?_ ?_
      rotate_left
      · simp -implicitDefEqProofs only [pl_linked.r3,κa,κb,κc,κd,κe,κf,κg,κh,κi,κj,κk,κl,κm,κn,κo,κp,κq,κr,κs,κt,κu,κv,κw,κx,κy,κz,κa1,κb1,κc1,κd1,κe1,κf1,κg1,κh1,κi1,κj1,κk1,κl1,κm1,κn1,κo1,κp1,κq1,κr1,κs1,if_true,if_false,reduceIte,κt1,κu1,κv1,κw1,κx1,κy1,κz1,κa2,κb2,κc2,κd2,κe2,κf2,κg2,κh2,κi2,κj2,κk2,κl2,κm2,κn2,κo2,κp2,κq2,reduceCtorEq,κr2,κs2,κt2,κu2,κv2,κw2,κx2,κy2,κz2,κa3,eq_self,κb3,κc3,zL,Pl.xs,ge_iff_le,c1,q,rInt,g2,c3]; rfl
      exact ret_ ⟨.inl rfl,_,rfl,AVle.refl _⟩
  have sub1 : ∀ σ,σ.tm 1 = some (.box 1 0) → σ.hp 1 = some p.xs → σ.nt = 0 → Sub (St.of [(1,.box 1 0)] [(1,p.xs)] [] 0) σ := fun σ h1 h2 h3 => sub_of (all_cons h1 all_nil) (all_cons h2 all_nil) all_nil (Nat.le_of_eq h3)
  cases hg : p.hg with
  | false =>
    refine seq_reg (σ' := ?_) ?_ ?_
    rotate_left
    · simp -implicitDefEqProofs only [pl_linked.r1,κa,κb,κc,κd,κe,κf,κg,κh,κi,κj,κk,κl,κm,κn,κo,κp,κq,κr,κs,κt,κu,κv,κw,κx,κy,κz,κa1,κb1,κc1,κd1,κe1,κf1,κg1,κh1,κi1,κj1,κk1,κl1,κm1,κn1,κo1,κp1,κq1,κr1,κs1,if_true,if_false,reduceIte,κt1,κu1,κv1,κw1,κx1,κy1,κz1,κa2,κb2,κc2,κd2,κe2,κf2,κg2,κh2,κi2,κj2,κk2,κl2,κm2,κn2,κo2,κp2,κq2,reduceCtorEq,κr2,κs2,κt2,κu2,κv2,κw2,κx2,κy2,κz2,κa3,eq_self,κb3,κc3,zL,hg]; rfl
    refine cond_ rfl (fun h => by cases h) (fun _ => skip_ ?_)
    exact norm_sub (sub1 _ rfl (by simp only [Pl.xs,hg]; rfl) rfl) (rest (fun h => by rw [hg] at h; cases h))
  | true =>
    by_cases d1 : p.g.inp = 3 * p.v.out
    case neg =>
      have hp : linkB p = false := decide_eq_false (fun h => d1 (h.1 hg).1)
      have g1 : (p.g.inp != 3 * p.v.out) = true := by simpa using d1
      rw [hp]
      refine seq_reg (σ' := ?_) ?_ ?_
      rotate_left
      · simp -implicitDefEqProofs only [pl_linked.r1,κa,κb,κc,κd,κe,κf,κg,κh,κi,κj,κk,κl,κm,κn,κo,κp,κq,κr,κs,κt,κu,κv,κw,κx,κy,κz,κa1,κb1,κc1,κd1,κe1,κf1,κg1,κh1,κi1,κj1,κk1,κl1,κm1,κn1,κo1,κp1,κq1,κr1,κs1,if_true,if_false,reduceIte,κt1,κu1,κv1,κw1,κx1,κy1,κz1,κa2,κb2,κc2,κd2,κe2,κf2,κg2,κh2,κi2,κj2,κk2,κl2,κm2,κn2,κo2,κp2,κq2,reduceCtorEq,κr2,κs2,κt2,κu2,κv2,κw2,κx2,κy2,κz2,κa3,eq_self,κb3,κc3,zL,hg,hw,g1]; rfl
      refine cond_ rfl (fun _ => ?_) (fun h => by cases h)
      refine seq_reg (σ' := ?_) ?_ ?_
      rotate_left
      · simp -implicitDefEqProofs only [pl_linked.r2,κa,κb,κc,κd,κe,κf,κg,κh,κi,κj,κk,κl,κm,κn,κo,κp,κq,κr,κs,κt,κu,κv,κw,κx,κy,κz,κa1,κb1,κc1,κd1,κe1,κf1,κg1,κh1,κi1,κj1,κk1,κl1,κm1,κn1,κo1,κp1,κq1,κr1,κs1,if_true,if_false,reduceIte,κt1,κu1,κv1,κw1,κx1,κy1,κz1,κa2,κb2,κc2,κd2,κe2,κf2,κg2,κh2,κi2,κj2,κk2,κl2,κm2,κn2,κo2,κp2,κq2,reduceCtorEq,κr2,κs2,κt2,κu2,κv2,κw2,κx2,κy2,κz2,κa3,eq_self,κb3,κc3,zL]; rfl
      exact ret_ ⟨.inl rfl,_,rfl,AVle.refl _⟩
    have g1 : (p.g.inp != 3 * p.v.out) = false := by simpa using d1
    by_cases d2 : p.g.out < 4
    · have hp : linkB p = false := decide_eq_false (fun h => by have := (h.1 hg).2; omega)
      rw [hp]
      refine seq_reg (σ' := ?_) ?_ ?_
      rotate_left
      · simp -implicitDefEqProofs only [pl_linked.r1,κa,κb,κc,κd,κe,κf,κg,κh,κi,κj,κk,κl,κm,κn,κo,κp,κq,κr,κs,κt,κu,κv,κw,κx,κy,κz,κa1,κb1,κc1,κd1,κe1,κf1,κg1,κh1,κi1,κj1,κk1,κl1,κm1,κn1,κo1,κp1,κq1,κr1,κs1,if_true,if_false,reduceIte,κt1,κu1,κv1,κw1,κx1,κy1,κz1,κa2,κb2,κc2,κd2,κe2,κf2,κg2,κh2,κi2,κj2,κk2,κl2,κm2,κn2,κo2,κp2,κq2,reduceCtorEq,κr2,κs2,κt2,κu2,κv2,κw2,κx2,κy2,κz2,κa3,eq_self,κb3,κc3,zL,hg,hw,g1,d2]; rfl
      refine cond_ rfl (fun _ => ?_) (fun h => by cases h)
      refine seq_reg (σ' := ?_) ?_ ?_
      rotate_left
      · simp -implicitDefEqProofs only [pl_linked.r2,κa,κb,κc,κd,κe,κf,κg,κh,κi,κj,κk,κl,κm,κn,κo,κp,κq,κr,κs,κt,κu,κv,κw,κx,κy,κz,κa1,κb1,κc1,κd1,κe1,κf1,κg1,κh1,κi1,κj1,κk1,κl1,κm1,κn1,κo1,κp1,κq1,κr1,κs1,if_true,if_false,reduceIte,κt1,κu1,κv1,κw1,κx1,κy1,κz1,κa2,κb2,κc2,κd2,κe2,κf2,κg2,κh2,κi2,κj2,κk2,κl2,κm2,κn2,κo2,κp2,κq2,reduceCtorEq,κr2,κs2,κt2,κu2,κv2,κw2,κx2,κy2,κz2,κa3,eq_self,κb3,κc3,zL]; rfl
      exact ret_ ⟨.inl rfl,_,rfl,AVle.refl _⟩
    · refine seq_reg (σ' := ?_) ?_ ?_
      rotate_left
      · simp -implicitDefEqProofs only [pl_linked.r1,κa,κb,κc,κd,κe,κf,κg,κh,κi,κj,κk,κl,κm,κn,κo,κp,κq,κr,κs,κt,κu,κv,κw,κx,κy,κz,κa1,κb1,κc1,κd1,κe1,κf1,κg1,κh1,κi1,κj1,κk1,κl1,κm1,κn1,κo1,κp1,κq1,κr1,κs1,if_true,if_false,reduceIte,κt1,κu1,κv1,κw1,κx1,κy1,κz1,κa2,κb2,κc2,κd2,κe2,κf2,κg2,κh2,κi2,κj2,κk2,κl2,κm2,κn2,κo2,κp2,κq2,reduceCtorEq,κr2,κs2,κt2,κu2,κv2,κw2,κx2,κy2,κz2,κa3,eq_self,κb3,κc3,zL,hg,hw,g1,d2]; rfl
      refine cond_ rfl (fun h => by cases h) (fun _ => skip_ ?_)
      exact norm_sub (sub1 _ rfl (by simp only [Pl.xs,hg]; rfl) rfl) (rest (fun _ => ⟨d1,by omega⟩))
end Go.Proofs.Ytjbhhdocbejccaa.Pl
