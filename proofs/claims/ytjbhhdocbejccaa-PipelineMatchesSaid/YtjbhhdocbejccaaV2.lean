/- Chapter 43: the states of depth, stencil, blending, viewport: the validators. No condition beyond those that each theorem states. -/
import Derived.Test.YtjbhhdocbejccaaV1
namespace Go.Proofs.Ytjbhhdocbejccaa.Pl
open Go Go.RowKit Go.Proofs.Ytjbhhdocbejccaa.Am
open Go.Proofs.Ytjbhhdocbejccaa.Am renaming ex_nil → κa,ex_cons → κb,exK_some → κc,st_n → κd,st_g → κe,gd_b → κf,gd_u → κg,rn_v → κh,rn_m → κi,rn_s → κj,rn_a → κk,think → κl,prep → κm,mkDsts → κn,ev → κp,upd → κq,init → κr,forgetBox → κu,pvs → κx,fillX → κy,chunks → κz,binV → κa1,xints → κb1,ldX → κc1,baseOk → κe1,fg_p → κf1,fg_tk → κg1,mkG → κh1,tab → κj1,c3 → κa3
open Go.Proofs.Ytjbhhdocbejccaa.Am.St renaming clear → κo,put → κt,of → κk1
open Go.Proofs.Ytjbhhdocbejccaa.Am.PV renaming av → κs
open Go.Proofs.Ytjbhhdocbejccaa.Am.AV renaming cells → κv,pv → κw,plain → κd1
open Go.Proofs.Ytjbhhdocbejccaa.Am.Sig renaming spec → κi1
open List renaming getElem?_cons_zero → κl1,getElem?_cons_succ → κm1,getElem?_nil → κn1,map_cons → κu1,map_nil → κv1,drop_succ_cons → κw1,drop_zero → κx1,take_succ_cons → κy1,take_zero → κz1,length_cons → κa2,length_nil → κb2,length_append → κc2,cons_append → κd2,nil_append → κe2,append_nil → κf2
open Option renaming map_some → κo1,map_none → κp1,bind_some → κq1,isSome_some → κr1,isSome_none → κs1
open Nat renaming reduceEqDiff → κt1,reduceAdd → κg2,reduceMul → κh2,reduceLeDiff → κi2,reduceBEq → κj2,zero_le → κk2,le_refl → κl2,zero_add → κm2,add_zero → κn2
open Bool renaming not_true → κo2,not_false → κp2,false_eq_true → κq2,true_eq_false → κc3
open Int renaming reduceBEq → κr2,reduceBNe → κs2,reduceLT → κt2,reduceLE → κu2,reduceAdd → κv2,reduceToNat → κw2,toNat_zero → κx2,reduceEq → κy2,toNat_natCast → κz2,le_refl → κb3
set_option linter.unusedVariables false
set_option linter.unusedSimpArgs false
set_option maxHeartbeats 8000000
set_option maxRecDepth 100000
def sopB (x : Int) : Bool := decide (1 ≤ x ∧ x ≤ 8)
def st_ValidOp.S : Am.Spec := fun args => match args with
  | [.c (.int .i64 x)] => some (rBool (sopB x))
  | _ => none
theorem st_ValidOp.ok : SpecOK Try.prog 69 st_ValidOp.S := fun args r h => by
  unfold st_ValidOp.S at h
  split at h
  · cases h
    rename_i x
    refine runC_law (n := 0) Try.func69 st_ValidOp.tr rfl hE ok_nil ?_
    by_cases h0 : 1 ≤ x
    · by_cases h1 : x ≤ 8
      · have hp : sopB x = true := decide_eq_true ⟨h0,h1⟩
        rw [hp]
        simp -implicitDefEqProofs only [runC,mrun,result,AV.fin,XV.fin,Option.bind,Option.map,st_ValidOp.r0,st_ValidOp.r1,st_ValidOp.m,κa,κb,κc,κd,κe,κf,κg,κh,κi,κj,κk,κl,κm,κn,κo,κp,κq,κr,κs,κt,κu,κv,κw,κx,κy,κz,κa1,κb1,κc1,κd1,κe1,κf1,κg1,κh1,κi1,κj1,κk1,κl1,κm1,κn1,κo1,κp1,κq1,κr1,κs1,if_true,if_false,reduceIte,κt1,κu1,κv1,κw1,κx1,κy1,κz1,κa2,κb2,κc2,κd2,κe2,κf2,κg2,κh2,κi2,κj2,κk2,κl2,κm2,κn2,κo2,κp2,κq2,reduceCtorEq,κr2,κs2,κt2,κu2,κv2,κw2,κx2,κy2,κz2,κa3,eq_self,κb3,κc3,zL,ge_iff_le,gt_iff_lt,rBool,rInt,h0,h1]
      · have hp : sopB x = false := decide_eq_false (fun h => h1 (h.2))
        rw [hp]
        simp -implicitDefEqProofs only [runC,mrun,result,AV.fin,XV.fin,Option.bind,Option.map,st_ValidOp.r0,st_ValidOp.r1,st_ValidOp.m,κa,κb,κc,κd,κe,κf,κg,κh,κi,κj,κk,κl,κm,κn,κo,κp,κq,κr,κs,κt,κu,κv,κw,κx,κy,κz,κa1,κb1,κc1,κd1,κe1,κf1,κg1,κh1,κi1,κj1,κk1,κl1,κm1,κn1,κo1,κp1,κq1,κr1,κs1,if_true,if_false,reduceIte,κt1,κu1,κv1,κw1,κx1,κy1,κz1,κa2,κb2,κc2,κd2,κe2,κf2,κg2,κh2,κi2,κj2,κk2,κl2,κm2,κn2,κo2,κp2,κq2,reduceCtorEq,κr2,κs2,κt2,κu2,κv2,κw2,κx2,κy2,κz2,κa3,eq_self,κb3,κc3,zL,ge_iff_le,gt_iff_lt,rBool,rInt,h0,h1]
    · have hp : sopB x = false := decide_eq_false (fun h => h0 (h.1))
      rw [hp]
      simp -implicitDefEqProofs only [runC,mrun,result,AV.fin,XV.fin,Option.bind,Option.map,st_ValidOp.r0,st_ValidOp.r1,st_ValidOp.m,κa,κb,κc,κd,κe,κf,κg,κh,κi,κj,κk,κl,κm,κn,κo,κp,κq,κr,κs,κt,κu,κv,κw,κx,κy,κz,κa1,κb1,κc1,κd1,κe1,κf1,κg1,κh1,κi1,κj1,κk1,κl1,κm1,κn1,κo1,κp1,κq1,κr1,κs1,if_true,if_false,reduceIte,κt1,κu1,κv1,κw1,κx1,κy1,κz1,κa2,κb2,κc2,κd2,κe2,κf2,κg2,κh2,κi2,κj2,κk2,κl2,κm2,κn2,κo2,κp2,κq2,reduceCtorEq,κr2,κs2,κt2,κu2,κv2,κw2,κx2,κy2,κz2,κa3,eq_self,κb3,κc3,zL,ge_iff_le,gt_iff_lt,rBool,rInt,h0]
  · cases h
def r39_ValidOp.S : Am.Spec := fun args => match args with
  | [.c (.int .i64 x)] => some (rBool (sopB x))
  | _ => none
theorem r39_ValidOp.ok : SpecOK Try.prog 74 r39_ValidOp.S := fun args r h => by
  unfold r39_ValidOp.S at h
  split at h
  · cases h
    rename_i x
    refine runC_law (n := 0) Try.func74 r39_ValidOp.tr rfl hE ok_nil ?_
    by_cases h0 : 1 ≤ x
    · by_cases h1 : x ≤ 8
      · have hp : sopB x = true := decide_eq_true ⟨h0,h1⟩
        rw [hp]
        simp -implicitDefEqProofs only [runC,mrun,result,AV.fin,XV.fin,Option.bind,Option.map,r39_ValidOp.r0,r39_ValidOp.r1,r39_ValidOp.m,κa,κb,κc,κd,κe,κf,κg,κh,κi,κj,κk,κl,κm,κn,κo,κp,κq,κr,κs,κt,κu,κv,κw,κx,κy,κz,κa1,κb1,κc1,κd1,κe1,κf1,κg1,κh1,κi1,κj1,κk1,κl1,κm1,κn1,κo1,κp1,κq1,κr1,κs1,if_true,if_false,reduceIte,κt1,κu1,κv1,κw1,κx1,κy1,κz1,κa2,κb2,κc2,κd2,κe2,κf2,κg2,κh2,κi2,κj2,κk2,κl2,κm2,κn2,κo2,κp2,κq2,reduceCtorEq,κr2,κs2,κt2,κu2,κv2,κw2,κx2,κy2,κz2,κa3,eq_self,κb3,κc3,zL,ge_iff_le,gt_iff_lt,rBool,rInt,h0,h1]
      · have hp : sopB x = false := decide_eq_false (fun h => h1 (h.2))
        rw [hp]
        simp -implicitDefEqProofs only [runC,mrun,result,AV.fin,XV.fin,Option.bind,Option.map,r39_ValidOp.r0,r39_ValidOp.r1,r39_ValidOp.m,κa,κb,κc,κd,κe,κf,κg,κh,κi,κj,κk,κl,κm,κn,κo,κp,κq,κr,κs,κt,κu,κv,κw,κx,κy,κz,κa1,κb1,κc1,κd1,κe1,κf1,κg1,κh1,κi1,κj1,κk1,κl1,κm1,κn1,κo1,κp1,κq1,κr1,κs1,if_true,if_false,reduceIte,κt1,κu1,κv1,κw1,κx1,κy1,κz1,κa2,κb2,κc2,κd2,κe2,κf2,κg2,κh2,κi2,κj2,κk2,κl2,κm2,κn2,κo2,κp2,κq2,reduceCtorEq,κr2,κs2,κt2,κu2,κv2,κw2,κx2,κy2,κz2,κa3,eq_self,κb3,κc3,zL,ge_iff_le,gt_iff_lt,rBool,rInt,h0,h1]
    · have hp : sopB x = false := decide_eq_false (fun h => h0 (h.1))
      rw [hp]
      simp -implicitDefEqProofs only [runC,mrun,result,AV.fin,XV.fin,Option.bind,Option.map,r39_ValidOp.r0,r39_ValidOp.r1,r39_ValidOp.m,κa,κb,κc,κd,κe,κf,κg,κh,κi,κj,κk,κl,κm,κn,κo,κp,κq,κr,κs,κt,κu,κv,κw,κx,κy,κz,κa1,κb1,κc1,κd1,κe1,κf1,κg1,κh1,κi1,κj1,κk1,κl1,κm1,κn1,κo1,κp1,κq1,κr1,κs1,if_true,if_false,reduceIte,κt1,κu1,κv1,κw1,κx1,κy1,κz1,κa2,κb2,κc2,κd2,κe2,κf2,κg2,κh2,κi2,κj2,κk2,κl2,κm2,κn2,κo2,κp2,κq2,reduceCtorEq,κr2,κs2,κt2,κu2,κv2,κw2,κx2,κy2,κz2,κa3,eq_self,κb3,κc3,zL,ge_iff_le,gt_iff_lt,rBool,rInt,h0]
  · cases h
def facB (x : Int) : Bool := decide (1 ≤ x ∧ x ≤ 10)
def bl_ValidFactor.S : Am.Spec := fun args => match args with
  | [.c (.int .i64 x)] => some (rBool (facB x))
  | _ => none
theorem bl_ValidFactor.ok : SpecOK Try.prog 47 bl_ValidFactor.S := fun args r h => by
  unfold bl_ValidFactor.S at h
  split at h
  · cases h
    rename_i x
    refine runC_law (n := 0) Try.func47 bl_ValidFactor.tr rfl hE ok_nil ?_
    by_cases h0 : 1 ≤ x
    · by_cases h1 : x ≤ 10
      · have hp : facB x = true := decide_eq_true ⟨h0,h1⟩
        rw [hp]
        simp -implicitDefEqProofs only [runC,mrun,result,AV.fin,XV.fin,Option.bind,Option.map,bl_ValidFactor.r0,bl_ValidFactor.r1,bl_ValidFactor.m,κa,κb,κc,κd,κe,κf,κg,κh,κi,κj,κk,κl,κm,κn,κo,κp,κq,κr,κs,κt,κu,κv,κw,κx,κy,κz,κa1,κb1,κc1,κd1,κe1,κf1,κg1,κh1,κi1,κj1,κk1,κl1,κm1,κn1,κo1,κp1,κq1,κr1,κs1,if_true,if_false,reduceIte,κt1,κu1,κv1,κw1,κx1,κy1,κz1,κa2,κb2,κc2,κd2,κe2,κf2,κg2,κh2,κi2,κj2,κk2,κl2,κm2,κn2,κo2,κp2,κq2,reduceCtorEq,κr2,κs2,κt2,κu2,κv2,κw2,κx2,κy2,κz2,κa3,eq_self,κb3,κc3,zL,ge_iff_le,gt_iff_lt,rBool,rInt,h0,h1]
      · have hp : facB x = false := decide_eq_false (fun h => h1 (h.2))
        rw [hp]
        simp -implicitDefEqProofs only [runC,mrun,result,AV.fin,XV.fin,Option.bind,Option.map,bl_ValidFactor.r0,bl_ValidFactor.r1,bl_ValidFactor.m,κa,κb,κc,κd,κe,κf,κg,κh,κi,κj,κk,κl,κm,κn,κo,κp,κq,κr,κs,κt,κu,κv,κw,κx,κy,κz,κa1,κb1,κc1,κd1,κe1,κf1,κg1,κh1,κi1,κj1,κk1,κl1,κm1,κn1,κo1,κp1,κq1,κr1,κs1,if_true,if_false,reduceIte,κt1,κu1,κv1,κw1,κx1,κy1,κz1,κa2,κb2,κc2,κd2,κe2,κf2,κg2,κh2,κi2,κj2,κk2,κl2,κm2,κn2,κo2,κp2,κq2,reduceCtorEq,κr2,κs2,κt2,κu2,κv2,κw2,κx2,κy2,κz2,κa3,eq_self,κb3,κc3,zL,ge_iff_le,gt_iff_lt,rBool,rInt,h0,h1]
    · have hp : facB x = false := decide_eq_false (fun h => h0 (h.1))
      rw [hp]
      simp -implicitDefEqProofs only [runC,mrun,result,AV.fin,XV.fin,Option.bind,Option.map,bl_ValidFactor.r0,bl_ValidFactor.r1,bl_ValidFactor.m,κa,κb,κc,κd,κe,κf,κg,κh,κi,κj,κk,κl,κm,κn,κo,κp,κq,κr,κs,κt,κu,κv,κw,κx,κy,κz,κa1,κb1,κc1,κd1,κe1,κf1,κg1,κh1,κi1,κj1,κk1,κl1,κm1,κn1,κo1,κp1,κq1,κr1,κs1,if_true,if_false,reduceIte,κt1,κu1,κv1,κw1,κx1,κy1,κz1,κa2,κb2,κc2,κd2,κe2,κf2,κg2,κh2,κi2,κj2,κk2,κl2,κm2,κn2,κo2,κp2,κq2,reduceCtorEq,κr2,κs2,κt2,κu2,κv2,κw2,κx2,κy2,κz2,κa3,eq_self,κb3,κc3,zL,ge_iff_le,gt_iff_lt,rBool,rInt,h0]
  · cases h
def r40_ValidFactor.S : Am.Spec := fun args => match args with
  | [.c (.int .i64 x)] => some (rBool (facB x))
  | _ => none
theorem r40_ValidFactor.ok : SpecOK Try.prog 57 r40_ValidFactor.S := fun args r h => by
  unfold r40_ValidFactor.S at h
  split at h
  · cases h
    rename_i x
    refine runC_law (n := 0) Try.func57 r40_ValidFactor.tr rfl hE ok_nil ?_
    by_cases h0 : 1 ≤ x
    · by_cases h1 : x ≤ 10
      · have hp : facB x = true := decide_eq_true ⟨h0,h1⟩
        rw [hp]
        simp -implicitDefEqProofs only [runC,mrun,result,AV.fin,XV.fin,Option.bind,Option.map,r40_ValidFactor.r0,r40_ValidFactor.r1,r40_ValidFactor.m,κa,κb,κc,κd,κe,κf,κg,κh,κi,κj,κk,κl,κm,κn,κo,κp,κq,κr,κs,κt,κu,κv,κw,κx,κy,κz,κa1,κb1,κc1,κd1,κe1,κf1,κg1,κh1,κi1,κj1,κk1,κl1,κm1,κn1,κo1,κp1,κq1,κr1,κs1,if_true,if_false,reduceIte,κt1,κu1,κv1,κw1,κx1,κy1,κz1,κa2,κb2,κc2,κd2,κe2,κf2,κg2,κh2,κi2,κj2,κk2,κl2,κm2,κn2,κo2,κp2,κq2,reduceCtorEq,κr2,κs2,κt2,κu2,κv2,κw2,κx2,κy2,κz2,κa3,eq_self,κb3,κc3,zL,ge_iff_le,gt_iff_lt,rBool,rInt,h0,h1]
      · have hp : facB x = false := decide_eq_false (fun h => h1 (h.2))
        rw [hp]
        simp -implicitDefEqProofs only [runC,mrun,result,AV.fin,XV.fin,Option.bind,Option.map,r40_ValidFactor.r0,r40_ValidFactor.r1,r40_ValidFactor.m,κa,κb,κc,κd,κe,κf,κg,κh,κi,κj,κk,κl,κm,κn,κo,κp,κq,κr,κs,κt,κu,κv,κw,κx,κy,κz,κa1,κb1,κc1,κd1,κe1,κf1,κg1,κh1,κi1,κj1,κk1,κl1,κm1,κn1,κo1,κp1,κq1,κr1,κs1,if_true,if_false,reduceIte,κt1,κu1,κv1,κw1,κx1,κy1,κz1,κa2,κb2,κc2,κd2,κe2,κf2,κg2,κh2,κi2,κj2,κk2,κl2,κm2,κn2,κo2,κp2,κq2,reduceCtorEq,κr2,κs2,κt2,κu2,κv2,κw2,κx2,κy2,κz2,κa3,eq_self,κb3,κc3,zL,ge_iff_le,gt_iff_lt,rBool,rInt,h0,h1]
    · have hp : facB x = false := decide_eq_false (fun h => h0 (h.1))
      rw [hp]
      simp -implicitDefEqProofs only [runC,mrun,result,AV.fin,XV.fin,Option.bind,Option.map,r40_ValidFactor.r0,r40_ValidFactor.r1,r40_ValidFactor.m,κa,κb,κc,κd,κe,κf,κg,κh,κi,κj,κk,κl,κm,κn,κo,κp,κq,κr,κs,κt,κu,κv,κw,κx,κy,κz,κa1,κb1,κc1,κd1,κe1,κf1,κg1,κh1,κi1,κj1,κk1,κl1,κm1,κn1,κo1,κp1,κq1,κr1,κs1,if_true,if_false,reduceIte,κt1,κu1,κv1,κw1,κx1,κy1,κz1,κa2,κb2,κc2,κd2,κe2,κf2,κg2,κh2,κi2,κj2,κk2,κl2,κm2,κn2,κo2,κp2,κq2,reduceCtorEq,κr2,κs2,κt2,κu2,κv2,κw2,κx2,κy2,κz2,κa3,eq_self,κb3,κc3,zL,ge_iff_le,gt_iff_lt,rBool,rInt,h0]
  · cases h
def bopB (x : Int) : Bool := decide (1 ≤ x ∧ x ≤ 5)
def bl_ValidOp.S : Am.Spec := fun args => match args with
  | [.c (.int .i64 x)] => some (rBool (bopB x))
  | _ => none
theorem bl_ValidOp.ok : SpecOK Try.prog 48 bl_ValidOp.S := fun args r h => by
  unfold bl_ValidOp.S at h
  split at h
  · cases h
    rename_i x
    refine runC_law (n := 0) Try.func48 bl_ValidOp.tr rfl hE ok_nil ?_
    by_cases h0 : 1 ≤ x
    · by_cases h1 : x ≤ 5
      · have hp : bopB x = true := decide_eq_true ⟨h0,h1⟩
        rw [hp]
        simp -implicitDefEqProofs only [runC,mrun,result,AV.fin,XV.fin,Option.bind,Option.map,bl_ValidOp.r0,bl_ValidOp.r1,bl_ValidOp.m,κa,κb,κc,κd,κe,κf,κg,κh,κi,κj,κk,κl,κm,κn,κo,κp,κq,κr,κs,κt,κu,κv,κw,κx,κy,κz,κa1,κb1,κc1,κd1,κe1,κf1,κg1,κh1,κi1,κj1,κk1,κl1,κm1,κn1,κo1,κp1,κq1,κr1,κs1,if_true,if_false,reduceIte,κt1,κu1,κv1,κw1,κx1,κy1,κz1,κa2,κb2,κc2,κd2,κe2,κf2,κg2,κh2,κi2,κj2,κk2,κl2,κm2,κn2,κo2,κp2,κq2,reduceCtorEq,κr2,κs2,κt2,κu2,κv2,κw2,κx2,κy2,κz2,κa3,eq_self,κb3,κc3,zL,ge_iff_le,gt_iff_lt,rBool,rInt,h0,h1]
      · have hp : bopB x = false := decide_eq_false (fun h => h1 (h.2))
        rw [hp]
        simp -implicitDefEqProofs only [runC,mrun,result,AV.fin,XV.fin,Option.bind,Option.map,bl_ValidOp.r0,bl_ValidOp.r1,bl_ValidOp.m,κa,κb,κc,κd,κe,κf,κg,κh,κi,κj,κk,κl,κm,κn,κo,κp,κq,κr,κs,κt,κu,κv,κw,κx,κy,κz,κa1,κb1,κc1,κd1,κe1,κf1,κg1,κh1,κi1,κj1,κk1,κl1,κm1,κn1,κo1,κp1,κq1,κr1,κs1,if_true,if_false,reduceIte,κt1,κu1,κv1,κw1,κx1,κy1,κz1,κa2,κb2,κc2,κd2,κe2,κf2,κg2,κh2,κi2,κj2,κk2,κl2,κm2,κn2,κo2,κp2,κq2,reduceCtorEq,κr2,κs2,κt2,κu2,κv2,κw2,κx2,κy2,κz2,κa3,eq_self,κb3,κc3,zL,ge_iff_le,gt_iff_lt,rBool,rInt,h0,h1]
    · have hp : bopB x = false := decide_eq_false (fun h => h0 (h.1))
      rw [hp]
      simp -implicitDefEqProofs only [runC,mrun,result,AV.fin,XV.fin,Option.bind,Option.map,bl_ValidOp.r0,bl_ValidOp.r1,bl_ValidOp.m,κa,κb,κc,κd,κe,κf,κg,κh,κi,κj,κk,κl,κm,κn,κo,κp,κq,κr,κs,κt,κu,κv,κw,κx,κy,κz,κa1,κb1,κc1,κd1,κe1,κf1,κg1,κh1,κi1,κj1,κk1,κl1,κm1,κn1,κo1,κp1,κq1,κr1,κs1,if_true,if_false,reduceIte,κt1,κu1,κv1,κw1,κx1,κy1,κz1,κa2,κb2,κc2,κd2,κe2,κf2,κg2,κh2,κi2,κj2,κk2,κl2,κm2,κn2,κo2,κp2,κq2,reduceCtorEq,κr2,κs2,κt2,κu2,κv2,κw2,κx2,κy2,κz2,κa3,eq_self,κb3,κc3,zL,ge_iff_le,gt_iff_lt,rBool,rInt,h0]
  · cases h
def r40_ValidOp.S : Am.Spec := fun args => match args with
  | [.c (.int .i64 x)] => some (rBool (bopB x))
  | _ => none
theorem r40_ValidOp.ok : SpecOK Try.prog 58 r40_ValidOp.S := fun args r h => by
  unfold r40_ValidOp.S at h
  split at h
  · cases h
    rename_i x
    refine runC_law (n := 0) Try.func58 r40_ValidOp.tr rfl hE ok_nil ?_
    by_cases h0 : 1 ≤ x
    · by_cases h1 : x ≤ 5
      · have hp : bopB x = true := decide_eq_true ⟨h0,h1⟩
        rw [hp]
        simp -implicitDefEqProofs only [runC,mrun,result,AV.fin,XV.fin,Option.bind,Option.map,r40_ValidOp.r0,r40_ValidOp.r1,r40_ValidOp.m,κa,κb,κc,κd,κe,κf,κg,κh,κi,κj,κk,κl,κm,κn,κo,κp,κq,κr,κs,κt,κu,κv,κw,κx,κy,κz,κa1,κb1,κc1,κd1,κe1,κf1,κg1,κh1,κi1,κj1,κk1,κl1,κm1,κn1,κo1,κp1,κq1,κr1,κs1,if_true,if_false,reduceIte,κt1,κu1,κv1,κw1,κx1,κy1,κz1,κa2,κb2,κc2,κd2,κe2,κf2,κg2,κh2,κi2,κj2,κk2,κl2,κm2,κn2,κo2,κp2,κq2,reduceCtorEq,κr2,κs2,κt2,κu2,κv2,κw2,κx2,κy2,κz2,κa3,eq_self,κb3,κc3,zL,ge_iff_le,gt_iff_lt,rBool,rInt,h0,h1]
      · have hp : bopB x = false := decide_eq_false (fun h => h1 (h.2))
        rw [hp]
        simp -implicitDefEqProofs only [runC,mrun,result,AV.fin,XV.fin,Option.bind,Option.map,r40_ValidOp.r0,r40_ValidOp.r1,r40_ValidOp.m,κa,κb,κc,κd,κe,κf,κg,κh,κi,κj,κk,κl,κm,κn,κo,κp,κq,κr,κs,κt,κu,κv,κw,κx,κy,κz,κa1,κb1,κc1,κd1,κe1,κf1,κg1,κh1,κi1,κj1,κk1,κl1,κm1,κn1,κo1,κp1,κq1,κr1,κs1,if_true,if_false,reduceIte,κt1,κu1,κv1,κw1,κx1,κy1,κz1,κa2,κb2,κc2,κd2,κe2,κf2,κg2,κh2,κi2,κj2,κk2,κl2,κm2,κn2,κo2,κp2,κq2,reduceCtorEq,κr2,κs2,κt2,κu2,κv2,κw2,κx2,κy2,κz2,κa3,eq_self,κb3,κc3,zL,ge_iff_le,gt_iff_lt,rBool,rInt,h0,h1]
    · have hp : bopB x = false := decide_eq_false (fun h => h0 (h.1))
      rw [hp]
      simp -implicitDefEqProofs only [runC,mrun,result,AV.fin,XV.fin,Option.bind,Option.map,r40_ValidOp.r0,r40_ValidOp.r1,r40_ValidOp.m,κa,κb,κc,κd,κe,κf,κg,κh,κi,κj,κk,κl,κm,κn,κo,κp,κq,κr,κs,κt,κu,κv,κw,κx,κy,κz,κa1,κb1,κc1,κd1,κe1,κf1,κg1,κh1,κi1,κj1,κk1,κl1,κm1,κn1,κo1,κp1,κq1,κr1,κs1,if_true,if_false,reduceIte,κt1,κu1,κv1,κw1,κx1,κy1,κz1,κa2,κb2,κc2,κd2,κe2,κf2,κg2,κh2,κi2,κj2,κk2,κl2,κm2,κn2,κo2,κp2,κq2,reduceCtorEq,κr2,κs2,κt2,κu2,κv2,κw2,κx2,κy2,κz2,κa3,eq_self,κb3,κc3,zL,ge_iff_le,gt_iff_lt,rBool,rInt,h0]
  · cases h
def faceB (a b c d : Int) : Bool := decide (cmpB a = true ∧ sopB b = true ∧ sopB c = true ∧ sopB d = true)
def st_validFace.S : Am.Spec := fun args => match args with
  | [.agg [.int .i64 a,.int .i64 b,.int .i64 c,.int .i64 d]] => some (rBool (faceB a b c d))
  | _ => none
theorem st_validFace.ok : SpecOK Try.prog 45 st_validFace.S := fun args r h => by
  unfold st_validFace.S at h
  split at h
  · cases h
    rename_i a b c d
    refine runC_law (n := 0) Try.func45 st_validFace.tr rfl hE (ok_cons depth_ValidCompare.ok (ok_cons st_ValidOp.ok ok_nil)) ?_
    by_cases h0 : cmpB a = true
    · by_cases h1 : sopB b = true
      · by_cases h2 : sopB c = true
        · by_cases h3 : sopB d = true
          · have hp : faceB a b c d = true := decide_eq_true ⟨h0,h1,h2,h3⟩
            rw [hp]
            simp -implicitDefEqProofs only [runC,mrun,result,AV.fin,XV.fin,Option.bind,Option.map,st_validFace.r0,st_validFace.r1,st_validFace.m,κa,κb,κc,κd,κe,κf,κg,κh,κi,κj,κk,κl,κm,κn,κo,κp,κq,κr,κs,κt,κu,κv,κw,κx,κy,κz,κa1,κb1,κc1,κd1,κe1,κf1,κg1,κh1,κi1,κj1,κk1,κl1,κm1,κn1,κo1,κp1,κq1,κr1,κs1,if_true,if_false,reduceIte,κt1,κu1,κv1,κw1,κx1,κy1,κz1,κa2,κb2,κc2,κd2,κe2,κf2,κg2,κh2,κi2,κj2,κk2,κl2,κm2,κn2,κo2,κp2,κq2,reduceCtorEq,κr2,κs2,κt2,κu2,κv2,κw2,κx2,κy2,κz2,κa3,eq_self,κb3,κc3,zL,ge_iff_le,gt_iff_lt,rBool,rInt,depth_ValidCompare.S,st_ValidOp.S,h0,h1,h2,h3]
          · have hp : faceB a b c d = false := decide_eq_false (fun h => h3 (h.2.2.2))
            rw [hp]
            simp -implicitDefEqProofs only [runC,mrun,result,AV.fin,XV.fin,Option.bind,Option.map,st_validFace.r0,st_validFace.r1,st_validFace.m,κa,κb,κc,κd,κe,κf,κg,κh,κi,κj,κk,κl,κm,κn,κo,κp,κq,κr,κs,κt,κu,κv,κw,κx,κy,κz,κa1,κb1,κc1,κd1,κe1,κf1,κg1,κh1,κi1,κj1,κk1,κl1,κm1,κn1,κo1,κp1,κq1,κr1,κs1,if_true,if_false,reduceIte,κt1,κu1,κv1,κw1,κx1,κy1,κz1,κa2,κb2,κc2,κd2,κe2,κf2,κg2,κh2,κi2,κj2,κk2,κl2,κm2,κn2,κo2,κp2,κq2,reduceCtorEq,κr2,κs2,κt2,κu2,κv2,κw2,κx2,κy2,κz2,κa3,eq_self,κb3,κc3,zL,ge_iff_le,gt_iff_lt,rBool,rInt,depth_ValidCompare.S,st_ValidOp.S,h0,h1,h2,h3]
        · have hp : faceB a b c d = false := decide_eq_false (fun h => h2 (h.2.2.1))
          rw [hp]
          simp -implicitDefEqProofs only [runC,mrun,result,AV.fin,XV.fin,Option.bind,Option.map,st_validFace.r0,st_validFace.r1,st_validFace.m,κa,κb,κc,κd,κe,κf,κg,κh,κi,κj,κk,κl,κm,κn,κo,κp,κq,κr,κs,κt,κu,κv,κw,κx,κy,κz,κa1,κb1,κc1,κd1,κe1,κf1,κg1,κh1,κi1,κj1,κk1,κl1,κm1,κn1,κo1,κp1,κq1,κr1,κs1,if_true,if_false,reduceIte,κt1,κu1,κv1,κw1,κx1,κy1,κz1,κa2,κb2,κc2,κd2,κe2,κf2,κg2,κh2,κi2,κj2,κk2,κl2,κm2,κn2,κo2,κp2,κq2,reduceCtorEq,κr2,κs2,κt2,κu2,κv2,κw2,κx2,κy2,κz2,κa3,eq_self,κb3,κc3,zL,ge_iff_le,gt_iff_lt,rBool,rInt,depth_ValidCompare.S,st_ValidOp.S,h0,h1,h2]
      · have hp : faceB a b c d = false := decide_eq_false (fun h => h1 (h.2.1))
        rw [hp]
        simp -implicitDefEqProofs only [runC,mrun,result,AV.fin,XV.fin,Option.bind,Option.map,st_validFace.r0,st_validFace.r1,st_validFace.m,κa,κb,κc,κd,κe,κf,κg,κh,κi,κj,κk,κl,κm,κn,κo,κp,κq,κr,κs,κt,κu,κv,κw,κx,κy,κz,κa1,κb1,κc1,κd1,κe1,κf1,κg1,κh1,κi1,κj1,κk1,κl1,κm1,κn1,κo1,κp1,κq1,κr1,κs1,if_true,if_false,reduceIte,κt1,κu1,κv1,κw1,κx1,κy1,κz1,κa2,κb2,κc2,κd2,κe2,κf2,κg2,κh2,κi2,κj2,κk2,κl2,κm2,κn2,κo2,κp2,κq2,reduceCtorEq,κr2,κs2,κt2,κu2,κv2,κw2,κx2,κy2,κz2,κa3,eq_self,κb3,κc3,zL,ge_iff_le,gt_iff_lt,rBool,rInt,depth_ValidCompare.S,st_ValidOp.S,h0,h1]
    · have hp : faceB a b c d = false := decide_eq_false (fun h => h0 (h.1))
      rw [hp]
      simp -implicitDefEqProofs only [runC,mrun,result,AV.fin,XV.fin,Option.bind,Option.map,st_validFace.r0,st_validFace.r1,st_validFace.m,κa,κb,κc,κd,κe,κf,κg,κh,κi,κj,κk,κl,κm,κn,κo,κp,κq,κr,κs,κt,κu,κv,κw,κx,κy,κz,κa1,κb1,κc1,κd1,κe1,κf1,κg1,κh1,κi1,κj1,κk1,κl1,κm1,κn1,κo1,κp1,κq1,κr1,κs1,if_true,if_false,reduceIte,κt1,κu1,κv1,κw1,κx1,κy1,κz1,κa2,κb2,κc2,κd2,κe2,κf2,κg2,κh2,κi2,κj2,κk2,κl2,κm2,κn2,κo2,κp2,κq2,reduceCtorEq,κr2,κs2,κt2,κu2,κv2,κw2,κx2,κy2,κz2,κa3,eq_self,κb3,κc3,zL,ge_iff_le,gt_iff_lt,rBool,rInt,depth_ValidCompare.S,st_ValidOp.S,h0]
  · cases h
def r39_validFace.S : Am.Spec := fun args => match args with
  | [.agg [.int .i64 a,.int .i64 b,.int .i64 c,.int .i64 d]] => some (rBool (faceB a b c d))
  | _ => none
theorem r39_validFace.ok : SpecOK Try.prog 55 r39_validFace.S := fun args r h => by
  unfold r39_validFace.S at h
  split at h
  · cases h
    rename_i a b c d
    refine runC_law (n := 0) Try.func55 r39_validFace.tr rfl hE (ok_cons r38_ValidCompare.ok (ok_cons r39_ValidOp.ok ok_nil)) ?_
    by_cases h0 : cmpB a = true
    · by_cases h1 : sopB b = true
      · by_cases h2 : sopB c = true
        · by_cases h3 : sopB d = true
          · have hp : faceB a b c d = true := decide_eq_true ⟨h0,h1,h2,h3⟩
            rw [hp]
            simp -implicitDefEqProofs only [runC,mrun,result,AV.fin,XV.fin,Option.bind,Option.map,r39_validFace.r0,r39_validFace.r1,r39_validFace.m,κa,κb,κc,κd,κe,κf,κg,κh,κi,κj,κk,κl,κm,κn,κo,κp,κq,κr,κs,κt,κu,κv,κw,κx,κy,κz,κa1,κb1,κc1,κd1,κe1,κf1,κg1,κh1,κi1,κj1,κk1,κl1,κm1,κn1,κo1,κp1,κq1,κr1,κs1,if_true,if_false,reduceIte,κt1,κu1,κv1,κw1,κx1,κy1,κz1,κa2,κb2,κc2,κd2,κe2,κf2,κg2,κh2,κi2,κj2,κk2,κl2,κm2,κn2,κo2,κp2,κq2,reduceCtorEq,κr2,κs2,κt2,κu2,κv2,κw2,κx2,κy2,κz2,κa3,eq_self,κb3,κc3,zL,ge_iff_le,gt_iff_lt,rBool,rInt,r38_ValidCompare.S,r39_ValidOp.S,h0,h1,h2,h3]
          · have hp : faceB a b c d = false := decide_eq_false (fun h => h3 (h.2.2.2))
            rw [hp]
            simp -implicitDefEqProofs only [runC,mrun,result,AV.fin,XV.fin,Option.bind,Option.map,r39_validFace.r0,r39_validFace.r1,r39_validFace.m,κa,κb,κc,κd,κe,κf,κg,κh,κi,κj,κk,κl,κm,κn,κo,κp,κq,κr,κs,κt,κu,κv,κw,κx,κy,κz,κa1,κb1,κc1,κd1,κe1,κf1,κg1,κh1,κi1,κj1,κk1,κl1,κm1,κn1,κo1,κp1,κq1,κr1,κs1,if_true,if_false,reduceIte,κt1,κu1,κv1,κw1,κx1,κy1,κz1,κa2,κb2,κc2,κd2,κe2,κf2,κg2,κh2,κi2,κj2,κk2,κl2,κm2,κn2,κo2,κp2,κq2,reduceCtorEq,κr2,κs2,κt2,κu2,κv2,κw2,κx2,κy2,κz2,κa3,eq_self,κb3,κc3,zL,ge_iff_le,gt_iff_lt,rBool,rInt,r38_ValidCompare.S,r39_ValidOp.S,h0,h1,h2,h3]
        · have hp : faceB a b c d = false := decide_eq_false (fun h => h2 (h.2.2.1))
          rw [hp]
          simp -implicitDefEqProofs only [runC,mrun,result,AV.fin,XV.fin,Option.bind,Option.map,r39_validFace.r0,r39_validFace.r1,r39_validFace.m,κa,κb,κc,κd,κe,κf,κg,κh,κi,κj,κk,κl,κm,κn,κo,κp,κq,κr,κs,κt,κu,κv,κw,κx,κy,κz,κa1,κb1,κc1,κd1,κe1,κf1,κg1,κh1,κi1,κj1,κk1,κl1,κm1,κn1,κo1,κp1,κq1,κr1,κs1,if_true,if_false,reduceIte,κt1,κu1,κv1,κw1,κx1,κy1,κz1,κa2,κb2,κc2,κd2,κe2,κf2,κg2,κh2,κi2,κj2,κk2,κl2,κm2,κn2,κo2,κp2,κq2,reduceCtorEq,κr2,κs2,κt2,κu2,κv2,κw2,κx2,κy2,κz2,κa3,eq_self,κb3,κc3,zL,ge_iff_le,gt_iff_lt,rBool,rInt,r38_ValidCompare.S,r39_ValidOp.S,h0,h1,h2]
      · have hp : faceB a b c d = false := decide_eq_false (fun h => h1 (h.2.1))
        rw [hp]
        simp -implicitDefEqProofs only [runC,mrun,result,AV.fin,XV.fin,Option.bind,Option.map,r39_validFace.r0,r39_validFace.r1,r39_validFace.m,κa,κb,κc,κd,κe,κf,κg,κh,κi,κj,κk,κl,κm,κn,κo,κp,κq,κr,κs,κt,κu,κv,κw,κx,κy,κz,κa1,κb1,κc1,κd1,κe1,κf1,κg1,κh1,κi1,κj1,κk1,κl1,κm1,κn1,κo1,κp1,κq1,κr1,κs1,if_true,if_false,reduceIte,κt1,κu1,κv1,κw1,κx1,κy1,κz1,κa2,κb2,κc2,κd2,κe2,κf2,κg2,κh2,κi2,κj2,κk2,κl2,κm2,κn2,κo2,κp2,κq2,reduceCtorEq,κr2,κs2,κt2,κu2,κv2,κw2,κx2,κy2,κz2,κa3,eq_self,κb3,κc3,zL,ge_iff_le,gt_iff_lt,rBool,rInt,r38_ValidCompare.S,r39_ValidOp.S,h0,h1]
    · have hp : faceB a b c d = false := decide_eq_false (fun h => h0 (h.1))
      rw [hp]
      simp -implicitDefEqProofs only [runC,mrun,result,AV.fin,XV.fin,Option.bind,Option.map,r39_validFace.r0,r39_validFace.r1,r39_validFace.m,κa,κb,κc,κd,κe,κf,κg,κh,κi,κj,κk,κl,κm,κn,κo,κp,κq,κr,κs,κt,κu,κv,κw,κx,κy,κz,κa1,κb1,κc1,κd1,κe1,κf1,κg1,κh1,κi1,κj1,κk1,κl1,κm1,κn1,κo1,κp1,κq1,κr1,κs1,if_true,if_false,reduceIte,κt1,κu1,κv1,κw1,κx1,κy1,κz1,κa2,κb2,κc2,κd2,κe2,κf2,κg2,κh2,κi2,κj2,κk2,κl2,κm2,κn2,κo2,κp2,κq2,reduceCtorEq,κr2,κs2,κt2,κu2,κv2,κw2,κx2,κy2,κz2,κa3,eq_self,κb3,κc3,zL,ge_iff_le,gt_iff_lt,rBool,rInt,r38_ValidCompare.S,r39_ValidOp.S,h0]
  · cases h
def stB (a1 a2 a3 a4 b1 b2 b3 b4 x y z : Int) : Bool := decide (faceB a1 a2 a3 a4 = true ∧ faceB b1 b2 b3 b4 = true ∧ byteB x = true ∧ byteB y = true ∧ byteB z = true)
def st_Valid.S : Am.Spec := fun args => match args with
  | [.agg [.bool t,.int .i64 a1,.int .i64 a2,.int .i64 a3,.int .i64 a4,.int .i64 b1,.int .i64 b2,.int .i64 b3,.int .i64 b4,.int .i64 x,.int .i64 y,.int .i64 z]] => some (rBool (stB a1 a2 a3 a4 b1 b2 b3 b4 x y z))
  | _ => none
theorem st_Valid.ok : SpecOK Try.prog 22 st_Valid.S := fun args r h => by
  unfold st_Valid.S at h
  split at h
  · cases h
    rename_i t a1 a2 a3 a4 b1 b2 b3 b4 x y z
    refine runC_law (n := 0) Try.func22 st_Valid.tr rfl hE (ok_cons st_validFace.ok (ok_cons st_inByte.ok ok_nil)) ?_
    by_cases h0 : faceB a1 a2 a3 a4 = true
    · by_cases h1 : faceB b1 b2 b3 b4 = true
      · by_cases h2 : byteB x = true
        · by_cases h3 : byteB y = true
          · by_cases h4 : byteB z = true
            · have hp : stB a1 a2 a3 a4 b1 b2 b3 b4 x y z = true := decide_eq_true ⟨h0,h1,h2,h3,h4⟩
              rw [hp]
              simp -implicitDefEqProofs only [runC,mrun,result,AV.fin,XV.fin,Option.bind,Option.map,st_Valid.r0,st_Valid.r1,st_Valid.m,κa,κb,κc,κd,κe,κf,κg,κh,κi,κj,κk,κl,κm,κn,κo,κp,κq,κr,κs,κt,κu,κv,κw,κx,κy,κz,κa1,κb1,κc1,κd1,κe1,κf1,κg1,κh1,κi1,κj1,κk1,κl1,κm1,κn1,κo1,κp1,κq1,κr1,κs1,if_true,if_false,reduceIte,κt1,κu1,κv1,κw1,κx1,κy1,κz1,κa2,κb2,κc2,κd2,κe2,κf2,κg2,κh2,κi2,κj2,κk2,κl2,κm2,κn2,κo2,κp2,κq2,reduceCtorEq,κr2,κs2,κt2,κu2,κv2,κw2,κx2,κy2,κz2,κa3,eq_self,κb3,κc3,zL,ge_iff_le,gt_iff_lt,rBool,rInt,st_validFace.S,st_inByte.S,h0,h1,h2,h3,h4]
            · have hp : stB a1 a2 a3 a4 b1 b2 b3 b4 x y z = false := decide_eq_false (fun h => h4 (h.2.2.2.2))
              rw [hp]
              simp -implicitDefEqProofs only [runC,mrun,result,AV.fin,XV.fin,Option.bind,Option.map,st_Valid.r0,st_Valid.r1,st_Valid.m,κa,κb,κc,κd,κe,κf,κg,κh,κi,κj,κk,κl,κm,κn,κo,κp,κq,κr,κs,κt,κu,κv,κw,κx,κy,κz,κa1,κb1,κc1,κd1,κe1,κf1,κg1,κh1,κi1,κj1,κk1,κl1,κm1,κn1,κo1,κp1,κq1,κr1,κs1,if_true,if_false,reduceIte,κt1,κu1,κv1,κw1,κx1,κy1,κz1,κa2,κb2,κc2,κd2,κe2,κf2,κg2,κh2,κi2,κj2,κk2,κl2,κm2,κn2,κo2,κp2,κq2,reduceCtorEq,κr2,κs2,κt2,κu2,κv2,κw2,κx2,κy2,κz2,κa3,eq_self,κb3,κc3,zL,ge_iff_le,gt_iff_lt,rBool,rInt,st_validFace.S,st_inByte.S,h0,h1,h2,h3,h4]
          · have hp : stB a1 a2 a3 a4 b1 b2 b3 b4 x y z = false := decide_eq_false (fun h => h3 (h.2.2.2.1))
            rw [hp]
            simp -implicitDefEqProofs only [runC,mrun,result,AV.fin,XV.fin,Option.bind,Option.map,st_Valid.r0,st_Valid.r1,st_Valid.m,κa,κb,κc,κd,κe,κf,κg,κh,κi,κj,κk,κl,κm,κn,κo,κp,κq,κr,κs,κt,κu,κv,κw,κx,κy,κz,κa1,κb1,κc1,κd1,κe1,κf1,κg1,κh1,κi1,κj1,κk1,κl1,κm1,κn1,κo1,κp1,κq1,κr1,κs1,if_true,if_false,reduceIte,κt1,κu1,κv1,κw1,κx1,κy1,κz1,κa2,κb2,κc2,κd2,κe2,κf2,κg2,κh2,κi2,κj2,κk2,κl2,κm2,κn2,κo2,κp2,κq2,reduceCtorEq,κr2,κs2,κt2,κu2,κv2,κw2,κx2,κy2,κz2,κa3,eq_self,κb3,κc3,zL,ge_iff_le,gt_iff_lt,rBool,rInt,st_validFace.S,st_inByte.S,h0,h1,h2,h3]
        · have hp : stB a1 a2 a3 a4 b1 b2 b3 b4 x y z = false := decide_eq_false (fun h => h2 (h.2.2.1))
          rw [hp]
          simp -implicitDefEqProofs only [runC,mrun,result,AV.fin,XV.fin,Option.bind,Option.map,st_Valid.r0,st_Valid.r1,st_Valid.m,κa,κb,κc,κd,κe,κf,κg,κh,κi,κj,κk,κl,κm,κn,κo,κp,κq,κr,κs,κt,κu,κv,κw,κx,κy,κz,κa1,κb1,κc1,κd1,κe1,κf1,κg1,κh1,κi1,κj1,κk1,κl1,κm1,κn1,κo1,κp1,κq1,κr1,κs1,if_true,if_false,reduceIte,κt1,κu1,κv1,κw1,κx1,κy1,κz1,κa2,κb2,κc2,κd2,κe2,κf2,κg2,κh2,κi2,κj2,κk2,κl2,κm2,κn2,κo2,κp2,κq2,reduceCtorEq,κr2,κs2,κt2,κu2,κv2,κw2,κx2,κy2,κz2,κa3,eq_self,κb3,κc3,zL,ge_iff_le,gt_iff_lt,rBool,rInt,st_validFace.S,st_inByte.S,h0,h1,h2]
      · have hp : stB a1 a2 a3 a4 b1 b2 b3 b4 x y z = false := decide_eq_false (fun h => h1 (h.2.1))
        rw [hp]
        simp -implicitDefEqProofs only [runC,mrun,result,AV.fin,XV.fin,Option.bind,Option.map,st_Valid.r0,st_Valid.r1,st_Valid.m,κa,κb,κc,κd,κe,κf,κg,κh,κi,κj,κk,κl,κm,κn,κo,κp,κq,κr,κs,κt,κu,κv,κw,κx,κy,κz,κa1,κb1,κc1,κd1,κe1,κf1,κg1,κh1,κi1,κj1,κk1,κl1,κm1,κn1,κo1,κp1,κq1,κr1,κs1,if_true,if_false,reduceIte,κt1,κu1,κv1,κw1,κx1,κy1,κz1,κa2,κb2,κc2,κd2,κe2,κf2,κg2,κh2,κi2,κj2,κk2,κl2,κm2,κn2,κo2,κp2,κq2,reduceCtorEq,κr2,κs2,κt2,κu2,κv2,κw2,κx2,κy2,κz2,κa3,eq_self,κb3,κc3,zL,ge_iff_le,gt_iff_lt,rBool,rInt,st_validFace.S,st_inByte.S,h0,h1]
    · have hp : stB a1 a2 a3 a4 b1 b2 b3 b4 x y z = false := decide_eq_false (fun h => h0 (h.1))
      rw [hp]
      simp -implicitDefEqProofs only [runC,mrun,result,AV.fin,XV.fin,Option.bind,Option.map,st_Valid.r0,st_Valid.r1,st_Valid.m,κa,κb,κc,κd,κe,κf,κg,κh,κi,κj,κk,κl,κm,κn,κo,κp,κq,κr,κs,κt,κu,κv,κw,κx,κy,κz,κa1,κb1,κc1,κd1,κe1,κf1,κg1,κh1,κi1,κj1,κk1,κl1,κm1,κn1,κo1,κp1,κq1,κr1,κs1,if_true,if_false,reduceIte,κt1,κu1,κv1,κw1,κx1,κy1,κz1,κa2,κb2,κc2,κd2,κe2,κf2,κg2,κh2,κi2,κj2,κk2,κl2,κm2,κn2,κo2,κp2,κq2,reduceCtorEq,κr2,κs2,κt2,κu2,κv2,κw2,κx2,κy2,κz2,κa3,eq_self,κb3,κc3,zL,ge_iff_le,gt_iff_lt,rBool,rInt,st_validFace.S,st_inByte.S,h0]
  · cases h
def r39_Valid.S : Am.Spec := fun args => match args with
  | [.agg [.bool t,.int .i64 a1,.int .i64 a2,.int .i64 a3,.int .i64 a4,.int .i64 b1,.int .i64 b2,.int .i64 b3,.int .i64 b4,.int .i64 x,.int .i64 y,.int .i64 z]] => some (rBool (stB a1 a2 a3 a4 b1 b2 b3 b4 x y z))
  | _ => none
theorem r39_Valid.ok : SpecOK Try.prog 33 r39_Valid.S := fun args r h => by
  unfold r39_Valid.S at h
  split at h
  · cases h
    rename_i t a1 a2 a3 a4 b1 b2 b3 b4 x y z
    refine runC_law (n := 0) Try.func33 r39_Valid.tr rfl hE (ok_cons r39_validFace.ok (ok_cons r39_octet.ok ok_nil)) ?_
    by_cases h0 : faceB a1 a2 a3 a4 = true
    · by_cases h1 : faceB b1 b2 b3 b4 = true
      · by_cases h2 : byteB x = true
        · by_cases h3 : byteB y = true
          · by_cases h4 : byteB z = true
            · have hp : stB a1 a2 a3 a4 b1 b2 b3 b4 x y z = true := decide_eq_true ⟨h0,h1,h2,h3,h4⟩
              rw [hp]
              simp -implicitDefEqProofs only [runC,mrun,result,AV.fin,XV.fin,Option.bind,Option.map,r39_Valid.r0,r39_Valid.r1,r39_Valid.m,κa,κb,κc,κd,κe,κf,κg,κh,κi,κj,κk,κl,κm,κn,κo,κp,κq,κr,κs,κt,κu,κv,κw,κx,κy,κz,κa1,κb1,κc1,κd1,κe1,κf1,κg1,κh1,κi1,κj1,κk1,κl1,κm1,κn1,κo1,κp1,κq1,κr1,κs1,if_true,if_false,reduceIte,κt1,κu1,κv1,κw1,κx1,κy1,κz1,κa2,κb2,κc2,κd2,κe2,κf2,κg2,κh2,κi2,κj2,κk2,κl2,κm2,κn2,κo2,κp2,κq2,reduceCtorEq,κr2,κs2,κt2,κu2,κv2,κw2,κx2,κy2,κz2,κa3,eq_self,κb3,κc3,zL,ge_iff_le,gt_iff_lt,rBool,rInt,r39_validFace.S,r39_octet.S,h0,h1,h2,h3,h4]
            · have hp : stB a1 a2 a3 a4 b1 b2 b3 b4 x y z = false := decide_eq_false (fun h => h4 (h.2.2.2.2))
              rw [hp]
              simp -implicitDefEqProofs only [runC,mrun,result,AV.fin,XV.fin,Option.bind,Option.map,r39_Valid.r0,r39_Valid.r1,r39_Valid.m,κa,κb,κc,κd,κe,κf,κg,κh,κi,κj,κk,κl,κm,κn,κo,κp,κq,κr,κs,κt,κu,κv,κw,κx,κy,κz,κa1,κb1,κc1,κd1,κe1,κf1,κg1,κh1,κi1,κj1,κk1,κl1,κm1,κn1,κo1,κp1,κq1,κr1,κs1,if_true,if_false,reduceIte,κt1,κu1,κv1,κw1,κx1,κy1,κz1,κa2,κb2,κc2,κd2,κe2,κf2,κg2,κh2,κi2,κj2,κk2,κl2,κm2,κn2,κo2,κp2,κq2,reduceCtorEq,κr2,κs2,κt2,κu2,κv2,κw2,κx2,κy2,κz2,κa3,eq_self,κb3,κc3,zL,ge_iff_le,gt_iff_lt,rBool,rInt,r39_validFace.S,r39_octet.S,h0,h1,h2,h3,h4]
          · have hp : stB a1 a2 a3 a4 b1 b2 b3 b4 x y z = false := decide_eq_false (fun h => h3 (h.2.2.2.1))
            rw [hp]
            simp -implicitDefEqProofs only [runC,mrun,result,AV.fin,XV.fin,Option.bind,Option.map,r39_Valid.r0,r39_Valid.r1,r39_Valid.m,κa,κb,κc,κd,κe,κf,κg,κh,κi,κj,κk,κl,κm,κn,κo,κp,κq,κr,κs,κt,κu,κv,κw,κx,κy,κz,κa1,κb1,κc1,κd1,κe1,κf1,κg1,κh1,κi1,κj1,κk1,κl1,κm1,κn1,κo1,κp1,κq1,κr1,κs1,if_true,if_false,reduceIte,κt1,κu1,κv1,κw1,κx1,κy1,κz1,κa2,κb2,κc2,κd2,κe2,κf2,κg2,κh2,κi2,κj2,κk2,κl2,κm2,κn2,κo2,κp2,κq2,reduceCtorEq,κr2,κs2,κt2,κu2,κv2,κw2,κx2,κy2,κz2,κa3,eq_self,κb3,κc3,zL,ge_iff_le,gt_iff_lt,rBool,rInt,r39_validFace.S,r39_octet.S,h0,h1,h2,h3]
        · have hp : stB a1 a2 a3 a4 b1 b2 b3 b4 x y z = false := decide_eq_false (fun h => h2 (h.2.2.1))
          rw [hp]
          simp -implicitDefEqProofs only [runC,mrun,result,AV.fin,XV.fin,Option.bind,Option.map,r39_Valid.r0,r39_Valid.r1,r39_Valid.m,κa,κb,κc,κd,κe,κf,κg,κh,κi,κj,κk,κl,κm,κn,κo,κp,κq,κr,κs,κt,κu,κv,κw,κx,κy,κz,κa1,κb1,κc1,κd1,κe1,κf1,κg1,κh1,κi1,κj1,κk1,κl1,κm1,κn1,κo1,κp1,κq1,κr1,κs1,if_true,if_false,reduceIte,κt1,κu1,κv1,κw1,κx1,κy1,κz1,κa2,κb2,κc2,κd2,κe2,κf2,κg2,κh2,κi2,κj2,κk2,κl2,κm2,κn2,κo2,κp2,κq2,reduceCtorEq,κr2,κs2,κt2,κu2,κv2,κw2,κx2,κy2,κz2,κa3,eq_self,κb3,κc3,zL,ge_iff_le,gt_iff_lt,rBool,rInt,r39_validFace.S,r39_octet.S,h0,h1,h2]
      · have hp : stB a1 a2 a3 a4 b1 b2 b3 b4 x y z = false := decide_eq_false (fun h => h1 (h.2.1))
        rw [hp]
        simp -implicitDefEqProofs only [runC,mrun,result,AV.fin,XV.fin,Option.bind,Option.map,r39_Valid.r0,r39_Valid.r1,r39_Valid.m,κa,κb,κc,κd,κe,κf,κg,κh,κi,κj,κk,κl,κm,κn,κo,κp,κq,κr,κs,κt,κu,κv,κw,κx,κy,κz,κa1,κb1,κc1,κd1,κe1,κf1,κg1,κh1,κi1,κj1,κk1,κl1,κm1,κn1,κo1,κp1,κq1,κr1,κs1,if_true,if_false,reduceIte,κt1,κu1,κv1,κw1,κx1,κy1,κz1,κa2,κb2,κc2,κd2,κe2,κf2,κg2,κh2,κi2,κj2,κk2,κl2,κm2,κn2,κo2,κp2,κq2,reduceCtorEq,κr2,κs2,κt2,κu2,κv2,κw2,κx2,κy2,κz2,κa3,eq_self,κb3,κc3,zL,ge_iff_le,gt_iff_lt,rBool,rInt,r39_validFace.S,r39_octet.S,h0,h1]
    · have hp : stB a1 a2 a3 a4 b1 b2 b3 b4 x y z = false := decide_eq_false (fun h => h0 (h.1))
      rw [hp]
      simp -implicitDefEqProofs only [runC,mrun,result,AV.fin,XV.fin,Option.bind,Option.map,r39_Valid.r0,r39_Valid.r1,r39_Valid.m,κa,κb,κc,κd,κe,κf,κg,κh,κi,κj,κk,κl,κm,κn,κo,κp,κq,κr,κs,κt,κu,κv,κw,κx,κy,κz,κa1,κb1,κc1,κd1,κe1,κf1,κg1,κh1,κi1,κj1,κk1,κl1,κm1,κn1,κo1,κp1,κq1,κr1,κs1,if_true,if_false,reduceIte,κt1,κu1,κv1,κw1,κx1,κy1,κz1,κa2,κb2,κc2,κd2,κe2,κf2,κg2,κh2,κi2,κj2,κk2,κl2,κm2,κn2,κo2,κp2,κq2,reduceCtorEq,κr2,κs2,κt2,κu2,κv2,κw2,κx2,κy2,κz2,κa3,eq_self,κb3,κc3,zL,ge_iff_le,gt_iff_lt,rBool,rInt,r39_validFace.S,r39_octet.S,h0]
  · cases h
def blB (a b c d e f m : Int) : Bool := decide (facB a = true ∧ facB b = true ∧ bopB c = true ∧ facB d = true ∧ facB e = true ∧ bopB f = true ∧ 0 ≤ m ∧ m ≤ 15)
def bl_Valid.S : Am.Spec := fun args => match args with
  | [.agg [.bool t,.int .i64 a,.int .i64 b,.int .i64 c,.int .i64 d,.int .i64 e,.int .i64 f,.int .i64 m]] => some (rBool (blB a b c d e f m))
  | _ => none
theorem bl_Valid.ok : SpecOK Try.prog 23 bl_Valid.S := fun args r h => by
  unfold bl_Valid.S at h
  split at h
  · cases h
    rename_i t a b c d e f m
    refine runC_law (n := 0) Try.func23 bl_Valid.tr rfl hE (ok_cons bl_ValidFactor.ok (ok_cons bl_ValidOp.ok ok_nil)) ?_
    by_cases h0 : facB a = true
    · by_cases h1 : facB b = true
      · by_cases h2 : bopB c = true
        · by_cases h3 : facB d = true
          · by_cases h4 : facB e = true
            · by_cases h5 : bopB f = true
              · by_cases h6 : 0 ≤ m
                · by_cases h7 : m ≤ 15
                  · have hp : blB a b c d e f m = true := decide_eq_true ⟨h0,h1,h2,h3,h4,h5,h6,h7⟩
                    rw [hp]
                    simp -implicitDefEqProofs only [runC,mrun,result,AV.fin,XV.fin,Option.bind,Option.map,bl_Valid.r0,bl_Valid.r1,bl_Valid.m,κa,κb,κc,κd,κe,κf,κg,κh,κi,κj,κk,κl,κm,κn,κo,κp,κq,κr,κs,κt,κu,κv,κw,κx,κy,κz,κa1,κb1,κc1,κd1,κe1,κf1,κg1,κh1,κi1,κj1,κk1,κl1,κm1,κn1,κo1,κp1,κq1,κr1,κs1,if_true,if_false,reduceIte,κt1,κu1,κv1,κw1,κx1,κy1,κz1,κa2,κb2,κc2,κd2,κe2,κf2,κg2,κh2,κi2,κj2,κk2,κl2,κm2,κn2,κo2,κp2,κq2,reduceCtorEq,κr2,κs2,κt2,κu2,κv2,κw2,κx2,κy2,κz2,κa3,eq_self,κb3,κc3,zL,ge_iff_le,gt_iff_lt,rBool,rInt,bl_ValidFactor.S,bl_ValidOp.S,h0,h1,h2,h3,h4,h5,h6,h7]
                  · have hp : blB a b c d e f m = false := decide_eq_false (fun h => h7 (h.2.2.2.2.2.2.2))
                    rw [hp]
                    simp -implicitDefEqProofs only [runC,mrun,result,AV.fin,XV.fin,Option.bind,Option.map,bl_Valid.r0,bl_Valid.r1,bl_Valid.m,κa,κb,κc,κd,κe,κf,κg,κh,κi,κj,κk,κl,κm,κn,κo,κp,κq,κr,κs,κt,κu,κv,κw,κx,κy,κz,κa1,κb1,κc1,κd1,κe1,κf1,κg1,κh1,κi1,κj1,κk1,κl1,κm1,κn1,κo1,κp1,κq1,κr1,κs1,if_true,if_false,reduceIte,κt1,κu1,κv1,κw1,κx1,κy1,κz1,κa2,κb2,κc2,κd2,κe2,κf2,κg2,κh2,κi2,κj2,κk2,κl2,κm2,κn2,κo2,κp2,κq2,reduceCtorEq,κr2,κs2,κt2,κu2,κv2,κw2,κx2,κy2,κz2,κa3,eq_self,κb3,κc3,zL,ge_iff_le,gt_iff_lt,rBool,rInt,bl_ValidFactor.S,bl_ValidOp.S,h0,h1,h2,h3,h4,h5,h6,h7]
                · have hp : blB a b c d e f m = false := decide_eq_false (fun h => h6 (h.2.2.2.2.2.2.1))
                  rw [hp]
                  simp -implicitDefEqProofs only [runC,mrun,result,AV.fin,XV.fin,Option.bind,Option.map,bl_Valid.r0,bl_Valid.r1,bl_Valid.m,κa,κb,κc,κd,κe,κf,κg,κh,κi,κj,κk,κl,κm,κn,κo,κp,κq,κr,κs,κt,κu,κv,κw,κx,κy,κz,κa1,κb1,κc1,κd1,κe1,κf1,κg1,κh1,κi1,κj1,κk1,κl1,κm1,κn1,κo1,κp1,κq1,κr1,κs1,if_true,if_false,reduceIte,κt1,κu1,κv1,κw1,κx1,κy1,κz1,κa2,κb2,κc2,κd2,κe2,κf2,κg2,κh2,κi2,κj2,κk2,κl2,κm2,κn2,κo2,κp2,κq2,reduceCtorEq,κr2,κs2,κt2,κu2,κv2,κw2,κx2,κy2,κz2,κa3,eq_self,κb3,κc3,zL,ge_iff_le,gt_iff_lt,rBool,rInt,bl_ValidFactor.S,bl_ValidOp.S,h0,h1,h2,h3,h4,h5,h6]
              · have hp : blB a b c d e f m = false := decide_eq_false (fun h => h5 (h.2.2.2.2.2.1))
                rw [hp]
                simp -implicitDefEqProofs only [runC,mrun,result,AV.fin,XV.fin,Option.bind,Option.map,bl_Valid.r0,bl_Valid.r1,bl_Valid.m,κa,κb,κc,κd,κe,κf,κg,κh,κi,κj,κk,κl,κm,κn,κo,κp,κq,κr,κs,κt,κu,κv,κw,κx,κy,κz,κa1,κb1,κc1,κd1,κe1,κf1,κg1,κh1,κi1,κj1,κk1,κl1,κm1,κn1,κo1,κp1,κq1,κr1,κs1,if_true,if_false,reduceIte,κt1,κu1,κv1,κw1,κx1,κy1,κz1,κa2,κb2,κc2,κd2,κe2,κf2,κg2,κh2,κi2,κj2,κk2,κl2,κm2,κn2,κo2,κp2,κq2,reduceCtorEq,κr2,κs2,κt2,κu2,κv2,κw2,κx2,κy2,κz2,κa3,eq_self,κb3,κc3,zL,ge_iff_le,gt_iff_lt,rBool,rInt,bl_ValidFactor.S,bl_ValidOp.S,h0,h1,h2,h3,h4,h5]
            · have hp : blB a b c d e f m = false := decide_eq_false (fun h => h4 (h.2.2.2.2.1))
              rw [hp]
              simp -implicitDefEqProofs only [runC,mrun,result,AV.fin,XV.fin,Option.bind,Option.map,bl_Valid.r0,bl_Valid.r1,bl_Valid.m,κa,κb,κc,κd,κe,κf,κg,κh,κi,κj,κk,κl,κm,κn,κo,κp,κq,κr,κs,κt,κu,κv,κw,κx,κy,κz,κa1,κb1,κc1,κd1,κe1,κf1,κg1,κh1,κi1,κj1,κk1,κl1,κm1,κn1,κo1,κp1,κq1,κr1,κs1,if_true,if_false,reduceIte,κt1,κu1,κv1,κw1,κx1,κy1,κz1,κa2,κb2,κc2,κd2,κe2,κf2,κg2,κh2,κi2,κj2,κk2,κl2,κm2,κn2,κo2,κp2,κq2,reduceCtorEq,κr2,κs2,κt2,κu2,κv2,κw2,κx2,κy2,κz2,κa3,eq_self,κb3,κc3,zL,ge_iff_le,gt_iff_lt,rBool,rInt,bl_ValidFactor.S,bl_ValidOp.S,h0,h1,h2,h3,h4]
          · have hp : blB a b c d e f m = false := decide_eq_false (fun h => h3 (h.2.2.2.1))
            rw [hp]
            simp -implicitDefEqProofs only [runC,mrun,result,AV.fin,XV.fin,Option.bind,Option.map,bl_Valid.r0,bl_Valid.r1,bl_Valid.m,κa,κb,κc,κd,κe,κf,κg,κh,κi,κj,κk,κl,κm,κn,κo,κp,κq,κr,κs,κt,κu,κv,κw,κx,κy,κz,κa1,κb1,κc1,κd1,κe1,κf1,κg1,κh1,κi1,κj1,κk1,κl1,κm1,κn1,κo1,κp1,κq1,κr1,κs1,if_true,if_false,reduceIte,κt1,κu1,κv1,κw1,κx1,κy1,κz1,κa2,κb2,κc2,κd2,κe2,κf2,κg2,κh2,κi2,κj2,κk2,κl2,κm2,κn2,κo2,κp2,κq2,reduceCtorEq,κr2,κs2,κt2,κu2,κv2,κw2,κx2,κy2,κz2,κa3,eq_self,κb3,κc3,zL,ge_iff_le,gt_iff_lt,rBool,rInt,bl_ValidFactor.S,bl_ValidOp.S,h0,h1,h2,h3]
        · have hp : blB a b c d e f m = false := decide_eq_false (fun h => h2 (h.2.2.1))
          rw [hp]
          simp -implicitDefEqProofs only [runC,mrun,result,AV.fin,XV.fin,Option.bind,Option.map,bl_Valid.r0,bl_Valid.r1,bl_Valid.m,κa,κb,κc,κd,κe,κf,κg,κh,κi,κj,κk,κl,κm,κn,κo,κp,κq,κr,κs,κt,κu,κv,κw,κx,κy,κz,κa1,κb1,κc1,κd1,κe1,κf1,κg1,κh1,κi1,κj1,κk1,κl1,κm1,κn1,κo1,κp1,κq1,κr1,κs1,if_true,if_false,reduceIte,κt1,κu1,κv1,κw1,κx1,κy1,κz1,κa2,κb2,κc2,κd2,κe2,κf2,κg2,κh2,κi2,κj2,κk2,κl2,κm2,κn2,κo2,κp2,κq2,reduceCtorEq,κr2,κs2,κt2,κu2,κv2,κw2,κx2,κy2,κz2,κa3,eq_self,κb3,κc3,zL,ge_iff_le,gt_iff_lt,rBool,rInt,bl_ValidFactor.S,bl_ValidOp.S,h0,h1,h2]
      · have hp : blB a b c d e f m = false := decide_eq_false (fun h => h1 (h.2.1))
        rw [hp]
        simp -implicitDefEqProofs only [runC,mrun,result,AV.fin,XV.fin,Option.bind,Option.map,bl_Valid.r0,bl_Valid.r1,bl_Valid.m,κa,κb,κc,κd,κe,κf,κg,κh,κi,κj,κk,κl,κm,κn,κo,κp,κq,κr,κs,κt,κu,κv,κw,κx,κy,κz,κa1,κb1,κc1,κd1,κe1,κf1,κg1,κh1,κi1,κj1,κk1,κl1,κm1,κn1,κo1,κp1,κq1,κr1,κs1,if_true,if_false,reduceIte,κt1,κu1,κv1,κw1,κx1,κy1,κz1,κa2,κb2,κc2,κd2,κe2,κf2,κg2,κh2,κi2,κj2,κk2,κl2,κm2,κn2,κo2,κp2,κq2,reduceCtorEq,κr2,κs2,κt2,κu2,κv2,κw2,κx2,κy2,κz2,κa3,eq_self,κb3,κc3,zL,ge_iff_le,gt_iff_lt,rBool,rInt,bl_ValidFactor.S,bl_ValidOp.S,h0,h1]
    · have hp : blB a b c d e f m = false := decide_eq_false (fun h => h0 (h.1))
      rw [hp]
      simp -implicitDefEqProofs only [runC,mrun,result,AV.fin,XV.fin,Option.bind,Option.map,bl_Valid.r0,bl_Valid.r1,bl_Valid.m,κa,κb,κc,κd,κe,κf,κg,κh,κi,κj,κk,κl,κm,κn,κo,κp,κq,κr,κs,κt,κu,κv,κw,κx,κy,κz,κa1,κb1,κc1,κd1,κe1,κf1,κg1,κh1,κi1,κj1,κk1,κl1,κm1,κn1,κo1,κp1,κq1,κr1,κs1,if_true,if_false,reduceIte,κt1,κu1,κv1,κw1,κx1,κy1,κz1,κa2,κb2,κc2,κd2,κe2,κf2,κg2,κh2,κi2,κj2,κk2,κl2,κm2,κn2,κo2,κp2,κq2,reduceCtorEq,κr2,κs2,κt2,κu2,κv2,κw2,κx2,κy2,κz2,κa3,eq_self,κb3,κc3,zL,ge_iff_le,gt_iff_lt,rBool,rInt,bl_ValidFactor.S,bl_ValidOp.S,h0]
  · cases h
def r40_Valid.S : Am.Spec := fun args => match args with
  | [.agg [.bool t,.int .i64 a,.int .i64 b,.int .i64 c,.int .i64 d,.int .i64 e,.int .i64 f,.int .i64 m]] => some (rBool (blB a b c d e f m))
  | _ => none
theorem r40_Valid.ok : SpecOK Try.prog 34 r40_Valid.S := fun args r h => by
  unfold r40_Valid.S at h
  split at h
  · cases h
    rename_i t a b c d e f m
    refine runC_law (n := 0) Try.func34 r40_Valid.tr rfl hE (ok_cons r40_ValidFactor.ok (ok_cons r40_ValidOp.ok ok_nil)) ?_
    by_cases h0 : facB a = true
    · by_cases h1 : facB b = true
      · by_cases h2 : bopB c = true
        · by_cases h3 : facB d = true
          · by_cases h4 : facB e = true
            · by_cases h5 : bopB f = true
              · by_cases h6 : 0 ≤ m
                · by_cases h7 : m ≤ 15
                  · have hp : blB a b c d e f m = true := decide_eq_true ⟨h0,h1,h2,h3,h4,h5,h6,h7⟩
                    rw [hp]
                    simp -implicitDefEqProofs only [runC,mrun,result,AV.fin,XV.fin,Option.bind,Option.map,r40_Valid.r0,r40_Valid.r1,r40_Valid.m,κa,κb,κc,κd,κe,κf,κg,κh,κi,κj,κk,κl,κm,κn,κo,κp,κq,κr,κs,κt,κu,κv,κw,κx,κy,κz,κa1,κb1,κc1,κd1,κe1,κf1,κg1,κh1,κi1,κj1,κk1,κl1,κm1,κn1,κo1,κp1,κq1,κr1,κs1,if_true,if_false,reduceIte,κt1,κu1,κv1,κw1,κx1,κy1,κz1,κa2,κb2,κc2,κd2,κe2,κf2,κg2,κh2,κi2,κj2,κk2,κl2,κm2,κn2,κo2,κp2,κq2,reduceCtorEq,κr2,κs2,κt2,κu2,κv2,κw2,κx2,κy2,κz2,κa3,eq_self,κb3,κc3,zL,ge_iff_le,gt_iff_lt,rBool,rInt,r40_ValidFactor.S,r40_ValidOp.S,h0,h1,h2,h3,h4,h5,h6,h7]
                  · have hp : blB a b c d e f m = false := decide_eq_false (fun h => h7 (h.2.2.2.2.2.2.2))
                    rw [hp]
                    simp -implicitDefEqProofs only [runC,mrun,result,AV.fin,XV.fin,Option.bind,Option.map,r40_Valid.r0,r40_Valid.r1,r40_Valid.m,κa,κb,κc,κd,κe,κf,κg,κh,κi,κj,κk,κl,κm,κn,κo,κp,κq,κr,κs,κt,κu,κv,κw,κx,κy,κz,κa1,κb1,κc1,κd1,κe1,κf1,κg1,κh1,κi1,κj1,κk1,κl1,κm1,κn1,κo1,κp1,κq1,κr1,κs1,if_true,if_false,reduceIte,κt1,κu1,κv1,κw1,κx1,κy1,κz1,κa2,κb2,κc2,κd2,κe2,κf2,κg2,κh2,κi2,κj2,κk2,κl2,κm2,κn2,κo2,κp2,κq2,reduceCtorEq,κr2,κs2,κt2,κu2,κv2,κw2,κx2,κy2,κz2,κa3,eq_self,κb3,κc3,zL,ge_iff_le,gt_iff_lt,rBool,rInt,r40_ValidFactor.S,r40_ValidOp.S,h0,h1,h2,h3,h4,h5,h6,h7]
                · have hp : blB a b c d e f m = false := decide_eq_false (fun h => h6 (h.2.2.2.2.2.2.1))
                  rw [hp]
                  simp -implicitDefEqProofs only [runC,mrun,result,AV.fin,XV.fin,Option.bind,Option.map,r40_Valid.r0,r40_Valid.r1,r40_Valid.m,κa,κb,κc,κd,κe,κf,κg,κh,κi,κj,κk,κl,κm,κn,κo,κp,κq,κr,κs,κt,κu,κv,κw,κx,κy,κz,κa1,κb1,κc1,κd1,κe1,κf1,κg1,κh1,κi1,κj1,κk1,κl1,κm1,κn1,κo1,κp1,κq1,κr1,κs1,if_true,if_false,reduceIte,κt1,κu1,κv1,κw1,κx1,κy1,κz1,κa2,κb2,κc2,κd2,κe2,κf2,κg2,κh2,κi2,κj2,κk2,κl2,κm2,κn2,κo2,κp2,κq2,reduceCtorEq,κr2,κs2,κt2,κu2,κv2,κw2,κx2,κy2,κz2,κa3,eq_self,κb3,κc3,zL,ge_iff_le,gt_iff_lt,rBool,rInt,r40_ValidFactor.S,r40_ValidOp.S,h0,h1,h2,h3,h4,h5,h6]
              · have hp : blB a b c d e f m = false := decide_eq_false (fun h => h5 (h.2.2.2.2.2.1))
                rw [hp]
                simp -implicitDefEqProofs only [runC,mrun,result,AV.fin,XV.fin,Option.bind,Option.map,r40_Valid.r0,r40_Valid.r1,r40_Valid.m,κa,κb,κc,κd,κe,κf,κg,κh,κi,κj,κk,κl,κm,κn,κo,κp,κq,κr,κs,κt,κu,κv,κw,κx,κy,κz,κa1,κb1,κc1,κd1,κe1,κf1,κg1,κh1,κi1,κj1,κk1,κl1,κm1,κn1,κo1,κp1,κq1,κr1,κs1,if_true,if_false,reduceIte,κt1,κu1,κv1,κw1,κx1,κy1,κz1,κa2,κb2,κc2,κd2,κe2,κf2,κg2,κh2,κi2,κj2,κk2,κl2,κm2,κn2,κo2,κp2,κq2,reduceCtorEq,κr2,κs2,κt2,κu2,κv2,κw2,κx2,κy2,κz2,κa3,eq_self,κb3,κc3,zL,ge_iff_le,gt_iff_lt,rBool,rInt,r40_ValidFactor.S,r40_ValidOp.S,h0,h1,h2,h3,h4,h5]
            · have hp : blB a b c d e f m = false := decide_eq_false (fun h => h4 (h.2.2.2.2.1))
              rw [hp]
              simp -implicitDefEqProofs only [runC,mrun,result,AV.fin,XV.fin,Option.bind,Option.map,r40_Valid.r0,r40_Valid.r1,r40_Valid.m,κa,κb,κc,κd,κe,κf,κg,κh,κi,κj,κk,κl,κm,κn,κo,κp,κq,κr,κs,κt,κu,κv,κw,κx,κy,κz,κa1,κb1,κc1,κd1,κe1,κf1,κg1,κh1,κi1,κj1,κk1,κl1,κm1,κn1,κo1,κp1,κq1,κr1,κs1,if_true,if_false,reduceIte,κt1,κu1,κv1,κw1,κx1,κy1,κz1,κa2,κb2,κc2,κd2,κe2,κf2,κg2,κh2,κi2,κj2,κk2,κl2,κm2,κn2,κo2,κp2,κq2,reduceCtorEq,κr2,κs2,κt2,κu2,κv2,κw2,κx2,κy2,κz2,κa3,eq_self,κb3,κc3,zL,ge_iff_le,gt_iff_lt,rBool,rInt,r40_ValidFactor.S,r40_ValidOp.S,h0,h1,h2,h3,h4]
          · have hp : blB a b c d e f m = false := decide_eq_false (fun h => h3 (h.2.2.2.1))
            rw [hp]
            simp -implicitDefEqProofs only [runC,mrun,result,AV.fin,XV.fin,Option.bind,Option.map,r40_Valid.r0,r40_Valid.r1,r40_Valid.m,κa,κb,κc,κd,κe,κf,κg,κh,κi,κj,κk,κl,κm,κn,κo,κp,κq,κr,κs,κt,κu,κv,κw,κx,κy,κz,κa1,κb1,κc1,κd1,κe1,κf1,κg1,κh1,κi1,κj1,κk1,κl1,κm1,κn1,κo1,κp1,κq1,κr1,κs1,if_true,if_false,reduceIte,κt1,κu1,κv1,κw1,κx1,κy1,κz1,κa2,κb2,κc2,κd2,κe2,κf2,κg2,κh2,κi2,κj2,κk2,κl2,κm2,κn2,κo2,κp2,κq2,reduceCtorEq,κr2,κs2,κt2,κu2,κv2,κw2,κx2,κy2,κz2,κa3,eq_self,κb3,κc3,zL,ge_iff_le,gt_iff_lt,rBool,rInt,r40_ValidFactor.S,r40_ValidOp.S,h0,h1,h2,h3]
        · have hp : blB a b c d e f m = false := decide_eq_false (fun h => h2 (h.2.2.1))
          rw [hp]
          simp -implicitDefEqProofs only [runC,mrun,result,AV.fin,XV.fin,Option.bind,Option.map,r40_Valid.r0,r40_Valid.r1,r40_Valid.m,κa,κb,κc,κd,κe,κf,κg,κh,κi,κj,κk,κl,κm,κn,κo,κp,κq,κr,κs,κt,κu,κv,κw,κx,κy,κz,κa1,κb1,κc1,κd1,κe1,κf1,κg1,κh1,κi1,κj1,κk1,κl1,κm1,κn1,κo1,κp1,κq1,κr1,κs1,if_true,if_false,reduceIte,κt1,κu1,κv1,κw1,κx1,κy1,κz1,κa2,κb2,κc2,κd2,κe2,κf2,κg2,κh2,κi2,κj2,κk2,κl2,κm2,κn2,κo2,κp2,κq2,reduceCtorEq,κr2,κs2,κt2,κu2,κv2,κw2,κx2,κy2,κz2,κa3,eq_self,κb3,κc3,zL,ge_iff_le,gt_iff_lt,rBool,rInt,r40_ValidFactor.S,r40_ValidOp.S,h0,h1,h2]
      · have hp : blB a b c d e f m = false := decide_eq_false (fun h => h1 (h.2.1))
        rw [hp]
        simp -implicitDefEqProofs only [runC,mrun,result,AV.fin,XV.fin,Option.bind,Option.map,r40_Valid.r0,r40_Valid.r1,r40_Valid.m,κa,κb,κc,κd,κe,κf,κg,κh,κi,κj,κk,κl,κm,κn,κo,κp,κq,κr,κs,κt,κu,κv,κw,κx,κy,κz,κa1,κb1,κc1,κd1,κe1,κf1,κg1,κh1,κi1,κj1,κk1,κl1,κm1,κn1,κo1,κp1,κq1,κr1,κs1,if_true,if_false,reduceIte,κt1,κu1,κv1,κw1,κx1,κy1,κz1,κa2,κb2,κc2,κd2,κe2,κf2,κg2,κh2,κi2,κj2,κk2,κl2,κm2,κn2,κo2,κp2,κq2,reduceCtorEq,κr2,κs2,κt2,κu2,κv2,κw2,κx2,κy2,κz2,κa3,eq_self,κb3,κc3,zL,ge_iff_le,gt_iff_lt,rBool,rInt,r40_ValidFactor.S,r40_ValidOp.S,h0,h1]
    · have hp : blB a b c d e f m = false := decide_eq_false (fun h => h0 (h.1))
      rw [hp]
      simp -implicitDefEqProofs only [runC,mrun,result,AV.fin,XV.fin,Option.bind,Option.map,r40_Valid.r0,r40_Valid.r1,r40_Valid.m,κa,κb,κc,κd,κe,κf,κg,κh,κi,κj,κk,κl,κm,κn,κo,κp,κq,κr,κs,κt,κu,κv,κw,κx,κy,κz,κa1,κb1,κc1,κd1,κe1,κf1,κg1,κh1,κi1,κj1,κk1,κl1,κm1,κn1,κo1,κp1,κq1,κr1,κs1,if_true,if_false,reduceIte,κt1,κu1,κv1,κw1,κx1,κy1,κz1,κa2,κb2,κc2,κd2,κe2,κf2,κg2,κh2,κi2,κj2,κk2,κl2,κm2,κn2,κo2,κp2,κq2,reduceCtorEq,κr2,κs2,κt2,κu2,κv2,κw2,κx2,κy2,κz2,κa3,eq_self,κb3,κc3,zL,ge_iff_le,gt_iff_lt,rBool,rInt,r40_ValidFactor.S,r40_ValidOp.S,h0]
  · cases h
def dsB (a b : Int) : Bool := decide (cmpB a = true ∧ -65536 ≤ b ∧ b ≤ 65536)
def depth_ValidState.S : Am.Spec := fun args => match args with
  | [.agg [.bool t,.bool u,.int .i64 a,.int .i64 b]] => some (rBool (dsB a b))
  | _ => none
theorem depth_ValidState.ok : SpecOK Try.prog 21 depth_ValidState.S := fun args r h => by
  unfold depth_ValidState.S at h
  split at h
  · cases h
    rename_i t u a b
    refine runC_law (n := 0) Try.func21 depth_ValidState.tr rfl hE (ok_cons depth_ValidCompare.ok ok_nil) ?_
    by_cases h0 : cmpB a = true
    · by_cases h1 : -65536 ≤ b
      · by_cases h2 : b ≤ 65536
        · have hp : dsB a b = true := decide_eq_true ⟨h0,h1,h2⟩
          rw [hp]
          simp -implicitDefEqProofs only [runC,mrun,result,AV.fin,XV.fin,Option.bind,Option.map,depth_ValidState.r0,depth_ValidState.r1,depth_ValidState.m,κa,κb,κc,κd,κe,κf,κg,κh,κi,κj,κk,κl,κm,κn,κo,κp,κq,κr,κs,κt,κu,κv,κw,κx,κy,κz,κa1,κb1,κc1,κd1,κe1,κf1,κg1,κh1,κi1,κj1,κk1,κl1,κm1,κn1,κo1,κp1,κq1,κr1,κs1,if_true,if_false,reduceIte,κt1,κu1,κv1,κw1,κx1,κy1,κz1,κa2,κb2,κc2,κd2,κe2,κf2,κg2,κh2,κi2,κj2,κk2,κl2,κm2,κn2,κo2,κp2,κq2,reduceCtorEq,κr2,κs2,κt2,κu2,κv2,κw2,κx2,κy2,κz2,κa3,eq_self,κb3,κc3,zL,ge_iff_le,gt_iff_lt,rBool,rInt,depth_ValidCompare.S,h0,h1,h2]
        · have hp : dsB a b = false := decide_eq_false (fun h => h2 (h.2.2))
          rw [hp]
          simp -implicitDefEqProofs only [runC,mrun,result,AV.fin,XV.fin,Option.bind,Option.map,depth_ValidState.r0,depth_ValidState.r1,depth_ValidState.m,κa,κb,κc,κd,κe,κf,κg,κh,κi,κj,κk,κl,κm,κn,κo,κp,κq,κr,κs,κt,κu,κv,κw,κx,κy,κz,κa1,κb1,κc1,κd1,κe1,κf1,κg1,κh1,κi1,κj1,κk1,κl1,κm1,κn1,κo1,κp1,κq1,κr1,κs1,if_true,if_false,reduceIte,κt1,κu1,κv1,κw1,κx1,κy1,κz1,κa2,κb2,κc2,κd2,κe2,κf2,κg2,κh2,κi2,κj2,κk2,κl2,κm2,κn2,κo2,κp2,κq2,reduceCtorEq,κr2,κs2,κt2,κu2,κv2,κw2,κx2,κy2,κz2,κa3,eq_self,κb3,κc3,zL,ge_iff_le,gt_iff_lt,rBool,rInt,depth_ValidCompare.S,h0,h1,h2]
      · have hp : dsB a b = false := decide_eq_false (fun h => h1 (h.2.1))
        rw [hp]
        simp -implicitDefEqProofs only [runC,mrun,result,AV.fin,XV.fin,Option.bind,Option.map,depth_ValidState.r0,depth_ValidState.r1,depth_ValidState.m,κa,κb,κc,κd,κe,κf,κg,κh,κi,κj,κk,κl,κm,κn,κo,κp,κq,κr,κs,κt,κu,κv,κw,κx,κy,κz,κa1,κb1,κc1,κd1,κe1,κf1,κg1,κh1,κi1,κj1,κk1,κl1,κm1,κn1,κo1,κp1,κq1,κr1,κs1,if_true,if_false,reduceIte,κt1,κu1,κv1,κw1,κx1,κy1,κz1,κa2,κb2,κc2,κd2,κe2,κf2,κg2,κh2,κi2,κj2,κk2,κl2,κm2,κn2,κo2,κp2,κq2,reduceCtorEq,κr2,κs2,κt2,κu2,κv2,κw2,κx2,κy2,κz2,κa3,eq_self,κb3,κc3,zL,ge_iff_le,gt_iff_lt,rBool,rInt,depth_ValidCompare.S,h0,h1]
    · have hp : dsB a b = false := decide_eq_false (fun h => h0 (h.1))
      rw [hp]
      simp -implicitDefEqProofs only [runC,mrun,result,AV.fin,XV.fin,Option.bind,Option.map,depth_ValidState.r0,depth_ValidState.r1,depth_ValidState.m,κa,κb,κc,κd,κe,κf,κg,κh,κi,κj,κk,κl,κm,κn,κo,κp,κq,κr,κs,κt,κu,κv,κw,κx,κy,κz,κa1,κb1,κc1,κd1,κe1,κf1,κg1,κh1,κi1,κj1,κk1,κl1,κm1,κn1,κo1,κp1,κq1,κr1,κs1,if_true,if_false,reduceIte,κt1,κu1,κv1,κw1,κx1,κy1,κz1,κa2,κb2,κc2,κd2,κe2,κf2,κg2,κh2,κi2,κj2,κk2,κl2,κm2,κn2,κo2,κp2,κq2,reduceCtorEq,κr2,κs2,κt2,κu2,κv2,κw2,κx2,κy2,κz2,κa3,eq_self,κb3,κc3,zL,ge_iff_le,gt_iff_lt,rBool,rInt,depth_ValidCompare.S,h0]
  · cases h
def r38_ValidState.S : Am.Spec := fun args => match args with
  | [.agg [.bool t,.bool u,.int .i64 a,.int .i64 b]] => some (rBool (dsB a b))
  | _ => none
theorem r38_ValidState.ok : SpecOK Try.prog 32 r38_ValidState.S := fun args r h => by
  unfold r38_ValidState.S at h
  split at h
  · cases h
    rename_i t u a b
    refine runC_law (n := 0) Try.func32 r38_ValidState.tr rfl hE (ok_cons r38_ValidCompare.ok ok_nil) ?_
    by_cases h0 : cmpB a = true
    · by_cases h1 : -65536 ≤ b
      · by_cases h2 : b ≤ 65536
        · have hp : dsB a b = true := decide_eq_true ⟨h0,h1,h2⟩
          rw [hp]
          simp -implicitDefEqProofs only [runC,mrun,result,AV.fin,XV.fin,Option.bind,Option.map,r38_ValidState.r0,r38_ValidState.r1,r38_ValidState.m,κa,κb,κc,κd,κe,κf,κg,κh,κi,κj,κk,κl,κm,κn,κo,κp,κq,κr,κs,κt,κu,κv,κw,κx,κy,κz,κa1,κb1,κc1,κd1,κe1,κf1,κg1,κh1,κi1,κj1,κk1,κl1,κm1,κn1,κo1,κp1,κq1,κr1,κs1,if_true,if_false,reduceIte,κt1,κu1,κv1,κw1,κx1,κy1,κz1,κa2,κb2,κc2,κd2,κe2,κf2,κg2,κh2,κi2,κj2,κk2,κl2,κm2,κn2,κo2,κp2,κq2,reduceCtorEq,κr2,κs2,κt2,κu2,κv2,κw2,κx2,κy2,κz2,κa3,eq_self,κb3,κc3,zL,ge_iff_le,gt_iff_lt,rBool,rInt,r38_ValidCompare.S,h0,h1,h2]
        · have hp : dsB a b = false := decide_eq_false (fun h => h2 (h.2.2))
          rw [hp]
          simp -implicitDefEqProofs only [runC,mrun,result,AV.fin,XV.fin,Option.bind,Option.map,r38_ValidState.r0,r38_ValidState.r1,r38_ValidState.m,κa,κb,κc,κd,κe,κf,κg,κh,κi,κj,κk,κl,κm,κn,κo,κp,κq,κr,κs,κt,κu,κv,κw,κx,κy,κz,κa1,κb1,κc1,κd1,κe1,κf1,κg1,κh1,κi1,κj1,κk1,κl1,κm1,κn1,κo1,κp1,κq1,κr1,κs1,if_true,if_false,reduceIte,κt1,κu1,κv1,κw1,κx1,κy1,κz1,κa2,κb2,κc2,κd2,κe2,κf2,κg2,κh2,κi2,κj2,κk2,κl2,κm2,κn2,κo2,κp2,κq2,reduceCtorEq,κr2,κs2,κt2,κu2,κv2,κw2,κx2,κy2,κz2,κa3,eq_self,κb3,κc3,zL,ge_iff_le,gt_iff_lt,rBool,rInt,r38_ValidCompare.S,h0,h1,h2]
      · have hp : dsB a b = false := decide_eq_false (fun h => h1 (h.2.1))
        rw [hp]
        simp -implicitDefEqProofs only [runC,mrun,result,AV.fin,XV.fin,Option.bind,Option.map,r38_ValidState.r0,r38_ValidState.r1,r38_ValidState.m,κa,κb,κc,κd,κe,κf,κg,κh,κi,κj,κk,κl,κm,κn,κo,κp,κq,κr,κs,κt,κu,κv,κw,κx,κy,κz,κa1,κb1,κc1,κd1,κe1,κf1,κg1,κh1,κi1,κj1,κk1,κl1,κm1,κn1,κo1,κp1,κq1,κr1,κs1,if_true,if_false,reduceIte,κt1,κu1,κv1,κw1,κx1,κy1,κz1,κa2,κb2,κc2,κd2,κe2,κf2,κg2,κh2,κi2,κj2,κk2,κl2,κm2,κn2,κo2,κp2,κq2,reduceCtorEq,κr2,κs2,κt2,κu2,κv2,κw2,κx2,κy2,κz2,κa3,eq_self,κb3,κc3,zL,ge_iff_le,gt_iff_lt,rBool,rInt,r38_ValidCompare.S,h0,h1]
    · have hp : dsB a b = false := decide_eq_false (fun h => h0 (h.1))
      rw [hp]
      simp -implicitDefEqProofs only [runC,mrun,result,AV.fin,XV.fin,Option.bind,Option.map,r38_ValidState.r0,r38_ValidState.r1,r38_ValidState.m,κa,κb,κc,κd,κe,κf,κg,κh,κi,κj,κk,κl,κm,κn,κo,κp,κq,κr,κs,κt,κu,κv,κw,κx,κy,κz,κa1,κb1,κc1,κd1,κe1,κf1,κg1,κh1,κi1,κj1,κk1,κl1,κm1,κn1,κo1,κp1,κq1,κr1,κs1,if_true,if_false,reduceIte,κt1,κu1,κv1,κw1,κx1,κy1,κz1,κa2,κb2,κc2,κd2,κe2,κf2,κg2,κh2,κi2,κj2,κk2,κl2,κm2,κn2,κo2,κp2,κq2,reduceCtorEq,κr2,κs2,κt2,κu2,κv2,κw2,κx2,κy2,κz2,κa3,eq_self,κb3,κc3,zL,ge_iff_le,gt_iff_lt,rBool,rInt,r38_ValidCompare.S,h0]
  · cases h
def sampB (x : Int) : Bool := decide (x = 1 ∨ x = 2 ∨ x = 4 ∨ x = 8)
def cov_ValidSamples.S : Am.Spec := fun args => match args with
  | [.c (.int .i64 x)] => some (rBool (sampB x))
  | _ => none
theorem cov_ValidSamples.ok : SpecOK Try.prog 25 cov_ValidSamples.S := fun args r h => by
  unfold cov_ValidSamples.S at h
  split at h
  · cases h
    rename_i x
    refine runC_law (n := 0) Try.func25 cov_ValidSamples.tr rfl hE ok_nil ?_
    by_cases e1 : x = 1
    · subst e1; kernel_rfl
    by_cases e2 : x = 2
    · subst e2; kernel_rfl
    by_cases e4 : x = 4
    · subst e4; kernel_rfl
    by_cases e8 : x = 8
    · subst e8; kernel_rfl
    have h1 : (x == 1) = false := by simpa using e1
    have h2 : (x == 2) = false := by simpa using e2
    have h4 : (x == 4) = false := by simpa using e4
    have h8 : (x == 8) = false := by simpa using e8
    have hF : sampB x = false := by simp only [sampB,e1,e2,e4,e8,or_false,decide_false]
    rw [hF]
    simp -implicitDefEqProofs only [runC,mrun,result,AV.fin,XV.fin,Option.bind,Option.map,cov_ValidSamples.r0,cov_ValidSamples.r1,cov_ValidSamples.m,κa,κb,κc,κd,κe,κf,κg,κh,κi,κj,κk,κl,κm,κn,κo,κp,κq,κr,κs,κt,κu,κv,κw,κx,κy,κz,κa1,κb1,κc1,κd1,κe1,κf1,κg1,κh1,κi1,κj1,κk1,κl1,κm1,κn1,κo1,κp1,κq1,κr1,κs1,if_true,if_false,reduceIte,κt1,κu1,κv1,κw1,κx1,κy1,κz1,κa2,κb2,κc2,κd2,κe2,κf2,κg2,κh2,κi2,κj2,κk2,κl2,κm2,κn2,κo2,κp2,κq2,reduceCtorEq,κr2,κs2,κt2,κu2,κv2,κw2,κx2,κy2,κz2,κa3,eq_self,κb3,κc3,zL,rBool,h1,h2,h4,h8]
  · cases h
def r35_ValidSamples.S : Am.Spec := fun args => match args with
  | [.c (.int .i64 x)] => some (rBool (sampB x))
  | _ => none
theorem r35_ValidSamples.ok : SpecOK Try.prog 35 r35_ValidSamples.S := fun args r h => by
  unfold r35_ValidSamples.S at h
  split at h
  · cases h
    rename_i x
    refine runC_law (n := 0) Try.func35 r35_ValidSamples.tr rfl hE ok_nil ?_
    by_cases e1 : x = 1
    · subst e1; kernel_rfl
    by_cases e2 : x = 2
    · subst e2; kernel_rfl
    by_cases e4 : x = 4
    · subst e4; kernel_rfl
    by_cases e8 : x = 8
    · subst e8; kernel_rfl
    have h1 : (x == 1) = false := by simpa using e1
    have h2 : (x == 2) = false := by simpa using e2
    have h4 : (x == 4) = false := by simpa using e4
    have h8 : (x == 8) = false := by simpa using e8
    have hF : sampB x = false := by simp only [sampB,e1,e2,e4,e8,or_false,decide_false]
    rw [hF]
    simp -implicitDefEqProofs only [runC,mrun,result,AV.fin,XV.fin,Option.bind,Option.map,r35_ValidSamples.r0,r35_ValidSamples.r1,r35_ValidSamples.m,κa,κb,κc,κd,κe,κf,κg,κh,κi,κj,κk,κl,κm,κn,κo,κp,κq,κr,κs,κt,κu,κv,κw,κx,κy,κz,κa1,κb1,κc1,κd1,κe1,κf1,κg1,κh1,κi1,κj1,κk1,κl1,κm1,κn1,κo1,κp1,κq1,κr1,κs1,if_true,if_false,reduceIte,κt1,κu1,κv1,κw1,κx1,κy1,κz1,κa2,κb2,κc2,κd2,κe2,κf2,κg2,κh2,κi2,κj2,κk2,κl2,κm2,κn2,κo2,κp2,κq2,reduceCtorEq,κr2,κs2,κt2,κu2,κv2,κw2,κx2,κy2,κz2,κa3,eq_self,κb3,κc3,zL,rBool,h1,h2,h4,h8]
  · cases h
def bitsF (x : Int) : Int := if x = 1 then 0 else if x = 2 then 16 else if x = 3 then 24 else -1
def depth_Bits.S : Am.Spec := fun args => match args with
  | [.c (.int .i64 x)] => some (rInt (bitsF x))
  | _ => none
theorem depth_Bits.ok : SpecOK Try.prog 24 depth_Bits.S := fun args r h => by
  unfold depth_Bits.S at h
  split at h
  · cases h
    rename_i x
    refine runC_law (n := 0) Try.func24 depth_Bits.tr rfl hE ok_nil ?_
    by_cases e1 : x = 1
    · subst e1; kernel_rfl
    by_cases e2 : x = 2
    · subst e2; kernel_rfl
    by_cases e3 : x = 3
    · subst e3; kernel_rfl
    have h1 : (x == 1) = false := by simpa using e1
    have h2 : (x == 2) = false := by simpa using e2
    have h3 : (x == 3) = false := by simpa using e3
    have hF : bitsF x = -1 := by simp only [bitsF,e1,e2,e3,if_false]
    rw [hF]
    simp -implicitDefEqProofs only [runC,mrun,result,AV.fin,XV.fin,Option.bind,Option.map,depth_Bits.r0,depth_Bits.r1,depth_Bits.r2,depth_Bits.r3,depth_Bits.r4,depth_Bits.r5,depth_Bits.r6,depth_Bits.r7,depth_Bits.r8,depth_Bits.m,κa,κb,κc,κd,κe,κf,κg,κh,κi,κj,κk,κl,κm,κn,κo,κp,κq,κr,κs,κt,κu,κv,κw,κx,κy,κz,κa1,κb1,κc1,κd1,κe1,κf1,κg1,κh1,κi1,κj1,κk1,κl1,κm1,κn1,κo1,κp1,κq1,κr1,κs1,if_true,if_false,reduceIte,κt1,κu1,κv1,κw1,κx1,κy1,κz1,κa2,κb2,κc2,κd2,κe2,κf2,κg2,κh2,κi2,κj2,κk2,κl2,κm2,κn2,κo2,κp2,κq2,reduceCtorEq,κr2,κs2,κt2,κu2,κv2,κw2,κx2,κy2,κz2,κa3,eq_self,κb3,κc3,zL,rInt,h1,h2,h3]
  · cases h
end Go.Proofs.Ytjbhhdocbejccaa.Pl
