/- Chapter 43: numbers and small states: the validators. No condition beyond those that each theorem states. -/
import Derived.Test.YtjbhhdocbejccaaKb
namespace Go.Proofs.Ytjbhhdocbejccaa.Pl
open Go Go.RowKit Go.Proofs.Ytjbhhdocbejccaa.Am
open Go.Proofs.Ytjbhhdocbejccaa.Am renaming ex_nil → κa,ex_cons → κb,exK_some → κc,st_n → κd,st_g → κe,gd_b → κf,gd_u → κg,rn_v → κh,rn_m → κi,rn_s → κj,rn_a → κk,think → κl,prep → κm,mkDsts → κn,ev → κp,upd → κq,init → κr,forgetBox → κu,pvs → κx,fillX → κy,chunks → κz,binV → κa1,xints → κb1,ldX → κc1,baseOk → κe1,fg_p → κf1,fg_tk → κg1,mkG → κh1,tab → κj1,c3 → κa3
open Go.Proofs.Ytjbhhdocbejccaa.Am.St renaming clear → κo,put → κt,of → κk1
open Go.Proofs.Ytjbhhdocbejccaa.Am.PV renaming av → κs
open Go.Proofs.Ytjbhhdocbejccaa.Am.AV renaming cells → κv,pv → κw,plain → κd1
open Go.Proofs.Ytjbhhdocbejccaa.Am.Sig renaming spec → κi1
open List renaming getElem?_cons_zero → κl1,getElem?_cons_succ → κm1,getElem?_nil → κn1,map_cons → κu1,map_nil → κv1,drop_succ_cons → κw1,drop_zero → κx1,take_succ_cons → κy1,take_zero → κz1,length_cons → κa2,length_nil → κb2,length_append → κc2,cons_append → κd2,nil_append → κe2,append_nil → κf2
open Option renaming map_some → κo1,map_none → κp1,bind_some → κq1,isSome_some → κr1,isSome_none → κs1
open Nat renaming reduceEqDiff → κt1,reduceAdd → κg2,reduceMul → κh2,reduceLeDiff → κi2,reduceBEq → κj2,zero_le → κk2,le_refl → κl2,zero_add → κm2,add_zero → κn2
open Bool renaming not_true → κo2,not_false → κp2,false_eq_true → κq2,true_eq_false → κc3
open Int renaming reduceBEq → κr2,reduceBNe → κs2,reduceLT → κt2,reduceLE → κu2,reduceAdd → κv2,reduceToNat → κw2,toNat_zero → κx2,reduceEq → κy2,toNat_natCast → κz2,le_refl → κb3
set_option linter.unusedVariables false
set_option linter.unusedSimpArgs false
set_option maxHeartbeats 8000000
set_option maxRecDepth 100000
theorem hE : ∀ t ∈ [60],EqOk Try.prog t := fun t ht => by
  have : t = 60 := by simpa using ht
  subst this
  exact eqOk_of (by kernel_rfl)
def rInt (n : Int) : AV := .c (.p (.int .i64 n))
def rBool (b : Bool) : AV := .c (.p (.bool b))
def withinB (x a b : Int) : Bool := decide (a ≤ x ∧ x ≤ b)
def isa_within.S : Am.Spec := fun args => match args with
  | [.c (.int .i64 x),.c (.int .i64 a),.c (.int .i64 b)] => some (rBool (withinB x a b))
  | _ => none
theorem isa_within.ok : SpecOK Try.prog 81 isa_within.S := fun args r h => by
  unfold isa_within.S at h
  split at h
  · cases h
    rename_i x a b
    refine runC_law (n := 0) Try.func81 isa_within.tr rfl hE ok_nil ?_
    by_cases h0 : a ≤ x
    · by_cases h1 : x ≤ b
      · have hp : withinB x a b = true := decide_eq_true ⟨h0,h1⟩
        rw [hp]
        simp -implicitDefEqProofs only [runC,mrun,result,AV.fin,XV.fin,Option.bind,Option.map,isa_within.r0,isa_within.r1,isa_within.m,κa,κb,κc,κd,κe,κf,κg,κh,κi,κj,κk,κl,κm,κn,κo,κp,κq,κr,κs,κt,κu,κv,κw,κx,κy,κz,κa1,κb1,κc1,κd1,κe1,κf1,κg1,κh1,κi1,κj1,κk1,κl1,κm1,κn1,κo1,κp1,κq1,κr1,κs1,if_true,if_false,reduceIte,κt1,κu1,κv1,κw1,κx1,κy1,κz1,κa2,κb2,κc2,κd2,κe2,κf2,κg2,κh2,κi2,κj2,κk2,κl2,κm2,κn2,κo2,κp2,κq2,reduceCtorEq,κr2,κs2,κt2,κu2,κv2,κw2,κx2,κy2,κz2,κa3,eq_self,κb3,κc3,zL,ge_iff_le,gt_iff_lt,rBool,rInt,h0,h1]
      · have hp : withinB x a b = false := decide_eq_false (fun h => h1 (h.2))
        rw [hp]
        simp -implicitDefEqProofs only [runC,mrun,result,AV.fin,XV.fin,Option.bind,Option.map,isa_within.r0,isa_within.r1,isa_within.m,κa,κb,κc,κd,κe,κf,κg,κh,κi,κj,κk,κl,κm,κn,κo,κp,κq,κr,κs,κt,κu,κv,κw,κx,κy,κz,κa1,κb1,κc1,κd1,κe1,κf1,κg1,κh1,κi1,κj1,κk1,κl1,κm1,κn1,κo1,κp1,κq1,κr1,κs1,if_true,if_false,reduceIte,κt1,κu1,κv1,κw1,κx1,κy1,κz1,κa2,κb2,κc2,κd2,κe2,κf2,κg2,κh2,κi2,κj2,κk2,κl2,κm2,κn2,κo2,κp2,κq2,reduceCtorEq,κr2,κs2,κt2,κu2,κv2,κw2,κx2,κy2,κz2,κa3,eq_self,κb3,κc3,zL,ge_iff_le,gt_iff_lt,rBool,rInt,h0,h1]
    · have hp : withinB x a b = false := decide_eq_false (fun h => h0 (h.1))
      rw [hp]
      simp -implicitDefEqProofs only [runC,mrun,result,AV.fin,XV.fin,Option.bind,Option.map,isa_within.r0,isa_within.r1,isa_within.m,κa,κb,κc,κd,κe,κf,κg,κh,κi,κj,κk,κl,κm,κn,κo,κp,κq,κr,κs,κt,κu,κv,κw,κx,κy,κz,κa1,κb1,κc1,κd1,κe1,κf1,κg1,κh1,κi1,κj1,κk1,κl1,κm1,κn1,κo1,κp1,κq1,κr1,κs1,if_true,if_false,reduceIte,κt1,κu1,κv1,κw1,κx1,κy1,κz1,κa2,κb2,κc2,κd2,κe2,κf2,κg2,κh2,κi2,κj2,κk2,κl2,κm2,κn2,κo2,κp2,κq2,reduceCtorEq,κr2,κs2,κt2,κu2,κv2,κw2,κx2,κy2,κz2,κa3,eq_self,κb3,κc3,zL,ge_iff_le,gt_iff_lt,rBool,rInt,h0]
  · cases h
def r32_within.S : Am.Spec := fun args => match args with
  | [.c (.int .i64 x),.c (.int .i64 a),.c (.int .i64 b)] => some (rBool (withinB x a b))
  | _ => none
theorem r32_within.ok : SpecOK Try.prog 53 r32_within.S := fun args r h => by
  unfold r32_within.S at h
  split at h
  · cases h
    rename_i x a b
    refine runC_law (n := 0) Try.func53 r32_within.tr rfl hE ok_nil ?_
    by_cases h0 : a ≤ x
    · by_cases h1 : x ≤ b
      · have hp : withinB x a b = true := decide_eq_true ⟨h0,h1⟩
        rw [hp]
        simp -implicitDefEqProofs only [runC,mrun,result,AV.fin,XV.fin,Option.bind,Option.map,r32_within.r0,r32_within.r1,r32_within.m,κa,κb,κc,κd,κe,κf,κg,κh,κi,κj,κk,κl,κm,κn,κo,κp,κq,κr,κs,κt,κu,κv,κw,κx,κy,κz,κa1,κb1,κc1,κd1,κe1,κf1,κg1,κh1,κi1,κj1,κk1,κl1,κm1,κn1,κo1,κp1,κq1,κr1,κs1,if_true,if_false,reduceIte,κt1,κu1,κv1,κw1,κx1,κy1,κz1,κa2,κb2,κc2,κd2,κe2,κf2,κg2,κh2,κi2,κj2,κk2,κl2,κm2,κn2,κo2,κp2,κq2,reduceCtorEq,κr2,κs2,κt2,κu2,κv2,κw2,κx2,κy2,κz2,κa3,eq_self,κb3,κc3,zL,ge_iff_le,gt_iff_lt,rBool,rInt,h0,h1]
      · have hp : withinB x a b = false := decide_eq_false (fun h => h1 (h.2))
        rw [hp]
        simp -implicitDefEqProofs only [runC,mrun,result,AV.fin,XV.fin,Option.bind,Option.map,r32_within.r0,r32_within.r1,r32_within.m,κa,κb,κc,κd,κe,κf,κg,κh,κi,κj,κk,κl,κm,κn,κo,κp,κq,κr,κs,κt,κu,κv,κw,κx,κy,κz,κa1,κb1,κc1,κd1,κe1,κf1,κg1,κh1,κi1,κj1,κk1,κl1,κm1,κn1,κo1,κp1,κq1,κr1,κs1,if_true,if_false,reduceIte,κt1,κu1,κv1,κw1,κx1,κy1,κz1,κa2,κb2,κc2,κd2,κe2,κf2,κg2,κh2,κi2,κj2,κk2,κl2,κm2,κn2,κo2,κp2,κq2,reduceCtorEq,κr2,κs2,κt2,κu2,κv2,κw2,κx2,κy2,κz2,κa3,eq_self,κb3,κc3,zL,ge_iff_le,gt_iff_lt,rBool,rInt,h0,h1]
    · have hp : withinB x a b = false := decide_eq_false (fun h => h0 (h.1))
      rw [hp]
      simp -implicitDefEqProofs only [runC,mrun,result,AV.fin,XV.fin,Option.bind,Option.map,r32_within.r0,r32_within.r1,r32_within.m,κa,κb,κc,κd,κe,κf,κg,κh,κi,κj,κk,κl,κm,κn,κo,κp,κq,κr,κs,κt,κu,κv,κw,κx,κy,κz,κa1,κb1,κc1,κd1,κe1,κf1,κg1,κh1,κi1,κj1,κk1,κl1,κm1,κn1,κo1,κp1,κq1,κr1,κs1,if_true,if_false,reduceIte,κt1,κu1,κv1,κw1,κx1,κy1,κz1,κa2,κb2,κc2,κd2,κe2,κf2,κg2,κh2,κi2,κj2,κk2,κl2,κm2,κn2,κo2,κp2,κq2,reduceCtorEq,κr2,κs2,κt2,κu2,κv2,κw2,κx2,κy2,κz2,κa3,eq_self,κb3,κc3,zL,ge_iff_le,gt_iff_lt,rBool,rInt,h0]
  · cases h
def opB (x : Int) : Bool := decide (1 ≤ x ∧ x ≤ 52)
def isa_Valid.S : Am.Spec := fun args => match args with
  | [.c (.int .i64 x)] => some (rBool (opB x))
  | _ => none
theorem isa_Valid.ok : SpecOK Try.prog 87 isa_Valid.S := fun args r h => by
  unfold isa_Valid.S at h
  split at h
  · cases h
    rename_i x
    refine runC_law (n := 0) Try.func87 isa_Valid.tr rfl hE ok_nil ?_
    by_cases h0 : 1 ≤ x
    · by_cases h1 : x ≤ 52
      · have hp : opB x = true := decide_eq_true ⟨h0,h1⟩
        rw [hp]
        simp -implicitDefEqProofs only [runC,mrun,result,AV.fin,XV.fin,Option.bind,Option.map,isa_Valid.r0,isa_Valid.r1,isa_Valid.m,κa,κb,κc,κd,κe,κf,κg,κh,κi,κj,κk,κl,κm,κn,κo,κp,κq,κr,κs,κt,κu,κv,κw,κx,κy,κz,κa1,κb1,κc1,κd1,κe1,κf1,κg1,κh1,κi1,κj1,κk1,κl1,κm1,κn1,κo1,κp1,κq1,κr1,κs1,if_true,if_false,reduceIte,κt1,κu1,κv1,κw1,κx1,κy1,κz1,κa2,κb2,κc2,κd2,κe2,κf2,κg2,κh2,κi2,κj2,κk2,κl2,κm2,κn2,κo2,κp2,κq2,reduceCtorEq,κr2,κs2,κt2,κu2,κv2,κw2,κx2,κy2,κz2,κa3,eq_self,κb3,κc3,zL,ge_iff_le,gt_iff_lt,rBool,rInt,h0,h1]
      · have hp : opB x = false := decide_eq_false (fun h => h1 (h.2))
        rw [hp]
        simp -implicitDefEqProofs only [runC,mrun,result,AV.fin,XV.fin,Option.bind,Option.map,isa_Valid.r0,isa_Valid.r1,isa_Valid.m,κa,κb,κc,κd,κe,κf,κg,κh,κi,κj,κk,κl,κm,κn,κo,κp,κq,κr,κs,κt,κu,κv,κw,κx,κy,κz,κa1,κb1,κc1,κd1,κe1,κf1,κg1,κh1,κi1,κj1,κk1,κl1,κm1,κn1,κo1,κp1,κq1,κr1,κs1,if_true,if_false,reduceIte,κt1,κu1,κv1,κw1,κx1,κy1,κz1,κa2,κb2,κc2,κd2,κe2,κf2,κg2,κh2,κi2,κj2,κk2,κl2,κm2,κn2,κo2,κp2,κq2,reduceCtorEq,κr2,κs2,κt2,κu2,κv2,κw2,κx2,κy2,κz2,κa3,eq_self,κb3,κc3,zL,ge_iff_le,gt_iff_lt,rBool,rInt,h0,h1]
    · have hp : opB x = false := decide_eq_false (fun h => h0 (h.1))
      rw [hp]
      simp -implicitDefEqProofs only [runC,mrun,result,AV.fin,XV.fin,Option.bind,Option.map,isa_Valid.r0,isa_Valid.r1,isa_Valid.m,κa,κb,κc,κd,κe,κf,κg,κh,κi,κj,κk,κl,κm,κn,κo,κp,κq,κr,κs,κt,κu,κv,κw,κx,κy,κz,κa1,κb1,κc1,κd1,κe1,κf1,κg1,κh1,κi1,κj1,κk1,κl1,κm1,κn1,κo1,κp1,κq1,κr1,κs1,if_true,if_false,reduceIte,κt1,κu1,κv1,κw1,κx1,κy1,κz1,κa2,κb2,κc2,κd2,κe2,κf2,κg2,κh2,κi2,κj2,κk2,κl2,κm2,κn2,κo2,κp2,κq2,reduceCtorEq,κr2,κs2,κt2,κu2,κv2,κw2,κx2,κy2,κz2,κa3,eq_self,κb3,κc3,zL,ge_iff_le,gt_iff_lt,rBool,rInt,h0]
  · cases h
def r22_Valid.S : Am.Spec := fun args => match args with
  | [.c (.int .i64 x)] => some (rBool (opB x))
  | _ => none
theorem r22_Valid.ok : SpecOK Try.prog 70 r22_Valid.S := fun args r h => by
  unfold r22_Valid.S at h
  split at h
  · cases h
    rename_i x
    refine runC_law (n := 0) Try.func70 r22_Valid.tr rfl hE ok_nil ?_
    by_cases h0 : 1 ≤ x
    · by_cases h1 : x ≤ 52
      · have hp : opB x = true := decide_eq_true ⟨h0,h1⟩
        rw [hp]
        simp -implicitDefEqProofs only [runC,mrun,result,AV.fin,XV.fin,Option.bind,Option.map,r22_Valid.r0,r22_Valid.r1,r22_Valid.m,κa,κb,κc,κd,κe,κf,κg,κh,κi,κj,κk,κl,κm,κn,κo,κp,κq,κr,κs,κt,κu,κv,κw,κx,κy,κz,κa1,κb1,κc1,κd1,κe1,κf1,κg1,κh1,κi1,κj1,κk1,κl1,κm1,κn1,κo1,κp1,κq1,κr1,κs1,if_true,if_false,reduceIte,κt1,κu1,κv1,κw1,κx1,κy1,κz1,κa2,κb2,κc2,κd2,κe2,κf2,κg2,κh2,κi2,κj2,κk2,κl2,κm2,κn2,κo2,κp2,κq2,reduceCtorEq,κr2,κs2,κt2,κu2,κv2,κw2,κx2,κy2,κz2,κa3,eq_self,κb3,κc3,zL,ge_iff_le,gt_iff_lt,rBool,rInt,h0,h1]
      · have hp : opB x = false := decide_eq_false (fun h => h1 (h.2))
        rw [hp]
        simp -implicitDefEqProofs only [runC,mrun,result,AV.fin,XV.fin,Option.bind,Option.map,r22_Valid.r0,r22_Valid.r1,r22_Valid.m,κa,κb,κc,κd,κe,κf,κg,κh,κi,κj,κk,κl,κm,κn,κo,κp,κq,κr,κs,κt,κu,κv,κw,κx,κy,κz,κa1,κb1,κc1,κd1,κe1,κf1,κg1,κh1,κi1,κj1,κk1,κl1,κm1,κn1,κo1,κp1,κq1,κr1,κs1,if_true,if_false,reduceIte,κt1,κu1,κv1,κw1,κx1,κy1,κz1,κa2,κb2,κc2,κd2,κe2,κf2,κg2,κh2,κi2,κj2,κk2,κl2,κm2,κn2,κo2,κp2,κq2,reduceCtorEq,κr2,κs2,κt2,κu2,κv2,κw2,κx2,κy2,κz2,κa3,eq_self,κb3,κc3,zL,ge_iff_le,gt_iff_lt,rBool,rInt,h0,h1]
    · have hp : opB x = false := decide_eq_false (fun h => h0 (h.1))
      rw [hp]
      simp -implicitDefEqProofs only [runC,mrun,result,AV.fin,XV.fin,Option.bind,Option.map,r22_Valid.r0,r22_Valid.r1,r22_Valid.m,κa,κb,κc,κd,κe,κf,κg,κh,κi,κj,κk,κl,κm,κn,κo,κp,κq,κr,κs,κt,κu,κv,κw,κx,κy,κz,κa1,κb1,κc1,κd1,κe1,κf1,κg1,κh1,κi1,κj1,κk1,κl1,κm1,κn1,κo1,κp1,κq1,κr1,κs1,if_true,if_false,reduceIte,κt1,κu1,κv1,κw1,κx1,κy1,κz1,κa2,κb2,κc2,κd2,κe2,κf2,κg2,κh2,κi2,κj2,κk2,κl2,κm2,κn2,κo2,κp2,κq2,reduceCtorEq,κr2,κs2,κt2,κu2,κv2,κw2,κx2,κy2,κz2,κa3,eq_self,κb3,κc3,zL,ge_iff_le,gt_iff_lt,rBool,rInt,h0]
  · cases h
def cmpB (x : Int) : Bool := decide (1 ≤ x ∧ x ≤ 8)
def depth_ValidCompare.S : Am.Spec := fun args => match args with
  | [.c (.int .i64 x)] => some (rBool (cmpB x))
  | _ => none
theorem depth_ValidCompare.ok : SpecOK Try.prog 44 depth_ValidCompare.S := fun args r h => by
  unfold depth_ValidCompare.S at h
  split at h
  · cases h
    rename_i x
    refine runC_law (n := 0) Try.func44 depth_ValidCompare.tr rfl hE ok_nil ?_
    by_cases h0 : 1 ≤ x
    · by_cases h1 : x ≤ 8
      · have hp : cmpB x = true := decide_eq_true ⟨h0,h1⟩
        rw [hp]
        simp -implicitDefEqProofs only [runC,mrun,result,AV.fin,XV.fin,Option.bind,Option.map,depth_ValidCompare.r0,depth_ValidCompare.r1,depth_ValidCompare.m,κa,κb,κc,κd,κe,κf,κg,κh,κi,κj,κk,κl,κm,κn,κo,κp,κq,κr,κs,κt,κu,κv,κw,κx,κy,κz,κa1,κb1,κc1,κd1,κe1,κf1,κg1,κh1,κi1,κj1,κk1,κl1,κm1,κn1,κo1,κp1,κq1,κr1,κs1,if_true,if_false,reduceIte,κt1,κu1,κv1,κw1,κx1,κy1,κz1,κa2,κb2,κc2,κd2,κe2,κf2,κg2,κh2,κi2,κj2,κk2,κl2,κm2,κn2,κo2,κp2,κq2,reduceCtorEq,κr2,κs2,κt2,κu2,κv2,κw2,κx2,κy2,κz2,κa3,eq_self,κb3,κc3,zL,ge_iff_le,gt_iff_lt,rBool,rInt,h0,h1]
      · have hp : cmpB x = false := decide_eq_false (fun h => h1 (h.2))
        rw [hp]
        simp -implicitDefEqProofs only [runC,mrun,result,AV.fin,XV.fin,Option.bind,Option.map,depth_ValidCompare.r0,depth_ValidCompare.r1,depth_ValidCompare.m,κa,κb,κc,κd,κe,κf,κg,κh,κi,κj,κk,κl,κm,κn,κo,κp,κq,κr,κs,κt,κu,κv,κw,κx,κy,κz,κa1,κb1,κc1,κd1,κe1,κf1,κg1,κh1,κi1,κj1,κk1,κl1,κm1,κn1,κo1,κp1,κq1,κr1,κs1,if_true,if_false,reduceIte,κt1,κu1,κv1,κw1,κx1,κy1,κz1,κa2,κb2,κc2,κd2,κe2,κf2,κg2,κh2,κi2,κj2,κk2,κl2,κm2,κn2,κo2,κp2,κq2,reduceCtorEq,κr2,κs2,κt2,κu2,κv2,κw2,κx2,κy2,κz2,κa3,eq_self,κb3,κc3,zL,ge_iff_le,gt_iff_lt,rBool,rInt,h0,h1]
    · have hp : cmpB x = false := decide_eq_false (fun h => h0 (h.1))
      rw [hp]
      simp -implicitDefEqProofs only [runC,mrun,result,AV.fin,XV.fin,Option.bind,Option.map,depth_ValidCompare.r0,depth_ValidCompare.r1,depth_ValidCompare.m,κa,κb,κc,κd,κe,κf,κg,κh,κi,κj,κk,κl,κm,κn,κo,κp,κq,κr,κs,κt,κu,κv,κw,κx,κy,κz,κa1,κb1,κc1,κd1,κe1,κf1,κg1,κh1,κi1,κj1,κk1,κl1,κm1,κn1,κo1,κp1,κq1,κr1,κs1,if_true,if_false,reduceIte,κt1,κu1,κv1,κw1,κx1,κy1,κz1,κa2,κb2,κc2,κd2,κe2,κf2,κg2,κh2,κi2,κj2,κk2,κl2,κm2,κn2,κo2,κp2,κq2,reduceCtorEq,κr2,κs2,κt2,κu2,κv2,κw2,κx2,κy2,κz2,κa3,eq_self,κb3,κc3,zL,ge_iff_le,gt_iff_lt,rBool,rInt,h0]
  · cases h
def r38_ValidCompare.S : Am.Spec := fun args => match args with
  | [.c (.int .i64 x)] => some (rBool (cmpB x))
  | _ => none
theorem r38_ValidCompare.ok : SpecOK Try.prog 54 r38_ValidCompare.S := fun args r h => by
  unfold r38_ValidCompare.S at h
  split at h
  · cases h
    rename_i x
    refine runC_law (n := 0) Try.func54 r38_ValidCompare.tr rfl hE ok_nil ?_
    by_cases h0 : 1 ≤ x
    · by_cases h1 : x ≤ 8
      · have hp : cmpB x = true := decide_eq_true ⟨h0,h1⟩
        rw [hp]
        simp -implicitDefEqProofs only [runC,mrun,result,AV.fin,XV.fin,Option.bind,Option.map,r38_ValidCompare.r0,r38_ValidCompare.r1,r38_ValidCompare.m,κa,κb,κc,κd,κe,κf,κg,κh,κi,κj,κk,κl,κm,κn,κo,κp,κq,κr,κs,κt,κu,κv,κw,κx,κy,κz,κa1,κb1,κc1,κd1,κe1,κf1,κg1,κh1,κi1,κj1,κk1,κl1,κm1,κn1,κo1,κp1,κq1,κr1,κs1,if_true,if_false,reduceIte,κt1,κu1,κv1,κw1,κx1,κy1,κz1,κa2,κb2,κc2,κd2,κe2,κf2,κg2,κh2,κi2,κj2,κk2,κl2,κm2,κn2,κo2,κp2,κq2,reduceCtorEq,κr2,κs2,κt2,κu2,κv2,κw2,κx2,κy2,κz2,κa3,eq_self,κb3,κc3,zL,ge_iff_le,gt_iff_lt,rBool,rInt,h0,h1]
      · have hp : cmpB x = false := decide_eq_false (fun h => h1 (h.2))
        rw [hp]
        simp -implicitDefEqProofs only [runC,mrun,result,AV.fin,XV.fin,Option.bind,Option.map,r38_ValidCompare.r0,r38_ValidCompare.r1,r38_ValidCompare.m,κa,κb,κc,κd,κe,κf,κg,κh,κi,κj,κk,κl,κm,κn,κo,κp,κq,κr,κs,κt,κu,κv,κw,κx,κy,κz,κa1,κb1,κc1,κd1,κe1,κf1,κg1,κh1,κi1,κj1,κk1,κl1,κm1,κn1,κo1,κp1,κq1,κr1,κs1,if_true,if_false,reduceIte,κt1,κu1,κv1,κw1,κx1,κy1,κz1,κa2,κb2,κc2,κd2,κe2,κf2,κg2,κh2,κi2,κj2,κk2,κl2,κm2,κn2,κo2,κp2,κq2,reduceCtorEq,κr2,κs2,κt2,κu2,κv2,κw2,κx2,κy2,κz2,κa3,eq_self,κb3,κc3,zL,ge_iff_le,gt_iff_lt,rBool,rInt,h0,h1]
    · have hp : cmpB x = false := decide_eq_false (fun h => h0 (h.1))
      rw [hp]
      simp -implicitDefEqProofs only [runC,mrun,result,AV.fin,XV.fin,Option.bind,Option.map,r38_ValidCompare.r0,r38_ValidCompare.r1,r38_ValidCompare.m,κa,κb,κc,κd,κe,κf,κg,κh,κi,κj,κk,κl,κm,κn,κo,κp,κq,κr,κs,κt,κu,κv,κw,κx,κy,κz,κa1,κb1,κc1,κd1,κe1,κf1,κg1,κh1,κi1,κj1,κk1,κl1,κm1,κn1,κo1,κp1,κq1,κr1,κs1,if_true,if_false,reduceIte,κt1,κu1,κv1,κw1,κx1,κy1,κz1,κa2,κb2,κc2,κd2,κe2,κf2,κg2,κh2,κi2,κj2,κk2,κl2,κm2,κn2,κo2,κp2,κq2,reduceCtorEq,κr2,κs2,κt2,κu2,κv2,κw2,κx2,κy2,κz2,κa3,eq_self,κb3,κc3,zL,ge_iff_le,gt_iff_lt,rBool,rInt,h0]
  · cases h
def byteB (x : Int) : Bool := decide (0 ≤ x ∧ x ≤ 255)
def st_inByte.S : Am.Spec := fun args => match args with
  | [.c (.int .i64 x)] => some (rBool (byteB x))
  | _ => none
theorem st_inByte.ok : SpecOK Try.prog 46 st_inByte.S := fun args r h => by
  unfold st_inByte.S at h
  split at h
  · cases h
    rename_i x
    refine runC_law (n := 0) Try.func46 st_inByte.tr rfl hE ok_nil ?_
    by_cases h0 : 0 ≤ x
    · by_cases h1 : x ≤ 255
      · have hp : byteB x = true := decide_eq_true ⟨h0,h1⟩
        rw [hp]
        simp -implicitDefEqProofs only [runC,mrun,result,AV.fin,XV.fin,Option.bind,Option.map,st_inByte.r0,st_inByte.r1,st_inByte.m,κa,κb,κc,κd,κe,κf,κg,κh,κi,κj,κk,κl,κm,κn,κo,κp,κq,κr,κs,κt,κu,κv,κw,κx,κy,κz,κa1,κb1,κc1,κd1,κe1,κf1,κg1,κh1,κi1,κj1,κk1,κl1,κm1,κn1,κo1,κp1,κq1,κr1,κs1,if_true,if_false,reduceIte,κt1,κu1,κv1,κw1,κx1,κy1,κz1,κa2,κb2,κc2,κd2,κe2,κf2,κg2,κh2,κi2,κj2,κk2,κl2,κm2,κn2,κo2,κp2,κq2,reduceCtorEq,κr2,κs2,κt2,κu2,κv2,κw2,κx2,κy2,κz2,κa3,eq_self,κb3,κc3,zL,ge_iff_le,gt_iff_lt,rBool,rInt,h0,h1]
      · have hp : byteB x = false := decide_eq_false (fun h => h1 (h.2))
        rw [hp]
        simp -implicitDefEqProofs only [runC,mrun,result,AV.fin,XV.fin,Option.bind,Option.map,st_inByte.r0,st_inByte.r1,st_inByte.m,κa,κb,κc,κd,κe,κf,κg,κh,κi,κj,κk,κl,κm,κn,κo,κp,κq,κr,κs,κt,κu,κv,κw,κx,κy,κz,κa1,κb1,κc1,κd1,κe1,κf1,κg1,κh1,κi1,κj1,κk1,κl1,κm1,κn1,κo1,κp1,κq1,κr1,κs1,if_true,if_false,reduceIte,κt1,κu1,κv1,κw1,κx1,κy1,κz1,κa2,κb2,κc2,κd2,κe2,κf2,κg2,κh2,κi2,κj2,κk2,κl2,κm2,κn2,κo2,κp2,κq2,reduceCtorEq,κr2,κs2,κt2,κu2,κv2,κw2,κx2,κy2,κz2,κa3,eq_self,κb3,κc3,zL,ge_iff_le,gt_iff_lt,rBool,rInt,h0,h1]
    · have hp : byteB x = false := decide_eq_false (fun h => h0 (h.1))
      rw [hp]
      simp -implicitDefEqProofs only [runC,mrun,result,AV.fin,XV.fin,Option.bind,Option.map,st_inByte.r0,st_inByte.r1,st_inByte.m,κa,κb,κc,κd,κe,κf,κg,κh,κi,κj,κk,κl,κm,κn,κo,κp,κq,κr,κs,κt,κu,κv,κw,κx,κy,κz,κa1,κb1,κc1,κd1,κe1,κf1,κg1,κh1,κi1,κj1,κk1,κl1,κm1,κn1,κo1,κp1,κq1,κr1,κs1,if_true,if_false,reduceIte,κt1,κu1,κv1,κw1,κx1,κy1,κz1,κa2,κb2,κc2,κd2,κe2,κf2,κg2,κh2,κi2,κj2,κk2,κl2,κm2,κn2,κo2,κp2,κq2,reduceCtorEq,κr2,κs2,κt2,κu2,κv2,κw2,κx2,κy2,κz2,κa3,eq_self,κb3,κc3,zL,ge_iff_le,gt_iff_lt,rBool,rInt,h0]
  · cases h
def r39_octet.S : Am.Spec := fun args => match args with
  | [.c (.int .i64 x)] => some (rBool (byteB x))
  | _ => none
theorem r39_octet.ok : SpecOK Try.prog 56 r39_octet.S := fun args r h => by
  unfold r39_octet.S at h
  split at h
  · cases h
    rename_i x
    refine runC_law (n := 0) Try.func56 r39_octet.tr rfl hE ok_nil ?_
    by_cases h0 : 0 ≤ x
    · by_cases h1 : x ≤ 255
      · have hp : byteB x = true := decide_eq_true ⟨h0,h1⟩
        rw [hp]
        simp -implicitDefEqProofs only [runC,mrun,result,AV.fin,XV.fin,Option.bind,Option.map,r39_octet.r0,r39_octet.r1,r39_octet.m,κa,κb,κc,κd,κe,κf,κg,κh,κi,κj,κk,κl,κm,κn,κo,κp,κq,κr,κs,κt,κu,κv,κw,κx,κy,κz,κa1,κb1,κc1,κd1,κe1,κf1,κg1,κh1,κi1,κj1,κk1,κl1,κm1,κn1,κo1,κp1,κq1,κr1,κs1,if_true,if_false,reduceIte,κt1,κu1,κv1,κw1,κx1,κy1,κz1,κa2,κb2,κc2,κd2,κe2,κf2,κg2,κh2,κi2,κj2,κk2,κl2,κm2,κn2,κo2,κp2,κq2,reduceCtorEq,κr2,κs2,κt2,κu2,κv2,κw2,κx2,κy2,κz2,κa3,eq_self,κb3,κc3,zL,ge_iff_le,gt_iff_lt,rBool,rInt,h0,h1]
      · have hp : byteB x = false := decide_eq_false (fun h => h1 (h.2))
        rw [hp]
        simp -implicitDefEqProofs only [runC,mrun,result,AV.fin,XV.fin,Option.bind,Option.map,r39_octet.r0,r39_octet.r1,r39_octet.m,κa,κb,κc,κd,κe,κf,κg,κh,κi,κj,κk,κl,κm,κn,κo,κp,κq,κr,κs,κt,κu,κv,κw,κx,κy,κz,κa1,κb1,κc1,κd1,κe1,κf1,κg1,κh1,κi1,κj1,κk1,κl1,κm1,κn1,κo1,κp1,κq1,κr1,κs1,if_true,if_false,reduceIte,κt1,κu1,κv1,κw1,κx1,κy1,κz1,κa2,κb2,κc2,κd2,κe2,κf2,κg2,κh2,κi2,κj2,κk2,κl2,κm2,κn2,κo2,κp2,κq2,reduceCtorEq,κr2,κs2,κt2,κu2,κv2,κw2,κx2,κy2,κz2,κa3,eq_self,κb3,κc3,zL,ge_iff_le,gt_iff_lt,rBool,rInt,h0,h1]
    · have hp : byteB x = false := decide_eq_false (fun h => h0 (h.1))
      rw [hp]
      simp -implicitDefEqProofs only [runC,mrun,result,AV.fin,XV.fin,Option.bind,Option.map,r39_octet.r0,r39_octet.r1,r39_octet.m,κa,κb,κc,κd,κe,κf,κg,κh,κi,κj,κk,κl,κm,κn,κo,κp,κq,κr,κs,κt,κu,κv,κw,κx,κy,κz,κa1,κb1,κc1,κd1,κe1,κf1,κg1,κh1,κi1,κj1,κk1,κl1,κm1,κn1,κo1,κp1,κq1,κr1,κs1,if_true,if_false,reduceIte,κt1,κu1,κv1,κw1,κx1,κy1,κz1,κa2,κb2,κc2,κd2,κe2,κf2,κg2,κh2,κi2,κj2,κk2,κl2,κm2,κn2,κo2,κp2,κq2,reduceCtorEq,κr2,κs2,κt2,κu2,κv2,κw2,κx2,κy2,κz2,κa3,eq_self,κb3,κc3,zL,ge_iff_le,gt_iff_lt,rBool,rInt,h0]
  · cases h
end Go.Proofs.Ytjbhhdocbejccaa.Pl
