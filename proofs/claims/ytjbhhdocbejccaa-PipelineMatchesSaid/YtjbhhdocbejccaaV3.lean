/- Chapter 43: viewports: the validators. No condition beyond those that each theorem states. -/
import Derived.Test.YtjbhhdocbejccaaV2
namespace Go.Proofs.Ytjbhhdocbejccaa.Pl
open Go Go.RowKit Go.Proofs.Ytjbhhdocbejccaa.Am
open Go.Proofs.Ytjbhhdocbejccaa.Am renaming ex_nil → κa,ex_cons → κb,exK_some → κc,st_n → κd,st_g → κe,gd_b → κf,gd_u → κg,rn_v → κh,rn_m → κi,rn_s → κj,rn_a → κk,think → κl,prep → κm,mkDsts → κn,ev → κp,upd → κq,init → κr,forgetBox → κu,pvs → κx,fillX → κy,chunks → κz,binV → κa1,xints → κb1,ldX → κc1,baseOk → κe1,fg_p → κf1,fg_tk → κg1,mkG → κh1,tab → κj1,c3 → κa3
open Go.Proofs.Ytjbhhdocbejccaa.Am.St renaming clear → κo,put → κt,of → κk1
open Go.Proofs.Ytjbhhdocbejccaa.Am.PV renaming av → κs
open Go.Proofs.Ytjbhhdocbejccaa.Am.AV renaming cells → κv,pv → κw,plain → κd1
open Go.Proofs.Ytjbhhdocbejccaa.Am.Sig renaming spec → κi1
open List renaming getElem?_cons_zero → κl1,getElem?_cons_succ → κm1,getElem?_nil → κn1,map_cons → κu1,map_nil → κv1,drop_succ_cons → κw1,drop_zero → κx1,take_succ_cons → κy1,take_zero → κz1,length_cons → κa2,length_nil → κb2,length_append → κc2,cons_append → κd2,nil_append → κe2,append_nil → κf2
open Option renaming map_some → κo1,map_none → κp1,bind_some → κq1,isSome_some → κr1,isSome_none → κs1
open Nat renaming reduceEqDiff → κt1,reduceAdd → κg2,reduceMul → κh2,reduceLeDiff → κi2,reduceBEq → κj2,zero_le → κk2,le_refl → κl2,zero_add → κm2,add_zero → κn2
open Bool renaming not_true → κo2,not_false → κp2,false_eq_true → κq2,true_eq_false → κc3
open Int renaming reduceBEq → κr2,reduceBNe → κs2,reduceLT → κt2,reduceLE → κu2,reduceAdd → κv2,reduceToNat → κw2,toNat_zero → κx2,reduceEq → κy2,toNat_natCast → κz2,le_refl → κb3
set_option linter.unusedVariables false
set_option linter.unusedSimpArgs false
set_option maxHeartbeats 8000000
set_option maxRecDepth 100000
def insB (x s : Int) : Bool := decide (0 ≤ x ∧ 1 ≤ s ∧ s ≤ 64 ∧ x ≤ 64 - s)
def vp_Valid1.S : Am.Spec := fun args => match args with
  | [.c (.int .i64 x),.c (.int .i64 s)] => some (rBool (insB x s))
  | _ => none
theorem vp_Valid1.ok : SpecOK Try.prog 43 vp_Valid1.S := fun args r h => by
  unfold vp_Valid1.S at h
  split at h
  · cases h
    rename_i x s
    refine runC_law (n := 0) Try.func43 vp_Valid1.tr rfl hE ok_nil ?_
    by_cases h0 : 0 ≤ x
    · by_cases h1 : 1 ≤ s
      · by_cases h2 : s ≤ 64
        · have hw : IntKind.i64.wrap (64 - s) = 64 - s := by rw [IntKind.wrap_i64]; omega
          by_cases h3 : x ≤ 64 - s
          · have hp : insB x s = true := decide_eq_true ⟨h0,h1,h2,h3⟩
            rw [hp]
            simp -implicitDefEqProofs only [runC,mrun,result,AV.fin,XV.fin,Option.bind,Option.map,vp_Valid1.r0,vp_Valid1.r1,vp_Valid1.m,κa,κb,κc,κd,κe,κf,κg,κh,κi,κj,κk,κl,κm,κn,κo,κp,κq,κr,κs,κt,κu,κv,κw,κx,κy,κz,κa1,κb1,κc1,κd1,κe1,κf1,κg1,κh1,κi1,κj1,κk1,κl1,κm1,κn1,κo1,κp1,κq1,κr1,κs1,if_true,if_false,reduceIte,κt1,κu1,κv1,κw1,κx1,κy1,κz1,κa2,κb2,κc2,κd2,κe2,κf2,κg2,κh2,κi2,κj2,κk2,κl2,κm2,κn2,κo2,κp2,κq2,reduceCtorEq,κr2,κs2,κt2,κu2,κv2,κw2,κx2,κy2,κz2,κa3,eq_self,κb3,κc3,zL,ge_iff_le,gt_iff_lt,rBool,rInt,h0,h1,h2,h3,hw]
          · have hp : insB x s = false := decide_eq_false (fun h => h3 (h.2.2.2))
            rw [hp]
            simp -implicitDefEqProofs only [runC,mrun,result,AV.fin,XV.fin,Option.bind,Option.map,vp_Valid1.r0,vp_Valid1.r1,vp_Valid1.m,κa,κb,κc,κd,κe,κf,κg,κh,κi,κj,κk,κl,κm,κn,κo,κp,κq,κr,κs,κt,κu,κv,κw,κx,κy,κz,κa1,κb1,κc1,κd1,κe1,κf1,κg1,κh1,κi1,κj1,κk1,κl1,κm1,κn1,κo1,κp1,κq1,κr1,κs1,if_true,if_false,reduceIte,κt1,κu1,κv1,κw1,κx1,κy1,κz1,κa2,κb2,κc2,κd2,κe2,κf2,κg2,κh2,κi2,κj2,κk2,κl2,κm2,κn2,κo2,κp2,κq2,reduceCtorEq,κr2,κs2,κt2,κu2,κv2,κw2,κx2,κy2,κz2,κa3,eq_self,κb3,κc3,zL,ge_iff_le,gt_iff_lt,rBool,rInt,h0,h1,h2,h3,hw]
        · have hp : insB x s = false := decide_eq_false (fun h => h2 (h.2.2.1))
          rw [hp]
          simp -implicitDefEqProofs only [runC,mrun,result,AV.fin,XV.fin,Option.bind,Option.map,vp_Valid1.r0,vp_Valid1.r1,vp_Valid1.m,κa,κb,κc,κd,κe,κf,κg,κh,κi,κj,κk,κl,κm,κn,κo,κp,κq,κr,κs,κt,κu,κv,κw,κx,κy,κz,κa1,κb1,κc1,κd1,κe1,κf1,κg1,κh1,κi1,κj1,κk1,κl1,κm1,κn1,κo1,κp1,κq1,κr1,κs1,if_true,if_false,reduceIte,κt1,κu1,κv1,κw1,κx1,κy1,κz1,κa2,κb2,κc2,κd2,κe2,κf2,κg2,κh2,κi2,κj2,κk2,κl2,κm2,κn2,κo2,κp2,κq2,reduceCtorEq,κr2,κs2,κt2,κu2,κv2,κw2,κx2,κy2,κz2,κa3,eq_self,κb3,κc3,zL,ge_iff_le,gt_iff_lt,rBool,rInt,h0,h1,h2]
      · have hp : insB x s = false := decide_eq_false (fun h => h1 (h.2.1))
        rw [hp]
        simp -implicitDefEqProofs only [runC,mrun,result,AV.fin,XV.fin,Option.bind,Option.map,vp_Valid1.r0,vp_Valid1.r1,vp_Valid1.m,κa,κb,κc,κd,κe,κf,κg,κh,κi,κj,κk,κl,κm,κn,κo,κp,κq,κr,κs,κt,κu,κv,κw,κx,κy,κz,κa1,κb1,κc1,κd1,κe1,κf1,κg1,κh1,κi1,κj1,κk1,κl1,κm1,κn1,κo1,κp1,κq1,κr1,κs1,if_true,if_false,reduceIte,κt1,κu1,κv1,κw1,κx1,κy1,κz1,κa2,κb2,κc2,κd2,κe2,κf2,κg2,κh2,κi2,κj2,κk2,κl2,κm2,κn2,κo2,κp2,κq2,reduceCtorEq,κr2,κs2,κt2,κu2,κv2,κw2,κx2,κy2,κz2,κa3,eq_self,κb3,κc3,zL,ge_iff_le,gt_iff_lt,rBool,rInt,h0,h1]
    · have hp : insB x s = false := decide_eq_false (fun h => h0 (h.1))
      rw [hp]
      simp -implicitDefEqProofs only [runC,mrun,result,AV.fin,XV.fin,Option.bind,Option.map,vp_Valid1.r0,vp_Valid1.r1,vp_Valid1.m,κa,κb,κc,κd,κe,κf,κg,κh,κi,κj,κk,κl,κm,κn,κo,κp,κq,κr,κs,κt,κu,κv,κw,κx,κy,κz,κa1,κb1,κc1,κd1,κe1,κf1,κg1,κh1,κi1,κj1,κk1,κl1,κm1,κn1,κo1,κp1,κq1,κr1,κs1,if_true,if_false,reduceIte,κt1,κu1,κv1,κw1,κx1,κy1,κz1,κa2,κb2,κc2,κd2,κe2,κf2,κg2,κh2,κi2,κj2,κk2,κl2,κm2,κn2,κo2,κp2,κq2,reduceCtorEq,κr2,κs2,κt2,κu2,κv2,κw2,κx2,κy2,κz2,κa3,eq_self,κb3,κc3,zL,ge_iff_le,gt_iff_lt,rBool,rInt,h0]
  · cases h
def vpB (x y w h mn mx : Int) : Bool := decide (insB x w = true ∧ insB y h = true ∧ 0 ≤ mn ∧ mn ≤ mx ∧ mx ≤ 65536)
def vp_Valid.S : Am.Spec := fun args => match args with
  | [.agg [.int .i64 x,.int .i64 y,.int .i64 w,.int .i64 h,.int .i64 mn,.int .i64 mx]] => some (rBool (vpB x y w h mn mx))
  | _ => none
theorem vp_Valid.ok : SpecOK Try.prog 20 vp_Valid.S := fun args r h => by
  unfold vp_Valid.S at h
  split at h
  · cases h
    rename_i x y w h mn mx
    refine runC_law (n := 0) Try.func20 vp_Valid.tr rfl hE (ok_cons vp_Valid1.ok ok_nil) ?_
    by_cases h0 : insB x w = true
    · by_cases h1 : insB y h = true
      · by_cases h2 : 0 ≤ mn
        · by_cases h3 : mn ≤ mx
          · by_cases h4 : mx ≤ 65536
            · have hp : vpB x y w h mn mx = true := decide_eq_true ⟨h0,h1,h2,h3,h4⟩
              rw [hp]
              simp -implicitDefEqProofs only [runC,mrun,result,AV.fin,XV.fin,Option.bind,Option.map,vp_Valid.r0,vp_Valid.r1,vp_Valid.r2,vp_Valid.m,κa,κb,κc,κd,κe,κf,κg,κh,κi,κj,κk,κl,κm,κn,κo,κp,κq,κr,κs,κt,κu,κv,κw,κx,κy,κz,κa1,κb1,κc1,κd1,κe1,κf1,κg1,κh1,κi1,κj1,κk1,κl1,κm1,κn1,κo1,κp1,κq1,κr1,κs1,if_true,if_false,reduceIte,κt1,κu1,κv1,κw1,κx1,κy1,κz1,κa2,κb2,κc2,κd2,κe2,κf2,κg2,κh2,κi2,κj2,κk2,κl2,κm2,κn2,κo2,κp2,κq2,reduceCtorEq,κr2,κs2,κt2,κu2,κv2,κw2,κx2,κy2,κz2,κa3,eq_self,κb3,κc3,zL,ge_iff_le,gt_iff_lt,rBool,rInt,vp_Valid1.S,h0,h1,h2,h3,h4]
            · have hp : vpB x y w h mn mx = false := decide_eq_false (fun h => h4 (h.2.2.2.2))
              rw [hp]
              simp -implicitDefEqProofs only [runC,mrun,result,AV.fin,XV.fin,Option.bind,Option.map,vp_Valid.r0,vp_Valid.r1,vp_Valid.r2,vp_Valid.m,κa,κb,κc,κd,κe,κf,κg,κh,κi,κj,κk,κl,κm,κn,κo,κp,κq,κr,κs,κt,κu,κv,κw,κx,κy,κz,κa1,κb1,κc1,κd1,κe1,κf1,κg1,κh1,κi1,κj1,κk1,κl1,κm1,κn1,κo1,κp1,κq1,κr1,κs1,if_true,if_false,reduceIte,κt1,κu1,κv1,κw1,κx1,κy1,κz1,κa2,κb2,κc2,κd2,κe2,κf2,κg2,κh2,κi2,κj2,κk2,κl2,κm2,κn2,κo2,κp2,κq2,reduceCtorEq,κr2,κs2,κt2,κu2,κv2,κw2,κx2,κy2,κz2,κa3,eq_self,κb3,κc3,zL,ge_iff_le,gt_iff_lt,rBool,rInt,vp_Valid1.S,h0,h1,h2,h3,h4]
          · have hp : vpB x y w h mn mx = false := decide_eq_false (fun h => h3 (h.2.2.2.1))
            rw [hp]
            simp -implicitDefEqProofs only [runC,mrun,result,AV.fin,XV.fin,Option.bind,Option.map,vp_Valid.r0,vp_Valid.r1,vp_Valid.r2,vp_Valid.m,κa,κb,κc,κd,κe,κf,κg,κh,κi,κj,κk,κl,κm,κn,κo,κp,κq,κr,κs,κt,κu,κv,κw,κx,κy,κz,κa1,κb1,κc1,κd1,κe1,κf1,κg1,κh1,κi1,κj1,κk1,κl1,κm1,κn1,κo1,κp1,κq1,κr1,κs1,if_true,if_false,reduceIte,κt1,κu1,κv1,κw1,κx1,κy1,κz1,κa2,κb2,κc2,κd2,κe2,κf2,κg2,κh2,κi2,κj2,κk2,κl2,κm2,κn2,κo2,κp2,κq2,reduceCtorEq,κr2,κs2,κt2,κu2,κv2,κw2,κx2,κy2,κz2,κa3,eq_self,κb3,κc3,zL,ge_iff_le,gt_iff_lt,rBool,rInt,vp_Valid1.S,h0,h1,h2,h3]
        · have hp : vpB x y w h mn mx = false := decide_eq_false (fun h => h2 (h.2.2.1))
          rw [hp]
          simp -implicitDefEqProofs only [runC,mrun,result,AV.fin,XV.fin,Option.bind,Option.map,vp_Valid.r0,vp_Valid.r1,vp_Valid.r2,vp_Valid.m,κa,κb,κc,κd,κe,κf,κg,κh,κi,κj,κk,κl,κm,κn,κo,κp,κq,κr,κs,κt,κu,κv,κw,κx,κy,κz,κa1,κb1,κc1,κd1,κe1,κf1,κg1,κh1,κi1,κj1,κk1,κl1,κm1,κn1,κo1,κp1,κq1,κr1,κs1,if_true,if_false,reduceIte,κt1,κu1,κv1,κw1,κx1,κy1,κz1,κa2,κb2,κc2,κd2,κe2,κf2,κg2,κh2,κi2,κj2,κk2,κl2,κm2,κn2,κo2,κp2,κq2,reduceCtorEq,κr2,κs2,κt2,κu2,κv2,κw2,κx2,κy2,κz2,κa3,eq_self,κb3,κc3,zL,ge_iff_le,gt_iff_lt,rBool,rInt,vp_Valid1.S,h0,h1,h2]
      · have hp : vpB x y w h mn mx = false := decide_eq_false (fun h => h1 (h.2.1))
        rw [hp]
        simp -implicitDefEqProofs only [runC,mrun,result,AV.fin,XV.fin,Option.bind,Option.map,vp_Valid.r0,vp_Valid.r1,vp_Valid.r2,vp_Valid.m,κa,κb,κc,κd,κe,κf,κg,κh,κi,κj,κk,κl,κm,κn,κo,κp,κq,κr,κs,κt,κu,κv,κw,κx,κy,κz,κa1,κb1,κc1,κd1,κe1,κf1,κg1,κh1,κi1,κj1,κk1,κl1,κm1,κn1,κo1,κp1,κq1,κr1,κs1,if_true,if_false,reduceIte,κt1,κu1,κv1,κw1,κx1,κy1,κz1,κa2,κb2,κc2,κd2,κe2,κf2,κg2,κh2,κi2,κj2,κk2,κl2,κm2,κn2,κo2,κp2,κq2,reduceCtorEq,κr2,κs2,κt2,κu2,κv2,κw2,κx2,κy2,κz2,κa3,eq_self,κb3,κc3,zL,ge_iff_le,gt_iff_lt,rBool,rInt,vp_Valid1.S,h0,h1]
    · have hp : vpB x y w h mn mx = false := decide_eq_false (fun h => h0 (h.1))
      rw [hp]
      simp -implicitDefEqProofs only [runC,mrun,result,AV.fin,XV.fin,Option.bind,Option.map,vp_Valid.r0,vp_Valid.r1,vp_Valid.r2,vp_Valid.m,κa,κb,κc,κd,κe,κf,κg,κh,κi,κj,κk,κl,κm,κn,κo,κp,κq,κr,κs,κt,κu,κv,κw,κx,κy,κz,κa1,κb1,κc1,κd1,κe1,κf1,κg1,κh1,κi1,κj1,κk1,κl1,κm1,κn1,κo1,κp1,κq1,κr1,κs1,if_true,if_false,reduceIte,κt1,κu1,κv1,κw1,κx1,κy1,κz1,κa2,κb2,κc2,κd2,κe2,κf2,κg2,κh2,κi2,κj2,κk2,κl2,κm2,κn2,κo2,κp2,κq2,reduceCtorEq,κr2,κs2,κt2,κu2,κv2,κw2,κx2,κy2,κz2,κa3,eq_self,κb3,κc3,zL,ge_iff_le,gt_iff_lt,rBool,rInt,vp_Valid1.S,h0]
  · cases h
def r32_Valid.S : Am.Spec := fun args => match args with
  | [.agg [.int .i64 x,.int .i64 y,.int .i64 w,.int .i64 h,.int .i64 mn,.int .i64 mx]] => some (rBool (vpB x y w h mn mx))
  | _ => none
theorem r32_Valid.ok : SpecOK Try.prog 31 r32_Valid.S := fun args r h => by
  unfold r32_Valid.S at h
  split at h
  · cases h
    rename_i x y w h mn mx
    refine runC_law (n := 0) Try.func31 r32_Valid.tr rfl hE (ok_cons r32_within.ok ok_nil) ?_
    by_cases h0 : withinB x 0 64 = true
    · by_cases h1 : withinB y 0 64 = true
      · by_cases h2 : withinB w 1 64 = true
        · by_cases h3 : withinB h 1 64 = true
          · have hw1 : IntKind.i64.wrap (x + w) = x + w := by have q0 := h0; have q2 := h2; simp only [withinB,decide_eq_true_eq] at q0 q2; rw [IntKind.wrap_i64]; omega
            by_cases h4 : x + w ≤ 64
            · have hw2 : IntKind.i64.wrap (y + h) = y + h := by have q1 := h1; have q3 := h3; simp only [withinB,decide_eq_true_eq] at q1 q3; rw [IntKind.wrap_i64]; omega
              by_cases h5 : y + h ≤ 64
              · by_cases h6 : 0 ≤ mn
                · by_cases h7 : mn ≤ mx
                  · by_cases h8 : mx ≤ 65536
                    · have hp : vpB x y w h mn mx = true := by simp only [vpB,insB,withinB,decide_eq_true_eq,decide_eq_false_iff_not] at *; omega
                      rw [hp]
                      simp -implicitDefEqProofs only [runC,mrun,result,AV.fin,XV.fin,Option.bind,Option.map,r32_Valid.r0,r32_Valid.r1,r32_Valid.m,κa,κb,κc,κd,κe,κf,κg,κh,κi,κj,κk,κl,κm,κn,κo,κp,κq,κr,κs,κt,κu,κv,κw,κx,κy,κz,κa1,κb1,κc1,κd1,κe1,κf1,κg1,κh1,κi1,κj1,κk1,κl1,κm1,κn1,κo1,κp1,κq1,κr1,κs1,if_true,if_false,reduceIte,κt1,κu1,κv1,κw1,κx1,κy1,κz1,κa2,κb2,κc2,κd2,κe2,κf2,κg2,κh2,κi2,κj2,κk2,κl2,κm2,κn2,κo2,κp2,κq2,reduceCtorEq,κr2,κs2,κt2,κu2,κv2,κw2,κx2,κy2,κz2,κa3,eq_self,κb3,κc3,zL,ge_iff_le,gt_iff_lt,rBool,rInt,r32_within.S,h0,h1,h2,h3,h4,h5,h6,h7,h8,hw1,hw2]
                    · have hp : vpB x y w h mn mx = false := by simp only [vpB,insB,withinB,decide_eq_true_eq,decide_eq_false_iff_not] at *; omega
                      rw [hp]
                      simp -implicitDefEqProofs only [runC,mrun,result,AV.fin,XV.fin,Option.bind,Option.map,r32_Valid.r0,r32_Valid.r1,r32_Valid.m,κa,κb,κc,κd,κe,κf,κg,κh,κi,κj,κk,κl,κm,κn,κo,κp,κq,κr,κs,κt,κu,κv,κw,κx,κy,κz,κa1,κb1,κc1,κd1,κe1,κf1,κg1,κh1,κi1,κj1,κk1,κl1,κm1,κn1,κo1,κp1,κq1,κr1,κs1,if_true,if_false,reduceIte,κt1,κu1,κv1,κw1,κx1,κy1,κz1,κa2,κb2,κc2,κd2,κe2,κf2,κg2,κh2,κi2,κj2,κk2,κl2,κm2,κn2,κo2,κp2,κq2,reduceCtorEq,κr2,κs2,κt2,κu2,κv2,κw2,κx2,κy2,κz2,κa3,eq_self,κb3,κc3,zL,ge_iff_le,gt_iff_lt,rBool,rInt,r32_within.S,h0,h1,h2,h3,h4,h5,h6,h7,h8,hw1,hw2]
                  · have hp : vpB x y w h mn mx = false := by simp only [vpB,insB,withinB,decide_eq_true_eq,decide_eq_false_iff_not] at *; omega
                    rw [hp]
                    simp -implicitDefEqProofs only [runC,mrun,result,AV.fin,XV.fin,Option.bind,Option.map,r32_Valid.r0,r32_Valid.r1,r32_Valid.m,κa,κb,κc,κd,κe,κf,κg,κh,κi,κj,κk,κl,κm,κn,κo,κp,κq,κr,κs,κt,κu,κv,κw,κx,κy,κz,κa1,κb1,κc1,κd1,κe1,κf1,κg1,κh1,κi1,κj1,κk1,κl1,κm1,κn1,κo1,κp1,κq1,κr1,κs1,if_true,if_false,reduceIte,κt1,κu1,κv1,κw1,κx1,κy1,κz1,κa2,κb2,κc2,κd2,κe2,κf2,κg2,κh2,κi2,κj2,κk2,κl2,κm2,κn2,κo2,κp2,κq2,reduceCtorEq,κr2,κs2,κt2,κu2,κv2,κw2,κx2,κy2,κz2,κa3,eq_self,κb3,κc3,zL,ge_iff_le,gt_iff_lt,rBool,rInt,r32_within.S,h0,h1,h2,h3,h4,h5,h6,h7,hw1,hw2]
                · have hp : vpB x y w h mn mx = false := by simp only [vpB,insB,withinB,decide_eq_true_eq,decide_eq_false_iff_not] at *; omega
                  rw [hp]
                  simp -implicitDefEqProofs only [runC,mrun,result,AV.fin,XV.fin,Option.bind,Option.map,r32_Valid.r0,r32_Valid.r1,r32_Valid.m,κa,κb,κc,κd,κe,κf,κg,κh,κi,κj,κk,κl,κm,κn,κo,κp,κq,κr,κs,κt,κu,κv,κw,κx,κy,κz,κa1,κb1,κc1,κd1,κe1,κf1,κg1,κh1,κi1,κj1,κk1,κl1,κm1,κn1,κo1,κp1,κq1,κr1,κs1,if_true,if_false,reduceIte,κt1,κu1,κv1,κw1,κx1,κy1,κz1,κa2,κb2,κc2,κd2,κe2,κf2,κg2,κh2,κi2,κj2,κk2,κl2,κm2,κn2,κo2,κp2,κq2,reduceCtorEq,κr2,κs2,κt2,κu2,κv2,κw2,κx2,κy2,κz2,κa3,eq_self,κb3,κc3,zL,ge_iff_le,gt_iff_lt,rBool,rInt,r32_within.S,h0,h1,h2,h3,h4,h5,h6,hw1,hw2]
              · have hp : vpB x y w h mn mx = false := by simp only [vpB,insB,withinB,decide_eq_true_eq,decide_eq_false_iff_not] at *; omega
                rw [hp]
                simp -implicitDefEqProofs only [runC,mrun,result,AV.fin,XV.fin,Option.bind,Option.map,r32_Valid.r0,r32_Valid.r1,r32_Valid.m,κa,κb,κc,κd,κe,κf,κg,κh,κi,κj,κk,κl,κm,κn,κo,κp,κq,κr,κs,κt,κu,κv,κw,κx,κy,κz,κa1,κb1,κc1,κd1,κe1,κf1,κg1,κh1,κi1,κj1,κk1,κl1,κm1,κn1,κo1,κp1,κq1,κr1,κs1,if_true,if_false,reduceIte,κt1,κu1,κv1,κw1,κx1,κy1,κz1,κa2,κb2,κc2,κd2,κe2,κf2,κg2,κh2,κi2,κj2,κk2,κl2,κm2,κn2,κo2,κp2,κq2,reduceCtorEq,κr2,κs2,κt2,κu2,κv2,κw2,κx2,κy2,κz2,κa3,eq_self,κb3,κc3,zL,ge_iff_le,gt_iff_lt,rBool,rInt,r32_within.S,h0,h1,h2,h3,h4,h5,hw1,hw2]
            · have hp : vpB x y w h mn mx = false := by simp only [vpB,insB,withinB,decide_eq_true_eq,decide_eq_false_iff_not] at *; omega
              rw [hp]
              simp -implicitDefEqProofs only [runC,mrun,result,AV.fin,XV.fin,Option.bind,Option.map,r32_Valid.r0,r32_Valid.r1,r32_Valid.m,κa,κb,κc,κd,κe,κf,κg,κh,κi,κj,κk,κl,κm,κn,κo,κp,κq,κr,κs,κt,κu,κv,κw,κx,κy,κz,κa1,κb1,κc1,κd1,κe1,κf1,κg1,κh1,κi1,κj1,κk1,κl1,κm1,κn1,κo1,κp1,κq1,κr1,κs1,if_true,if_false,reduceIte,κt1,κu1,κv1,κw1,κx1,κy1,κz1,κa2,κb2,κc2,κd2,κe2,κf2,κg2,κh2,κi2,κj2,κk2,κl2,κm2,κn2,κo2,κp2,κq2,reduceCtorEq,κr2,κs2,κt2,κu2,κv2,κw2,κx2,κy2,κz2,κa3,eq_self,κb3,κc3,zL,ge_iff_le,gt_iff_lt,rBool,rInt,r32_within.S,h0,h1,h2,h3,h4,hw1]
          · have hp : vpB x y w h mn mx = false := by simp only [vpB,insB,withinB,decide_eq_true_eq,decide_eq_false_iff_not] at *; omega
            rw [hp]
            simp -implicitDefEqProofs only [runC,mrun,result,AV.fin,XV.fin,Option.bind,Option.map,r32_Valid.r0,r32_Valid.r1,r32_Valid.m,κa,κb,κc,κd,κe,κf,κg,κh,κi,κj,κk,κl,κm,κn,κo,κp,κq,κr,κs,κt,κu,κv,κw,κx,κy,κz,κa1,κb1,κc1,κd1,κe1,κf1,κg1,κh1,κi1,κj1,κk1,κl1,κm1,κn1,κo1,κp1,κq1,κr1,κs1,if_true,if_false,reduceIte,κt1,κu1,κv1,κw1,κx1,κy1,κz1,κa2,κb2,κc2,κd2,κe2,κf2,κg2,κh2,κi2,κj2,κk2,κl2,κm2,κn2,κo2,κp2,κq2,reduceCtorEq,κr2,κs2,κt2,κu2,κv2,κw2,κx2,κy2,κz2,κa3,eq_self,κb3,κc3,zL,ge_iff_le,gt_iff_lt,rBool,rInt,r32_within.S,h0,h1,h2,h3]
        · have hp : vpB x y w h mn mx = false := by simp only [vpB,insB,withinB,decide_eq_true_eq,decide_eq_false_iff_not] at *; omega
          rw [hp]
          simp -implicitDefEqProofs only [runC,mrun,result,AV.fin,XV.fin,Option.bind,Option.map,r32_Valid.r0,r32_Valid.r1,r32_Valid.m,κa,κb,κc,κd,κe,κf,κg,κh,κi,κj,κk,κl,κm,κn,κo,κp,κq,κr,κs,κt,κu,κv,κw,κx,κy,κz,κa1,κb1,κc1,κd1,κe1,κf1,κg1,κh1,κi1,κj1,κk1,κl1,κm1,κn1,κo1,κp1,κq1,κr1,κs1,if_true,if_false,reduceIte,κt1,κu1,κv1,κw1,κx1,κy1,κz1,κa2,κb2,κc2,κd2,κe2,κf2,κg2,κh2,κi2,κj2,κk2,κl2,κm2,κn2,κo2,κp2,κq2,reduceCtorEq,κr2,κs2,κt2,κu2,κv2,κw2,κx2,κy2,κz2,κa3,eq_self,κb3,κc3,zL,ge_iff_le,gt_iff_lt,rBool,rInt,r32_within.S,h0,h1,h2]
      · have hp : vpB x y w h mn mx = false := by simp only [vpB,insB,withinB,decide_eq_true_eq,decide_eq_false_iff_not] at *; omega
        rw [hp]
        simp -implicitDefEqProofs only [runC,mrun,result,AV.fin,XV.fin,Option.bind,Option.map,r32_Valid.r0,r32_Valid.r1,r32_Valid.m,κa,κb,κc,κd,κe,κf,κg,κh,κi,κj,κk,κl,κm,κn,κo,κp,κq,κr,κs,κt,κu,κv,κw,κx,κy,κz,κa1,κb1,κc1,κd1,κe1,κf1,κg1,κh1,κi1,κj1,κk1,κl1,κm1,κn1,κo1,κp1,κq1,κr1,κs1,if_true,if_false,reduceIte,κt1,κu1,κv1,κw1,κx1,κy1,κz1,κa2,κb2,κc2,κd2,κe2,κf2,κg2,κh2,κi2,κj2,κk2,κl2,κm2,κn2,κo2,κp2,κq2,reduceCtorEq,κr2,κs2,κt2,κu2,κv2,κw2,κx2,κy2,κz2,κa3,eq_self,κb3,κc3,zL,ge_iff_le,gt_iff_lt,rBool,rInt,r32_within.S,h0,h1]
    · have hp : vpB x y w h mn mx = false := by simp only [vpB,insB,withinB,decide_eq_true_eq,decide_eq_false_iff_not] at *; omega
      rw [hp]
      simp -implicitDefEqProofs only [runC,mrun,result,AV.fin,XV.fin,Option.bind,Option.map,r32_Valid.r0,r32_Valid.r1,r32_Valid.m,κa,κb,κc,κd,κe,κf,κg,κh,κi,κj,κk,κl,κm,κn,κo,κp,κq,κr,κs,κt,κu,κv,κw,κx,κy,κz,κa1,κb1,κc1,κd1,κe1,κf1,κg1,κh1,κi1,κj1,κk1,κl1,κm1,κn1,κo1,κp1,κq1,κr1,κs1,if_true,if_false,reduceIte,κt1,κu1,κv1,κw1,κx1,κy1,κz1,κa2,κb2,κc2,κd2,κe2,κf2,κg2,κh2,κi2,κj2,κk2,κl2,κm2,κn2,κo2,κp2,κq2,reduceCtorEq,κr2,κs2,κt2,κu2,κv2,κw2,κx2,κy2,κz2,κa3,eq_self,κb3,κc3,zL,ge_iff_le,gt_iff_lt,rBool,rInt,r32_within.S,h0]
  · cases h
def compsF (x : Int) : Int := if x = 1 then 1 else if x = 8 then 1 else if x = 2 then 2 else if x = 6 then 2 else if x = 3 then 3 else if x = 4 then 4 else if x = 5 then 4 else if x = 7 then 4 else 0
def buf_Components.S : Am.Spec := fun args => match args with
  | [.c (.int .i64 x)] => some (rInt (compsF x))
  | _ => none
theorem buf_Components.ok : SpecOK Try.prog 42 buf_Components.S := fun args r h => by
  unfold buf_Components.S at h
  split at h
  · cases h
    rename_i x
    refine runC_law (n := 0) Try.func42 buf_Components.tr rfl hE ok_nil ?_
    by_cases e1 : x = 1
    · subst e1; kernel_rfl
    by_cases e8 : x = 8
    · subst e8; kernel_rfl
    by_cases e2 : x = 2
    · subst e2; kernel_rfl
    by_cases e6 : x = 6
    · subst e6; kernel_rfl
    by_cases e3 : x = 3
    · subst e3; kernel_rfl
    by_cases e4 : x = 4
    · subst e4; kernel_rfl
    by_cases e5 : x = 5
    · subst e5; kernel_rfl
    by_cases e7 : x = 7
    · subst e7; kernel_rfl
    have h1 : (x == 1) = false := by simpa using e1
    have h8 : (x == 8) = false := by simpa using e8
    have h2 : (x == 2) = false := by simpa using e2
    have h6 : (x == 6) = false := by simpa using e6
    have h3 : (x == 3) = false := by simpa using e3
    have h4 : (x == 4) = false := by simpa using e4
    have h5 : (x == 5) = false := by simpa using e5
    have h7 : (x == 7) = false := by simpa using e7
    have hF : compsF x = 0 := by simp only [compsF,e1,e8,e2,e6,e3,e4,e5,e7,if_false]
    rw [hF]
    simp -implicitDefEqProofs only [runC,mrun,result,AV.fin,XV.fin,Option.bind,Option.map,buf_Components.r0,buf_Components.r1,buf_Components.r2,buf_Components.r3,buf_Components.r4,buf_Components.r5,buf_Components.r6,buf_Components.r7,buf_Components.r8,buf_Components.r9,buf_Components.r10,buf_Components.r11,buf_Components.r12,buf_Components.r13,buf_Components.r14,buf_Components.m,κa,κb,κc,κd,κe,κf,κg,κh,κi,κj,κk,κl,κm,κn,κo,κp,κq,κr,κs,κt,κu,κv,κw,κx,κy,κz,κa1,κb1,κc1,κd1,κe1,κf1,κg1,κh1,κi1,κj1,κk1,κl1,κm1,κn1,κo1,κp1,κq1,κr1,κs1,if_true,if_false,reduceIte,κt1,κu1,κv1,κw1,κx1,κy1,κz1,κa2,κb2,κc2,κd2,κe2,κf2,κg2,κh2,κi2,κj2,κk2,κl2,κm2,κn2,κo2,κp2,κq2,reduceCtorEq,κr2,κs2,κt2,κu2,κv2,κw2,κx2,κy2,κz2,κa3,eq_self,κb3,κc3,zL,rInt,h1,h8,h2,h6,h3,h4,h5,h7]
  · cases h
def r14_Components.S : Am.Spec := fun args => match args with
  | [.c (.int .i64 x)] => some (rInt (compsF x))
  | _ => none
theorem r14_Components.ok : SpecOK Try.prog 51 r14_Components.S := fun args r h => by
  unfold r14_Components.S at h
  split at h
  · cases h
    rename_i x
    refine runC_law (n := 0) Try.func51 r14_Components.tr rfl hE ok_nil ?_
    by_cases e1 : x = 1
    · subst e1; kernel_rfl
    by_cases e8 : x = 8
    · subst e8; kernel_rfl
    by_cases e2 : x = 2
    · subst e2; kernel_rfl
    by_cases e6 : x = 6
    · subst e6; kernel_rfl
    by_cases e3 : x = 3
    · subst e3; kernel_rfl
    by_cases e4 : x = 4
    · subst e4; kernel_rfl
    by_cases e5 : x = 5
    · subst e5; kernel_rfl
    by_cases e7 : x = 7
    · subst e7; kernel_rfl
    have h1 : (x == 1) = false := by simpa using e1
    have h8 : (x == 8) = false := by simpa using e8
    have h2 : (x == 2) = false := by simpa using e2
    have h6 : (x == 6) = false := by simpa using e6
    have h3 : (x == 3) = false := by simpa using e3
    have h4 : (x == 4) = false := by simpa using e4
    have h5 : (x == 5) = false := by simpa using e5
    have h7 : (x == 7) = false := by simpa using e7
    have hF : compsF x = 0 := by simp only [compsF,e1,e8,e2,e6,e3,e4,e5,e7,if_false]
    rw [hF]
    simp -implicitDefEqProofs only [runC,mrun,result,AV.fin,XV.fin,Option.bind,Option.map,r14_Components.r0,r14_Components.r1,r14_Components.r2,r14_Components.r3,r14_Components.r4,r14_Components.r5,r14_Components.r6,r14_Components.r7,r14_Components.r8,r14_Components.r9,r14_Components.r10,r14_Components.r11,r14_Components.r12,r14_Components.r13,r14_Components.r14,r14_Components.m,κa,κb,κc,κd,κe,κf,κg,κh,κi,κj,κk,κl,κm,κn,κo,κp,κq,κr,κs,κt,κu,κv,κw,κx,κy,κz,κa1,κb1,κc1,κd1,κe1,κf1,κg1,κh1,κi1,κj1,κk1,κl1,κm1,κn1,κo1,κp1,κq1,κr1,κs1,if_true,if_false,reduceIte,κt1,κu1,κv1,κw1,κx1,κy1,κz1,κa2,κb2,κc2,κd2,κe2,κf2,κg2,κh2,κi2,κj2,κk2,κl2,κm2,κn2,κo2,κp2,κq2,reduceCtorEq,κr2,κs2,κt2,κu2,κv2,κw2,κx2,κy2,κz2,κa3,eq_self,κb3,κc3,zL,rInt,h1,h8,h2,h6,h3,h4,h5,h7]
  · cases h
def widthF (x : Int) : Int := if x = 5 then 1 else if x = 6 then 2 else if x = 7 then 2 else 4
def buf_width.S : Am.Spec := fun args => match args with
  | [.c (.int .i64 x)] => some (rInt (widthF x))
  | _ => none
theorem buf_width.ok : SpecOK Try.prog 84 buf_width.S := fun args r h => by
  unfold buf_width.S at h
  split at h
  · cases h
    rename_i x
    refine runC_law (n := 0) Try.func84 buf_width.tr rfl hE ok_nil ?_
    by_cases e5 : x = 5
    · subst e5; kernel_rfl
    by_cases e6 : x = 6
    · subst e6; kernel_rfl
    by_cases e7 : x = 7
    · subst e7; kernel_rfl
    have h5 : (x == 5) = false := by simpa using e5
    have h6 : (x == 6) = false := by simpa using e6
    have h7 : (x == 7) = false := by simpa using e7
    have hF : widthF x = 4 := by simp only [widthF,e5,e6,e7,if_false]
    rw [hF]
    simp -implicitDefEqProofs only [runC,mrun,result,AV.fin,XV.fin,Option.bind,Option.map,buf_width.r0,buf_width.r1,buf_width.r2,buf_width.r3,buf_width.r4,buf_width.r5,buf_width.r6,buf_width.r7,buf_width.m,κa,κb,κc,κd,κe,κf,κg,κh,κi,κj,κk,κl,κm,κn,κo,κp,κq,κr,κs,κt,κu,κv,κw,κx,κy,κz,κa1,κb1,κc1,κd1,κe1,κf1,κg1,κh1,κi1,κj1,κk1,κl1,κm1,κn1,κo1,κp1,κq1,κr1,κs1,if_true,if_false,reduceIte,κt1,κu1,κv1,κw1,κx1,κy1,κz1,κa2,κb2,κc2,κd2,κe2,κf2,κg2,κh2,κi2,κj2,κk2,κl2,κm2,κn2,κo2,κp2,κq2,reduceCtorEq,κr2,κs2,κt2,κu2,κv2,κw2,κx2,κy2,κz2,κa3,eq_self,κb3,κc3,zL,rInt,h5,h6,h7]
  · cases h
def sizeF (x : Int) : Int := if x = 1 then 4 else if x = 8 then 4 else if x = 2 then 8 else if x = 6 then 4 else if x = 3 then 12 else if x = 4 then 16 else if x = 5 then 4 else if x = 7 then 8 else 0
def buf_Size.S : Am.Spec := fun args => match args with
  | [.c (.int .i64 x)] => some (rInt (sizeF x))
  | _ => none
theorem buf_Size.ok : SpecOK Try.prog 68 buf_Size.S := fun args r h => by
  unfold buf_Size.S at h
  split at h
  · cases h
    rename_i x
    refine runC_law (n := 0) Try.func68 buf_Size.tr rfl hE (ok_cons buf_Components.ok (ok_cons buf_width.ok ok_nil)) ?_
    by_cases e1 : x = 1
    · subst e1; kernel_rfl
    by_cases e8 : x = 8
    · subst e8; kernel_rfl
    by_cases e2 : x = 2
    · subst e2; kernel_rfl
    by_cases e6 : x = 6
    · subst e6; kernel_rfl
    by_cases e3 : x = 3
    · subst e3; kernel_rfl
    by_cases e4 : x = 4
    · subst e4; kernel_rfl
    by_cases e5 : x = 5
    · subst e5; kernel_rfl
    by_cases e7 : x = 7
    · subst e7; kernel_rfl
    have h1 : (x == 1) = false := by simpa using e1
    have h8 : (x == 8) = false := by simpa using e8
    have h2 : (x == 2) = false := by simpa using e2
    have h6 : (x == 6) = false := by simpa using e6
    have h3 : (x == 3) = false := by simpa using e3
    have h4 : (x == 4) = false := by simpa using e4
    have h5 : (x == 5) = false := by simpa using e5
    have h7 : (x == 7) = false := by simpa using e7
    have hF : sizeF x = 0 := by simp only [sizeF,e1,e8,e2,e6,e3,e4,e5,e7,if_false]
    have hC : compsF x = 0 := by simp only [compsF,e1,e8,e2,e6,e3,e4,e5,e7,if_false]
    have hW : widthF x = 4 := by simp only [widthF,e5,e6,e7,if_false]
    have hw : IntKind.i64.wrap (0 * 4) = 0 := by kernel_rfl
    rw [hF]
    simp -implicitDefEqProofs only [runC,mrun,result,AV.fin,XV.fin,Option.bind,Option.map,buf_Size.r0,buf_Size.r1,buf_Size.m,κa,κb,κc,κd,κe,κf,κg,κh,κi,κj,κk,κl,κm,κn,κo,κp,κq,κr,κs,κt,κu,κv,κw,κx,κy,κz,κa1,κb1,κc1,κd1,κe1,κf1,κg1,κh1,κi1,κj1,κk1,κl1,κm1,κn1,κo1,κp1,κq1,κr1,κs1,if_true,if_false,reduceIte,κt1,κu1,κv1,κw1,κx1,κy1,κz1,κa2,κb2,κc2,κd2,κe2,κf2,κg2,κh2,κi2,κj2,κk2,κl2,κm2,κn2,κo2,κp2,κq2,reduceCtorEq,κr2,κs2,κt2,κu2,κv2,κw2,κx2,κy2,κz2,κa3,eq_self,κb3,κc3,zL,rInt,buf_Components.S,buf_width.S,hC,hW,hw,h1,h8,h2,h6,h3,h4,h5,h7]
  · cases h
theorem sz_pos (x : Int) : 0 < sizeF x ↔ 0 < compsF x := by
  unfold sizeF compsF
  by_cases e1 : x = 1
  · subst e1; decide
  by_cases e8 : x = 8
  · subst e8; decide
  by_cases e2 : x = 2
  · subst e2; decide
  by_cases e6 : x = 6
  · subst e6; decide
  by_cases e3 : x = 3
  · subst e3; decide
  by_cases e4 : x = 4
  · subst e4; decide
  by_cases e5 : x = 5
  · subst e5; decide
  by_cases e7 : x = 7
  · subst e7; decide
  simp only [e1,e8,e2,e6,e3,e4,e5,e7,if_false]
def attrB (b o s f : Int) : Bool := decide (0 ≤ b ∧ b < 4 ∧ 0 ≤ o ∧ o ≤ 4096 ∧ 0 ≤ s ∧ s ≤ 256 ∧ 0 < sizeF f)
def buf_ValidAttribute.S : Am.Spec := fun args => match args with
  | [.agg [.int .i64 b,.int .i64 o,.int .i64 s,.int .i64 f]] => some (rBool (attrB b o s f))
  | _ => none
theorem buf_ValidAttribute.ok : SpecOK Try.prog 41 buf_ValidAttribute.S := fun args r h => by
  unfold buf_ValidAttribute.S at h
  split at h
  · cases h
    rename_i b o s f
    refine runC_law (n := 0) Try.func41 buf_ValidAttribute.tr rfl hE (ok_cons buf_Size.ok ok_nil) ?_
    by_cases h0 : 0 ≤ b
    · by_cases h1 : b < 4
      · by_cases h2 : 0 ≤ o
        · by_cases h3 : o ≤ 4096
          · by_cases h4 : 0 ≤ s
            · by_cases h5 : s ≤ 256
              · by_cases h6 : 0 < sizeF f
                · have hp : attrB b o s f = true := decide_eq_true ⟨h0,h1,h2,h3,h4,h5,h6⟩
                  rw [hp]
                  simp -implicitDefEqProofs only [runC,mrun,result,AV.fin,XV.fin,Option.bind,Option.map,buf_ValidAttribute.r0,buf_ValidAttribute.r1,buf_ValidAttribute.m,κa,κb,κc,κd,κe,κf,κg,κh,κi,κj,κk,κl,κm,κn,κo,κp,κq,κr,κs,κt,κu,κv,κw,κx,κy,κz,κa1,κb1,κc1,κd1,κe1,κf1,κg1,κh1,κi1,κj1,κk1,κl1,κm1,κn1,κo1,κp1,κq1,κr1,κs1,if_true,if_false,reduceIte,κt1,κu1,κv1,κw1,κx1,κy1,κz1,κa2,κb2,κc2,κd2,κe2,κf2,κg2,κh2,κi2,κj2,κk2,κl2,κm2,κn2,κo2,κp2,κq2,reduceCtorEq,κr2,κs2,κt2,κu2,κv2,κw2,κx2,κy2,κz2,κa3,eq_self,κb3,κc3,zL,ge_iff_le,gt_iff_lt,rBool,rInt,buf_Size.S,h0,h1,h2,h3,h4,h5,h6]
                · have hp : attrB b o s f = false := decide_eq_false (fun h => h6 (h.2.2.2.2.2.2))
                  rw [hp]
                  simp -implicitDefEqProofs only [runC,mrun,result,AV.fin,XV.fin,Option.bind,Option.map,buf_ValidAttribute.r0,buf_ValidAttribute.r1,buf_ValidAttribute.m,κa,κb,κc,κd,κe,κf,κg,κh,κi,κj,κk,κl,κm,κn,κo,κp,κq,κr,κs,κt,κu,κv,κw,κx,κy,κz,κa1,κb1,κc1,κd1,κe1,κf1,κg1,κh1,κi1,κj1,κk1,κl1,κm1,κn1,κo1,κp1,κq1,κr1,κs1,if_true,if_false,reduceIte,κt1,κu1,κv1,κw1,κx1,κy1,κz1,κa2,κb2,κc2,κd2,κe2,κf2,κg2,κh2,κi2,κj2,κk2,κl2,κm2,κn2,κo2,κp2,κq2,reduceCtorEq,κr2,κs2,κt2,κu2,κv2,κw2,κx2,κy2,κz2,κa3,eq_self,κb3,κc3,zL,ge_iff_le,gt_iff_lt,rBool,rInt,buf_Size.S,h0,h1,h2,h3,h4,h5,h6]
              · have hp : attrB b o s f = false := decide_eq_false (fun h => h5 (h.2.2.2.2.2.1))
                rw [hp]
                simp -implicitDefEqProofs only [runC,mrun,result,AV.fin,XV.fin,Option.bind,Option.map,buf_ValidAttribute.r0,buf_ValidAttribute.r1,buf_ValidAttribute.m,κa,κb,κc,κd,κe,κf,κg,κh,κi,κj,κk,κl,κm,κn,κo,κp,κq,κr,κs,κt,κu,κv,κw,κx,κy,κz,κa1,κb1,κc1,κd1,κe1,κf1,κg1,κh1,κi1,κj1,κk1,κl1,κm1,κn1,κo1,κp1,κq1,κr1,κs1,if_true,if_false,reduceIte,κt1,κu1,κv1,κw1,κx1,κy1,κz1,κa2,κb2,κc2,κd2,κe2,κf2,κg2,κh2,κi2,κj2,κk2,κl2,κm2,κn2,κo2,κp2,κq2,reduceCtorEq,κr2,κs2,κt2,κu2,κv2,κw2,κx2,κy2,κz2,κa3,eq_self,κb3,κc3,zL,ge_iff_le,gt_iff_lt,rBool,rInt,buf_Size.S,h0,h1,h2,h3,h4,h5]
            · have hp : attrB b o s f = false := decide_eq_false (fun h => h4 (h.2.2.2.2.1))
              rw [hp]
              simp -implicitDefEqProofs only [runC,mrun,result,AV.fin,XV.fin,Option.bind,Option.map,buf_ValidAttribute.r0,buf_ValidAttribute.r1,buf_ValidAttribute.m,κa,κb,κc,κd,κe,κf,κg,κh,κi,κj,κk,κl,κm,κn,κo,κp,κq,κr,κs,κt,κu,κv,κw,κx,κy,κz,κa1,κb1,κc1,κd1,κe1,κf1,κg1,κh1,κi1,κj1,κk1,κl1,κm1,κn1,κo1,κp1,κq1,κr1,κs1,if_true,if_false,reduceIte,κt1,κu1,κv1,κw1,κx1,κy1,κz1,κa2,κb2,κc2,κd2,κe2,κf2,κg2,κh2,κi2,κj2,κk2,κl2,κm2,κn2,κo2,κp2,κq2,reduceCtorEq,κr2,κs2,κt2,κu2,κv2,κw2,κx2,κy2,κz2,κa3,eq_self,κb3,κc3,zL,ge_iff_le,gt_iff_lt,rBool,rInt,buf_Size.S,h0,h1,h2,h3,h4]
          · have hp : attrB b o s f = false := decide_eq_false (fun h => h3 (h.2.2.2.1))
            rw [hp]
            simp -implicitDefEqProofs only [runC,mrun,result,AV.fin,XV.fin,Option.bind,Option.map,buf_ValidAttribute.r0,buf_ValidAttribute.r1,buf_ValidAttribute.m,κa,κb,κc,κd,κe,κf,κg,κh,κi,κj,κk,κl,κm,κn,κo,κp,κq,κr,κs,κt,κu,κv,κw,κx,κy,κz,κa1,κb1,κc1,κd1,κe1,κf1,κg1,κh1,κi1,κj1,κk1,κl1,κm1,κn1,κo1,κp1,κq1,κr1,κs1,if_true,if_false,reduceIte,κt1,κu1,κv1,κw1,κx1,κy1,κz1,κa2,κb2,κc2,κd2,κe2,κf2,κg2,κh2,κi2,κj2,κk2,κl2,κm2,κn2,κo2,κp2,κq2,reduceCtorEq,κr2,κs2,κt2,κu2,κv2,κw2,κx2,κy2,κz2,κa3,eq_self,κb3,κc3,zL,ge_iff_le,gt_iff_lt,rBool,rInt,buf_Size.S,h0,h1,h2,h3]
        · have hp : attrB b o s f = false := decide_eq_false (fun h => h2 (h.2.2.1))
          rw [hp]
          simp -implicitDefEqProofs only [runC,mrun,result,AV.fin,XV.fin,Option.bind,Option.map,buf_ValidAttribute.r0,buf_ValidAttribute.r1,buf_ValidAttribute.m,κa,κb,κc,κd,κe,κf,κg,κh,κi,κj,κk,κl,κm,κn,κo,κp,κq,κr,κs,κt,κu,κv,κw,κx,κy,κz,κa1,κb1,κc1,κd1,κe1,κf1,κg1,κh1,κi1,κj1,κk1,κl1,κm1,κn1,κo1,κp1,κq1,κr1,κs1,if_true,if_false,reduceIte,κt1,κu1,κv1,κw1,κx1,κy1,κz1,κa2,κb2,κc2,κd2,κe2,κf2,κg2,κh2,κi2,κj2,κk2,κl2,κm2,κn2,κo2,κp2,κq2,reduceCtorEq,κr2,κs2,κt2,κu2,κv2,κw2,κx2,κy2,κz2,κa3,eq_self,κb3,κc3,zL,ge_iff_le,gt_iff_lt,rBool,rInt,buf_Size.S,h0,h1,h2]
      · have hp : attrB b o s f = false := decide_eq_false (fun h => h1 (h.2.1))
        rw [hp]
        simp -implicitDefEqProofs only [runC,mrun,result,AV.fin,XV.fin,Option.bind,Option.map,buf_ValidAttribute.r0,buf_ValidAttribute.r1,buf_ValidAttribute.m,κa,κb,κc,κd,κe,κf,κg,κh,κi,κj,κk,κl,κm,κn,κo,κp,κq,κr,κs,κt,κu,κv,κw,κx,κy,κz,κa1,κb1,κc1,κd1,κe1,κf1,κg1,κh1,κi1,κj1,κk1,κl1,κm1,κn1,κo1,κp1,κq1,κr1,κs1,if_true,if_false,reduceIte,κt1,κu1,κv1,κw1,κx1,κy1,κz1,κa2,κb2,κc2,κd2,κe2,κf2,κg2,κh2,κi2,κj2,κk2,κl2,κm2,κn2,κo2,κp2,κq2,reduceCtorEq,κr2,κs2,κt2,κu2,κv2,κw2,κx2,κy2,κz2,κa3,eq_self,κb3,κc3,zL,ge_iff_le,gt_iff_lt,rBool,rInt,buf_Size.S,h0,h1]
    · have hp : attrB b o s f = false := decide_eq_false (fun h => h0 (h.1))
      rw [hp]
      simp -implicitDefEqProofs only [runC,mrun,result,AV.fin,XV.fin,Option.bind,Option.map,buf_ValidAttribute.r0,buf_ValidAttribute.r1,buf_ValidAttribute.m,κa,κb,κc,κd,κe,κf,κg,κh,κi,κj,κk,κl,κm,κn,κo,κp,κq,κr,κs,κt,κu,κv,κw,κx,κy,κz,κa1,κb1,κc1,κd1,κe1,κf1,κg1,κh1,κi1,κj1,κk1,κl1,κm1,κn1,κo1,κp1,κq1,κr1,κs1,if_true,if_false,reduceIte,κt1,κu1,κv1,κw1,κx1,κy1,κz1,κa2,κb2,κc2,κd2,κe2,κf2,κg2,κh2,κi2,κj2,κk2,κl2,κm2,κn2,κo2,κp2,κq2,reduceCtorEq,κr2,κs2,κt2,κu2,κv2,κw2,κx2,κy2,κz2,κa3,eq_self,κb3,κc3,zL,ge_iff_le,gt_iff_lt,rBool,rInt,buf_Size.S,h0]
  · cases h
def r14_ValidAttribute.S : Am.Spec := fun args => match args with
  | [.agg [.int .i64 b,.int .i64 o,.int .i64 s,.int .i64 f]] => some (rBool (attrB b o s f))
  | _ => none
theorem r14_ValidAttribute.ok : SpecOK Try.prog 50 r14_ValidAttribute.S := fun args r h => by
  unfold r14_ValidAttribute.S at h
  split at h
  · cases h
    rename_i b o s f
    refine runC_law (n := 0) Try.func50 r14_ValidAttribute.tr rfl hE (ok_cons r14_Components.ok ok_nil) ?_
    by_cases h0 : 0 ≤ b
    · by_cases h1 : b ≤ 3
      · by_cases h2 : 0 ≤ o
        · by_cases h3 : o ≤ 4096
          · by_cases h4 : 0 ≤ s
            · by_cases h5 : s ≤ 256
              · by_cases h6 : 0 < compsF f
                · have hp : attrB b o s f = true := by have hz := sz_pos f; simp only [attrB,decide_eq_true_eq,decide_eq_false_iff_not] at *; omega
                  rw [hp]
                  simp -implicitDefEqProofs only [runC,mrun,result,AV.fin,XV.fin,Option.bind,Option.map,r14_ValidAttribute.r0,r14_ValidAttribute.r1,r14_ValidAttribute.m,κa,κb,κc,κd,κe,κf,κg,κh,κi,κj,κk,κl,κm,κn,κo,κp,κq,κr,κs,κt,κu,κv,κw,κx,κy,κz,κa1,κb1,κc1,κd1,κe1,κf1,κg1,κh1,κi1,κj1,κk1,κl1,κm1,κn1,κo1,κp1,κq1,κr1,κs1,if_true,if_false,reduceIte,κt1,κu1,κv1,κw1,κx1,κy1,κz1,κa2,κb2,κc2,κd2,κe2,κf2,κg2,κh2,κi2,κj2,κk2,κl2,κm2,κn2,κo2,κp2,κq2,reduceCtorEq,κr2,κs2,κt2,κu2,κv2,κw2,κx2,κy2,κz2,κa3,eq_self,κb3,κc3,zL,ge_iff_le,gt_iff_lt,rBool,rInt,r14_Components.S,h0,h1,h2,h3,h4,h5,h6]
                · have hp : attrB b o s f = false := by have hz := sz_pos f; simp only [attrB,decide_eq_true_eq,decide_eq_false_iff_not] at *; omega
                  rw [hp]
                  simp -implicitDefEqProofs only [runC,mrun,result,AV.fin,XV.fin,Option.bind,Option.map,r14_ValidAttribute.r0,r14_ValidAttribute.r1,r14_ValidAttribute.m,κa,κb,κc,κd,κe,κf,κg,κh,κi,κj,κk,κl,κm,κn,κo,κp,κq,κr,κs,κt,κu,κv,κw,κx,κy,κz,κa1,κb1,κc1,κd1,κe1,κf1,κg1,κh1,κi1,κj1,κk1,κl1,κm1,κn1,κo1,κp1,κq1,κr1,κs1,if_true,if_false,reduceIte,κt1,κu1,κv1,κw1,κx1,κy1,κz1,κa2,κb2,κc2,κd2,κe2,κf2,κg2,κh2,κi2,κj2,κk2,κl2,κm2,κn2,κo2,κp2,κq2,reduceCtorEq,κr2,κs2,κt2,κu2,κv2,κw2,κx2,κy2,κz2,κa3,eq_self,κb3,κc3,zL,ge_iff_le,gt_iff_lt,rBool,rInt,r14_Components.S,h0,h1,h2,h3,h4,h5,h6]
              · have hp : attrB b o s f = false := by have hz := sz_pos f; simp only [attrB,decide_eq_true_eq,decide_eq_false_iff_not] at *; omega
                rw [hp]
                simp -implicitDefEqProofs only [runC,mrun,result,AV.fin,XV.fin,Option.bind,Option.map,r14_ValidAttribute.r0,r14_ValidAttribute.r1,r14_ValidAttribute.m,κa,κb,κc,κd,κe,κf,κg,κh,κi,κj,κk,κl,κm,κn,κo,κp,κq,κr,κs,κt,κu,κv,κw,κx,κy,κz,κa1,κb1,κc1,κd1,κe1,κf1,κg1,κh1,κi1,κj1,κk1,κl1,κm1,κn1,κo1,κp1,κq1,κr1,κs1,if_true,if_false,reduceIte,κt1,κu1,κv1,κw1,κx1,κy1,κz1,κa2,κb2,κc2,κd2,κe2,κf2,κg2,κh2,κi2,κj2,κk2,κl2,κm2,κn2,κo2,κp2,κq2,reduceCtorEq,κr2,κs2,κt2,κu2,κv2,κw2,κx2,κy2,κz2,κa3,eq_self,κb3,κc3,zL,ge_iff_le,gt_iff_lt,rBool,rInt,r14_Components.S,h0,h1,h2,h3,h4,h5]
            · have hp : attrB b o s f = false := by have hz := sz_pos f; simp only [attrB,decide_eq_true_eq,decide_eq_false_iff_not] at *; omega
              rw [hp]
              simp -implicitDefEqProofs only [runC,mrun,result,AV.fin,XV.fin,Option.bind,Option.map,r14_ValidAttribute.r0,r14_ValidAttribute.r1,r14_ValidAttribute.m,κa,κb,κc,κd,κe,κf,κg,κh,κi,κj,κk,κl,κm,κn,κo,κp,κq,κr,κs,κt,κu,κv,κw,κx,κy,κz,κa1,κb1,κc1,κd1,κe1,κf1,κg1,κh1,κi1,κj1,κk1,κl1,κm1,κn1,κo1,κp1,κq1,κr1,κs1,if_true,if_false,reduceIte,κt1,κu1,κv1,κw1,κx1,κy1,κz1,κa2,κb2,κc2,κd2,κe2,κf2,κg2,κh2,κi2,κj2,κk2,κl2,κm2,κn2,κo2,κp2,κq2,reduceCtorEq,κr2,κs2,κt2,κu2,κv2,κw2,κx2,κy2,κz2,κa3,eq_self,κb3,κc3,zL,ge_iff_le,gt_iff_lt,rBool,rInt,r14_Components.S,h0,h1,h2,h3,h4]
          · have hp : attrB b o s f = false := by have hz := sz_pos f; simp only [attrB,decide_eq_true_eq,decide_eq_false_iff_not] at *; omega
            rw [hp]
            simp -implicitDefEqProofs only [runC,mrun,result,AV.fin,XV.fin,Option.bind,Option.map,r14_ValidAttribute.r0,r14_ValidAttribute.r1,r14_ValidAttribute.m,κa,κb,κc,κd,κe,κf,κg,κh,κi,κj,κk,κl,κm,κn,κo,κp,κq,κr,κs,κt,κu,κv,κw,κx,κy,κz,κa1,κb1,κc1,κd1,κe1,κf1,κg1,κh1,κi1,κj1,κk1,κl1,κm1,κn1,κo1,κp1,κq1,κr1,κs1,if_true,if_false,reduceIte,κt1,κu1,κv1,κw1,κx1,κy1,κz1,κa2,κb2,κc2,κd2,κe2,κf2,κg2,κh2,κi2,κj2,κk2,κl2,κm2,κn2,κo2,κp2,κq2,reduceCtorEq,κr2,κs2,κt2,κu2,κv2,κw2,κx2,κy2,κz2,κa3,eq_self,κb3,κc3,zL,ge_iff_le,gt_iff_lt,rBool,rInt,r14_Components.S,h0,h1,h2,h3]
        · have hp : attrB b o s f = false := by have hz := sz_pos f; simp only [attrB,decide_eq_true_eq,decide_eq_false_iff_not] at *; omega
          rw [hp]
          simp -implicitDefEqProofs only [runC,mrun,result,AV.fin,XV.fin,Option.bind,Option.map,r14_ValidAttribute.r0,r14_ValidAttribute.r1,r14_ValidAttribute.m,κa,κb,κc,κd,κe,κf,κg,κh,κi,κj,κk,κl,κm,κn,κo,κp,κq,κr,κs,κt,κu,κv,κw,κx,κy,κz,κa1,κb1,κc1,κd1,κe1,κf1,κg1,κh1,κi1,κj1,κk1,κl1,κm1,κn1,κo1,κp1,κq1,κr1,κs1,if_true,if_false,reduceIte,κt1,κu1,κv1,κw1,κx1,κy1,κz1,κa2,κb2,κc2,κd2,κe2,κf2,κg2,κh2,κi2,κj2,κk2,κl2,κm2,κn2,κo2,κp2,κq2,reduceCtorEq,κr2,κs2,κt2,κu2,κv2,κw2,κx2,κy2,κz2,κa3,eq_self,κb3,κc3,zL,ge_iff_le,gt_iff_lt,rBool,rInt,r14_Components.S,h0,h1,h2]
      · have hp : attrB b o s f = false := by have hz := sz_pos f; simp only [attrB,decide_eq_true_eq,decide_eq_false_iff_not] at *; omega
        rw [hp]
        simp -implicitDefEqProofs only [runC,mrun,result,AV.fin,XV.fin,Option.bind,Option.map,r14_ValidAttribute.r0,r14_ValidAttribute.r1,r14_ValidAttribute.m,κa,κb,κc,κd,κe,κf,κg,κh,κi,κj,κk,κl,κm,κn,κo,κp,κq,κr,κs,κt,κu,κv,κw,κx,κy,κz,κa1,κb1,κc1,κd1,κe1,κf1,κg1,κh1,κi1,κj1,κk1,κl1,κm1,κn1,κo1,κp1,κq1,κr1,κs1,if_true,if_false,reduceIte,κt1,κu1,κv1,κw1,κx1,κy1,κz1,κa2,κb2,κc2,κd2,κe2,κf2,κg2,κh2,κi2,κj2,κk2,κl2,κm2,κn2,κo2,κp2,κq2,reduceCtorEq,κr2,κs2,κt2,κu2,κv2,κw2,κx2,κy2,κz2,κa3,eq_self,κb3,κc3,zL,ge_iff_le,gt_iff_lt,rBool,rInt,r14_Components.S,h0,h1]
    · have hp : attrB b o s f = false := by have hz := sz_pos f; simp only [attrB,decide_eq_true_eq,decide_eq_false_iff_not] at *; omega
      rw [hp]
      simp -implicitDefEqProofs only [runC,mrun,result,AV.fin,XV.fin,Option.bind,Option.map,r14_ValidAttribute.r0,r14_ValidAttribute.r1,r14_ValidAttribute.m,κa,κb,κc,κd,κe,κf,κg,κh,κi,κj,κk,κl,κm,κn,κo,κp,κq,κr,κs,κt,κu,κv,κw,κx,κy,κz,κa1,κb1,κc1,κd1,κe1,κf1,κg1,κh1,κi1,κj1,κk1,κl1,κm1,κn1,κo1,κp1,κq1,κr1,κs1,if_true,if_false,reduceIte,κt1,κu1,κv1,κw1,κx1,κy1,κz1,κa2,κb2,κc2,κd2,κe2,κf2,κg2,κh2,κi2,κj2,κk2,κl2,κm2,κn2,κo2,κp2,κq2,reduceCtorEq,κr2,κs2,κt2,κu2,κv2,κw2,κx2,κy2,κz2,κa3,eq_self,κb3,κc3,zL,ge_iff_le,gt_iff_lt,rBool,rInt,r14_Components.S,h0]
  · cases h
end Go.Proofs.Ytjbhhdocbejccaa.Pl
