/- Chapter 43: numbers of targets, images. No condition beyond those that each theorem states. -/
import Derived.Test.YtjbhhdocbejccaaD
namespace Go.Proofs.Ytjbhhdocbejccaa.Pl
open Go Go.RowKit Go.Proofs.Ytjbhhdocbejccaa.Am
open Go.Proofs.Ytjbhhdocbejccaa.Am renaming ex_nil → κa,ex_cons → κb,exK_some → κc,st_n → κd,st_g → κe,gd_b → κf,gd_u → κg,rn_v → κh,rn_m → κi,rn_s → κj,rn_a → κk,think → κl,prep → κm,mkDsts → κn,ev → κp,upd → κq,init → κr,forgetBox → κu,pvs → κx,fillX → κy,chunks → κz,binV → κa1,xints → κb1,ldX → κc1,baseOk → κe1,fg_p → κf1,fg_tk → κg1,mkG → κh1,tab → κj1,c3 → κa3
open Go.Proofs.Ytjbhhdocbejccaa.Am.St renaming clear → κo,put → κt,of → κk1
open Go.Proofs.Ytjbhhdocbejccaa.Am.PV renaming av → κs
open Go.Proofs.Ytjbhhdocbejccaa.Am.AV renaming cells → κv,pv → κw,plain → κd1
open Go.Proofs.Ytjbhhdocbejccaa.Am.Sig renaming spec → κi1
open List renaming getElem?_cons_zero → κl1,getElem?_cons_succ → κm1,getElem?_nil → κn1,map_cons → κu1,map_nil → κv1,drop_succ_cons → κw1,drop_zero → κx1,take_succ_cons → κy1,take_zero → κz1,length_cons → κa2,length_nil → κb2,length_append → κc2,cons_append → κd2,nil_append → κe2,append_nil → κf2
open Option renaming map_some → κo1,map_none → κp1,bind_some → κq1,isSome_some → κr1,isSome_none → κs1
open Nat renaming reduceEqDiff → κt1,reduceAdd → κg2,reduceMul → κh2,reduceLeDiff → κi2,reduceBEq → κj2,zero_le → κk2,le_refl → κl2,zero_add → κm2,add_zero → κn2
open Bool renaming not_true → κo2,not_false → κp2,false_eq_true → κq2,true_eq_false → κc3
open Int renaming reduceBEq → κr2,reduceBNe → κs2,reduceLT → κt2,reduceLE → κu2,reduceAdd → κv2,reduceToNat → κw2,toNat_zero → κx2,reduceEq → κy2,toNat_natCast → κz2,le_refl → κb3
set_option linter.unusedVariables false
set_option linter.unusedSimpArgs false
set_option maxHeartbeats 8000000
set_option maxRecDepth 100000
def szF (x : Int) : Int := if x = 1 then 1 else if x = 3 then 2 else if x = 5 then 2 else if x = 2 then 4 else if x = 4 then 4 else if x = 6 then 8 else 0
def tx_Size.S : Am.Spec := fun args => match args with
  | [.c (.int .i64 x)] => some (rInt (szF x))
  | _ => none
theorem tx_Size.ok : SpecOK Try.prog 77 tx_Size.S := fun args r h => by
  unfold tx_Size.S at h
  split at h
  · cases h
    rename_i x
    refine runC_law (n := 0) Try.func77 tx_Size.tr rfl hE ok_nil ?_
    by_cases e1 : x = 1
    · subst e1; kernel_rfl
    by_cases e3 : x = 3
    · subst e3; kernel_rfl
    by_cases e5 : x = 5
    · subst e5; kernel_rfl
    by_cases e2 : x = 2
    · subst e2; kernel_rfl
    by_cases e4 : x = 4
    · subst e4; kernel_rfl
    by_cases e6 : x = 6
    · subst e6; kernel_rfl
    have h1 : (x == 1) = false := by simpa using e1
    have h3 : (x == 3) = false := by simpa using e3
    have h5 : (x == 5) = false := by simpa using e5
    have h2 : (x == 2) = false := by simpa using e2
    have h4 : (x == 4) = false := by simpa using e4
    have h6 : (x == 6) = false := by simpa using e6
    have hF : szF x = 0 := by simp only [szF,e1,e3,e5,e2,e4,e6,if_false]
    rw [hF]
    simp -implicitDefEqProofs only [runC,mrun,result,AV.fin,XV.fin,Option.bind,Option.map,tx_Size.r0,tx_Size.r1,tx_Size.r2,tx_Size.r3,tx_Size.r4,tx_Size.r5,tx_Size.r6,tx_Size.r7,tx_Size.r8,tx_Size.r9,tx_Size.r10,tx_Size.r11,tx_Size.r12,tx_Size.m,κa,κb,κc,κd,κe,κf,κg,κh,κi,κj,κk,κl,κm,κn,κo,κp,κq,κr,κs,κt,κu,κv,κw,κx,κy,κz,κa1,κb1,κc1,κd1,κe1,κf1,κg1,κh1,κi1,κj1,κk1,κl1,κm1,κn1,κo1,κp1,κq1,κr1,κs1,if_true,if_false,reduceIte,κt1,κu1,κv1,κw1,κx1,κy1,κz1,κa2,κb2,κc2,κd2,κe2,κf2,κg2,κh2,κi2,κj2,κk2,κl2,κm2,κn2,κo2,κp2,κq2,reduceCtorEq,κr2,κs2,κt2,κu2,κv2,κw2,κx2,κy2,κz2,κa3,eq_self,κb3,κc3,zL,rInt,h1,h3,h5,h2,h4,h6]
  · cases h
def r09_Size.S : Am.Spec := fun args => match args with
  | [.c (.int .i64 x)] => some (rInt (szF x))
  | _ => none
theorem r09_Size.ok : SpecOK Try.prog 80 r09_Size.S := fun args r h => by
  unfold r09_Size.S at h
  split at h
  · cases h
    rename_i x
    refine runC_law (n := 0) Try.func80 r09_Size.tr rfl hE ok_nil ?_
    by_cases e1 : x = 1
    · subst e1; kernel_rfl
    by_cases e3 : x = 3
    · subst e3; kernel_rfl
    by_cases e5 : x = 5
    · subst e5; kernel_rfl
    by_cases e2 : x = 2
    · subst e2; kernel_rfl
    by_cases e4 : x = 4
    · subst e4; kernel_rfl
    by_cases e6 : x = 6
    · subst e6; kernel_rfl
    have h1 : (x == 1) = false := by simpa using e1
    have h3 : (x == 3) = false := by simpa using e3
    have h5 : (x == 5) = false := by simpa using e5
    have h2 : (x == 2) = false := by simpa using e2
    have h4 : (x == 4) = false := by simpa using e4
    have h6 : (x == 6) = false := by simpa using e6
    have hF : szF x = 0 := by simp only [szF,e1,e3,e5,e2,e4,e6,if_false]
    rw [hF]
    simp -implicitDefEqProofs only [runC,mrun,result,AV.fin,XV.fin,Option.bind,Option.map,r09_Size.r0,r09_Size.r1,r09_Size.r2,r09_Size.r3,r09_Size.r4,r09_Size.r5,r09_Size.r6,r09_Size.r7,r09_Size.r8,r09_Size.r9,r09_Size.r10,r09_Size.r11,r09_Size.r12,r09_Size.m,κa,κb,κc,κd,κe,κf,κg,κh,κi,κj,κk,κl,κm,κn,κo,κp,κq,κr,κs,κt,κu,κv,κw,κx,κy,κz,κa1,κb1,κc1,κd1,κe1,κf1,κg1,κh1,κi1,κj1,κk1,κl1,κm1,κn1,κo1,κp1,κq1,κr1,κs1,if_true,if_false,reduceIte,κt1,κu1,κv1,κw1,κx1,κy1,κz1,κa2,κb2,κc2,κd2,κe2,κf2,κg2,κh2,κi2,κj2,κk2,κl2,κm2,κn2,κo2,κp2,κq2,reduceCtorEq,κr2,κs2,κt2,κu2,κv2,κw2,κx2,κy2,κz2,κa3,eq_self,κb3,κc3,zL,rInt,h1,h3,h5,h2,h4,h6]
  · cases h
def szB (x : Int) : Bool := szF x != 0
def tx_Valid.S : Am.Spec := fun args => match args with
  | [.c (.int .i64 x)] => some (rBool (szB x))
  | _ => none
theorem tx_Valid.ok : SpecOK Try.prog 75 tx_Valid.S := fun args r h => by
  unfold tx_Valid.S at h
  split at h
  · cases h
    rename_i x
    refine runC_law (n := 0) Try.func75 tx_Valid.tr rfl hE (ok_cons tx_Size.ok ok_nil) ?_
    simp -implicitDefEqProofs only [runC,mrun,result,AV.fin,XV.fin,Option.bind,Option.map,tx_Valid.r0,tx_Valid.r1,tx_Valid.m,κa,κb,κc,κd,κe,κf,κg,κh,κi,κj,κk,κl,κm,κn,κo,κp,κq,κr,κs,κt,κu,κv,κw,κx,κy,κz,κa1,κb1,κc1,κd1,κe1,κf1,κg1,κh1,κi1,κj1,κk1,κl1,κm1,κn1,κo1,κp1,κq1,κr1,κs1,if_true,if_false,reduceIte,κt1,κu1,κv1,κw1,κx1,κy1,κz1,κa2,κb2,κc2,κd2,κe2,κf2,κg2,κh2,κi2,κj2,κk2,κl2,κm2,κn2,κo2,κp2,κq2,reduceCtorEq,κr2,κs2,κt2,κu2,κv2,κw2,κx2,κy2,κz2,κa3,eq_self,κb3,κc3,zL,rBool,rInt,tx_Size.S,szB]
  · cases h
def r09_Valid.S : Am.Spec := fun args => match args with
  | [.c (.int .i64 x)] => some (rBool (szB x))
  | _ => none
theorem r09_Valid.ok : SpecOK Try.prog 78 r09_Valid.S := fun args r h => by
  unfold r09_Valid.S at h
  split at h
  · cases h
    rename_i x
    refine runC_law (n := 0) Try.func78 r09_Valid.tr rfl hE (ok_cons r09_Size.ok ok_nil) ?_
    simp -implicitDefEqProofs only [runC,mrun,result,AV.fin,XV.fin,Option.bind,Option.map,r09_Valid.r0,r09_Valid.r1,r09_Valid.m,κa,κb,κc,κd,κe,κf,κg,κh,κi,κj,κk,κl,κm,κn,κo,κp,κq,κr,κs,κt,κu,κv,κw,κx,κy,κz,κa1,κb1,κc1,κd1,κe1,κf1,κg1,κh1,κi1,κj1,κk1,κl1,κm1,κn1,κo1,κp1,κq1,κr1,κs1,if_true,if_false,reduceIte,κt1,κu1,κv1,κw1,κx1,κy1,κz1,κa2,κb2,κc2,κd2,κe2,κf2,κg2,κh2,κi2,κj2,κk2,κl2,κm2,κn2,κo2,κp2,κq2,reduceCtorEq,κr2,κs2,κt2,κu2,κv2,κw2,κx2,κy2,κz2,κa3,eq_self,κb3,κc3,zL,rBool,rInt,r09_Size.S,szB]
  · cases h
def sizedB (x : Int) : Bool := decide (1 ≤ x ∧ x ≤ 64)
def img_sized.S : Am.Spec := fun args => match args with
  | [.c (.int .i64 x)] => some (rBool (sizedB x))
  | _ => none
theorem img_sized.ok : SpecOK Try.prog 76 img_sized.S := fun args r h => by
  unfold img_sized.S at h
  split at h
  · cases h
    rename_i x
    refine runC_law (n := 0) Try.func76 img_sized.tr rfl hE ok_nil ?_
    by_cases h0 : 1 ≤ x
    · by_cases h1 : x ≤ 64
      · have hp : sizedB x = true := decide_eq_true ⟨h0,h1⟩
        rw [hp]
        simp -implicitDefEqProofs only [runC,mrun,result,AV.fin,XV.fin,Option.bind,Option.map,img_sized.r0,img_sized.r1,img_sized.m,κa,κb,κc,κd,κe,κf,κg,κh,κi,κj,κk,κl,κm,κn,κo,κp,κq,κr,κs,κt,κu,κv,κw,κx,κy,κz,κa1,κb1,κc1,κd1,κe1,κf1,κg1,κh1,κi1,κj1,κk1,κl1,κm1,κn1,κo1,κp1,κq1,κr1,κs1,if_true,if_false,reduceIte,κt1,κu1,κv1,κw1,κx1,κy1,κz1,κa2,κb2,κc2,κd2,κe2,κf2,κg2,κh2,κi2,κj2,κk2,κl2,κm2,κn2,κo2,κp2,κq2,reduceCtorEq,κr2,κs2,κt2,κu2,κv2,κw2,κx2,κy2,κz2,κa3,eq_self,κb3,κc3,zL,ge_iff_le,gt_iff_lt,rBool,rInt,h0,h1]
      · have hp : sizedB x = false := decide_eq_false (fun h => h1 (h.2))
        rw [hp]
        simp -implicitDefEqProofs only [runC,mrun,result,AV.fin,XV.fin,Option.bind,Option.map,img_sized.r0,img_sized.r1,img_sized.m,κa,κb,κc,κd,κe,κf,κg,κh,κi,κj,κk,κl,κm,κn,κo,κp,κq,κr,κs,κt,κu,κv,κw,κx,κy,κz,κa1,κb1,κc1,κd1,κe1,κf1,κg1,κh1,κi1,κj1,κk1,κl1,κm1,κn1,κo1,κp1,κq1,κr1,κs1,if_true,if_false,reduceIte,κt1,κu1,κv1,κw1,κx1,κy1,κz1,κa2,κb2,κc2,κd2,κe2,κf2,κg2,κh2,κi2,κj2,κk2,κl2,κm2,κn2,κo2,κp2,κq2,reduceCtorEq,κr2,κs2,κt2,κu2,κv2,κw2,κx2,κy2,κz2,κa3,eq_self,κb3,κc3,zL,ge_iff_le,gt_iff_lt,rBool,rInt,h0,h1]
    · have hp : sizedB x = false := decide_eq_false (fun h => h0 (h.1))
      rw [hp]
      simp -implicitDefEqProofs only [runC,mrun,result,AV.fin,XV.fin,Option.bind,Option.map,img_sized.r0,img_sized.r1,img_sized.m,κa,κb,κc,κd,κe,κf,κg,κh,κi,κj,κk,κl,κm,κn,κo,κp,κq,κr,κs,κt,κu,κv,κw,κx,κy,κz,κa1,κb1,κc1,κd1,κe1,κf1,κg1,κh1,κi1,κj1,κk1,κl1,κm1,κn1,κo1,κp1,κq1,κr1,κs1,if_true,if_false,reduceIte,κt1,κu1,κv1,κw1,κx1,κy1,κz1,κa2,κb2,κc2,κd2,κe2,κf2,κg2,κh2,κi2,κj2,κk2,κl2,κm2,κn2,κo2,κp2,κq2,reduceCtorEq,κr2,κs2,κt2,κu2,κv2,κw2,κx2,κy2,κz2,κa3,eq_self,κb3,κc3,zL,ge_iff_le,gt_iff_lt,rBool,rInt,h0]
  · cases h
def r10_sized.S : Am.Spec := fun args => match args with
  | [.c (.int .i64 x)] => some (rBool (sizedB x))
  | _ => none
theorem r10_sized.ok : SpecOK Try.prog 79 r10_sized.S := fun args r h => by
  unfold r10_sized.S at h
  split at h
  · cases h
    rename_i x
    refine runC_law (n := 0) Try.func79 r10_sized.tr rfl hE ok_nil ?_
    by_cases h0 : 1 ≤ x
    · by_cases h1 : x ≤ 64
      · have hp : sizedB x = true := decide_eq_true ⟨h0,h1⟩
        rw [hp]
        simp -implicitDefEqProofs only [runC,mrun,result,AV.fin,XV.fin,Option.bind,Option.map,r10_sized.r0,r10_sized.r1,r10_sized.m,κa,κb,κc,κd,κe,κf,κg,κh,κi,κj,κk,κl,κm,κn,κo,κp,κq,κr,κs,κt,κu,κv,κw,κx,κy,κz,κa1,κb1,κc1,κd1,κe1,κf1,κg1,κh1,κi1,κj1,κk1,κl1,κm1,κn1,κo1,κp1,κq1,κr1,κs1,if_true,if_false,reduceIte,κt1,κu1,κv1,κw1,κx1,κy1,κz1,κa2,κb2,κc2,κd2,κe2,κf2,κg2,κh2,κi2,κj2,κk2,κl2,κm2,κn2,κo2,κp2,κq2,reduceCtorEq,κr2,κs2,κt2,κu2,κv2,κw2,κx2,κy2,κz2,κa3,eq_self,κb3,κc3,zL,ge_iff_le,gt_iff_lt,rBool,rInt,h0,h1]
      · have hp : sizedB x = false := decide_eq_false (fun h => h1 (h.2))
        rw [hp]
        simp -implicitDefEqProofs only [runC,mrun,result,AV.fin,XV.fin,Option.bind,Option.map,r10_sized.r0,r10_sized.r1,r10_sized.m,κa,κb,κc,κd,κe,κf,κg,κh,κi,κj,κk,κl,κm,κn,κo,κp,κq,κr,κs,κt,κu,κv,κw,κx,κy,κz,κa1,κb1,κc1,κd1,κe1,κf1,κg1,κh1,κi1,κj1,κk1,κl1,κm1,κn1,κo1,κp1,κq1,κr1,κs1,if_true,if_false,reduceIte,κt1,κu1,κv1,κw1,κx1,κy1,κz1,κa2,κb2,κc2,κd2,κe2,κf2,κg2,κh2,κi2,κj2,κk2,κl2,κm2,κn2,κo2,κp2,κq2,reduceCtorEq,κr2,κs2,κt2,κu2,κv2,κw2,κx2,κy2,κz2,κa3,eq_self,κb3,κc3,zL,ge_iff_le,gt_iff_lt,rBool,rInt,h0,h1]
    · have hp : sizedB x = false := decide_eq_false (fun h => h0 (h.1))
      rw [hp]
      simp -implicitDefEqProofs only [runC,mrun,result,AV.fin,XV.fin,Option.bind,Option.map,r10_sized.r0,r10_sized.r1,r10_sized.m,κa,κb,κc,κd,κe,κf,κg,κh,κi,κj,κk,κl,κm,κn,κo,κp,κq,κr,κs,κt,κu,κv,κw,κx,κy,κz,κa1,κb1,κc1,κd1,κe1,κf1,κg1,κh1,κi1,κj1,κk1,κl1,κm1,κn1,κo1,κp1,κq1,κr1,κs1,if_true,if_false,reduceIte,κt1,κu1,κv1,κw1,κx1,κy1,κz1,κa2,κb2,κc2,κd2,κe2,κf2,κg2,κh2,κi2,κj2,κk2,κl2,κm2,κn2,κo2,κp2,κq2,reduceCtorEq,κr2,κs2,κt2,κu2,κv2,κw2,κx2,κy2,κz2,κa3,eq_self,κb3,κc3,zL,ge_iff_le,gt_iff_lt,rBool,rInt,h0]
  · cases h
theorem mul_bd {a b A B : Int} (ha : 0 ≤ a) (hA : a ≤ A) (hb : 0 ≤ b) (hB : b ≤ B) : 0 ≤ a * b ∧ a * b ≤ A * B := ⟨Int.mul_nonneg ha hb,Int.mul_le_mul hA hB hb (Int.le_trans ha hA)⟩
theorem szF_le (f : Int) : 0 ≤ szF f ∧ szF f ≤ 8 := by
  unfold szF
  repeat' split
  all_goals omega
theorem prod_bd {w h : Int} (f : Int) (h1 : sizedB w = true) (h2 : sizedB h = true) : IntKind.i64.wrap (w * h) = w * h ∧ IntKind.i64.wrap (w * h * szF f) = w * h * szF f := by
  simp only [sizedB,decide_eq_true_eq] at h1 h2
  have q := mul_bd (a := w) (b := h) (A := 64) (B := 64) (by omega) (by omega) (by omega) (by omega)
  have z := szF_le f
  have r := mul_bd (a := w * h) (b := szF f) (A := 64 * 64) (B := 8) q.1 q.2 z.1 z.2
  exact ⟨i64_w' (by omega) (by omega),i64_w' (by omega) (by omega)⟩
def imB (f w h n : Int) : Bool := decide (szB f = true ∧ sizedB w = true ∧ sizedB h = true ∧ (n == w * h * szF f) = true)
def img_Valid.S : Am.Spec := fun args => match args with
  | [.agg [.int .i64 f,.int .i64 w,.int .i64 h,.sl 1 es]] => some (rBool (imB f w h es.length))
  | _ => none
theorem img_Valid.ok : SpecOK Try.prog 59 img_Valid.S := fun args r h => by
  unfold img_Valid.S at h
  split at h
  · cases h
    rename_i f w h es
    refine runC_law (n := 0) Try.func59 img_Valid.tr rfl hE (ok_cons tx_Valid.ok (ok_cons img_sized.ok (ok_cons tx_Size.ok ok_nil))) ?_
    by_cases h0 : szB f = true
    · by_cases h1 : sizedB w = true
      · by_cases h2 : sizedB h = true
        · obtain ⟨hw1,hw2⟩ := prod_bd f h1 h2
          by_cases h3 : ((es.length : Int) == w * h * szF f) = true
          · have hp : imB f w h es.length = true := decide_eq_true ⟨h0,h1,h2,h3⟩
            rw [hp]
            simp -implicitDefEqProofs only [runC,mrun,result,AV.fin,XV.fin,Option.bind,Option.map,img_Valid.r0,img_Valid.r1,img_Valid.m,κa,κb,κc,κd,κe,κf,κg,κh,κi,κj,κk,κl,κm,κn,κo,κp,κq,κr,κs,κt,κu,κv,κw,κx,κy,κz,κa1,κb1,κc1,κd1,κe1,κf1,κg1,κh1,κi1,κj1,κk1,κl1,κm1,κn1,κo1,κp1,κq1,κr1,κs1,if_true,if_false,reduceIte,κt1,κu1,κv1,κw1,κx1,κy1,κz1,κa2,κb2,κc2,κd2,κe2,κf2,κg2,κh2,κi2,κj2,κk2,κl2,κm2,κn2,κo2,κp2,κq2,reduceCtorEq,κr2,κs2,κt2,κu2,κv2,κw2,κx2,κy2,κz2,κa3,eq_self,κb3,κc3,zL,ge_iff_le,gt_iff_lt,rBool,rInt,tx_Valid.S,img_sized.S,tx_Size.S,h0,h1,h2,h3,hw1,hw2]
          · have hp : imB f w h es.length = false := decide_eq_false (fun h => h3 (h.2.2.2))
            rw [hp]
            simp -implicitDefEqProofs only [runC,mrun,result,AV.fin,XV.fin,Option.bind,Option.map,img_Valid.r0,img_Valid.r1,img_Valid.m,κa,κb,κc,κd,κe,κf,κg,κh,κi,κj,κk,κl,κm,κn,κo,κp,κq,κr,κs,κt,κu,κv,κw,κx,κy,κz,κa1,κb1,κc1,κd1,κe1,κf1,κg1,κh1,κi1,κj1,κk1,κl1,κm1,κn1,κo1,κp1,κq1,κr1,κs1,if_true,if_false,reduceIte,κt1,κu1,κv1,κw1,κx1,κy1,κz1,κa2,κb2,κc2,κd2,κe2,κf2,κg2,κh2,κi2,κj2,κk2,κl2,κm2,κn2,κo2,κp2,κq2,reduceCtorEq,κr2,κs2,κt2,κu2,κv2,κw2,κx2,κy2,κz2,κa3,eq_self,κb3,κc3,zL,ge_iff_le,gt_iff_lt,rBool,rInt,tx_Valid.S,img_sized.S,tx_Size.S,h0,h1,h2,h3,hw1,hw2]
        · have hp : imB f w h es.length = false := decide_eq_false (fun h => h2 (h.2.2.1))
          rw [hp]
          simp -implicitDefEqProofs only [runC,mrun,result,AV.fin,XV.fin,Option.bind,Option.map,img_Valid.r0,img_Valid.r1,img_Valid.m,κa,κb,κc,κd,κe,κf,κg,κh,κi,κj,κk,κl,κm,κn,κo,κp,κq,κr,κs,κt,κu,κv,κw,κx,κy,κz,κa1,κb1,κc1,κd1,κe1,κf1,κg1,κh1,κi1,κj1,κk1,κl1,κm1,κn1,κo1,κp1,κq1,κr1,κs1,if_true,if_false,reduceIte,κt1,κu1,κv1,κw1,κx1,κy1,κz1,κa2,κb2,κc2,κd2,κe2,κf2,κg2,κh2,κi2,κj2,κk2,κl2,κm2,κn2,κo2,κp2,κq2,reduceCtorEq,κr2,κs2,κt2,κu2,κv2,κw2,κx2,κy2,κz2,κa3,eq_self,κb3,κc3,zL,ge_iff_le,gt_iff_lt,rBool,rInt,tx_Valid.S,img_sized.S,tx_Size.S,h0,h1,h2]
      · have hp : imB f w h es.length = false := decide_eq_false (fun h => h1 (h.2.1))
        rw [hp]
        simp -implicitDefEqProofs only [runC,mrun,result,AV.fin,XV.fin,Option.bind,Option.map,img_Valid.r0,img_Valid.r1,img_Valid.m,κa,κb,κc,κd,κe,κf,κg,κh,κi,κj,κk,κl,κm,κn,κo,κp,κq,κr,κs,κt,κu,κv,κw,κx,κy,κz,κa1,κb1,κc1,κd1,κe1,κf1,κg1,κh1,κi1,κj1,κk1,κl1,κm1,κn1,κo1,κp1,κq1,κr1,κs1,if_true,if_false,reduceIte,κt1,κu1,κv1,κw1,κx1,κy1,κz1,κa2,κb2,κc2,κd2,κe2,κf2,κg2,κh2,κi2,κj2,κk2,κl2,κm2,κn2,κo2,κp2,κq2,reduceCtorEq,κr2,κs2,κt2,κu2,κv2,κw2,κx2,κy2,κz2,κa3,eq_self,κb3,κc3,zL,ge_iff_le,gt_iff_lt,rBool,rInt,tx_Valid.S,img_sized.S,tx_Size.S,h0,h1]
    · have hp : imB f w h es.length = false := decide_eq_false (fun h => h0 (h.1))
      rw [hp]
      simp -implicitDefEqProofs only [runC,mrun,result,AV.fin,XV.fin,Option.bind,Option.map,img_Valid.r0,img_Valid.r1,img_Valid.m,κa,κb,κc,κd,κe,κf,κg,κh,κi,κj,κk,κl,κm,κn,κo,κp,κq,κr,κs,κt,κu,κv,κw,κx,κy,κz,κa1,κb1,κc1,κd1,κe1,κf1,κg1,κh1,κi1,κj1,κk1,κl1,κm1,κn1,κo1,κp1,κq1,κr1,κs1,if_true,if_false,reduceIte,κt1,κu1,κv1,κw1,κx1,κy1,κz1,κa2,κb2,κc2,κd2,κe2,κf2,κg2,κh2,κi2,κj2,κk2,κl2,κm2,κn2,κo2,κp2,κq2,reduceCtorEq,κr2,κs2,κt2,κu2,κv2,κw2,κx2,κy2,κz2,κa3,eq_self,κb3,κc3,zL,ge_iff_le,gt_iff_lt,rBool,rInt,tx_Valid.S,img_sized.S,tx_Size.S,h0]
  · cases h
def r10_Valid.S : Am.Spec := fun args => match args with
  | [.agg [.int .i64 f,.int .i64 w,.int .i64 h,.sl 1 es]] => some (rBool (imB f w h es.length))
  | _ => none
theorem r10_Valid.ok : SpecOK Try.prog 63 r10_Valid.S := fun args r h => by
  unfold r10_Valid.S at h
  split at h
  · cases h
    rename_i f w h es
    refine runC_law (n := 0) Try.func63 r10_Valid.tr rfl hE (ok_cons r09_Valid.ok (ok_cons r10_sized.ok (ok_cons r09_Size.ok ok_nil))) ?_
    by_cases h0 : szB f = true
    · by_cases h1 : sizedB w = true
      · by_cases h2 : sizedB h = true
        · obtain ⟨hw1,hw2⟩ := prod_bd f h1 h2
          by_cases h3 : ((es.length : Int) == w * h * szF f) = true
          · have hp : imB f w h es.length = true := decide_eq_true ⟨h0,h1,h2,h3⟩
            rw [hp]
            simp -implicitDefEqProofs only [runC,mrun,result,AV.fin,XV.fin,Option.bind,Option.map,r10_Valid.r0,r10_Valid.r1,r10_Valid.m,κa,κb,κc,κd,κe,κf,κg,κh,κi,κj,κk,κl,κm,κn,κo,κp,κq,κr,κs,κt,κu,κv,κw,κx,κy,κz,κa1,κb1,κc1,κd1,κe1,κf1,κg1,κh1,κi1,κj1,κk1,κl1,κm1,κn1,κo1,κp1,κq1,κr1,κs1,if_true,if_false,reduceIte,κt1,κu1,κv1,κw1,κx1,κy1,κz1,κa2,κb2,κc2,κd2,κe2,κf2,κg2,κh2,κi2,κj2,κk2,κl2,κm2,κn2,κo2,κp2,κq2,reduceCtorEq,κr2,κs2,κt2,κu2,κv2,κw2,κx2,κy2,κz2,κa3,eq_self,κb3,κc3,zL,ge_iff_le,gt_iff_lt,rBool,rInt,r09_Valid.S,r10_sized.S,r09_Size.S,h0,h1,h2,h3,hw1,hw2]
          · have hp : imB f w h es.length = false := decide_eq_false (fun h => h3 (h.2.2.2))
            rw [hp]
            simp -implicitDefEqProofs only [runC,mrun,result,AV.fin,XV.fin,Option.bind,Option.map,r10_Valid.r0,r10_Valid.r1,r10_Valid.m,κa,κb,κc,κd,κe,κf,κg,κh,κi,κj,κk,κl,κm,κn,κo,κp,κq,κr,κs,κt,κu,κv,κw,κx,κy,κz,κa1,κb1,κc1,κd1,κe1,κf1,κg1,κh1,κi1,κj1,κk1,κl1,κm1,κn1,κo1,κp1,κq1,κr1,κs1,if_true,if_false,reduceIte,κt1,κu1,κv1,κw1,κx1,κy1,κz1,κa2,κb2,κc2,κd2,κe2,κf2,κg2,κh2,κi2,κj2,κk2,κl2,κm2,κn2,κo2,κp2,κq2,reduceCtorEq,κr2,κs2,κt2,κu2,κv2,κw2,κx2,κy2,κz2,κa3,eq_self,κb3,κc3,zL,ge_iff_le,gt_iff_lt,rBool,rInt,r09_Valid.S,r10_sized.S,r09_Size.S,h0,h1,h2,h3,hw1,hw2]
        · have hp : imB f w h es.length = false := decide_eq_false (fun h => h2 (h.2.2.1))
          rw [hp]
          simp -implicitDefEqProofs only [runC,mrun,result,AV.fin,XV.fin,Option.bind,Option.map,r10_Valid.r0,r10_Valid.r1,r10_Valid.m,κa,κb,κc,κd,κe,κf,κg,κh,κi,κj,κk,κl,κm,κn,κo,κp,κq,κr,κs,κt,κu,κv,κw,κx,κy,κz,κa1,κb1,κc1,κd1,κe1,κf1,κg1,κh1,κi1,κj1,κk1,κl1,κm1,κn1,κo1,κp1,κq1,κr1,κs1,if_true,if_false,reduceIte,κt1,κu1,κv1,κw1,κx1,κy1,κz1,κa2,κb2,κc2,κd2,κe2,κf2,κg2,κh2,κi2,κj2,κk2,κl2,κm2,κn2,κo2,κp2,κq2,reduceCtorEq,κr2,κs2,κt2,κu2,κv2,κw2,κx2,κy2,κz2,κa3,eq_self,κb3,κc3,zL,ge_iff_le,gt_iff_lt,rBool,rInt,r09_Valid.S,r10_sized.S,r09_Size.S,h0,h1,h2]
      · have hp : imB f w h es.length = false := decide_eq_false (fun h => h1 (h.2.1))
        rw [hp]
        simp -implicitDefEqProofs only [runC,mrun,result,AV.fin,XV.fin,Option.bind,Option.map,r10_Valid.r0,r10_Valid.r1,r10_Valid.m,κa,κb,κc,κd,κe,κf,κg,κh,κi,κj,κk,κl,κm,κn,κo,κp,κq,κr,κs,κt,κu,κv,κw,κx,κy,κz,κa1,κb1,κc1,κd1,κe1,κf1,κg1,κh1,κi1,κj1,κk1,κl1,κm1,κn1,κo1,κp1,κq1,κr1,κs1,if_true,if_false,reduceIte,κt1,κu1,κv1,κw1,κx1,κy1,κz1,κa2,κb2,κc2,κd2,κe2,κf2,κg2,κh2,κi2,κj2,κk2,κl2,κm2,κn2,κo2,κp2,κq2,reduceCtorEq,κr2,κs2,κt2,κu2,κv2,κw2,κx2,κy2,κz2,κa3,eq_self,κb3,κc3,zL,ge_iff_le,gt_iff_lt,rBool,rInt,r09_Valid.S,r10_sized.S,r09_Size.S,h0,h1]
    · have hp : imB f w h es.length = false := decide_eq_false (fun h => h0 (h.1))
      rw [hp]
      simp -implicitDefEqProofs only [runC,mrun,result,AV.fin,XV.fin,Option.bind,Option.map,r10_Valid.r0,r10_Valid.r1,r10_Valid.m,κa,κb,κc,κd,κe,κf,κg,κh,κi,κj,κk,κl,κm,κn,κo,κp,κq,κr,κs,κt,κu,κv,κw,κx,κy,κz,κa1,κb1,κc1,κd1,κe1,κf1,κg1,κh1,κi1,κj1,κk1,κl1,κm1,κn1,κo1,κp1,κq1,κr1,κs1,if_true,if_false,reduceIte,κt1,κu1,κv1,κw1,κx1,κy1,κz1,κa2,κb2,κc2,κd2,κe2,κf2,κg2,κh2,κi2,κj2,κk2,κl2,κm2,κn2,κo2,κp2,κq2,reduceCtorEq,κr2,κs2,κt2,κu2,κv2,κw2,κx2,κy2,κz2,κa3,eq_self,κb3,κc3,zL,ge_iff_le,gt_iff_lt,rBool,rInt,r09_Valid.S,r10_sized.S,r09_Size.S,h0]
  · cases h
def r38_Bits.S : Am.Spec := fun args => match args with
  | [.c (.int .i64 x)] => some (rInt (bitsF x))
  | _ => none
theorem r38_Bits.ok : SpecOK Try.prog 62 r38_Bits.S := fun args r h => by
  unfold r38_Bits.S at h
  split at h
  · cases h
    rename_i x
    refine runC_law (n := 0) Try.func62 r38_Bits.tr rfl hE ok_nil ?_
    by_cases e1 : x = 1
    · subst e1; kernel_rfl
    by_cases e2 : x = 2
    · subst e2; kernel_rfl
    by_cases e3 : x = 3
    · subst e3; kernel_rfl
    have h1 : (x == 1) = false := by simpa using e1
    have h2 : (x == 2) = false := by simpa using e2
    have h3 : (x == 3) = false := by simpa using e3
    have hF : bitsF x = -1 := by simp only [bitsF,e1,e2,e3,if_false]
    rw [hF]
    simp -implicitDefEqProofs only [runC,mrun,result,AV.fin,XV.fin,Option.bind,Option.map,r38_Bits.r0,r38_Bits.r1,r38_Bits.r2,r38_Bits.r3,r38_Bits.r4,r38_Bits.r5,r38_Bits.r6,r38_Bits.r7,r38_Bits.r8,r38_Bits.m,κa,κb,κc,κd,κe,κf,κg,κh,κi,κj,κk,κl,κm,κn,κo,κp,κq,κr,κs,κt,κu,κv,κw,κx,κy,κz,κa1,κb1,κc1,κd1,κe1,κf1,κg1,κh1,κi1,κj1,κk1,κl1,κm1,κn1,κo1,κp1,κq1,κr1,κs1,if_true,if_false,reduceIte,κt1,κu1,κv1,κw1,κx1,κy1,κz1,κa2,κb2,κc2,κd2,κe2,κf2,κg2,κh2,κi2,κj2,κk2,κl2,κm2,κn2,κo2,κp2,κq2,reduceCtorEq,κr2,κs2,κt2,κu2,κv2,κw2,κx2,κy2,κz2,κa3,eq_self,κb3,κc3,zL,rInt,h1,h2,h3]
  · cases h
def maxF (x : Int) : Int := if x = 2 then 65535 else if x = 3 then 16777215 else 0
def r38_Max.S : Am.Spec := fun args => match args with
  | [.c (.int .i64 x)] => some (rInt (maxF x))
  | _ => none
theorem r38_Max.ok : SpecOK Try.prog 65 r38_Max.S := fun args r h => by
  unfold r38_Max.S at h
  split at h
  · cases h
    rename_i x
    by_cases e1 : x = 1
    · subst e1; exact runC_law (n := 30) Try.func65 r38_Max.tr rfl hE (ok_cons r38_Bits.ok ok_nil) (by kernel_rfl)
    by_cases e2 : x = 2
    · subst e2; exact runC_law (n := 30) Try.func65 r38_Max.tr rfl hE (ok_cons r38_Bits.ok ok_nil) (by kernel_rfl)
    by_cases e3 : x = 3
    · subst e3; exact runC_law (n := 30) Try.func65 r38_Max.tr rfl hE (ok_cons r38_Bits.ok ok_nil) (by kernel_rfl)
    have hF : maxF x = 0 := by simp only [maxF,e2,e3,if_false]
    have hB : bitsF x = -1 := by simp only [bitsF,e1,e2,e3,if_false]
    have hd : decide ((0 : Int) < -1) = false := by decide
    rw [hF]
    refine runC_law (n := 1) Try.func65 r38_Max.tr rfl hE (ok_cons r38_Bits.ok ok_nil) ?_
    simp -implicitDefEqProofs only [runC,mrun,result,AV.fin,XV.fin,Option.bind,Option.map,r38_Max.r0,r38_Max.r1,r38_Max.r2,r38_Max.r3,r38_Max.r4,r38_Max.r5,r38_Max.b6,r38_Max.r7,r38_Max.m,κa,κb,κc,κd,κe,κf,κg,κh,κi,κj,κk,κl,κm,κn,κo,κp,κq,κr,κs,κt,κu,κv,κw,κx,κy,κz,κa1,κb1,κc1,κd1,κe1,κf1,κg1,κh1,κi1,κj1,κk1,κl1,κm1,κn1,κo1,κp1,κq1,κr1,κs1,if_true,if_false,reduceIte,κt1,κu1,κv1,κw1,κx1,κy1,κz1,κa2,κb2,κc2,κd2,κe2,κf2,κg2,κh2,κi2,κj2,κk2,κl2,κm2,κn2,κo2,κp2,κq2,reduceCtorEq,κr2,κs2,κt2,κu2,κv2,κw2,κx2,κy2,κz2,κa3,eq_self,κb3,κc3,zL,loopN,r38_Bits.S,rInt,hB,hd]
  · cases h
def mostF (x : Int) : Int := if x = 3 then 255 else 0
def r42_most.S : Am.Spec := fun args => match args with
  | [.c (.int .i64 x)] => some (rInt (mostF x))
  | _ => none
theorem r42_most.ok : SpecOK Try.prog 66 r42_most.S := fun args r h => by
  unfold r42_most.S at h
  split at h
  · cases h
    rename_i x
    refine runC_law (n := 0) Try.func66 r42_most.tr rfl hE ok_nil ?_
    by_cases e3 : x = 3
    · subst e3; kernel_rfl
    have hF : mostF x = 0 := by simp only [mostF,e3,if_false]
    have h3 : (x == 3) = false := by simpa using e3
    rw [hF]
    simp -implicitDefEqProofs only [runC,mrun,result,AV.fin,XV.fin,Option.bind,Option.map,r42_most.r0,r42_most.r1,r42_most.r2,r42_most.r3,r42_most.m,κa,κb,κc,κd,κe,κf,κg,κh,κi,κj,κk,κl,κm,κn,κo,κp,κq,κr,κs,κt,κu,κv,κw,κx,κy,κz,κa1,κb1,κc1,κd1,κe1,κf1,κg1,κh1,κi1,κj1,κk1,κl1,κm1,κn1,κo1,κp1,κq1,κr1,κs1,if_true,if_false,reduceIte,κt1,κu1,κv1,κw1,κx1,κy1,κz1,κa2,κb2,κc2,κd2,κe2,κf2,κg2,κh2,κi2,κj2,κk2,κl2,κm2,κn2,κo2,κp2,κq2,reduceCtorEq,κr2,κs2,κt2,κu2,κv2,κw2,κx2,κy2,κz2,κa3,eq_self,κb3,κc3,zL,rInt,h3]
  · cases h
def tg_mostStencil.S : Am.Spec := fun args => match args with
  | [.agg [.int .i64 w,.int .i64 h,.int .i64 s,.int .i64 x,.sl n1 l1,.sl n2 l2,.sl n3 l3]] => some (rInt (mostF x))
  | _ => none
theorem tg_mostStencil.ok : SpecOK Try.prog 61 tg_mostStencil.S := fun args r h => by
  unfold tg_mostStencil.S at h
  split at h
  · cases h
    rename_i w h s x n1 l1 n2 l2 n3 l3
    refine runC_law (n := 0) Try.func61 tg_mostStencil.tr rfl hE ok_nil ?_
    by_cases e3 : x = 3
    · subst e3
      simp -implicitDefEqProofs only [runC,mrun,result,AV.fin,XV.fin,Option.bind,Option.map,tg_mostStencil.r0,tg_mostStencil.r1,tg_mostStencil.r2,tg_mostStencil.r3,tg_mostStencil.m,κa,κb,κc,κd,κe,κf,κg,κh,κi,κj,κk,κl,κm,κn,κo,κp,κq,κr,κs,κt,κu,κv,κw,κx,κy,κz,κa1,κb1,κc1,κd1,κe1,κf1,κg1,κh1,κi1,κj1,κk1,κl1,κm1,κn1,κo1,κp1,κq1,κr1,κs1,if_true,if_false,reduceIte,κt1,κu1,κv1,κw1,κx1,κy1,κz1,κa2,κb2,κc2,κd2,κe2,κf2,κg2,κh2,κi2,κj2,κk2,κl2,κm2,κn2,κo2,κp2,κq2,reduceCtorEq,κr2,κs2,κt2,κu2,κv2,κw2,κx2,κy2,κz2,κa3,eq_self,κb3,κc3,zL,rInt,mostF]
    have hF : mostF x = 0 := by simp only [mostF,e3,if_false]
    have h3 : (x == 3) = false := by simpa using e3
    rw [hF]
    simp -implicitDefEqProofs only [runC,mrun,result,AV.fin,XV.fin,Option.bind,Option.map,tg_mostStencil.r0,tg_mostStencil.r1,tg_mostStencil.r2,tg_mostStencil.r3,tg_mostStencil.m,κa,κb,κc,κd,κe,κf,κg,κh,κi,κj,κk,κl,κm,κn,κo,κp,κq,κr,κs,κt,κu,κv,κw,κx,κy,κz,κa1,κb1,κc1,κd1,κe1,κf1,κg1,κh1,κi1,κj1,κk1,κl1,κm1,κn1,κo1,κp1,κq1,κr1,κs1,if_true,if_false,reduceIte,κt1,κu1,κv1,κw1,κx1,κy1,κz1,κa2,κb2,κc2,κd2,κe2,κf2,κg2,κh2,κi2,κj2,κk2,κl2,κm2,κn2,κo2,κp2,κq2,reduceCtorEq,κr2,κs2,κt2,κu2,κv2,κw2,κx2,κy2,κz2,κa3,eq_self,κb3,κc3,zL,rInt,h3]
  · cases h
def iC (x : Int) : List CV := [.int .i64 x]
theorem iC_inj (a b : Int) (h : iC a = iC b) : a = b := by simpa [iC] using h
theorem iC_get (l : List Int) (j : Nat) (h : j < l.length) : (l.map iC)[j]? = some [.int .i64 l[j]] := by simp [h,iC]
def inB (m x : Int) : Bool := decide (0 ≤ x ∧ x ≤ m)
theorem all_false {α : Type} {f : α → Bool} {l : List α} {j : Nat} (hj : j < l.length) (h : f l[j] = false) : l.all f = false := by
  rw [List.all_eq_false]
  exact ⟨_,List.getElem_mem hj,by simp [h]⟩
theorem all_true {α : Type} {f : α → Bool} {l : List α} (h : ∀ q (hq : q < l.length),f l[q] = true) : l.all f = true := by
  rw [List.all_eq_true]
  intro x hx
  obtain ⟨q,hq,rfl⟩ := List.getElem_of_mem hx
  exact h q hq
def encLim (a : List Int × Int) : List PV := [.c (.sl 1 (a.1.map iC)),.c (.int .i64 a.2)]
theorem encLim_inj (a b : List Int × Int) (h : encLim a = encLim b) : a = b := by
  obtain ⟨a1,a2⟩ := a; obtain ⟨b1,b2⟩ := b
  simp only [encLim,List.cons.injEq,PV.c.injEq,CV.sl.injEq,CV.int.injEq,true_and,and_true] at h
  rw [map_inj iC_inj h.1,h.2]
noncomputable def r42_limited.S : Am.Spec := cSpec encLim fun a => if a.1.length ≤ 1000000 then some (rBool (a.1.all (inB a.2))) else none
theorem limS_eq (l : List Int) (m : Int) (h : l.length ≤ 1000000) : r42_limited.S [.c (.sl 1 (l.map iC)),.c (.int .i64 m)] = some (rBool (l.all (inB m))) := by
  have := cSpec_eq (res := fun a : List Int × Int => if a.1.length ≤ 1000000 then some (rBool (a.1.all (inB a.2))) else none) encLim_inj (l,m)
  rw [if_pos h] at this
  exact this
theorem r42_limited.ok : SpecOK Try.prog 64 r42_limited.S := cSpec_ok fun a r h => by
  obtain ⟨l,m⟩ := a
  (try simp only at h)
  split at h
  case isFalse => cases h
  rename_i hl
  cases h
  refine fnLaw Try.func64 r42_limited.tr rfl hE ok_nil ?_
  unfold r42_limited.m
  refine seq_reg (σ' := ?_) ?_ ?_
  rotate_left
  · simp -implicitDefEqProofs only [r42_limited.r0,κa,κb,κc,κd,κe,κf,κg,κh,κi,κj,κk,κl,κm,κn,κo,κp,κq,κr,κs,κt,κu,κv,κw,κx,κy,κz,κa1,κb1,κc1,κd1,κe1,κf1,κg1,κh1,κi1,κj1,κk1,κl1,κm1,κn1,κo1,κp1,κq1,κr1,κs1,if_true,if_false,reduceIte,κt1,κu1,κv1,κw1,κx1,κy1,κz1,κa2,κb2,κc2,κd2,κe2,κf2,κg2,κh2,κi2,κj2,κk2,κl2,κm2,κn2,κo2,κp2,κq2,reduceCtorEq,κr2,κs2,κt2,κu2,κv2,κw2,κx2,κy2,κz2,κa3,eq_self,κb3,κc3,zL]; rfl
  refine seq_ (seq_ ?_)
  refine seq_ex (σ'' := St.of [(0,.c (.p (.sl 1 (l.map iC)))),(1,rInt m),(5,rInt 0)] [] [] (0)) ⟨_,by simp -implicitDefEqProofs only [r42_limited.r1,κa,κb,κc,κd,κe,κf,κg,κh,κi,κj,κk,κl,κm,κn,κo,κp,κq,κr,κs,κt,κu,κv,κw,κx,κy,κz,κa1,κb1,κc1,κd1,κe1,κf1,κg1,κh1,κi1,κj1,κk1,κl1,κm1,κn1,κo1,κp1,κq1,κr1,κs1,if_true,if_false,reduceIte,κt1,κu1,κv1,κw1,κx1,κy1,κz1,κa2,κb2,κc2,κd2,κe2,κf2,κg2,κh2,κi2,κj2,κk2,κl2,κm2,κn2,κo2,κp2,κq2,reduceCtorEq,κr2,κs2,κt2,κu2,κv2,κw2,κx2,κy2,κz2,κa3,eq_self,κb3,κc3,zL,encLim]; rfl,sub_of (all_cons rfl (all_cons rfl (all_cons rfl all_nil))) all_nil all_nil (Nat.le_refl _)⟩ ?_
  refine block_ ?_
  refine loop_ (fun n σ => ∃ j : Nat,j ≤ l.length ∧ n = l.length - j ∧ (∀ q (hq : q < l.length),q < j → inB m l[q] = true) ∧ σ = St.of [(0,.c (.p (.sl 1 (l.map iC)))),(1,rInt m),(5,rInt j)] [] [] 0)
    l.length _ (Sub.refl _) ⟨0,Nat.zero_le _,rfl,fun q _ h => by omega,rfl⟩ ?_
  rintro n σ ⟨j,hj,rfl,hall,rfl⟩
  unfold r42_limited.b6
  refine seq_ (seq_ ?_)
  refine seq_reg (σ' := ?_) ?_ ?_
  rotate_left
  · simp -implicitDefEqProofs only [r42_limited.r2,κa,κb,κc,κd,κe,κf,κg,κh,κi,κj,κk,κl,κm,κn,κo,κp,κq,κr,κs,κt,κu,κv,κw,κx,κy,κz,κa1,κb1,κc1,κd1,κe1,κf1,κg1,κh1,κi1,κj1,κk1,κl1,κm1,κn1,κo1,κp1,κq1,κr1,κs1,if_true,if_false,reduceIte,κt1,κu1,κv1,κw1,κx1,κy1,κz1,κa2,κb2,κc2,κd2,κe2,κf2,κg2,κh2,κi2,κj2,κk2,κl2,κm2,κn2,κo2,κp2,κq2,reduceCtorEq,κr2,κs2,κt2,κu2,κv2,κw2,κx2,κy2,κz2,κa3,eq_self,κb3,κc3,zL,rInt,List.length_map]; rfl
  refine cond_ rfl (fun h => skip_ (norm_ ?_)) (fun h => ?_)
  · have hlt : j < l.length := by have := of_decide_eq_true h; omega
    have hg := iC_get l j hlt
    have hwr : IntKind.i64.wrap ((j : Int) + 1) = ((j + 1 : Nat) : Int) := by rw [i64_w' (by omega) (by omega)]; omega
    have hj0 : (0 : Int) ≤ (j : Int) := by omega
    refine seq_ (block_ ?_)
    by_cases a1 : l[j] < 0
    · have hF : l.all (inB m) = false := all_false hlt (decide_eq_false (fun h => by omega))
      simp only [hF]
      refine seq_reg (σ' := ?_) ?_ ?_
      rotate_left
      · simp -implicitDefEqProofs only [r42_limited.r3,κa,κb,κc,κd,κe,κf,κg,κh,κi,κj,κk,κl,κm,κn,κo,κp,κq,κr,κs,κt,κu,κv,κw,κx,κy,κz,κa1,κb1,κc1,κd1,κe1,κf1,κg1,κh1,κi1,κj1,κk1,κl1,κm1,κn1,κo1,κp1,κq1,κr1,κs1,if_true,if_false,reduceIte,κt1,κu1,κv1,κw1,κx1,κy1,κz1,κa2,κb2,κc2,κd2,κe2,κf2,κg2,κh2,κi2,κj2,κk2,κl2,κm2,κn2,κo2,κp2,κq2,reduceCtorEq,κr2,κs2,κt2,κu2,κv2,κw2,κx2,κy2,κz2,κa3,eq_self,κb3,κc3,zL,rInt,hg,hj0,a1]; rfl
      refine cond_ rfl (fun _ => ?_) (fun h => by cases h)
      refine seq_reg (σ' := ?_) ?_ ?_
      rotate_left
      · simp -implicitDefEqProofs only [r42_limited.r4,κa,κb,κc,κd,κe,κf,κg,κh,κi,κj,κk,κl,κm,κn,κo,κp,κq,κr,κs,κt,κu,κv,κw,κx,κy,κz,κa1,κb1,κc1,κd1,κe1,κf1,κg1,κh1,κi1,κj1,κk1,κl1,κm1,κn1,κo1,κp1,κq1,κr1,κs1,if_true,if_false,reduceIte,κt1,κu1,κv1,κw1,κx1,κy1,κz1,κa2,κb2,κc2,κd2,κe2,κf2,κg2,κh2,κi2,κj2,κk2,κl2,κm2,κn2,κo2,κp2,κq2,reduceCtorEq,κr2,κs2,κt2,κu2,κv2,κw2,κx2,κy2,κz2,κa3,eq_self,κb3,κc3,zL]; rfl
      exact ret_ ⟨.inl rfl,_,rfl,AVle.refl _⟩
    by_cases a2 : l[j] > m
    · have hF : l.all (inB m) = false := all_false hlt (decide_eq_false (fun h => by omega))
      simp only [hF]
      refine seq_reg (σ' := ?_) ?_ ?_
      rotate_left
      · simp -implicitDefEqProofs only [r42_limited.r3,κa,κb,κc,κd,κe,κf,κg,κh,κi,κj,κk,κl,κm,κn,κo,κp,κq,κr,κs,κt,κu,κv,κw,κx,κy,κz,κa1,κb1,κc1,κd1,κe1,κf1,κg1,κh1,κi1,κj1,κk1,κl1,κm1,κn1,κo1,κp1,κq1,κr1,κs1,if_true,if_false,reduceIte,κt1,κu1,κv1,κw1,κx1,κy1,κz1,κa2,κb2,κc2,κd2,κe2,κf2,κg2,κh2,κi2,κj2,κk2,κl2,κm2,κn2,κo2,κp2,κq2,reduceCtorEq,κr2,κs2,κt2,κu2,κv2,κw2,κx2,κy2,κz2,κa3,eq_self,κb3,κc3,zL,rInt,hg,hj0,a1,a2]; rfl
      refine cond_ rfl (fun _ => ?_) (fun h => by cases h)
      refine seq_reg (σ' := ?_) ?_ ?_
      rotate_left
      · simp -implicitDefEqProofs only [r42_limited.r4,κa,κb,κc,κd,κe,κf,κg,κh,κi,κj,κk,κl,κm,κn,κo,κp,κq,κr,κs,κt,κu,κv,κw,κx,κy,κz,κa1,κb1,κc1,κd1,κe1,κf1,κg1,κh1,κi1,κj1,κk1,κl1,κm1,κn1,κo1,κp1,κq1,κr1,κs1,if_true,if_false,reduceIte,κt1,κu1,κv1,κw1,κx1,κy1,κz1,κa2,κb2,κc2,κd2,κe2,κf2,κg2,κh2,κi2,κj2,κk2,κl2,κm2,κn2,κo2,κp2,κq2,reduceCtorEq,κr2,κs2,κt2,κu2,κv2,κw2,κx2,κy2,κz2,κa3,eq_self,κb3,κc3,zL]; rfl
      exact ret_ ⟨.inl rfl,_,rfl,AVle.refl _⟩
    refine seq_reg (σ' := ?_) ?_ ?_
    rotate_left
    · simp -implicitDefEqProofs only [r42_limited.r3,κa,κb,κc,κd,κe,κf,κg,κh,κi,κj,κk,κl,κm,κn,κo,κp,κq,κr,κs,κt,κu,κv,κw,κx,κy,κz,κa1,κb1,κc1,κd1,κe1,κf1,κg1,κh1,κi1,κj1,κk1,κl1,κm1,κn1,κo1,κp1,κq1,κr1,κs1,if_true,if_false,reduceIte,κt1,κu1,κv1,κw1,κx1,κy1,κz1,κa2,κb2,κc2,κd2,κe2,κf2,κg2,κh2,κi2,κj2,κk2,κl2,κm2,κn2,κo2,κp2,κq2,reduceCtorEq,κr2,κs2,κt2,κu2,κv2,κw2,κx2,κy2,κz2,κa3,eq_self,κb3,κc3,zL,rInt,hg,hj0,a1,a2]; rfl
    refine cond_ rfl (fun h => by cases h) (fun _ => skip_ (norm_ ?_))
    refine last_reg (σ' := ?_) ?_ ?_
    rotate_left
    · simp -implicitDefEqProofs only [r42_limited.r5,κa,κb,κc,κd,κe,κf,κg,κh,κi,κj,κk,κl,κm,κn,κo,κp,κq,κr,κs,κt,κu,κv,κw,κx,κy,κz,κa1,κb1,κc1,κd1,κe1,κf1,κg1,κh1,κi1,κj1,κk1,κl1,κm1,κn1,κo1,κp1,κq1,κr1,κs1,if_true,if_false,reduceIte,κt1,κu1,κv1,κw1,κx1,κy1,κz1,κa2,κb2,κc2,κd2,κe2,κf2,κg2,κh2,κi2,κj2,κk2,κl2,κm2,κn2,κo2,κp2,κq2,reduceCtorEq,κr2,κs2,κt2,κu2,κv2,κw2,κx2,κy2,κz2,κa3,eq_self,κb3,κc3,zL,rInt,hwr]; rfl
    refine round_ (m := l.length - (j + 1)) (σ'' := St.of [(0,.c (.p (.sl 1 (l.map iC)))),(1,rInt m),(5,rInt ((j + 1 : Nat) : Int))] [] [] 0) (by omega) (sub_of (all_cons rfl (all_cons rfl (all_cons rfl all_nil))) all_nil all_nil (Nat.le_refl _)) ⟨j + 1,hlt,rfl,fun q hq hqj => ?_,rfl⟩
    by_cases e : q = j
    · subst e; exact decide_eq_true ⟨by omega,by omega⟩
    · exact hall q hq (by omega)
  · have hge : j = l.length := by have := of_decide_eq_false h; omega
    subst hge
    have hT : l.all (inB m) = true := all_true (fun q hq => hall q hq hq)
    simp only [hT]
    refine exit_ (norm_ ?_)
    refine seq_reg (σ' := ?_) ?_ ?_
    rotate_left
    · simp -implicitDefEqProofs only [r42_limited.r7,κa,κb,κc,κd,κe,κf,κg,κh,κi,κj,κk,κl,κm,κn,κo,κp,κq,κr,κs,κt,κu,κv,κw,κx,κy,κz,κa1,κb1,κc1,κd1,κe1,κf1,κg1,κh1,κi1,κj1,κk1,κl1,κm1,κn1,κo1,κp1,κq1,κr1,κs1,if_true,if_false,reduceIte,κt1,κu1,κv1,κw1,κx1,κy1,κz1,κa2,κb2,κc2,κd2,κe2,κf2,κg2,κh2,κi2,κj2,κk2,κl2,κm2,κn2,κo2,κp2,κq2,reduceCtorEq,κr2,κs2,κt2,κu2,κv2,κw2,κx2,κy2,κz2,κa3,eq_self,κb3,κc3,zL]; rfl
    exact ret_ ⟨.inl rfl,_,rfl,AVle.refl _⟩
end Go.Proofs.Ytjbhhdocbejccaa.Pl
