/- Chapter 43: the fields of an instruction: Operands, registers, immediate, operands. No condition beyond those that each theorem states. -/
import Derived.Test.YtjbhhdocbejccaaD
namespace Go.Proofs.Ytjbhhdocbejccaa.Pl
open Go Go.RowKit Go.Proofs.Ytjbhhdocbejccaa.Am
open Go.Proofs.Ytjbhhdocbejccaa.Am renaming ex_nil → κa,ex_cons → κb,exK_some → κc,st_n → κd,st_g → κe,gd_b → κf,gd_u → κg,rn_v → κh,rn_m → κi,rn_s → κj,rn_a → κk,think → κl,prep → κm,mkDsts → κn,ev → κp,upd → κq,init → κr,forgetBox → κu,pvs → κx,fillX → κy,chunks → κz,binV → κa1,xints → κb1,ldX → κc1,baseOk → κe1,fg_p → κf1,fg_tk → κg1,mkG → κh1,tab → κj1,c3 → κa3
open Go.Proofs.Ytjbhhdocbejccaa.Am.St renaming clear → κo,put → κt,of → κk1
open Go.Proofs.Ytjbhhdocbejccaa.Am.PV renaming av → κs
open Go.Proofs.Ytjbhhdocbejccaa.Am.AV renaming cells → κv,pv → κw,plain → κd1
open Go.Proofs.Ytjbhhdocbejccaa.Am.Sig renaming spec → κi1
open List renaming getElem?_cons_zero → κl1,getElem?_cons_succ → κm1,getElem?_nil → κn1,map_cons → κu1,map_nil → κv1,drop_succ_cons → κw1,drop_zero → κx1,take_succ_cons → κy1,take_zero → κz1,length_cons → κa2,length_nil → κb2,length_append → κc2,cons_append → κd2,nil_append → κe2,append_nil → κf2
open Option renaming map_some → κo1,map_none → κp1,bind_some → κq1,isSome_some → κr1,isSome_none → κs1
open Nat renaming reduceEqDiff → κt1,reduceAdd → κg2,reduceMul → κh2,reduceLeDiff → κi2,reduceBEq → κj2,zero_le → κk2,le_refl → κl2,zero_add → κm2,add_zero → κn2
open Bool renaming not_true → κo2,not_false → κp2,false_eq_true → κq2,true_eq_false → κc3
open Int renaming reduceBEq → κr2,reduceBNe → κs2,reduceLT → κt2,reduceLE → κu2,reduceAdd → κv2,reduceToNat → κw2,toNat_zero → κx2,reduceEq → κy2,toNat_natCast → κz2,le_refl → κb3
set_option linter.unusedVariables false
set_option linter.unusedSimpArgs false
set_option maxHeartbeats 8000000
set_option maxRecDepth 100000
def dB (op : Int) : Bool := decide ((1 ≤ op ∧ op ≤ 38) ∨ (40 ≤ op ∧ op ≤ 42))
def aB (op : Int) : Bool := decide ((2 ≤ op ∧ op ≤ 36) ∨ (39 ≤ op ∧ op ≤ 43))
def bB (op : Int) : Bool := decide ((3 ≤ op ∧ op ≤ 22) ∨ op = 36 ∨ op = 40 ∨ op = 41)
def cB (op : Int) : Bool := decide (op = 36 ∨ op = 40 ∨ op = 41)
def mB (op : Int) : Bool := decide (op = 1 ∨ (37 ≤ op ∧ op ≤ 42) ∨ op = 46)
def opsOf (op : Int) : List CV := [.bool (dB op),.bool (aB op),.bool (bB op),.bool (cB op),.bool (mB op)]
def opsS : Am.Spec := fun args => match args with
  | [.c (.int .i64 op)] => if 1 ≤ op ∧ op ≤ 52 then some (.tup (opsOf op)) else none
  | _ => none
abbrev isa_Operands.S := opsS
abbrev r22_Operands.S := opsS
def tbO : List (Row Try.prog [60]) := [⟨87,isa_Valid.m,_,1,_,Try.func87,isa_Valid.tr,rfl⟩,⟨93,isa_class.m,_,1,_,Try.func93,isa_class.tr,rfl⟩,⟨88,isa_Operands.m,_,1,_,Try.func88,isa_Operands.tr,rfl⟩,⟨85,r22_Operands.m,_,1,_,Try.func85,r22_Operands.tr,rfl⟩]
theorem isa_Operands.ok : SpecOK Try.prog 88 isa_Operands.S := fun args r h => by
  change opsS args = some r at h
  unfold opsS at h
  split at h
  · split at h
    · rename_i op hop
      cases h
      have hc : op = 1 ∨ op = 2 ∨ op = 3 ∨ op = 4 ∨ op = 5 ∨ op = 6 ∨ op = 7 ∨ op = 8 ∨ op = 9 ∨ op = 10 ∨ op = 11 ∨ op = 12 ∨ op = 13 ∨ op = 14 ∨ op = 15 ∨ op = 16 ∨ op = 17 ∨ op = 18 ∨ op = 19 ∨ op = 20 ∨ op = 21 ∨ op = 22 ∨ op = 23 ∨ op = 24 ∨ op = 25 ∨ op = 26 ∨ op = 27 ∨ op = 28 ∨ op = 29 ∨ op = 30 ∨ op = 31 ∨ op = 32 ∨ op = 33 ∨ op = 34 ∨ op = 35 ∨ op = 36 ∨ op = 37 ∨ op = 38 ∨ op = 39 ∨ op = 40 ∨ op = 41 ∨ op = 42 ∨ op = 43 ∨ op = 44 ∨ op = 45 ∨ op = 46 ∨ op = 47 ∨ op = 48 ∨ op = 49 ∨ op = 50 ∨ op = 51 ∨ op = 52 := by omega
      rcases hc with rfl | rfl | rfl | rfl | rfl | rfl | rfl | rfl | rfl | rfl | rfl | rfl | rfl | rfl | rfl | rfl | rfl | rfl | rfl | rfl | rfl | rfl | rfl | rfl | rfl | rfl | rfl | rfl | rfl | rfl | rfl | rfl | rfl | rfl | rfl | rfl | rfl | rfl | rfl | rfl | rfl | rfl | rfl | rfl | rfl | rfl | rfl | rfl | rfl | rfl | rfl | rfl
      all_goals exact evalF_ok hE tbO 50 5 88 _ _ (by kernel_rfl)
    · cases h
  · cases h
theorem r22_Operands.ok : SpecOK Try.prog 85 r22_Operands.S := fun args r h => by
  change opsS args = some r at h
  unfold opsS at h
  split at h
  · split at h
    · rename_i op hop
      cases h
      have hc : op = 1 ∨ op = 2 ∨ op = 3 ∨ op = 4 ∨ op = 5 ∨ op = 6 ∨ op = 7 ∨ op = 8 ∨ op = 9 ∨ op = 10 ∨ op = 11 ∨ op = 12 ∨ op = 13 ∨ op = 14 ∨ op = 15 ∨ op = 16 ∨ op = 17 ∨ op = 18 ∨ op = 19 ∨ op = 20 ∨ op = 21 ∨ op = 22 ∨ op = 23 ∨ op = 24 ∨ op = 25 ∨ op = 26 ∨ op = 27 ∨ op = 28 ∨ op = 29 ∨ op = 30 ∨ op = 31 ∨ op = 32 ∨ op = 33 ∨ op = 34 ∨ op = 35 ∨ op = 36 ∨ op = 37 ∨ op = 38 ∨ op = 39 ∨ op = 40 ∨ op = 41 ∨ op = 42 ∨ op = 43 ∨ op = 44 ∨ op = 45 ∨ op = 46 ∨ op = 47 ∨ op = 48 ∨ op = 49 ∨ op = 50 ∨ op = 51 ∨ op = 52 := by omega
      rcases hc with rfl | rfl | rfl | rfl | rfl | rfl | rfl | rfl | rfl | rfl | rfl | rfl | rfl | rfl | rfl | rfl | rfl | rfl | rfl | rfl | rfl | rfl | rfl | rfl | rfl | rfl | rfl | rfl | rfl | rfl | rfl | rfl | rfl | rfl | rfl | rfl | rfl | rfl | rfl | rfl | rfl | rfl | rfl | rfl | rfl | rfl | rfl | rfl | rfl | rfl | rfl | rfl
      all_goals exact evalF_ok hE tbO 50 5 85 _ _ (by kernel_rfl)
    · cases h
  · cases h
def isa_registers.S : Am.Spec := fun args => match args with
  | [.agg [.int .i64 op,.int .i64 d,.int .i64 a,.int .i64 b,.int .i64 c,.int .i64 m]] => if 1 ≤ op ∧ op ≤ 52 then some (.agg [.p (.int .i64 d),.p (.bool (dB op)),.p (.int .i64 a),.p (.bool (aB op)),.p (.int .i64 b),.p (.bool (bB op)),.p (.int .i64 c),.p (.bool (cB op))]) else none
  | _ => none
theorem isa_registers.ok : SpecOK Try.prog 89 isa_registers.S := fun args r h => by
  unfold isa_registers.S at h
  split at h
  · split at h
    · rename_i op d a b c m hop
      cases h
      refine runC_law (n := 0) Try.func89 isa_registers.tr rfl hE (ok_cons isa_Operands.ok ok_nil) ?_
      have hO : opsS [.c (.int .i64 op)] = some (.tup [.bool (dB op),.bool (aB op),.bool (bB op),.bool (cB op),.bool (mB op)]) := if_pos hop
      simp -implicitDefEqProofs only [runC,mrun,result,AV.fin,XV.fin,Option.bind,Option.map,isa_registers.r0,isa_registers.r1,isa_registers.r2,isa_registers.m,κa,κb,κc,κd,κe,κf,κg,κh,κi,κj,κk,κl,κm,κn,κo,κp,κq,κr,κs,κt,κu,κv,κw,κx,κy,κz,κa1,κb1,κc1,κd1,κe1,κf1,κg1,κh1,κi1,κj1,κk1,κl1,κm1,κn1,κo1,κp1,κq1,κr1,κs1,if_true,if_false,reduceIte,κt1,κu1,κv1,κw1,κx1,κy1,κz1,κa2,κb2,κc2,κd2,κe2,κf2,κg2,κh2,κi2,κj2,κk2,κl2,κm2,κn2,κo2,κp2,κq2,reduceCtorEq,κr2,κs2,κt2,κu2,κv2,κw2,κx2,κy2,κz2,κa3,eq_self,κb3,κc3,zL,isa_Operands.S,hO]
    · cases h
  · cases h
def okP (inp out un tx bf : Int) : Prop := 0 ≤ inp ∧ inp ≤ 32 ∧ 0 ≤ out ∧ out ≤ 32 ∧ 0 ≤ un ∧ un ≤ 64 ∧ 0 ≤ tx ∧ tx ≤ 4 ∧ 0 ≤ bf ∧ bf ≤ 4
instance (inp out un tx bf : Int) : Decidable (okP inp out un tx bf) := by unfold okP; infer_instance
def immB (st inp out un tx bf op m : Int) : Bool := if op = 1 then withinB m (-2147483648) 2147483647 else if op = 37 then withinB m 0 ((if st = 3 then inp * 3 else inp) - 1) else if op = 38 then withinB m 0 (un - 1) else if op = 39 then withinB m 0 (out - 1) else if op = 40 ∨ op = 41 then withinB m 0 (4 * tx - 1) else if op = 42 then withinB m 0 (bf - 1) else if op = 46 then withinB m 1 16 else true
def isa_immediate.S : Am.Spec := fun args => match args with
  | [.agg [.int .i64 st,.int .i64 rg,.int .i64 inp,.int .i64 out,.int .i64 un,.int .i64 tx,.int .i64 bf,code],.agg [.int .i64 op,.int .i64 d,.int .i64 a,.int .i64 b,.int .i64 c,.int .i64 m]] => if okP inp out un tx bf then some (rBool (immB st inp out un tx bf op m)) else none
  | _ => none
theorem isa_immediate.ok : SpecOK Try.prog 90 isa_immediate.S := fun args r h => by
  unfold isa_immediate.S at h
  split at h
  case h_2 => cases h
  split at h
  case isFalse => cases h
  rename_i st rg inp out un tx bf code op d a b c m hok
  obtain ⟨q1,q2,q3,q4,q5,q6,q7,q8,q9,q10⟩ := hok
  cases h
  refine runC_law (n := 0) Try.func90 isa_immediate.tr rfl hE (ok_cons isa_within.ok ok_nil) ?_
  have w1 : IntKind.i64.wrap (un - 1) = un - 1 := i64_w' (by omega) (by omega)
  have w2 : IntKind.i64.wrap (out - 1) = out - 1 := i64_w' (by omega) (by omega)
  have w3 : IntKind.i64.wrap (bf - 1) = bf - 1 := i64_w' (by omega) (by omega)
  have w4 : IntKind.i64.wrap (4 * tx) = 4 * tx := i64_w' (by omega) (by omega)
  have w5 : IntKind.i64.wrap (4 * tx - 1) = 4 * tx - 1 := i64_w' (by omega) (by omega)
  have w6 : IntKind.i64.wrap (inp * 3) = inp * 3 := i64_w' (by omega) (by omega)
  have w7 : IntKind.i64.wrap (inp * 3 - 1) = inp * 3 - 1 := i64_w' (by omega) (by omega)
  have w8 : IntKind.i64.wrap (inp - 1) = inp - 1 := i64_w' (by omega) (by omega)
  by_cases e1 : op = 1
  · subst e1
    have hI : immB st inp out un tx bf 1 m = withinB m (-2147483648) 2147483647 := rfl
    rw [hI]
    simp -implicitDefEqProofs only [runC,mrun,result,AV.fin,XV.fin,Option.bind,Option.map,isa_immediate.r0,isa_immediate.r1,isa_immediate.r2,isa_immediate.r3,isa_immediate.r4,isa_immediate.r5,isa_immediate.r6,isa_immediate.r7,isa_immediate.r8,isa_immediate.r9,isa_immediate.r10,isa_immediate.r11,isa_immediate.r12,isa_immediate.r13,isa_immediate.r14,isa_immediate.r15,isa_immediate.r16,isa_immediate.r17,isa_immediate.r18,isa_immediate.r19,isa_immediate.r20,isa_immediate.m,κa,κb,κc,κd,κe,κf,κg,κh,κi,κj,κk,κl,κm,κn,κo,κp,κq,κr,κs,κt,κu,κv,κw,κx,κy,κz,κa1,κb1,κc1,κd1,κe1,κf1,κg1,κh1,κi1,κj1,κk1,κl1,κm1,κn1,κo1,κp1,κq1,κr1,κs1,if_true,if_false,reduceIte,κt1,κu1,κv1,κw1,κx1,κy1,κz1,κa2,κb2,κc2,κd2,κe2,κf2,κg2,κh2,κi2,κj2,κk2,κl2,κm2,κn2,κo2,κp2,κq2,reduceCtorEq,κr2,κs2,κt2,κu2,κv2,κw2,κx2,κy2,κz2,κa3,eq_self,κb3,κc3,zL,isa_within.S,rBool,w1,w2,w3,w4,w5,w6,w7,w8]
  by_cases e37 : op = 37
  · subst e37
    by_cases e : st = 3
    · subst e
      have hI : immB 3 inp out un tx bf 37 m = withinB m 0 (inp * 3 - 1) := rfl
      rw [hI]
      simp -implicitDefEqProofs only [runC,mrun,result,AV.fin,XV.fin,Option.bind,Option.map,isa_immediate.r0,isa_immediate.r1,isa_immediate.r2,isa_immediate.r3,isa_immediate.r4,isa_immediate.r5,isa_immediate.r6,isa_immediate.r7,isa_immediate.r8,isa_immediate.r9,isa_immediate.r10,isa_immediate.r11,isa_immediate.r12,isa_immediate.r13,isa_immediate.r14,isa_immediate.r15,isa_immediate.r16,isa_immediate.r17,isa_immediate.r18,isa_immediate.r19,isa_immediate.r20,isa_immediate.m,κa,κb,κc,κd,κe,κf,κg,κh,κi,κj,κk,κl,κm,κn,κo,κp,κq,κr,κs,κt,κu,κv,κw,κx,κy,κz,κa1,κb1,κc1,κd1,κe1,κf1,κg1,κh1,κi1,κj1,κk1,κl1,κm1,κn1,κo1,κp1,κq1,κr1,κs1,if_true,if_false,reduceIte,κt1,κu1,κv1,κw1,κx1,κy1,κz1,κa2,κb2,κc2,κd2,κe2,κf2,κg2,κh2,κi2,κj2,κk2,κl2,κm2,κn2,κo2,κp2,κq2,reduceCtorEq,κr2,κs2,κt2,κu2,κv2,κw2,κx2,κy2,κz2,κa3,eq_self,κb3,κc3,zL,isa_within.S,rBool,w1,w2,w3,w4,w5,w6,w7,w8]
    · have hs : (st == 3) = false := by simpa using e
      have hI : immB st inp out un tx bf 37 m = withinB m 0 (inp - 1) := by simp [immB,e]
      rw [hI]
      simp -implicitDefEqProofs only [runC,mrun,result,AV.fin,XV.fin,Option.bind,Option.map,isa_immediate.r0,isa_immediate.r1,isa_immediate.r2,isa_immediate.r3,isa_immediate.r4,isa_immediate.r5,isa_immediate.r6,isa_immediate.r7,isa_immediate.r8,isa_immediate.r9,isa_immediate.r10,isa_immediate.r11,isa_immediate.r12,isa_immediate.r13,isa_immediate.r14,isa_immediate.r15,isa_immediate.r16,isa_immediate.r17,isa_immediate.r18,isa_immediate.r19,isa_immediate.r20,isa_immediate.m,κa,κb,κc,κd,κe,κf,κg,κh,κi,κj,κk,κl,κm,κn,κo,κp,κq,κr,κs,κt,κu,κv,κw,κx,κy,κz,κa1,κb1,κc1,κd1,κe1,κf1,κg1,κh1,κi1,κj1,κk1,κl1,κm1,κn1,κo1,κp1,κq1,κr1,κs1,if_true,if_false,reduceIte,κt1,κu1,κv1,κw1,κx1,κy1,κz1,κa2,κb2,κc2,κd2,κe2,κf2,κg2,κh2,κi2,κj2,κk2,κl2,κm2,κn2,κo2,κp2,κq2,reduceCtorEq,κr2,κs2,κt2,κu2,κv2,κw2,κx2,κy2,κz2,κa3,eq_self,κb3,κc3,zL,isa_within.S,rBool,w1,w2,w3,w4,w5,w6,w7,w8,hs]
  by_cases e38 : op = 38
  · subst e38
    have hI : immB st inp out un tx bf 38 m = withinB m 0 (un - 1) := rfl
    rw [hI]
    simp -implicitDefEqProofs only [runC,mrun,result,AV.fin,XV.fin,Option.bind,Option.map,isa_immediate.r0,isa_immediate.r1,isa_immediate.r2,isa_immediate.r3,isa_immediate.r4,isa_immediate.r5,isa_immediate.r6,isa_immediate.r7,isa_immediate.r8,isa_immediate.r9,isa_immediate.r10,isa_immediate.r11,isa_immediate.r12,isa_immediate.r13,isa_immediate.r14,isa_immediate.r15,isa_immediate.r16,isa_immediate.r17,isa_immediate.r18,isa_immediate.r19,isa_immediate.r20,isa_immediate.m,κa,κb,κc,κd,κe,κf,κg,κh,κi,κj,κk,κl,κm,κn,κo,κp,κq,κr,κs,κt,κu,κv,κw,κx,κy,κz,κa1,κb1,κc1,κd1,κe1,κf1,κg1,κh1,κi1,κj1,κk1,κl1,κm1,κn1,κo1,κp1,κq1,κr1,κs1,if_true,if_false,reduceIte,κt1,κu1,κv1,κw1,κx1,κy1,κz1,κa2,κb2,κc2,κd2,κe2,κf2,κg2,κh2,κi2,κj2,κk2,κl2,κm2,κn2,κo2,κp2,κq2,reduceCtorEq,κr2,κs2,κt2,κu2,κv2,κw2,κx2,κy2,κz2,κa3,eq_self,κb3,κc3,zL,isa_within.S,rBool,w1,w2,w3,w4,w5,w6,w7,w8]
  by_cases e39 : op = 39
  · subst e39
    have hI : immB st inp out un tx bf 39 m = withinB m 0 (out - 1) := rfl
    rw [hI]
    simp -implicitDefEqProofs only [runC,mrun,result,AV.fin,XV.fin,Option.bind,Option.map,isa_immediate.r0,isa_immediate.r1,isa_immediate.r2,isa_immediate.r3,isa_immediate.r4,isa_immediate.r5,isa_immediate.r6,isa_immediate.r7,isa_immediate.r8,isa_immediate.r9,isa_immediate.r10,isa_immediate.r11,isa_immediate.r12,isa_immediate.r13,isa_immediate.r14,isa_immediate.r15,isa_immediate.r16,isa_immediate.r17,isa_immediate.r18,isa_immediate.r19,isa_immediate.r20,isa_immediate.m,κa,κb,κc,κd,κe,κf,κg,κh,κi,κj,κk,κl,κm,κn,κo,κp,κq,κr,κs,κt,κu,κv,κw,κx,κy,κz,κa1,κb1,κc1,κd1,κe1,κf1,κg1,κh1,κi1,κj1,κk1,κl1,κm1,κn1,κo1,κp1,κq1,κr1,κs1,if_true,if_false,reduceIte,κt1,κu1,κv1,κw1,κx1,κy1,κz1,κa2,κb2,κc2,κd2,κe2,κf2,κg2,κh2,κi2,κj2,κk2,κl2,κm2,κn2,κo2,κp2,κq2,reduceCtorEq,κr2,κs2,κt2,κu2,κv2,κw2,κx2,κy2,κz2,κa3,eq_self,κb3,κc3,zL,isa_within.S,rBool,w1,w2,w3,w4,w5,w6,w7,w8]
  by_cases e40 : op = 40
  · subst e40
    have hI : immB st inp out un tx bf 40 m = withinB m 0 (4 * tx - 1) := rfl
    rw [hI]
    simp -implicitDefEqProofs only [runC,mrun,result,AV.fin,XV.fin,Option.bind,Option.map,isa_immediate.r0,isa_immediate.r1,isa_immediate.r2,isa_immediate.r3,isa_immediate.r4,isa_immediate.r5,isa_immediate.r6,isa_immediate.r7,isa_immediate.r8,isa_immediate.r9,isa_immediate.r10,isa_immediate.r11,isa_immediate.r12,isa_immediate.r13,isa_immediate.r14,isa_immediate.r15,isa_immediate.r16,isa_immediate.r17,isa_immediate.r18,isa_immediate.r19,isa_immediate.r20,isa_immediate.m,κa,κb,κc,κd,κe,κf,κg,κh,κi,κj,κk,κl,κm,κn,κo,κp,κq,κr,κs,κt,κu,κv,κw,κx,κy,κz,κa1,κb1,κc1,κd1,κe1,κf1,κg1,κh1,κi1,κj1,κk1,κl1,κm1,κn1,κo1,κp1,κq1,κr1,κs1,if_true,if_false,reduceIte,κt1,κu1,κv1,κw1,κx1,κy1,κz1,κa2,κb2,κc2,κd2,κe2,κf2,κg2,κh2,κi2,κj2,κk2,κl2,κm2,κn2,κo2,κp2,κq2,reduceCtorEq,κr2,κs2,κt2,κu2,κv2,κw2,κx2,κy2,κz2,κa3,eq_self,κb3,κc3,zL,isa_within.S,rBool,w1,w2,w3,w4,w5,w6,w7,w8]
  by_cases e41 : op = 41
  · subst e41
    have hI : immB st inp out un tx bf 41 m = withinB m 0 (4 * tx - 1) := rfl
    rw [hI]
    simp -implicitDefEqProofs only [runC,mrun,result,AV.fin,XV.fin,Option.bind,Option.map,isa_immediate.r0,isa_immediate.r1,isa_immediate.r2,isa_immediate.r3,isa_immediate.r4,isa_immediate.r5,isa_immediate.r6,isa_immediate.r7,isa_immediate.r8,isa_immediate.r9,isa_immediate.r10,isa_immediate.r11,isa_immediate.r12,isa_immediate.r13,isa_immediate.r14,isa_immediate.r15,isa_immediate.r16,isa_immediate.r17,isa_immediate.r18,isa_immediate.r19,isa_immediate.r20,isa_immediate.m,κa,κb,κc,κd,κe,κf,κg,κh,κi,κj,κk,κl,κm,κn,κo,κp,κq,κr,κs,κt,κu,κv,κw,κx,κy,κz,κa1,κb1,κc1,κd1,κe1,κf1,κg1,κh1,κi1,κj1,κk1,κl1,κm1,κn1,κo1,κp1,κq1,κr1,κs1,if_true,if_false,reduceIte,κt1,κu1,κv1,κw1,κx1,κy1,κz1,κa2,κb2,κc2,κd2,κe2,κf2,κg2,κh2,κi2,κj2,κk2,κl2,κm2,κn2,κo2,κp2,κq2,reduceCtorEq,κr2,κs2,κt2,κu2,κv2,κw2,κx2,κy2,κz2,κa3,eq_self,κb3,κc3,zL,isa_within.S,rBool,w1,w2,w3,w4,w5,w6,w7,w8]
  by_cases e42 : op = 42
  · subst e42
    have hI : immB st inp out un tx bf 42 m = withinB m 0 (bf - 1) := rfl
    rw [hI]
    simp -implicitDefEqProofs only [runC,mrun,result,AV.fin,XV.fin,Option.bind,Option.map,isa_immediate.r0,isa_immediate.r1,isa_immediate.r2,isa_immediate.r3,isa_immediate.r4,isa_immediate.r5,isa_immediate.r6,isa_immediate.r7,isa_immediate.r8,isa_immediate.r9,isa_immediate.r10,isa_immediate.r11,isa_immediate.r12,isa_immediate.r13,isa_immediate.r14,isa_immediate.r15,isa_immediate.r16,isa_immediate.r17,isa_immediate.r18,isa_immediate.r19,isa_immediate.r20,isa_immediate.m,κa,κb,κc,κd,κe,κf,κg,κh,κi,κj,κk,κl,κm,κn,κo,κp,κq,κr,κs,κt,κu,κv,κw,κx,κy,κz,κa1,κb1,κc1,κd1,κe1,κf1,κg1,κh1,κi1,κj1,κk1,κl1,κm1,κn1,κo1,κp1,κq1,κr1,κs1,if_true,if_false,reduceIte,κt1,κu1,κv1,κw1,κx1,κy1,κz1,κa2,κb2,κc2,κd2,κe2,κf2,κg2,κh2,κi2,κj2,κk2,κl2,κm2,κn2,κo2,κp2,κq2,reduceCtorEq,κr2,κs2,κt2,κu2,κv2,κw2,κx2,κy2,κz2,κa3,eq_self,κb3,κc3,zL,isa_within.S,rBool,w1,w2,w3,w4,w5,w6,w7,w8]
  by_cases e46 : op = 46
  · subst e46
    have hI : immB st inp out un tx bf 46 m = withinB m 1 16 := rfl
    rw [hI]
    simp -implicitDefEqProofs only [runC,mrun,result,AV.fin,XV.fin,Option.bind,Option.map,isa_immediate.r0,isa_immediate.r1,isa_immediate.r2,isa_immediate.r3,isa_immediate.r4,isa_immediate.r5,isa_immediate.r6,isa_immediate.r7,isa_immediate.r8,isa_immediate.r9,isa_immediate.r10,isa_immediate.r11,isa_immediate.r12,isa_immediate.r13,isa_immediate.r14,isa_immediate.r15,isa_immediate.r16,isa_immediate.r17,isa_immediate.r18,isa_immediate.r19,isa_immediate.r20,isa_immediate.m,κa,κb,κc,κd,κe,κf,κg,κh,κi,κj,κk,κl,κm,κn,κo,κp,κq,κr,κs,κt,κu,κv,κw,κx,κy,κz,κa1,κb1,κc1,κd1,κe1,κf1,κg1,κh1,κi1,κj1,κk1,κl1,κm1,κn1,κo1,κp1,κq1,κr1,κs1,if_true,if_false,reduceIte,κt1,κu1,κv1,κw1,κx1,κy1,κz1,κa2,κb2,κc2,κd2,κe2,κf2,κg2,κh2,κi2,κj2,κk2,κl2,κm2,κn2,κo2,κp2,κq2,reduceCtorEq,κr2,κs2,κt2,κu2,κv2,κw2,κx2,κy2,κz2,κa3,eq_self,κb3,κc3,zL,isa_within.S,rBool,w1,w2,w3,w4,w5,w6,w7,w8]
  have f1 : (op == 1) = false := by simpa using e1
  have f37 : (op == 37) = false := by simpa using e37
  have f38 : (op == 38) = false := by simpa using e38
  have f39 : (op == 39) = false := by simpa using e39
  have f40 : (op == 40) = false := by simpa using e40
  have f41 : (op == 41) = false := by simpa using e41
  have f42 : (op == 42) = false := by simpa using e42
  have f46 : (op == 46) = false := by simpa using e46
  have hI : immB st inp out un tx bf op m = true := by simp [immB,e1,e37,e38,e39,e40,e41,e42,e46]
  rw [hI]
  simp -implicitDefEqProofs only [runC,mrun,result,AV.fin,XV.fin,Option.bind,Option.map,isa_immediate.r0,isa_immediate.r1,isa_immediate.r2,isa_immediate.r3,isa_immediate.r4,isa_immediate.r5,isa_immediate.r6,isa_immediate.r7,isa_immediate.r8,isa_immediate.r9,isa_immediate.r10,isa_immediate.r11,isa_immediate.r12,isa_immediate.r13,isa_immediate.r14,isa_immediate.r15,isa_immediate.r16,isa_immediate.r17,isa_immediate.r18,isa_immediate.r19,isa_immediate.r20,isa_immediate.m,κa,κb,κc,κd,κe,κf,κg,κh,κi,κj,κk,κl,κm,κn,κo,κp,κq,κr,κs,κt,κu,κv,κw,κx,κy,κz,κa1,κb1,κc1,κd1,κe1,κf1,κg1,κh1,κi1,κj1,κk1,κl1,κm1,κn1,κo1,κp1,κq1,κr1,κs1,if_true,if_false,reduceIte,κt1,κu1,κv1,κw1,κx1,κy1,κz1,κa2,κb2,κc2,κd2,κe2,κf2,κg2,κh2,κi2,κj2,κk2,κl2,κm2,κn2,κo2,κp2,κq2,reduceCtorEq,κr2,κs2,κt2,κu2,κv2,κw2,κx2,κy2,κz2,κa3,eq_self,κb3,κc3,zL,rBool,f1,f37,f38,f39,f40,f41,f42,f46]
end Go.Proofs.Ytjbhhdocbejccaa.Pl
