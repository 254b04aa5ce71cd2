/- Chapter 43: the reference's outside. No condition beyond those that each theorem states. -/
import Derived.Test.YtjbhhdocbejccaaJ
namespace Go.Proofs.Ytjbhhdocbejccaa.Pl
open Go Go.RowKit Go.Proofs.Ytjbhhdocbejccaa.Am
open Go.Proofs.Ytjbhhdocbejccaa.Am renaming ex_nil → κa,ex_cons → κb,exK_some → κc,st_n → κd,st_g → κe,gd_b → κf,gd_u → κg,rn_v → κh,rn_m → κi,rn_s → κj,rn_a → κk,think → κl,prep → κm,mkDsts → κn,ev → κp,upd → κq,init → κr,forgetBox → κu,pvs → κx,fillX → κy,chunks → κz,binV → κa1,xints → κb1,ldX → κc1,baseOk → κe1,fg_p → κf1,fg_tk → κg1,mkG → κh1,tab → κj1,c3 → κa3
open Go.Proofs.Ytjbhhdocbejccaa.Am.St renaming clear → κo,put → κt,of → κk1
open Go.Proofs.Ytjbhhdocbejccaa.Am.PV renaming av → κs
open Go.Proofs.Ytjbhhdocbejccaa.Am.AV renaming cells → κv,pv → κw,plain → κd1
open Go.Proofs.Ytjbhhdocbejccaa.Am.Sig renaming spec → κi1
open List renaming getElem?_cons_zero → κl1,getElem?_cons_succ → κm1,getElem?_nil → κn1,map_cons → κu1,map_nil → κv1,drop_succ_cons → κw1,drop_zero → κx1,take_succ_cons → κy1,take_zero → κz1,length_cons → κa2,length_nil → κb2,length_append → κc2,cons_append → κd2,nil_append → κe2,append_nil → κf2
open Option renaming map_some → κo1,map_none → κp1,bind_some → κq1,isSome_some → κr1,isSome_none → κs1
open Nat renaming reduceEqDiff → κt1,reduceAdd → κg2,reduceMul → κh2,reduceLeDiff → κi2,reduceBEq → κj2,zero_le → κk2,le_refl → κl2,zero_add → κm2,add_zero → κn2
open Bool renaming not_true → κo2,not_false → κp2,false_eq_true → κq2,true_eq_false → κc3
open Int renaming reduceBEq → κr2,reduceBNe → κs2,reduceLT → κt2,reduceLE → κu2,reduceAdd → κv2,reduceToNat → κw2,toNat_zero → κx2,reduceEq → κy2,toNat_natCast → κz2,le_refl → κb3
set_option linter.unusedVariables false
set_option linter.unusedSimpArgs false
set_option maxHeartbeats 16000000
set_option maxRecDepth 100000
def out4B (rg op d a b c : Int) : Bool := decide ((dB op = true ∧ withinB d 0 (rg - 1) = false) ∨ (aB op = true ∧ withinB a 0 (rg - 1) = false) ∨ (bB op = true ∧ withinB b 0 (rg - 1) = false) ∨ (cB op = true ∧ withinB c 0 (rg - 1) = false))
theorem outB_eq (st rg inp out un tx bf op d a b c m : Int) : outB st rg inp out un tx bf op d a b c m = (out4B rg op d a b c || !immB st inp out un tx bf op m) := by
  unfold outB out4B
  cases immB st inp out un tx bf op m <;> simp [or_assoc]
def r22_outside.S : Am.Spec := fun args => match args with
  | [.agg [.int .i64 st,.int .i64 rg,.int .i64 inp,.int .i64 out,.int .i64 un,.int .i64 tx,.int .i64 bf,code],.agg [.int .i64 op,.int .i64 d,.int .i64 a,.int .i64 b,.int .i64 c,.int .i64 m]] => if okP inp out un tx bf ∧ 1 ≤ op ∧ op ≤ 52 then some (rBool (outB st rg inp out un tx bf op d a b c m)) else none
  | _ => none
theorem stg_ {G : FuncId → Am.Spec} {a b : MC} {Q : Exit → St → Prop} {σ σ1 : St} (h1 : mwp G a (outSeq (fun σ' => Sub σ1 σ') Q) σ) (h2 : mwp G b Q σ1) : mwp G (.seq a b) Q σ :=
  mwp_mono a (fun e σ' h => by cases e <;> first | exact ⟨σ1,h,h2⟩ | exact h) h1
def r22_outside.sw : MC := (.seq (.reg r22_outside.r7) (.block 0 (.seq (.reg r22_outside.r8) (.cond (.tmp 80) (.seq (.reg r22_outside.r9) (.reg r22_outside.r10)) (.seq (.reg r22_outside.r11) (.cond (.tmp 82) (.seq (.reg r22_outside.r12) (.seq (.reg r22_outside.r13) (.cond (.tmp 89) (.reg r22_outside.r14) .skip))) (.seq (.reg r22_outside.r15) (.cond (.tmp 94) (.reg r22_outside.r16) (.seq (.reg r22_outside.r17) (.cond (.tmp 99) (.reg r22_outside.r18) (.seq (.seq (.reg r22_outside.r19) (.cond (.tmp 104) .skip (.reg r22_outside.r20))) (.cond (.tmp 104) (.reg r22_outside.r21) (.seq (.reg r22_outside.r22) (.cond (.tmp 111) (.reg r22_outside.r23) (.seq (.reg r22_outside.r24) (.cond (.tmp 116) (.seq (.reg r22_outside.r25) (.reg r22_outside.r26)) (.seq (.reg r22_outside.r27) .ret)))))))))))))))))
def r22_outside.rest : MC := (.seq (.reg r22_outside.r5) (.seq (.reg r22_outside.r6) (.seq (.seq (.reg r22_outside.r7) (.block 0 (.seq (.reg r22_outside.r8) (.cond (.tmp 80) (.seq (.reg r22_outside.r9) (.reg r22_outside.r10)) (.seq (.reg r22_outside.r11) (.cond (.tmp 82) (.seq (.reg r22_outside.r12) (.seq (.reg r22_outside.r13) (.cond (.tmp 89) (.reg r22_outside.r14) .skip))) (.seq (.reg r22_outside.r15) (.cond (.tmp 94) (.reg r22_outside.r16) (.seq (.reg r22_outside.r17) (.cond (.tmp 99) (.reg r22_outside.r18) (.seq (.seq (.reg r22_outside.r19) (.cond (.tmp 104) .skip (.reg r22_outside.r20))) (.cond (.tmp 104) (.reg r22_outside.r21) (.seq (.reg r22_outside.r22) (.cond (.tmp 111) (.reg r22_outside.r23) (.seq (.reg r22_outside.r24) (.cond (.tmp 116) (.seq (.reg r22_outside.r25) (.reg r22_outside.r26)) (.seq (.reg r22_outside.r27) .ret))))))))))))))))) (.seq (.reg r22_outside.r28) .ret))))
theorem fin28 {G : FuncId → Am.Spec} (op d a b c m lo hi : Int) : mwp G (.seq (.reg r22_outside.r28) .ret) (fun e σ => (e = Exit.ret ∨ e = Exit.normal) ∧ ∃ r',result σ (.tmp 4) = some r' ∧ AVle r' (rBool (!withinB m lo hi))) (St.of [(3,.box 3 0),(11,rInt lo),(12,rInt hi)] [(3,[.p (.int .i64 op),.p (.int .i64 d),.p (.int .i64 a),.p (.int .i64 b),.p (.int .i64 c),.p (.int .i64 m)])] [] 0) := by
  unfold withinB
  by_cases h1 : m < lo
  · rw [show decide (lo ≤ m ∧ m ≤ hi) = false from decide_eq_false (by omega)]
    refine seq_reg (σ' := ?_) ?_ ?_
    rotate_left
    · simp -implicitDefEqProofs only [r22_outside.r28,κa,κb,κc,κd,κe,κf,κg,κh,κi,κj,κk,κl,κm,κn,κo,κp,κq,κr,κs,κt,κu,κv,κw,κx,κy,κz,κa1,κb1,κc1,κd1,κe1,κf1,κg1,κh1,κi1,κj1,κk1,κl1,κm1,κn1,κo1,κp1,κq1,κr1,κs1,if_true,if_false,reduceIte,κt1,κu1,κv1,κw1,κx1,κy1,κz1,κa2,κb2,κc2,κd2,κe2,κf2,κg2,κh2,κi2,κj2,κk2,κl2,κm2,κn2,κo2,κp2,κq2,reduceCtorEq,κr2,κs2,κt2,κu2,κv2,κw2,κx2,κy2,κz2,κa3,eq_self,κb3,κc3,zL,rInt,h1]; rfl
    exact ret_ ⟨.inl rfl,_,rfl,AVle.refl _⟩
  by_cases h2 : hi < m
  · rw [show decide (lo ≤ m ∧ m ≤ hi) = false from decide_eq_false (by omega)]
    refine seq_reg (σ' := ?_) ?_ ?_
    rotate_left
    · simp -implicitDefEqProofs only [r22_outside.r28,κa,κb,κc,κd,κe,κf,κg,κh,κi,κj,κk,κl,κm,κn,κo,κp,κq,κr,κs,κt,κu,κv,κw,κx,κy,κz,κa1,κb1,κc1,κd1,κe1,κf1,κg1,κh1,κi1,κj1,κk1,κl1,κm1,κn1,κo1,κp1,κq1,κr1,κs1,if_true,if_false,reduceIte,κt1,κu1,κv1,κw1,κx1,κy1,κz1,κa2,κb2,κc2,κd2,κe2,κf2,κg2,κh2,κi2,κj2,κk2,κl2,κm2,κn2,κo2,κp2,κq2,reduceCtorEq,κr2,κs2,κt2,κu2,κv2,κw2,κx2,κy2,κz2,κa3,eq_self,κb3,κc3,zL,rInt,gt_iff_lt,h1,h2]; rfl
    exact ret_ ⟨.inl rfl,_,rfl,AVle.refl _⟩
  · rw [show decide (lo ≤ m ∧ m ≤ hi) = true from decide_eq_true (by omega)]
    refine seq_reg (σ' := ?_) ?_ ?_
    rotate_left
    · simp -implicitDefEqProofs only [r22_outside.r28,κa,κb,κc,κd,κe,κf,κg,κh,κi,κj,κk,κl,κm,κn,κo,κp,κq,κr,κs,κt,κu,κv,κw,κx,κy,κz,κa1,κb1,κc1,κd1,κe1,κf1,κg1,κh1,κi1,κj1,κk1,κl1,κm1,κn1,κo1,κp1,κq1,κr1,κs1,if_true,if_false,reduceIte,κt1,κu1,κv1,κw1,κx1,κy1,κz1,κa2,κb2,κc2,κd2,κe2,κf2,κg2,κh2,κi2,κj2,κk2,κl2,κm2,κn2,κo2,κp2,κq2,reduceCtorEq,κr2,κs2,κt2,κu2,κv2,κw2,κx2,κy2,κz2,κa3,eq_self,κb3,κc3,zL,rInt,gt_iff_lt,h1,h2]; rfl
    exact ret_ ⟨.inl rfl,_,rfl,AVle.refl _⟩
theorem r22_outside.rest_ok {G : FuncId → Am.Spec} (st rg inp out un tx bf : Int) (code : CV) (op d a b c m : Int) (hok : okP inp out un tx bf) : mwp G r22_outside.rest (fun e σ => (e = Exit.ret ∨ e = Exit.normal) ∧ ∃ r',result σ (.tmp 4) = some r' ∧ AVle r' (rBool (!immB st inp out un tx bf op m))) (St.of [(2,.box 2 0),(3,.box 3 0)] [(2,[.p (.int .i64 st),.p (.int .i64 rg),.p (.int .i64 inp),.p (.int .i64 out),.p (.int .i64 un),.p (.int .i64 tx),.p (.int .i64 bf),.p code]),(3,[.p (.int .i64 op),.p (.int .i64 d),.p (.int .i64 a),.p (.int .i64 b),.p (.int .i64 c),.p (.int .i64 m)])] [] 0) := by
  obtain ⟨q1,q2,q3,q4,q5,q6,q7,q8,q9,q10⟩ := hok
  have w1 : IntKind.i64.wrap (un - 1) = un - 1 := i64_w' (by omega) (by omega)
  have w2 : IntKind.i64.wrap (out - 1) = out - 1 := i64_w' (by omega) (by omega)
  have w3 : IntKind.i64.wrap (bf - 1) = bf - 1 := i64_w' (by omega) (by omega)
  have w4 : IntKind.i64.wrap (4 * tx) = 4 * tx := i64_w' (by omega) (by omega)
  have w5 : IntKind.i64.wrap (4 * tx - 1) = 4 * tx - 1 := i64_w' (by omega) (by omega)
  have w6 : IntKind.i64.wrap (3 * inp) = 3 * inp := i64_w' (by omega) (by omega)
  have w7 : IntKind.i64.wrap (3 * inp - 1) = 3 * inp - 1 := i64_w' (by omega) (by omega)
  have w8 : IntKind.i64.wrap (inp - 1) = inp - 1 := i64_w' (by omega) (by omega)
  unfold r22_outside.rest
  refine seq_reg (σ' := ?_) ?_ ?_
  rotate_left
  · simp -implicitDefEqProofs only [r22_outside.r5,κa,κb,κc,κd,κe,κf,κg,κh,κi,κj,κk,κl,κm,κn,κo,κp,κq,κr,κs,κt,κu,κv,κw,κx,κy,κz,κa1,κb1,κc1,κd1,κe1,κf1,κg1,κh1,κi1,κj1,κk1,κl1,κm1,κn1,κo1,κp1,κq1,κr1,κs1,if_true,if_false,reduceIte,κt1,κu1,κv1,κw1,κx1,κy1,κz1,κa2,κb2,κc2,κd2,κe2,κf2,κg2,κh2,κi2,κj2,κk2,κl2,κm2,κn2,κo2,κp2,κq2,reduceCtorEq,κr2,κs2,κt2,κu2,κv2,κw2,κx2,κy2,κz2,κa3,eq_self,κb3,κc3,zL]; rfl
  refine seq_reg (σ' := ?_) ?_ ?_
  rotate_left
  · simp -implicitDefEqProofs only [r22_outside.r6,κa,κb,κc,κd,κe,κf,κg,κh,κi,κj,κk,κl,κm,κn,κo,κp,κq,κr,κs,κt,κu,κv,κw,κx,κy,κz,κa1,κb1,κc1,κd1,κe1,κf1,κg1,κh1,κi1,κj1,κk1,κl1,κm1,κn1,κo1,κp1,κq1,κr1,κs1,if_true,if_false,reduceIte,κt1,κu1,κv1,κw1,κx1,κy1,κz1,κa2,κb2,κc2,κd2,κe2,κf2,κg2,κh2,κi2,κj2,κk2,κl2,κm2,κn2,κo2,κp2,κq2,reduceCtorEq,κr2,κs2,κt2,κu2,κv2,κw2,κx2,κy2,κz2,κa3,eq_self,κb3,κc3,zL]; rfl
  by_cases e1 : op = 1
  · subst e1
    have hI : immB st inp out un tx bf 1 m = withinB m (-2147483648) (2147483647) := rfl
    rw [hI]
    refine stg_ (σ1 := St.of [(3,.box 3 0),(11,rInt (-2147483648)),(12,rInt (2147483647))] [(3,[.p (.int .i64 1),.p (.int .i64 d),.p (.int .i64 a),.p (.int .i64 b),.p (.int .i64 c),.p (.int .i64 m)])] [] 0) ?_ (fin28 _ _ _ _ _ _ _ _)
    refine mrun_mwp (n := 0) _ _ _ .normal ?_ (by simp -implicitDefEqProofs only [mrun,Option.map,r22_outside.r7,r22_outside.r8,r22_outside.r9,r22_outside.r10,r22_outside.r11,r22_outside.r12,r22_outside.r13,r22_outside.r14,r22_outside.r15,r22_outside.r16,r22_outside.r17,r22_outside.r18,r22_outside.r19,r22_outside.r20,r22_outside.r21,r22_outside.r22,r22_outside.r23,r22_outside.r24,r22_outside.r25,r22_outside.r26,r22_outside.r27,w1,w2,w3,w4,w5,w6,w7,w8,κa,κb,κc,κd,κe,κf,κg,κh,κi,κj,κk,κl,κm,κn,κo,κp,κq,κr,κs,κt,κu,κv,κw,κx,κy,κz,κa1,κb1,κc1,κd1,κe1,κf1,κg1,κh1,κi1,κj1,κk1,κl1,κm1,κn1,κo1,κp1,κq1,κr1,κs1,if_true,if_false,reduceIte,κt1,κu1,κv1,κw1,κx1,κy1,κz1,κa2,κb2,κc2,κd2,κe2,κf2,κg2,κh2,κi2,κj2,κk2,κl2,κm2,κn2,κo2,κp2,κq2,reduceCtorEq,κr2,κs2,κt2,κu2,κv2,κw2,κx2,κy2,κz2,κa3,eq_self,κb3,κc3,zL]; rfl) ?_
    exact sub_of (all_cons rfl (all_cons rfl (all_cons rfl all_nil))) (all_cons rfl all_nil) all_nil (Nat.le_refl _)
  by_cases e37 : op = 37
  · subst e37
    by_cases e : st = 3
    · subst e
      have hI : immB 3 inp out un tx bf 37 m = withinB m (0) (3 * inp - 1) := (show withinB m 0 (inp * 3 - 1) = _ by rw [Int.mul_comm inp 3])
      rw [hI]
      refine stg_ (σ1 := St.of [(3,.box 3 0),(11,rInt (0)),(12,rInt (3 * inp - 1))] [(3,[.p (.int .i64 37),.p (.int .i64 d),.p (.int .i64 a),.p (.int .i64 b),.p (.int .i64 c),.p (.int .i64 m)])] [] 0) ?_ (fin28 _ _ _ _ _ _ _ _)
      refine mrun_mwp (n := 0) _ _ _ .normal ?_ (by simp -implicitDefEqProofs only [mrun,Option.map,r22_outside.r7,r22_outside.r8,r22_outside.r9,r22_outside.r10,r22_outside.r11,r22_outside.r12,r22_outside.r13,r22_outside.r14,r22_outside.r15,r22_outside.r16,r22_outside.r17,r22_outside.r18,r22_outside.r19,r22_outside.r20,r22_outside.r21,r22_outside.r22,r22_outside.r23,r22_outside.r24,r22_outside.r25,r22_outside.r26,r22_outside.r27,w1,w2,w3,w4,w5,w6,w7,w8,κa,κb,κc,κd,κe,κf,κg,κh,κi,κj,κk,κl,κm,κn,κo,κp,κq,κr,κs,κt,κu,κv,κw,κx,κy,κz,κa1,κb1,κc1,κd1,κe1,κf1,κg1,κh1,κi1,κj1,κk1,κl1,κm1,κn1,κo1,κp1,κq1,κr1,κs1,if_true,if_false,reduceIte,κt1,κu1,κv1,κw1,κx1,κy1,κz1,κa2,κb2,κc2,κd2,κe2,κf2,κg2,κh2,κi2,κj2,κk2,κl2,κm2,κn2,κo2,κp2,κq2,reduceCtorEq,κr2,κs2,κt2,κu2,κv2,κw2,κx2,κy2,κz2,κa3,eq_self,κb3,κc3,zL]; rfl) ?_
      exact sub_of (all_cons rfl (all_cons rfl (all_cons rfl all_nil))) (all_cons rfl all_nil) all_nil (Nat.le_refl _)
    · have hs : (st == 3) = false := by simpa using e
      have hI : immB st inp out un tx bf 37 m = withinB m (0) (inp - 1) := by simp [immB,e]
      rw [hI]
      refine stg_ (σ1 := St.of [(3,.box 3 0),(11,rInt (0)),(12,rInt (inp - 1))] [(3,[.p (.int .i64 37),.p (.int .i64 d),.p (.int .i64 a),.p (.int .i64 b),.p (.int .i64 c),.p (.int .i64 m)])] [] 0) ?_ (fin28 _ _ _ _ _ _ _ _)
      refine mrun_mwp (n := 0) _ _ _ .normal ?_ (by simp -implicitDefEqProofs only [mrun,Option.map,r22_outside.r7,r22_outside.r8,r22_outside.r9,r22_outside.r10,r22_outside.r11,r22_outside.r12,r22_outside.r13,r22_outside.r14,r22_outside.r15,r22_outside.r16,r22_outside.r17,r22_outside.r18,r22_outside.r19,r22_outside.r20,r22_outside.r21,r22_outside.r22,r22_outside.r23,r22_outside.r24,r22_outside.r25,r22_outside.r26,r22_outside.r27,w1,w2,w3,w4,w5,w6,w7,w8,hs,κa,κb,κc,κd,κe,κf,κg,κh,κi,κj,κk,κl,κm,κn,κo,κp,κq,κr,κs,κt,κu,κv,κw,κx,κy,κz,κa1,κb1,κc1,κd1,κe1,κf1,κg1,κh1,κi1,κj1,κk1,κl1,κm1,κn1,κo1,κp1,κq1,κr1,κs1,if_true,if_false,reduceIte,κt1,κu1,κv1,κw1,κx1,κy1,κz1,κa2,κb2,κc2,κd2,κe2,κf2,κg2,κh2,κi2,κj2,κk2,κl2,κm2,κn2,κo2,κp2,κq2,reduceCtorEq,κr2,κs2,κt2,κu2,κv2,κw2,κx2,κy2,κz2,κa3,eq_self,κb3,κc3,zL]; rfl) ?_
      exact sub_of (all_cons rfl (all_cons rfl (all_cons rfl all_nil))) (all_cons rfl all_nil) all_nil (Nat.le_refl _)
  by_cases e38 : op = 38
  · subst e38
    have hI : immB st inp out un tx bf 38 m = withinB m (0) (un - 1) := rfl
    rw [hI]
    refine stg_ (σ1 := St.of [(3,.box 3 0),(11,rInt (0)),(12,rInt (un - 1))] [(3,[.p (.int .i64 38),.p (.int .i64 d),.p (.int .i64 a),.p (.int .i64 b),.p (.int .i64 c),.p (.int .i64 m)])] [] 0) ?_ (fin28 _ _ _ _ _ _ _ _)
    refine mrun_mwp (n := 0) _ _ _ .normal ?_ (by simp -implicitDefEqProofs only [mrun,Option.map,r22_outside.r7,r22_outside.r8,r22_outside.r9,r22_outside.r10,r22_outside.r11,r22_outside.r12,r22_outside.r13,r22_outside.r14,r22_outside.r15,r22_outside.r16,r22_outside.r17,r22_outside.r18,r22_outside.r19,r22_outside.r20,r22_outside.r21,r22_outside.r22,r22_outside.r23,r22_outside.r24,r22_outside.r25,r22_outside.r26,r22_outside.r27,w1,w2,w3,w4,w5,w6,w7,w8,κa,κb,κc,κd,κe,κf,κg,κh,κi,κj,κk,κl,κm,κn,κo,κp,κq,κr,κs,κt,κu,κv,κw,κx,κy,κz,κa1,κb1,κc1,κd1,κe1,κf1,κg1,κh1,κi1,κj1,κk1,κl1,κm1,κn1,κo1,κp1,κq1,κr1,κs1,if_true,if_false,reduceIte,κt1,κu1,κv1,κw1,κx1,κy1,κz1,κa2,κb2,κc2,κd2,κe2,κf2,κg2,κh2,κi2,κj2,κk2,κl2,κm2,κn2,κo2,κp2,κq2,reduceCtorEq,κr2,κs2,κt2,κu2,κv2,κw2,κx2,κy2,κz2,κa3,eq_self,κb3,κc3,zL]; rfl) ?_
    exact sub_of (all_cons rfl (all_cons rfl (all_cons rfl all_nil))) (all_cons rfl all_nil) all_nil (Nat.le_refl _)
  by_cases e39 : op = 39
  · subst e39
    have hI : immB st inp out un tx bf 39 m = withinB m (0) (out - 1) := rfl
    rw [hI]
    refine stg_ (σ1 := St.of [(3,.box 3 0),(11,rInt (0)),(12,rInt (out - 1))] [(3,[.p (.int .i64 39),.p (.int .i64 d),.p (.int .i64 a),.p (.int .i64 b),.p (.int .i64 c),.p (.int .i64 m)])] [] 0) ?_ (fin28 _ _ _ _ _ _ _ _)
    refine mrun_mwp (n := 0) _ _ _ .normal ?_ (by simp -implicitDefEqProofs only [mrun,Option.map,r22_outside.r7,r22_outside.r8,r22_outside.r9,r22_outside.r10,r22_outside.r11,r22_outside.r12,r22_outside.r13,r22_outside.r14,r22_outside.r15,r22_outside.r16,r22_outside.r17,r22_outside.r18,r22_outside.r19,r22_outside.r20,r22_outside.r21,r22_outside.r22,r22_outside.r23,r22_outside.r24,r22_outside.r25,r22_outside.r26,r22_outside.r27,w1,w2,w3,w4,w5,w6,w7,w8,κa,κb,κc,κd,κe,κf,κg,κh,κi,κj,κk,κl,κm,κn,κo,κp,κq,κr,κs,κt,κu,κv,κw,κx,κy,κz,κa1,κb1,κc1,κd1,κe1,κf1,κg1,κh1,κi1,κj1,κk1,κl1,κm1,κn1,κo1,κp1,κq1,κr1,κs1,if_true,if_false,reduceIte,κt1,κu1,κv1,κw1,κx1,κy1,κz1,κa2,κb2,κc2,κd2,κe2,κf2,κg2,κh2,κi2,κj2,κk2,κl2,κm2,κn2,κo2,κp2,κq2,reduceCtorEq,κr2,κs2,κt2,κu2,κv2,κw2,κx2,κy2,κz2,κa3,eq_self,κb3,κc3,zL]; rfl) ?_
    exact sub_of (all_cons rfl (all_cons rfl (all_cons rfl all_nil))) (all_cons rfl all_nil) all_nil (Nat.le_refl _)
  by_cases e40 : op = 40
  · subst e40
    have hI : immB st inp out un tx bf 40 m = withinB m (0) (4 * tx - 1) := rfl
    rw [hI]
    refine stg_ (σ1 := St.of [(3,.box 3 0),(11,rInt (0)),(12,rInt (4 * tx - 1))] [(3,[.p (.int .i64 40),.p (.int .i64 d),.p (.int .i64 a),.p (.int .i64 b),.p (.int .i64 c),.p (.int .i64 m)])] [] 0) ?_ (fin28 _ _ _ _ _ _ _ _)
    refine mrun_mwp (n := 0) _ _ _ .normal ?_ (by simp -implicitDefEqProofs only [mrun,Option.map,r22_outside.r7,r22_outside.r8,r22_outside.r9,r22_outside.r10,r22_outside.r11,r22_outside.r12,r22_outside.r13,r22_outside.r14,r22_outside.r15,r22_outside.r16,r22_outside.r17,r22_outside.r18,r22_outside.r19,r22_outside.r20,r22_outside.r21,r22_outside.r22,r22_outside.r23,r22_outside.r24,r22_outside.r25,r22_outside.r26,r22_outside.r27,w1,w2,w3,w4,w5,w6,w7,w8,κa,κb,κc,κd,κe,κf,κg,κh,κi,κj,κk,κl,κm,κn,κo,κp,κq,κr,κs,κt,κu,κv,κw,κx,κy,κz,κa1,κb1,κc1,κd1,κe1,κf1,κg1,κh1,κi1,κj1,κk1,κl1,κm1,κn1,κo1,κp1,κq1,κr1,κs1,if_true,if_false,reduceIte,κt1,κu1,κv1,κw1,κx1,κy1,κz1,κa2,κb2,κc2,κd2,κe2,κf2,κg2,κh2,κi2,κj2,κk2,κl2,κm2,κn2,κo2,κp2,κq2,reduceCtorEq,κr2,κs2,κt2,κu2,κv2,κw2,κx2,κy2,κz2,κa3,eq_self,κb3,κc3,zL]; rfl) ?_
    exact sub_of (all_cons rfl (all_cons rfl (all_cons rfl all_nil))) (all_cons rfl all_nil) all_nil (Nat.le_refl _)
  by_cases e41 : op = 41
  · subst e41
    have hI : immB st inp out un tx bf 41 m = withinB m (0) (4 * tx - 1) := rfl
    rw [hI]
    refine stg_ (σ1 := St.of [(3,.box 3 0),(11,rInt (0)),(12,rInt (4 * tx - 1))] [(3,[.p (.int .i64 41),.p (.int .i64 d),.p (.int .i64 a),.p (.int .i64 b),.p (.int .i64 c),.p (.int .i64 m)])] [] 0) ?_ (fin28 _ _ _ _ _ _ _ _)
    refine mrun_mwp (n := 0) _ _ _ .normal ?_ (by simp -implicitDefEqProofs only [mrun,Option.map,r22_outside.r7,r22_outside.r8,r22_outside.r9,r22_outside.r10,r22_outside.r11,r22_outside.r12,r22_outside.r13,r22_outside.r14,r22_outside.r15,r22_outside.r16,r22_outside.r17,r22_outside.r18,r22_outside.r19,r22_outside.r20,r22_outside.r21,r22_outside.r22,r22_outside.r23,r22_outside.r24,r22_outside.r25,r22_outside.r26,r22_outside.r27,w1,w2,w3,w4,w5,w6,w7,w8,κa,κb,κc,κd,κe,κf,κg,κh,κi,κj,κk,κl,κm,κn,κo,κp,κq,κr,κs,κt,κu,κv,κw,κx,κy,κz,κa1,κb1,κc1,κd1,κe1,κf1,κg1,κh1,κi1,κj1,κk1,κl1,κm1,κn1,κo1,κp1,κq1,κr1,κs1,if_true,if_false,reduceIte,κt1,κu1,κv1,κw1,κx1,κy1,κz1,κa2,κb2,κc2,κd2,κe2,κf2,κg2,κh2,κi2,κj2,κk2,κl2,κm2,κn2,κo2,κp2,κq2,reduceCtorEq,κr2,κs2,κt2,κu2,κv2,κw2,κx2,κy2,κz2,κa3,eq_self,κb3,κc3,zL]; rfl) ?_
    exact sub_of (all_cons rfl (all_cons rfl (all_cons rfl all_nil))) (all_cons rfl all_nil) all_nil (Nat.le_refl _)
  by_cases e42 : op = 42
  · subst e42
    have hI : immB st inp out un tx bf 42 m = withinB m (0) (bf - 1) := rfl
    rw [hI]
    refine stg_ (σ1 := St.of [(3,.box 3 0),(11,rInt (0)),(12,rInt (bf - 1))] [(3,[.p (.int .i64 42),.p (.int .i64 d),.p (.int .i64 a),.p (.int .i64 b),.p (.int .i64 c),.p (.int .i64 m)])] [] 0) ?_ (fin28 _ _ _ _ _ _ _ _)
    refine mrun_mwp (n := 0) _ _ _ .normal ?_ (by simp -implicitDefEqProofs only [mrun,Option.map,r22_outside.r7,r22_outside.r8,r22_outside.r9,r22_outside.r10,r22_outside.r11,r22_outside.r12,r22_outside.r13,r22_outside.r14,r22_outside.r15,r22_outside.r16,r22_outside.r17,r22_outside.r18,r22_outside.r19,r22_outside.r20,r22_outside.r21,r22_outside.r22,r22_outside.r23,r22_outside.r24,r22_outside.r25,r22_outside.r26,r22_outside.r27,w1,w2,w3,w4,w5,w6,w7,w8,κa,κb,κc,κd,κe,κf,κg,κh,κi,κj,κk,κl,κm,κn,κo,κp,κq,κr,κs,κt,κu,κv,κw,κx,κy,κz,κa1,κb1,κc1,κd1,κe1,κf1,κg1,κh1,κi1,κj1,κk1,κl1,κm1,κn1,κo1,κp1,κq1,κr1,κs1,if_true,if_false,reduceIte,κt1,κu1,κv1,κw1,κx1,κy1,κz1,κa2,κb2,κc2,κd2,κe2,κf2,κg2,κh2,κi2,κj2,κk2,κl2,κm2,κn2,κo2,κp2,κq2,reduceCtorEq,κr2,κs2,κt2,κu2,κv2,κw2,κx2,κy2,κz2,κa3,eq_self,κb3,κc3,zL]; rfl) ?_
    exact sub_of (all_cons rfl (all_cons rfl (all_cons rfl all_nil))) (all_cons rfl all_nil) all_nil (Nat.le_refl _)
  by_cases e46 : op = 46
  · subst e46
    have hI : immB st inp out un tx bf 46 m = withinB m (1) (16) := rfl
    rw [hI]
    refine stg_ (σ1 := St.of [(3,.box 3 0),(11,rInt (1)),(12,rInt (16))] [(3,[.p (.int .i64 46),.p (.int .i64 d),.p (.int .i64 a),.p (.int .i64 b),.p (.int .i64 c),.p (.int .i64 m)])] [] 0) ?_ (fin28 _ _ _ _ _ _ _ _)
    refine mrun_mwp (n := 0) _ _ _ .normal ?_ (by simp -implicitDefEqProofs only [mrun,Option.map,r22_outside.r7,r22_outside.r8,r22_outside.r9,r22_outside.r10,r22_outside.r11,r22_outside.r12,r22_outside.r13,r22_outside.r14,r22_outside.r15,r22_outside.r16,r22_outside.r17,r22_outside.r18,r22_outside.r19,r22_outside.r20,r22_outside.r21,r22_outside.r22,r22_outside.r23,r22_outside.r24,r22_outside.r25,r22_outside.r26,r22_outside.r27,w1,w2,w3,w4,w5,w6,w7,w8,κa,κb,κc,κd,κe,κf,κg,κh,κi,κj,κk,κl,κm,κn,κo,κp,κq,κr,κs,κt,κu,κv,κw,κx,κy,κz,κa1,κb1,κc1,κd1,κe1,κf1,κg1,κh1,κi1,κj1,κk1,κl1,κm1,κn1,κo1,κp1,κq1,κr1,κs1,if_true,if_false,reduceIte,κt1,κu1,κv1,κw1,κx1,κy1,κz1,κa2,κb2,κc2,κd2,κe2,κf2,κg2,κh2,κi2,κj2,κk2,κl2,κm2,κn2,κo2,κp2,κq2,reduceCtorEq,κr2,κs2,κt2,κu2,κv2,κw2,κx2,κy2,κz2,κa3,eq_self,κb3,κc3,zL]; rfl) ?_
    exact sub_of (all_cons rfl (all_cons rfl (all_cons rfl all_nil))) (all_cons rfl all_nil) all_nil (Nat.le_refl _)
  have f1 : (op == 1) = false := by simpa using e1
  have f37 : (op == 37) = false := by simpa using e37
  have f38 : (op == 38) = false := by simpa using e38
  have f39 : (op == 39) = false := by simpa using e39
  have f40 : (op == 40) = false := by simpa using e40
  have f41 : (op == 41) = false := by simpa using e41
  have f42 : (op == 42) = false := by simpa using e42
  have f46 : (op == 46) = false := by simpa using e46
  have hI : immB st inp out un tx bf op m = true := by simp [immB,e1,e37,e38,e39,e40,e41,e42,e46]
  rw [hI]
  refine seq_ ?_
  · refine mrun_mwp (n := 0) _ _ _ .ret ?_ (by simp -implicitDefEqProofs only [mrun,Option.map,r22_outside.r7,r22_outside.r8,r22_outside.r9,r22_outside.r10,r22_outside.r11,r22_outside.r12,r22_outside.r13,r22_outside.r14,r22_outside.r15,r22_outside.r16,r22_outside.r17,r22_outside.r18,r22_outside.r19,r22_outside.r20,r22_outside.r21,r22_outside.r22,r22_outside.r23,r22_outside.r24,r22_outside.r25,r22_outside.r26,r22_outside.r27,w1,w2,w3,w4,w5,w6,w7,w8,f1,f37,f38,f39,f40,f41,f42,f46,κa,κb,κc,κd,κe,κf,κg,κh,κi,κj,κk,κl,κm,κn,κo,κp,κq,κr,κs,κt,κu,κv,κw,κx,κy,κz,κa1,κb1,κc1,κd1,κe1,κf1,κg1,κh1,κi1,κj1,κk1,κl1,κm1,κn1,κo1,κp1,κq1,κr1,κs1,if_true,if_false,reduceIte,κt1,κu1,κv1,κw1,κx1,κy1,κz1,κa2,κb2,κc2,κd2,κe2,κf2,κg2,κh2,κi2,κj2,κk2,κl2,κm2,κn2,κo2,κp2,κq2,reduceCtorEq,κr2,κs2,κt2,κu2,κv2,κw2,κx2,κy2,κz2,κa3,eq_self,κb3,κc3,zL]; rfl) ?_
    exact ⟨.inl rfl,_,rfl,AVle.refl _⟩

theorem r22_outside.ok : SpecOK Try.prog 72 r22_outside.S := fun args r h => by
  unfold r22_outside.S at h
  split at h
  case h_2 => cases h
  split at h
  case isFalse => cases h
  rename_i st rg inp out un tx bf code op d a b c m hok
  obtain ⟨⟨q1,q2,q3,q4,q5,q6,q7,q8,q9,q10⟩,hop⟩ := hok
  cases h
  rw [outB_eq]
  refine fnLaw Try.func72 r22_outside.tr rfl hE (ok_cons r22_Operands.ok ok_nil) ?_
  have hO : opsS [.c (.int .i64 op)] = some (.tup [.bool (dB op),.bool (aB op),.bool (bB op),.bool (cB op),.bool (mB op)]) := if_pos hop
  unfold r22_outside.m
  let PP : List XV := [.p (.int .i64 st),.p (.int .i64 rg),.p (.int .i64 inp),.p (.int .i64 out),.p (.int .i64 un),.p (.int .i64 tx),.p (.int .i64 bf),.p code]
  let II : List XV := [.p (.int .i64 op),.p (.int .i64 d),.p (.int .i64 a),.p (.int .i64 b),.p (.int .i64 c),.p (.int .i64 m)]
  refine seq_reg (σ' := ?_) ?_ ?_
  rotate_left
  · simp -implicitDefEqProofs only [r22_outside.r0,κa,κb,κc,κd,κe,κf,κg,κh,κi,κj,κk,κl,κm,κn,κo,κp,κq,κr,κs,κt,κu,κv,κw,κx,κy,κz,κa1,κb1,κc1,κd1,κe1,κf1,κg1,κh1,κi1,κj1,κk1,κl1,κm1,κn1,κo1,κp1,κq1,κr1,κs1,if_true,if_false,reduceIte,κt1,κu1,κv1,κw1,κx1,κy1,κz1,κa2,κb2,κc2,κd2,κe2,κf2,κg2,κh2,κi2,κj2,κk2,κl2,κm2,κn2,κo2,κp2,κq2,reduceCtorEq,κr2,κs2,κt2,κu2,κv2,κw2,κx2,κy2,κz2,κa3,eq_self,κb3,κc3,zL]; rfl
  refine seq_reg (σ' := ?_) ?_ ?_
  rotate_left
  · simp -implicitDefEqProofs only [r22_outside.r1,κa,κb,κc,κd,κe,κf,κg,κh,κi,κj,κk,κl,κm,κn,κo,κp,κq,κr,κs,κt,κu,κv,κw,κx,κy,κz,κa1,κb1,κc1,κd1,κe1,κf1,κg1,κh1,κi1,κj1,κk1,κl1,κm1,κn1,κo1,κp1,κq1,κr1,κs1,if_true,if_false,reduceIte,κt1,κu1,κv1,κw1,κx1,κy1,κz1,κa2,κb2,κc2,κd2,κe2,κf2,κg2,κh2,κi2,κj2,κk2,κl2,κm2,κn2,κo2,κp2,κq2,reduceCtorEq,κr2,κs2,κt2,κu2,κv2,κw2,κx2,κy2,κz2,κa3,eq_self,κb3,κc3,zL,r22_Operands.S,hO]; rfl
  refine seq_ex (σ'' := St.of [(2,.box 2 0),(3,.box 3 0),(5,rBool (dB op)),(6,rBool (aB op)),(7,rBool (bB op)),(8,rBool (cB op)),(10,rInt rg)] [(2,PP),(3,II)] [] 0) ⟨_,by simp -implicitDefEqProofs only [r22_outside.r2,rBool,rInt,κa,κb,κc,κd,κe,κf,κg,κh,κi,κj,κk,κl,κm,κn,κo,κp,κq,κr,κs,κt,κu,κv,κw,κx,κy,κz,κa1,κb1,κc1,κd1,κe1,κf1,κg1,κh1,κi1,κj1,κk1,κl1,κm1,κn1,κo1,κp1,κq1,κr1,κs1,if_true,if_false,reduceIte,κt1,κu1,κv1,κw1,κx1,κy1,κz1,κa2,κb2,κc2,κd2,κe2,κf2,κg2,κh2,κi2,κj2,κk2,κl2,κm2,κn2,κo2,κp2,κq2,reduceCtorEq,κr2,κs2,κt2,κu2,κv2,κw2,κx2,κy2,κz2,κa3,eq_self,κb3,κc3,zL]; rfl,sub_of (all_cons rfl (all_cons rfl (all_cons rfl (all_cons rfl (all_cons rfl (all_cons rfl (all_cons rfl all_nil))))))) (all_cons rfl (all_cons rfl all_nil)) all_nil (Nat.le_refl _)⟩ ?_
  change mwp _ (.seq (.seq (.reg r22_outside.r3) (.cond (.tmp 77) (.seq (.reg r22_outside.r4) .ret) .skip)) r22_outside.rest) _ _
  have rest : mwp (mkG [(85,r22_Operands.S)]) r22_outside.rest (fun e σ => (e = Exit.ret ∨ e = Exit.normal) ∧ ∃ r',result σ (.tmp 4) = some r' ∧ AVle r' (rBool (!immB st inp out un tx bf op m))) (St.of [(2,.box 2 0),(3,.box 3 0)] [(2,PP),(3,II)] [] 0) := r22_outside.rest_ok _ _ _ _ _ _ _ _ _ _ _ _ _ _ ⟨q1,q2,q3,q4,q5,q6,q7,q8,q9,q10⟩
  have sub1 : ∀ σ : St,σ.tm 2 = some (.box 2 0) → σ.tm 3 = some (.box 3 0) → σ.hp 2 = some PP → σ.hp 3 = some II → σ.nt = 0 → Sub (St.of [(2,.box 2 0),(3,.box 3 0)] [(2,PP),(3,II)] [] 0) σ := fun σ h1 h2 h3 h4 h5 => sub_of (all_cons h1 (all_cons h2 all_nil)) (all_cons h3 (all_cons h4 all_nil)) all_nil (Nat.le_of_eq h5)
  refine seq_ (seq_ ?_)
  unfold out4B withinB
  generalize dB op = D
  generalize aB op = A
  generalize bB op = B
  generalize cB op = C
  cases D with
  | false =>
    cases A with
    | false =>
      cases B with
      | false =>
        cases C with
        | false =>
          rw [show decide ((false = true ∧ decide (0 ≤ d ∧ d ≤ rg - 1) = false) ∨ (false = true ∧ decide (0 ≤ a ∧ a ≤ rg - 1) = false) ∨ (false = true ∧ decide (0 ≤ b ∧ b ≤ rg - 1) = false) ∨ (false = true ∧ decide (0 ≤ c ∧ c ≤ rg - 1) = false)) = false from decide_eq_false (by rintro (h | h | h | h) <;> first | (have h1 := h.1; cases h1; done) | (have h2 := of_decide_eq_false h.2; omega))]
          rw [Bool.false_or]
          refine seq_reg (σ' := ?_) ?_ ?_
          rotate_left
          · simp -implicitDefEqProofs only [r22_outside.r3,κa,κb,κc,κd,κe,κf,κg,κh,κi,κj,κk,κl,κm,κn,κo,κp,κq,κr,κs,κt,κu,κv,κw,κx,κy,κz,κa1,κb1,κc1,κd1,κe1,κf1,κg1,κh1,κi1,κj1,κk1,κl1,κm1,κn1,κo1,κp1,κq1,κr1,κs1,if_true,if_false,reduceIte,κt1,κu1,κv1,κw1,κx1,κy1,κz1,κa2,κb2,κc2,κd2,κe2,κf2,κg2,κh2,κi2,κj2,κk2,κl2,κm2,κn2,κo2,κp2,κq2,reduceCtorEq,κr2,κs2,κt2,κu2,κv2,κw2,κx2,κy2,κz2,κa3,eq_self,κb3,κc3,zL,rBool,rInt,PP,II,ge_iff_le]; rfl
          refine cond_ rfl (fun h => by cases h) (fun _ => skip_ ?_)
          exact norm_sub (sub1 _ rfl rfl rfl rfl rfl) rest
        | true =>
          by_cases l3 : c < 0
          · rw [show decide ((false = true ∧ decide (0 ≤ d ∧ d ≤ rg - 1) = false) ∨ (false = true ∧ decide (0 ≤ a ∧ a ≤ rg - 1) = false) ∨ (false = true ∧ decide (0 ≤ b ∧ b ≤ rg - 1) = false) ∨ (true = true ∧ decide (0 ≤ c ∧ c ≤ rg - 1) = false)) = true from decide_eq_true (.inr (.inr (.inr (⟨rfl,decide_eq_false (by omega)⟩))))]
            refine seq_reg (σ' := ?_) ?_ ?_
            rotate_left
            · simp -implicitDefEqProofs only [r22_outside.r3,κa,κb,κc,κd,κe,κf,κg,κh,κi,κj,κk,κl,κm,κn,κo,κp,κq,κr,κs,κt,κu,κv,κw,κx,κy,κz,κa1,κb1,κc1,κd1,κe1,κf1,κg1,κh1,κi1,κj1,κk1,κl1,κm1,κn1,κo1,κp1,κq1,κr1,κs1,if_true,if_false,reduceIte,κt1,κu1,κv1,κw1,κx1,κy1,κz1,κa2,κb2,κc2,κd2,κe2,κf2,κg2,κh2,κi2,κj2,κk2,κl2,κm2,κn2,κo2,κp2,κq2,reduceCtorEq,κr2,κs2,κt2,κu2,κv2,κw2,κx2,κy2,κz2,κa3,eq_self,κb3,κc3,zL,rBool,rInt,PP,II,ge_iff_le,l3]; rfl
            refine cond_ rfl (fun _ => ?_) (fun h => by cases h)
            refine seq_reg (σ' := ?_) ?_ ?_
            rotate_left
            · simp -implicitDefEqProofs only [r22_outside.r4,κa,κb,κc,κd,κe,κf,κg,κh,κi,κj,κk,κl,κm,κn,κo,κp,κq,κr,κs,κt,κu,κv,κw,κx,κy,κz,κa1,κb1,κc1,κd1,κe1,κf1,κg1,κh1,κi1,κj1,κk1,κl1,κm1,κn1,κo1,κp1,κq1,κr1,κs1,if_true,if_false,reduceIte,κt1,κu1,κv1,κw1,κx1,κy1,κz1,κa2,κb2,κc2,κd2,κe2,κf2,κg2,κh2,κi2,κj2,κk2,κl2,κm2,κn2,κo2,κp2,κq2,reduceCtorEq,κr2,κs2,κt2,κu2,κv2,κw2,κx2,κy2,κz2,κa3,eq_self,κb3,κc3,zL]; rfl
            exact ret_ ⟨.inl rfl,_,rfl,AVle.refl _⟩
          by_cases u3 : rg ≤ c
          · rw [show decide ((false = true ∧ decide (0 ≤ d ∧ d ≤ rg - 1) = false) ∨ (false = true ∧ decide (0 ≤ a ∧ a ≤ rg - 1) = false) ∨ (false = true ∧ decide (0 ≤ b ∧ b ≤ rg - 1) = false) ∨ (true = true ∧ decide (0 ≤ c ∧ c ≤ rg - 1) = false)) = true from decide_eq_true (.inr (.inr (.inr (⟨rfl,decide_eq_false (by omega)⟩))))]
            refine seq_reg (σ' := ?_) ?_ ?_
            rotate_left
            · simp -implicitDefEqProofs only [r22_outside.r3,κa,κb,κc,κd,κe,κf,κg,κh,κi,κj,κk,κl,κm,κn,κo,κp,κq,κr,κs,κt,κu,κv,κw,κx,κy,κz,κa1,κb1,κc1,κd1,κe1,κf1,κg1,κh1,κi1,κj1,κk1,κl1,κm1,κn1,κo1,κp1,κq1,κr1,κs1,if_true,if_false,reduceIte,κt1,κu1,κv1,κw1,κx1,κy1,κz1,κa2,κb2,κc2,κd2,κe2,κf2,κg2,κh2,κi2,κj2,κk2,κl2,κm2,κn2,κo2,κp2,κq2,reduceCtorEq,κr2,κs2,κt2,κu2,κv2,κw2,κx2,κy2,κz2,κa3,eq_self,κb3,κc3,zL,rBool,rInt,PP,II,ge_iff_le,l3,u3]; rfl
            refine cond_ rfl (fun _ => ?_) (fun h => by cases h)
            refine seq_reg (σ' := ?_) ?_ ?_
            rotate_left
            · simp -implicitDefEqProofs only [r22_outside.r4,κa,κb,κc,κd,κe,κf,κg,κh,κi,κj,κk,κl,κm,κn,κo,κp,κq,κr,κs,κt,κu,κv,κw,κx,κy,κz,κa1,κb1,κc1,κd1,κe1,κf1,κg1,κh1,κi1,κj1,κk1,κl1,κm1,κn1,κo1,κp1,κq1,κr1,κs1,if_true,if_false,reduceIte,κt1,κu1,κv1,κw1,κx1,κy1,κz1,κa2,κb2,κc2,κd2,κe2,κf2,κg2,κh2,κi2,κj2,κk2,κl2,κm2,κn2,κo2,κp2,κq2,reduceCtorEq,κr2,κs2,κt2,κu2,κv2,κw2,κx2,κy2,κz2,κa3,eq_self,κb3,κc3,zL]; rfl
            exact ret_ ⟨.inl rfl,_,rfl,AVle.refl _⟩
          rw [show decide ((false = true ∧ decide (0 ≤ d ∧ d ≤ rg - 1) = false) ∨ (false = true ∧ decide (0 ≤ a ∧ a ≤ rg - 1) = false) ∨ (false = true ∧ decide (0 ≤ b ∧ b ≤ rg - 1) = false) ∨ (true = true ∧ decide (0 ≤ c ∧ c ≤ rg - 1) = false)) = false from decide_eq_false (by rintro (h | h | h | h) <;> first | (have h1 := h.1; cases h1; done) | (have h2 := of_decide_eq_false h.2; omega))]
          rw [Bool.false_or]
          refine seq_reg (σ' := ?_) ?_ ?_
          rotate_left
          · simp -implicitDefEqProofs only [r22_outside.r3,κa,κb,κc,κd,κe,κf,κg,κh,κi,κj,κk,κl,κm,κn,κo,κp,κq,κr,κs,κt,κu,κv,κw,κx,κy,κz,κa1,κb1,κc1,κd1,κe1,κf1,κg1,κh1,κi1,κj1,κk1,κl1,κm1,κn1,κo1,κp1,κq1,κr1,κs1,if_true,if_false,reduceIte,κt1,κu1,κv1,κw1,κx1,κy1,κz1,κa2,κb2,κc2,κd2,κe2,κf2,κg2,κh2,κi2,κj2,κk2,κl2,κm2,κn2,κo2,κp2,κq2,reduceCtorEq,κr2,κs2,κt2,κu2,κv2,κw2,κx2,κy2,κz2,κa3,eq_self,κb3,κc3,zL,rBool,rInt,PP,II,ge_iff_le,l3,u3]; rfl
          refine cond_ rfl (fun h => by cases h) (fun _ => skip_ ?_)
          exact norm_sub (sub1 _ rfl rfl rfl rfl rfl) rest
      | true =>
        by_cases l2 : b < 0
        · rw [show decide ((false = true ∧ decide (0 ≤ d ∧ d ≤ rg - 1) = false) ∨ (false = true ∧ decide (0 ≤ a ∧ a ≤ rg - 1) = false) ∨ (true = true ∧ decide (0 ≤ b ∧ b ≤ rg - 1) = false) ∨ (C = true ∧ decide (0 ≤ c ∧ c ≤ rg - 1) = false)) = true from decide_eq_true (.inr (.inr (.inl ⟨rfl,decide_eq_false (by omega)⟩)))]
          refine seq_reg (σ' := ?_) ?_ ?_
          rotate_left
          · simp -implicitDefEqProofs only [r22_outside.r3,κa,κb,κc,κd,κe,κf,κg,κh,κi,κj,κk,κl,κm,κn,κo,κp,κq,κr,κs,κt,κu,κv,κw,κx,κy,κz,κa1,κb1,κc1,κd1,κe1,κf1,κg1,κh1,κi1,κj1,κk1,κl1,κm1,κn1,κo1,κp1,κq1,κr1,κs1,if_true,if_false,reduceIte,κt1,κu1,κv1,κw1,κx1,κy1,κz1,κa2,κb2,κc2,κd2,κe2,κf2,κg2,κh2,κi2,κj2,κk2,κl2,κm2,κn2,κo2,κp2,κq2,reduceCtorEq,κr2,κs2,κt2,κu2,κv2,κw2,κx2,κy2,κz2,κa3,eq_self,κb3,κc3,zL,rBool,rInt,PP,II,ge_iff_le,l2]; rfl
          refine cond_ rfl (fun _ => ?_) (fun h => by cases h)
          refine seq_reg (σ' := ?_) ?_ ?_
          rotate_left
          · simp -implicitDefEqProofs only [r22_outside.r4,κa,κb,κc,κd,κe,κf,κg,κh,κi,κj,κk,κl,κm,κn,κo,κp,κq,κr,κs,κt,κu,κv,κw,κx,κy,κz,κa1,κb1,κc1,κd1,κe1,κf1,κg1,κh1,κi1,κj1,κk1,κl1,κm1,κn1,κo1,κp1,κq1,κr1,κs1,if_true,if_false,reduceIte,κt1,κu1,κv1,κw1,κx1,κy1,κz1,κa2,κb2,κc2,κd2,κe2,κf2,κg2,κh2,κi2,κj2,κk2,κl2,κm2,κn2,κo2,κp2,κq2,reduceCtorEq,κr2,κs2,κt2,κu2,κv2,κw2,κx2,κy2,κz2,κa3,eq_self,κb3,κc3,zL]; rfl
          exact ret_ ⟨.inl rfl,_,rfl,AVle.refl _⟩
        by_cases u2 : rg ≤ b
        · rw [show decide ((false = true ∧ decide (0 ≤ d ∧ d ≤ rg - 1) = false) ∨ (false = true ∧ decide (0 ≤ a ∧ a ≤ rg - 1) = false) ∨ (true = true ∧ decide (0 ≤ b ∧ b ≤ rg - 1) = false) ∨ (C = true ∧ decide (0 ≤ c ∧ c ≤ rg - 1) = false)) = true from decide_eq_true (.inr (.inr (.inl ⟨rfl,decide_eq_false (by omega)⟩)))]
          refine seq_reg (σ' := ?_) ?_ ?_
          rotate_left
          · simp -implicitDefEqProofs only [r22_outside.r3,κa,κb,κc,κd,κe,κf,κg,κh,κi,κj,κk,κl,κm,κn,κo,κp,κq,κr,κs,κt,κu,κv,κw,κx,κy,κz,κa1,κb1,κc1,κd1,κe1,κf1,κg1,κh1,κi1,κj1,κk1,κl1,κm1,κn1,κo1,κp1,κq1,κr1,κs1,if_true,if_false,reduceIte,κt1,κu1,κv1,κw1,κx1,κy1,κz1,κa2,κb2,κc2,κd2,κe2,κf2,κg2,κh2,κi2,κj2,κk2,κl2,κm2,κn2,κo2,κp2,κq2,reduceCtorEq,κr2,κs2,κt2,κu2,κv2,κw2,κx2,κy2,κz2,κa3,eq_self,κb3,κc3,zL,rBool,rInt,PP,II,ge_iff_le,l2,u2]; rfl
          refine cond_ rfl (fun _ => ?_) (fun h => by cases h)
          refine seq_reg (σ' := ?_) ?_ ?_
          rotate_left
          · simp -implicitDefEqProofs only [r22_outside.r4,κa,κb,κc,κd,κe,κf,κg,κh,κi,κj,κk,κl,κm,κn,κo,κp,κq,κr,κs,κt,κu,κv,κw,κx,κy,κz,κa1,κb1,κc1,κd1,κe1,κf1,κg1,κh1,κi1,κj1,κk1,κl1,κm1,κn1,κo1,κp1,κq1,κr1,κs1,if_true,if_false,reduceIte,κt1,κu1,κv1,κw1,κx1,κy1,κz1,κa2,κb2,κc2,κd2,κe2,κf2,κg2,κh2,κi2,κj2,κk2,κl2,κm2,κn2,κo2,κp2,κq2,reduceCtorEq,κr2,κs2,κt2,κu2,κv2,κw2,κx2,κy2,κz2,κa3,eq_self,κb3,κc3,zL]; rfl
          exact ret_ ⟨.inl rfl,_,rfl,AVle.refl _⟩
        cases C with
        | false =>
          rw [show decide ((false = true ∧ decide (0 ≤ d ∧ d ≤ rg - 1) = false) ∨ (false = true ∧ decide (0 ≤ a ∧ a ≤ rg - 1) = false) ∨ (true = true ∧ decide (0 ≤ b ∧ b ≤ rg - 1) = false) ∨ (false = true ∧ decide (0 ≤ c ∧ c ≤ rg - 1) = false)) = false from decide_eq_false (by rintro (h | h | h | h) <;> first | (have h1 := h.1; cases h1; done) | (have h2 := of_decide_eq_false h.2; omega))]
          rw [Bool.false_or]
          refine seq_reg (σ' := ?_) ?_ ?_
          rotate_left
          · simp -implicitDefEqProofs only [r22_outside.r3,κa,κb,κc,κd,κe,κf,κg,κh,κi,κj,κk,κl,κm,κn,κo,κp,κq,κr,κs,κt,κu,κv,κw,κx,κy,κz,κa1,κb1,κc1,κd1,κe1,κf1,κg1,κh1,κi1,κj1,κk1,κl1,κm1,κn1,κo1,κp1,κq1,κr1,κs1,if_true,if_false,reduceIte,κt1,κu1,κv1,κw1,κx1,κy1,κz1,κa2,κb2,κc2,κd2,κe2,κf2,κg2,κh2,κi2,κj2,κk2,κl2,κm2,κn2,κo2,κp2,κq2,reduceCtorEq,κr2,κs2,κt2,κu2,κv2,κw2,κx2,κy2,κz2,κa3,eq_self,κb3,κc3,zL,rBool,rInt,PP,II,ge_iff_le,l2,u2]; rfl
          refine cond_ rfl (fun h => by cases h) (fun _ => skip_ ?_)
          exact norm_sub (sub1 _ rfl rfl rfl rfl rfl) rest
        | true =>
          by_cases l3 : c < 0
          · rw [show decide ((false = true ∧ decide (0 ≤ d ∧ d ≤ rg - 1) = false) ∨ (false = true ∧ decide (0 ≤ a ∧ a ≤ rg - 1) = false) ∨ (true = true ∧ decide (0 ≤ b ∧ b ≤ rg - 1) = false) ∨ (true = true ∧ decide (0 ≤ c ∧ c ≤ rg - 1) = false)) = true from decide_eq_true (.inr (.inr (.inr (⟨rfl,decide_eq_false (by omega)⟩))))]
            refine seq_reg (σ' := ?_) ?_ ?_
            rotate_left
            · simp -implicitDefEqProofs only [r22_outside.r3,κa,κb,κc,κd,κe,κf,κg,κh,κi,κj,κk,κl,κm,κn,κo,κp,κq,κr,κs,κt,κu,κv,κw,κx,κy,κz,κa1,κb1,κc1,κd1,κe1,κf1,κg1,κh1,κi1,κj1,κk1,κl1,κm1,κn1,κo1,κp1,κq1,κr1,κs1,if_true,if_false,reduceIte,κt1,κu1,κv1,κw1,κx1,κy1,κz1,κa2,κb2,κc2,κd2,κe2,κf2,κg2,κh2,κi2,κj2,κk2,κl2,κm2,κn2,κo2,κp2,κq2,reduceCtorEq,κr2,κs2,κt2,κu2,κv2,κw2,κx2,κy2,κz2,κa3,eq_self,κb3,κc3,zL,rBool,rInt,PP,II,ge_iff_le,l2,u2,l3]; rfl
            refine cond_ rfl (fun _ => ?_) (fun h => by cases h)
            refine seq_reg (σ' := ?_) ?_ ?_
            rotate_left
            · simp -implicitDefEqProofs only [r22_outside.r4,κa,κb,κc,κd,κe,κf,κg,κh,κi,κj,κk,κl,κm,κn,κo,κp,κq,κr,κs,κt,κu,κv,κw,κx,κy,κz,κa1,κb1,κc1,κd1,κe1,κf1,κg1,κh1,κi1,κj1,κk1,κl1,κm1,κn1,κo1,κp1,κq1,κr1,κs1,if_true,if_false,reduceIte,κt1,κu1,κv1,κw1,κx1,κy1,κz1,κa2,κb2,κc2,κd2,κe2,κf2,κg2,κh2,κi2,κj2,κk2,κl2,κm2,κn2,κo2,κp2,κq2,reduceCtorEq,κr2,κs2,κt2,κu2,κv2,κw2,κx2,κy2,κz2,κa3,eq_self,κb3,κc3,zL]; rfl
            exact ret_ ⟨.inl rfl,_,rfl,AVle.refl _⟩
          by_cases u3 : rg ≤ c
          · rw [show decide ((false = true ∧ decide (0 ≤ d ∧ d ≤ rg - 1) = false) ∨ (false = true ∧ decide (0 ≤ a ∧ a ≤ rg - 1) = false) ∨ (true = true ∧ decide (0 ≤ b ∧ b ≤ rg - 1) = false) ∨ (true = true ∧ decide (0 ≤ c ∧ c ≤ rg - 1) = false)) = true from decide_eq_true (.inr (.inr (.inr (⟨rfl,decide_eq_false (by omega)⟩))))]
            refine seq_reg (σ' := ?_) ?_ ?_
            rotate_left
            · simp -implicitDefEqProofs only [r22_outside.r3,κa,κb,κc,κd,κe,κf,κg,κh,κi,κj,κk,κl,κm,κn,κo,κp,κq,κr,κs,κt,κu,κv,κw,κx,κy,κz,κa1,κb1,κc1,κd1,κe1,κf1,κg1,κh1,κi1,κj1,κk1,κl1,κm1,κn1,κo1,κp1,κq1,κr1,κs1,if_true,if_false,reduceIte,κt1,κu1,κv1,κw1,κx1,κy1,κz1,κa2,κb2,κc2,κd2,κe2,κf2,κg2,κh2,κi2,κj2,κk2,κl2,κm2,κn2,κo2,κp2,κq2,reduceCtorEq,κr2,κs2,κt2,κu2,κv2,κw2,κx2,κy2,κz2,κa3,eq_self,κb3,κc3,zL,rBool,rInt,PP,II,ge_iff_le,l2,u2,l3,u3]; rfl
            refine cond_ rfl (fun _ => ?_) (fun h => by cases h)
            refine seq_reg (σ' := ?_) ?_ ?_
            rotate_left
            · simp -implicitDefEqProofs only [r22_outside.r4,κa,κb,κc,κd,κe,κf,κg,κh,κi,κj,κk,κl,κm,κn,κo,κp,κq,κr,κs,κt,κu,κv,κw,κx,κy,κz,κa1,κb1,κc1,κd1,κe1,κf1,κg1,κh1,κi1,κj1,κk1,κl1,κm1,κn1,κo1,κp1,κq1,κr1,κs1,if_true,if_false,reduceIte,κt1,κu1,κv1,κw1,κx1,κy1,κz1,κa2,κb2,κc2,κd2,κe2,κf2,κg2,κh2,κi2,κj2,κk2,κl2,κm2,κn2,κo2,κp2,κq2,reduceCtorEq,κr2,κs2,κt2,κu2,κv2,κw2,κx2,κy2,κz2,κa3,eq_self,κb3,κc3,zL]; rfl
            exact ret_ ⟨.inl rfl,_,rfl,AVle.refl _⟩
          rw [show decide ((false = true ∧ decide (0 ≤ d ∧ d ≤ rg - 1) = false) ∨ (false = true ∧ decide (0 ≤ a ∧ a ≤ rg - 1) = false) ∨ (true = true ∧ decide (0 ≤ b ∧ b ≤ rg - 1) = false) ∨ (true = true ∧ decide (0 ≤ c ∧ c ≤ rg - 1) = false)) = false from decide_eq_false (by rintro (h | h | h | h) <;> first | (have h1 := h.1; cases h1; done) | (have h2 := of_decide_eq_false h.2; omega))]
          rw [Bool.false_or]
          refine seq_reg (σ' := ?_) ?_ ?_
          rotate_left
          · simp -implicitDefEqProofs only [r22_outside.r3,κa,κb,κc,κd,κe,κf,κg,κh,κi,κj,κk,κl,κm,κn,κo,κp,κq,κr,κs,κt,κu,κv,κw,κx,κy,κz,κa1,κb1,κc1,κd1,κe1,κf1,κg1,κh1,κi1,κj1,κk1,κl1,κm1,κn1,κo1,κp1,κq1,κr1,κs1,if_true,if_false,reduceIte,κt1,κu1,κv1,κw1,κx1,κy1,κz1,κa2,κb2,κc2,κd2,κe2,κf2,κg2,κh2,κi2,κj2,κk2,κl2,κm2,κn2,κo2,κp2,κq2,reduceCtorEq,κr2,κs2,κt2,κu2,κv2,κw2,κx2,κy2,κz2,κa3,eq_self,κb3,κc3,zL,rBool,rInt,PP,II,ge_iff_le,l2,u2,l3,u3]; rfl
          refine cond_ rfl (fun h => by cases h) (fun _ => skip_ ?_)
          exact norm_sub (sub1 _ rfl rfl rfl rfl rfl) rest
    | true =>
      by_cases l1 : a < 0
      · rw [show decide ((false = true ∧ decide (0 ≤ d ∧ d ≤ rg - 1) = false) ∨ (true = true ∧ decide (0 ≤ a ∧ a ≤ rg - 1) = false) ∨ (B = true ∧ decide (0 ≤ b ∧ b ≤ rg - 1) = false) ∨ (C = true ∧ decide (0 ≤ c ∧ c ≤ rg - 1) = false)) = true from decide_eq_true (.inr (.inl ⟨rfl,decide_eq_false (by omega)⟩))]
        refine seq_reg (σ' := ?_) ?_ ?_
        rotate_left
        · simp -implicitDefEqProofs only [r22_outside.r3,κa,κb,κc,κd,κe,κf,κg,κh,κi,κj,κk,κl,κm,κn,κo,κp,κq,κr,κs,κt,κu,κv,κw,κx,κy,κz,κa1,κb1,κc1,κd1,κe1,κf1,κg1,κh1,κi1,κj1,κk1,κl1,κm1,κn1,κo1,κp1,κq1,κr1,κs1,if_true,if_false,reduceIte,κt1,κu1,κv1,κw1,κx1,κy1,κz1,κa2,κb2,κc2,κd2,κe2,κf2,κg2,κh2,κi2,κj2,κk2,κl2,κm2,κn2,κo2,κp2,κq2,reduceCtorEq,κr2,κs2,κt2,κu2,κv2,κw2,κx2,κy2,κz2,κa3,eq_self,κb3,κc3,zL,rBool,rInt,PP,II,ge_iff_le,l1]; rfl
        refine cond_ rfl (fun _ => ?_) (fun h => by cases h)
        refine seq_reg (σ' := ?_) ?_ ?_
        rotate_left
        · simp -implicitDefEqProofs only [r22_outside.r4,κa,κb,κc,κd,κe,κf,κg,κh,κi,κj,κk,κl,κm,κn,κo,κp,κq,κr,κs,κt,κu,κv,κw,κx,κy,κz,κa1,κb1,κc1,κd1,κe1,κf1,κg1,κh1,κi1,κj1,κk1,κl1,κm1,κn1,κo1,κp1,κq1,κr1,κs1,if_true,if_false,reduceIte,κt1,κu1,κv1,κw1,κx1,κy1,κz1,κa2,κb2,κc2,κd2,κe2,κf2,κg2,κh2,κi2,κj2,κk2,κl2,κm2,κn2,κo2,κp2,κq2,reduceCtorEq,κr2,κs2,κt2,κu2,κv2,κw2,κx2,κy2,κz2,κa3,eq_self,κb3,κc3,zL]; rfl
        exact ret_ ⟨.inl rfl,_,rfl,AVle.refl _⟩
      by_cases u1 : rg ≤ a
      · rw [show decide ((false = true ∧ decide (0 ≤ d ∧ d ≤ rg - 1) = false) ∨ (true = true ∧ decide (0 ≤ a ∧ a ≤ rg - 1) = false) ∨ (B = true ∧ decide (0 ≤ b ∧ b ≤ rg - 1) = false) ∨ (C = true ∧ decide (0 ≤ c ∧ c ≤ rg - 1) = false)) = true from decide_eq_true (.inr (.inl ⟨rfl,decide_eq_false (by omega)⟩))]
        refine seq_reg (σ' := ?_) ?_ ?_
        rotate_left
        · simp -implicitDefEqProofs only [r22_outside.r3,κa,κb,κc,κd,κe,κf,κg,κh,κi,κj,κk,κl,κm,κn,κo,κp,κq,κr,κs,κt,κu,κv,κw,κx,κy,κz,κa1,κb1,κc1,κd1,κe1,κf1,κg1,κh1,κi1,κj1,κk1,κl1,κm1,κn1,κo1,κp1,κq1,κr1,κs1,if_true,if_false,reduceIte,κt1,κu1,κv1,κw1,κx1,κy1,κz1,κa2,κb2,κc2,κd2,κe2,κf2,κg2,κh2,κi2,κj2,κk2,κl2,κm2,κn2,κo2,κp2,κq2,reduceCtorEq,κr2,κs2,κt2,κu2,κv2,κw2,κx2,κy2,κz2,κa3,eq_self,κb3,κc3,zL,rBool,rInt,PP,II,ge_iff_le,l1,u1]; rfl
        refine cond_ rfl (fun _ => ?_) (fun h => by cases h)
        refine seq_reg (σ' := ?_) ?_ ?_
        rotate_left
        · simp -implicitDefEqProofs only [r22_outside.r4,κa,κb,κc,κd,κe,κf,κg,κh,κi,κj,κk,κl,κm,κn,κo,κp,κq,κr,κs,κt,κu,κv,κw,κx,κy,κz,κa1,κb1,κc1,κd1,κe1,κf1,κg1,κh1,κi1,κj1,κk1,κl1,κm1,κn1,κo1,κp1,κq1,κr1,κs1,if_true,if_false,reduceIte,κt1,κu1,κv1,κw1,κx1,κy1,κz1,κa2,κb2,κc2,κd2,κe2,κf2,κg2,κh2,κi2,κj2,κk2,κl2,κm2,κn2,κo2,κp2,κq2,reduceCtorEq,κr2,κs2,κt2,κu2,κv2,κw2,κx2,κy2,κz2,κa3,eq_self,κb3,κc3,zL]; rfl
        exact ret_ ⟨.inl rfl,_,rfl,AVle.refl _⟩
      cases B with
      | false =>
        cases C with
        | false =>
          rw [show decide ((false = true ∧ decide (0 ≤ d ∧ d ≤ rg - 1) = false) ∨ (true = true ∧ decide (0 ≤ a ∧ a ≤ rg - 1) = false) ∨ (false = true ∧ decide (0 ≤ b ∧ b ≤ rg - 1) = false) ∨ (false = true ∧ decide (0 ≤ c ∧ c ≤ rg - 1) = false)) = false from decide_eq_false (by rintro (h | h | h | h) <;> first | (have h1 := h.1; cases h1; done) | (have h2 := of_decide_eq_false h.2; omega))]
          rw [Bool.false_or]
          refine seq_reg (σ' := ?_) ?_ ?_
          rotate_left
          · simp -implicitDefEqProofs only [r22_outside.r3,κa,κb,κc,κd,κe,κf,κg,κh,κi,κj,κk,κl,κm,κn,κo,κp,κq,κr,κs,κt,κu,κv,κw,κx,κy,κz,κa1,κb1,κc1,κd1,κe1,κf1,κg1,κh1,κi1,κj1,κk1,κl1,κm1,κn1,κo1,κp1,κq1,κr1,κs1,if_true,if_false,reduceIte,κt1,κu1,κv1,κw1,κx1,κy1,κz1,κa2,κb2,κc2,κd2,κe2,κf2,κg2,κh2,κi2,κj2,κk2,κl2,κm2,κn2,κo2,κp2,κq2,reduceCtorEq,κr2,κs2,κt2,κu2,κv2,κw2,κx2,κy2,κz2,κa3,eq_self,κb3,κc3,zL,rBool,rInt,PP,II,ge_iff_le,l1,u1]; rfl
          refine cond_ rfl (fun h => by cases h) (fun _ => skip_ ?_)
          exact norm_sub (sub1 _ rfl rfl rfl rfl rfl) rest
        | true =>
          by_cases l3 : c < 0
          · rw [show decide ((false = true ∧ decide (0 ≤ d ∧ d ≤ rg - 1) = false) ∨ (true = true ∧ decide (0 ≤ a ∧ a ≤ rg - 1) = false) ∨ (false = true ∧ decide (0 ≤ b ∧ b ≤ rg - 1) = false) ∨ (true = true ∧ decide (0 ≤ c ∧ c ≤ rg - 1) = false)) = true from decide_eq_true (.inr (.inr (.inr (⟨rfl,decide_eq_false (by omega)⟩))))]
            refine seq_reg (σ' := ?_) ?_ ?_
            rotate_left
            · simp -implicitDefEqProofs only [r22_outside.r3,κa,κb,κc,κd,κe,κf,κg,κh,κi,κj,κk,κl,κm,κn,κo,κp,κq,κr,κs,κt,κu,κv,κw,κx,κy,κz,κa1,κb1,κc1,κd1,κe1,κf1,κg1,κh1,κi1,κj1,κk1,κl1,κm1,κn1,κo1,κp1,κq1,κr1,κs1,if_true,if_false,reduceIte,κt1,κu1,κv1,κw1,κx1,κy1,κz1,κa2,κb2,κc2,κd2,κe2,κf2,κg2,κh2,κi2,κj2,κk2,κl2,κm2,κn2,κo2,κp2,κq2,reduceCtorEq,κr2,κs2,κt2,κu2,κv2,κw2,κx2,κy2,κz2,κa3,eq_self,κb3,κc3,zL,rBool,rInt,PP,II,ge_iff_le,l1,u1,l3]; rfl
            refine cond_ rfl (fun _ => ?_) (fun h => by cases h)
            refine seq_reg (σ' := ?_) ?_ ?_
            rotate_left
            · simp -implicitDefEqProofs only [r22_outside.r4,κa,κb,κc,κd,κe,κf,κg,κh,κi,κj,κk,κl,κm,κn,κo,κp,κq,κr,κs,κt,κu,κv,κw,κx,κy,κz,κa1,κb1,κc1,κd1,κe1,κf1,κg1,κh1,κi1,κj1,κk1,κl1,κm1,κn1,κo1,κp1,κq1,κr1,κs1,if_true,if_false,reduceIte,κt1,κu1,κv1,κw1,κx1,κy1,κz1,κa2,κb2,κc2,κd2,κe2,κf2,κg2,κh2,κi2,κj2,κk2,κl2,κm2,κn2,κo2,κp2,κq2,reduceCtorEq,κr2,κs2,κt2,κu2,κv2,κw2,κx2,κy2,κz2,κa3,eq_self,κb3,κc3,zL]; rfl
            exact ret_ ⟨.inl rfl,_,rfl,AVle.refl _⟩
          by_cases u3 : rg ≤ c
          · rw [show decide ((false = true ∧ decide (0 ≤ d ∧ d ≤ rg - 1) = false) ∨ (true = true ∧ decide (0 ≤ a ∧ a ≤ rg - 1) = false) ∨ (false = true ∧ decide (0 ≤ b ∧ b ≤ rg - 1) = false) ∨ (true = true ∧ decide (0 ≤ c ∧ c ≤ rg - 1) = false)) = true from decide_eq_true (.inr (.inr (.inr (⟨rfl,decide_eq_false (by omega)⟩))))]
            refine seq_reg (σ' := ?_) ?_ ?_
            rotate_left
            · simp -implicitDefEqProofs only [r22_outside.r3,κa,κb,κc,κd,κe,κf,κg,κh,κi,κj,κk,κl,κm,κn,κo,κp,κq,κr,κs,κt,κu,κv,κw,κx,κy,κz,κa1,κb1,κc1,κd1,κe1,κf1,κg1,κh1,κi1,κj1,κk1,κl1,κm1,κn1,κo1,κp1,κq1,κr1,κs1,if_true,if_false,reduceIte,κt1,κu1,κv1,κw1,κx1,κy1,κz1,κa2,κb2,κc2,κd2,κe2,κf2,κg2,κh2,κi2,κj2,κk2,κl2,κm2,κn2,κo2,κp2,κq2,reduceCtorEq,κr2,κs2,κt2,κu2,κv2,κw2,κx2,κy2,κz2,κa3,eq_self,κb3,κc3,zL,rBool,rInt,PP,II,ge_iff_le,l1,u1,l3,u3]; rfl
            refine cond_ rfl (fun _ => ?_) (fun h => by cases h)
            refine seq_reg (σ' := ?_) ?_ ?_
            rotate_left
            · simp -implicitDefEqProofs only [r22_outside.r4,κa,κb,κc,κd,κe,κf,κg,κh,κi,κj,κk,κl,κm,κn,κo,κp,κq,κr,κs,κt,κu,κv,κw,κx,κy,κz,κa1,κb1,κc1,κd1,κe1,κf1,κg1,κh1,κi1,κj1,κk1,κl1,κm1,κn1,κo1,κp1,κq1,κr1,κs1,if_true,if_false,reduceIte,κt1,κu1,κv1,κw1,κx1,κy1,κz1,κa2,κb2,κc2,κd2,κe2,κf2,κg2,κh2,κi2,κj2,κk2,κl2,κm2,κn2,κo2,κp2,κq2,reduceCtorEq,κr2,κs2,κt2,κu2,κv2,κw2,κx2,κy2,κz2,κa3,eq_self,κb3,κc3,zL]; rfl
            exact ret_ ⟨.inl rfl,_,rfl,AVle.refl _⟩
          rw [show decide ((false = true ∧ decide (0 ≤ d ∧ d ≤ rg - 1) = false) ∨ (true = true ∧ decide (0 ≤ a ∧ a ≤ rg - 1) = false) ∨ (false = true ∧ decide (0 ≤ b ∧ b ≤ rg - 1) = false) ∨ (true = true ∧ decide (0 ≤ c ∧ c ≤ rg - 1) = false)) = false from decide_eq_false (by rintro (h | h | h | h) <;> first | (have h1 := h.1; cases h1; done) | (have h2 := of_decide_eq_false h.2; omega))]
          rw [Bool.false_or]
          refine seq_reg (σ' := ?_) ?_ ?_
          rotate_left
          · simp -implicitDefEqProofs only [r22_outside.r3,κa,κb,κc,κd,κe,κf,κg,κh,κi,κj,κk,κl,κm,κn,κo,κp,κq,κr,κs,κt,κu,κv,κw,κx,κy,κz,κa1,κb1,κc1,κd1,κe1,κf1,κg1,κh1,κi1,κj1,κk1,κl1,κm1,κn1,κo1,κp1,κq1,κr1,κs1,if_true,if_false,reduceIte,κt1,κu1,κv1,κw1,κx1,κy1,κz1,κa2,κb2,κc2,κd2,κe2,κf2,κg2,κh2,κi2,κj2,κk2,κl2,κm2,κn2,κo2,κp2,κq2,reduceCtorEq,κr2,κs2,κt2,κu2,κv2,κw2,κx2,κy2,κz2,κa3,eq_self,κb3,κc3,zL,rBool,rInt,PP,II,ge_iff_le,l1,u1,l3,u3]; rfl
          refine cond_ rfl (fun h => by cases h) (fun _ => skip_ ?_)
          exact norm_sub (sub1 _ rfl rfl rfl rfl rfl) rest
      | true =>
        by_cases l2 : b < 0
        · rw [show decide ((false = true ∧ decide (0 ≤ d ∧ d ≤ rg - 1) = false) ∨ (true = true ∧ decide (0 ≤ a ∧ a ≤ rg - 1) = false) ∨ (true = true ∧ decide (0 ≤ b ∧ b ≤ rg - 1) = false) ∨ (C = true ∧ decide (0 ≤ c ∧ c ≤ rg - 1) = false)) = true from decide_eq_true (.inr (.inr (.inl ⟨rfl,decide_eq_false (by omega)⟩)))]
          refine seq_reg (σ' := ?_) ?_ ?_
          rotate_left
          · simp -implicitDefEqProofs only [r22_outside.r3,κa,κb,κc,κd,κe,κf,κg,κh,κi,κj,κk,κl,κm,κn,κo,κp,κq,κr,κs,κt,κu,κv,κw,κx,κy,κz,κa1,κb1,κc1,κd1,κe1,κf1,κg1,κh1,κi1,κj1,κk1,κl1,κm1,κn1,κo1,κp1,κq1,κr1,κs1,if_true,if_false,reduceIte,κt1,κu1,κv1,κw1,κx1,κy1,κz1,κa2,κb2,κc2,κd2,κe2,κf2,κg2,κh2,κi2,κj2,κk2,κl2,κm2,κn2,κo2,κp2,κq2,reduceCtorEq,κr2,κs2,κt2,κu2,κv2,κw2,κx2,κy2,κz2,κa3,eq_self,κb3,κc3,zL,rBool,rInt,PP,II,ge_iff_le,l1,u1,l2]; rfl
          refine cond_ rfl (fun _ => ?_) (fun h => by cases h)
          refine seq_reg (σ' := ?_) ?_ ?_
          rotate_left
          · simp -implicitDefEqProofs only [r22_outside.r4,κa,κb,κc,κd,κe,κf,κg,κh,κi,κj,κk,κl,κm,κn,κo,κp,κq,κr,κs,κt,κu,κv,κw,κx,κy,κz,κa1,κb1,κc1,κd1,κe1,κf1,κg1,κh1,κi1,κj1,κk1,κl1,κm1,κn1,κo1,κp1,κq1,κr1,κs1,if_true,if_false,reduceIte,κt1,κu1,κv1,κw1,κx1,κy1,κz1,κa2,κb2,κc2,κd2,κe2,κf2,κg2,κh2,κi2,κj2,κk2,κl2,κm2,κn2,κo2,κp2,κq2,reduceCtorEq,κr2,κs2,κt2,κu2,κv2,κw2,κx2,κy2,κz2,κa3,eq_self,κb3,κc3,zL]; rfl
          exact ret_ ⟨.inl rfl,_,rfl,AVle.refl _⟩
        by_cases u2 : rg ≤ b
        · rw [show decide ((false = true ∧ decide (0 ≤ d ∧ d ≤ rg - 1) = false) ∨ (true = true ∧ decide (0 ≤ a ∧ a ≤ rg - 1) = false) ∨ (true = true ∧ decide (0 ≤ b ∧ b ≤ rg - 1) = false) ∨ (C = true ∧ decide (0 ≤ c ∧ c ≤ rg - 1) = false)) = true from decide_eq_true (.inr (.inr (.inl ⟨rfl,decide_eq_false (by omega)⟩)))]
          refine seq_reg (σ' := ?_) ?_ ?_
          rotate_left
          · simp -implicitDefEqProofs only [r22_outside.r3,κa,κb,κc,κd,κe,κf,κg,κh,κi,κj,κk,κl,κm,κn,κo,κp,κq,κr,κs,κt,κu,κv,κw,κx,κy,κz,κa1,κb1,κc1,κd1,κe1,κf1,κg1,κh1,κi1,κj1,κk1,κl1,κm1,κn1,κo1,κp1,κq1,κr1,κs1,if_true,if_false,reduceIte,κt1,κu1,κv1,κw1,κx1,κy1,κz1,κa2,κb2,κc2,κd2,κe2,κf2,κg2,κh2,κi2,κj2,κk2,κl2,κm2,κn2,κo2,κp2,κq2,reduceCtorEq,κr2,κs2,κt2,κu2,κv2,κw2,κx2,κy2,κz2,κa3,eq_self,κb3,κc3,zL,rBool,rInt,PP,II,ge_iff_le,l1,u1,l2,u2]; rfl
          refine cond_ rfl (fun _ => ?_) (fun h => by cases h)
          refine seq_reg (σ' := ?_) ?_ ?_
          rotate_left
          · simp -implicitDefEqProofs only [r22_outside.r4,κa,κb,κc,κd,κe,κf,κg,κh,κi,κj,κk,κl,κm,κn,κo,κp,κq,κr,κs,κt,κu,κv,κw,κx,κy,κz,κa1,κb1,κc1,κd1,κe1,κf1,κg1,κh1,κi1,κj1,κk1,κl1,κm1,κn1,κo1,κp1,κq1,κr1,κs1,if_true,if_false,reduceIte,κt1,κu1,κv1,κw1,κx1,κy1,κz1,κa2,κb2,κc2,κd2,κe2,κf2,κg2,κh2,κi2,κj2,κk2,κl2,κm2,κn2,κo2,κp2,κq2,reduceCtorEq,κr2,κs2,κt2,κu2,κv2,κw2,κx2,κy2,κz2,κa3,eq_self,κb3,κc3,zL]; rfl
          exact ret_ ⟨.inl rfl,_,rfl,AVle.refl _⟩
        cases C with
        | false =>
          rw [show decide ((false = true ∧ decide (0 ≤ d ∧ d ≤ rg - 1) = false) ∨ (true = true ∧ decide (0 ≤ a ∧ a ≤ rg - 1) = false) ∨ (true = true ∧ decide (0 ≤ b ∧ b ≤ rg - 1) = false) ∨ (false = true ∧ decide (0 ≤ c ∧ c ≤ rg - 1) = false)) = false from decide_eq_false (by rintro (h | h | h | h) <;> first | (have h1 := h.1; cases h1; done) | (have h2 := of_decide_eq_false h.2; omega))]
          rw [Bool.false_or]
          refine seq_reg (σ' := ?_) ?_ ?_
          rotate_left
          · simp -implicitDefEqProofs only [r22_outside.r3,κa,κb,κc,κd,κe,κf,κg,κh,κi,κj,κk,κl,κm,κn,κo,κp,κq,κr,κs,κt,κu,κv,κw,κx,κy,κz,κa1,κb1,κc1,κd1,κe1,κf1,κg1,κh1,κi1,κj1,κk1,κl1,κm1,κn1,κo1,κp1,κq1,κr1,κs1,if_true,if_false,reduceIte,κt1,κu1,κv1,κw1,κx1,κy1,κz1,κa2,κb2,κc2,κd2,κe2,κf2,κg2,κh2,κi2,κj2,κk2,κl2,κm2,κn2,κo2,κp2,κq2,reduceCtorEq,κr2,κs2,κt2,κu2,κv2,κw2,κx2,κy2,κz2,κa3,eq_self,κb3,κc3,zL,rBool,rInt,PP,II,ge_iff_le,l1,u1,l2,u2]; rfl
          refine cond_ rfl (fun h => by cases h) (fun _ => skip_ ?_)
          exact norm_sub (sub1 _ rfl rfl rfl rfl rfl) rest
        | true =>
          by_cases l3 : c < 0
          · rw [show decide ((false = true ∧ decide (0 ≤ d ∧ d ≤ rg - 1) = false) ∨ (true = true ∧ decide (0 ≤ a ∧ a ≤ rg - 1) = false) ∨ (true = true ∧ decide (0 ≤ b ∧ b ≤ rg - 1) = false) ∨ (true = true ∧ decide (0 ≤ c ∧ c ≤ rg - 1) = false)) = true from decide_eq_true (.inr (.inr (.inr (⟨rfl,decide_eq_false (by omega)⟩))))]
            refine seq_reg (σ' := ?_) ?_ ?_
            rotate_left
            · simp -implicitDefEqProofs only [r22_outside.r3,κa,κb,κc,κd,κe,κf,κg,κh,κi,κj,κk,κl,κm,κn,κo,κp,κq,κr,κs,κt,κu,κv,κw,κx,κy,κz,κa1,κb1,κc1,κd1,κe1,κf1,κg1,κh1,κi1,κj1,κk1,κl1,κm1,κn1,κo1,κp1,κq1,κr1,κs1,if_true,if_false,reduceIte,κt1,κu1,κv1,κw1,κx1,κy1,κz1,κa2,κb2,κc2,κd2,κe2,κf2,κg2,κh2,κi2,κj2,κk2,κl2,κm2,κn2,κo2,κp2,κq2,reduceCtorEq,κr2,κs2,κt2,κu2,κv2,κw2,κx2,κy2,κz2,κa3,eq_self,κb3,κc3,zL,rBool,rInt,PP,II,ge_iff_le,l1,u1,l2,u2,l3]; rfl
            refine cond_ rfl (fun _ => ?_) (fun h => by cases h)
            refine seq_reg (σ' := ?_) ?_ ?_
            rotate_left
            · simp -implicitDefEqProofs only [r22_outside.r4,κa,κb,κc,κd,κe,κf,κg,κh,κi,κj,κk,κl,κm,κn,κo,κp,κq,κr,κs,κt,κu,κv,κw,κx,κy,κz,κa1,κb1,κc1,κd1,κe1,κf1,κg1,κh1,κi1,κj1,κk1,κl1,κm1,κn1,κo1,κp1,κq1,κr1,κs1,if_true,if_false,reduceIte,κt1,κu1,κv1,κw1,κx1,κy1,κz1,κa2,κb2,κc2,κd2,κe2,κf2,κg2,κh2,κi2,κj2,κk2,κl2,κm2,κn2,κo2,κp2,κq2,reduceCtorEq,κr2,κs2,κt2,κu2,κv2,κw2,κx2,κy2,κz2,κa3,eq_self,κb3,κc3,zL]; rfl
            exact ret_ ⟨.inl rfl,_,rfl,AVle.refl _⟩
          by_cases u3 : rg ≤ c
          · rw [show decide ((false = true ∧ decide (0 ≤ d ∧ d ≤ rg - 1) = false) ∨ (true = true ∧ decide (0 ≤ a ∧ a ≤ rg - 1) = false) ∨ (true = true ∧ decide (0 ≤ b ∧ b ≤ rg - 1) = false) ∨ (true = true ∧ decide (0 ≤ c ∧ c ≤ rg - 1) = false)) = true from decide_eq_true (.inr (.inr (.inr (⟨rfl,decide_eq_false (by omega)⟩))))]
            refine seq_reg (σ' := ?_) ?_ ?_
            rotate_left
            · simp -implicitDefEqProofs only [r22_outside.r3,κa,κb,κc,κd,κe,κf,κg,κh,κi,κj,κk,κl,κm,κn,κo,κp,κq,κr,κs,κt,κu,κv,κw,κx,κy,κz,κa1,κb1,κc1,κd1,κe1,κf1,κg1,κh1,κi1,κj1,κk1,κl1,κm1,κn1,κo1,κp1,κq1,κr1,κs1,if_true,if_false,reduceIte,κt1,κu1,κv1,κw1,κx1,κy1,κz1,κa2,κb2,κc2,κd2,κe2,κf2,κg2,κh2,κi2,κj2,κk2,κl2,κm2,κn2,κo2,κp2,κq2,reduceCtorEq,κr2,κs2,κt2,κu2,κv2,κw2,κx2,κy2,κz2,κa3,eq_self,κb3,κc3,zL,rBool,rInt,PP,II,ge_iff_le,l1,u1,l2,u2,l3,u3]; rfl
            refine cond_ rfl (fun _ => ?_) (fun h => by cases h)
            refine seq_reg (σ' := ?_) ?_ ?_
            rotate_left
            · simp -implicitDefEqProofs only [r22_outside.r4,κa,κb,κc,κd,κe,κf,κg,κh,κi,κj,κk,κl,κm,κn,κo,κp,κq,κr,κs,κt,κu,κv,κw,κx,κy,κz,κa1,κb1,κc1,κd1,κe1,κf1,κg1,κh1,κi1,κj1,κk1,κl1,κm1,κn1,κo1,κp1,κq1,κr1,κs1,if_true,if_false,reduceIte,κt1,κu1,κv1,κw1,κx1,κy1,κz1,κa2,κb2,κc2,κd2,κe2,κf2,κg2,κh2,κi2,κj2,κk2,κl2,κm2,κn2,κo2,κp2,κq2,reduceCtorEq,κr2,κs2,κt2,κu2,κv2,κw2,κx2,κy2,κz2,κa3,eq_self,κb3,κc3,zL]; rfl
            exact ret_ ⟨.inl rfl,_,rfl,AVle.refl _⟩
          rw [show decide ((false = true ∧ decide (0 ≤ d ∧ d ≤ rg - 1) = false) ∨ (true = true ∧ decide (0 ≤ a ∧ a ≤ rg - 1) = false) ∨ (true = true ∧ decide (0 ≤ b ∧ b ≤ rg - 1) = false) ∨ (true = true ∧ decide (0 ≤ c ∧ c ≤ rg - 1) = false)) = false from decide_eq_false (by rintro (h | h | h | h) <;> first | (have h1 := h.1; cases h1; done) | (have h2 := of_decide_eq_false h.2; omega))]
          rw [Bool.false_or]
          refine seq_reg (σ' := ?_) ?_ ?_
          rotate_left
          · simp -implicitDefEqProofs only [r22_outside.r3,κa,κb,κc,κd,κe,κf,κg,κh,κi,κj,κk,κl,κm,κn,κo,κp,κq,κr,κs,κt,κu,κv,κw,κx,κy,κz,κa1,κb1,κc1,κd1,κe1,κf1,κg1,κh1,κi1,κj1,κk1,κl1,κm1,κn1,κo1,κp1,κq1,κr1,κs1,if_true,if_false,reduceIte,κt1,κu1,κv1,κw1,κx1,κy1,κz1,κa2,κb2,κc2,κd2,κe2,κf2,κg2,κh2,κi2,κj2,κk2,κl2,κm2,κn2,κo2,κp2,κq2,reduceCtorEq,κr2,κs2,κt2,κu2,κv2,κw2,κx2,κy2,κz2,κa3,eq_self,κb3,κc3,zL,rBool,rInt,PP,II,ge_iff_le,l1,u1,l2,u2,l3,u3]; rfl
          refine cond_ rfl (fun h => by cases h) (fun _ => skip_ ?_)
          exact norm_sub (sub1 _ rfl rfl rfl rfl rfl) rest
  | true =>
    by_cases l0 : d < 0
    · rw [show decide ((true = true ∧ decide (0 ≤ d ∧ d ≤ rg - 1) = false) ∨ (A = true ∧ decide (0 ≤ a ∧ a ≤ rg - 1) = false) ∨ (B = true ∧ decide (0 ≤ b ∧ b ≤ rg - 1) = false) ∨ (C = true ∧ decide (0 ≤ c ∧ c ≤ rg - 1) = false)) = true from decide_eq_true (.inl ⟨rfl,decide_eq_false (by omega)⟩)]
      refine seq_reg (σ' := ?_) ?_ ?_
      rotate_left
      · simp -implicitDefEqProofs only [r22_outside.r3,κa,κb,κc,κd,κe,κf,κg,κh,κi,κj,κk,κl,κm,κn,κo,κp,κq,κr,κs,κt,κu,κv,κw,κx,κy,κz,κa1,κb1,κc1,κd1,κe1,κf1,κg1,κh1,κi1,κj1,κk1,κl1,κm1,κn1,κo1,κp1,κq1,κr1,κs1,if_true,if_false,reduceIte,κt1,κu1,κv1,κw1,κx1,κy1,κz1,κa2,κb2,κc2,κd2,κe2,κf2,κg2,κh2,κi2,κj2,κk2,κl2,κm2,κn2,κo2,κp2,κq2,reduceCtorEq,κr2,κs2,κt2,κu2,κv2,κw2,κx2,κy2,κz2,κa3,eq_self,κb3,κc3,zL,rBool,rInt,PP,II,ge_iff_le,l0]; rfl
      refine cond_ rfl (fun _ => ?_) (fun h => by cases h)
      refine seq_reg (σ' := ?_) ?_ ?_
      rotate_left
      · simp -implicitDefEqProofs only [r22_outside.r4,κa,κb,κc,κd,κe,κf,κg,κh,κi,κj,κk,κl,κm,κn,κo,κp,κq,κr,κs,κt,κu,κv,κw,κx,κy,κz,κa1,κb1,κc1,κd1,κe1,κf1,κg1,κh1,κi1,κj1,κk1,κl1,κm1,κn1,κo1,κp1,κq1,κr1,κs1,if_true,if_false,reduceIte,κt1,κu1,κv1,κw1,κx1,κy1,κz1,κa2,κb2,κc2,κd2,κe2,κf2,κg2,κh2,κi2,κj2,κk2,κl2,κm2,κn2,κo2,κp2,κq2,reduceCtorEq,κr2,κs2,κt2,κu2,κv2,κw2,κx2,κy2,κz2,κa3,eq_self,κb3,κc3,zL]; rfl
      exact ret_ ⟨.inl rfl,_,rfl,AVle.refl _⟩
    by_cases u0 : rg ≤ d
    · rw [show decide ((true = true ∧ decide (0 ≤ d ∧ d ≤ rg - 1) = false) ∨ (A = true ∧ decide (0 ≤ a ∧ a ≤ rg - 1) = false) ∨ (B = true ∧ decide (0 ≤ b ∧ b ≤ rg - 1) = false) ∨ (C = true ∧ decide (0 ≤ c ∧ c ≤ rg - 1) = false)) = true from decide_eq_true (.inl ⟨rfl,decide_eq_false (by omega)⟩)]
      refine seq_reg (σ' := ?_) ?_ ?_
      rotate_left
      · simp -implicitDefEqProofs only [r22_outside.r3,κa,κb,κc,κd,κe,κf,κg,κh,κi,κj,κk,κl,κm,κn,κo,κp,κq,κr,κs,κt,κu,κv,κw,κx,κy,κz,κa1,κb1,κc1,κd1,κe1,κf1,κg1,κh1,κi1,κj1,κk1,κl1,κm1,κn1,κo1,κp1,κq1,κr1,κs1,if_true,if_false,reduceIte,κt1,κu1,κv1,κw1,κx1,κy1,κz1,κa2,κb2,κc2,κd2,κe2,κf2,κg2,κh2,κi2,κj2,κk2,κl2,κm2,κn2,κo2,κp2,κq2,reduceCtorEq,κr2,κs2,κt2,κu2,κv2,κw2,κx2,κy2,κz2,κa3,eq_self,κb3,κc3,zL,rBool,rInt,PP,II,ge_iff_le,l0,u0]; rfl
      refine cond_ rfl (fun _ => ?_) (fun h => by cases h)
      refine seq_reg (σ' := ?_) ?_ ?_
      rotate_left
      · simp -implicitDefEqProofs only [r22_outside.r4,κa,κb,κc,κd,κe,κf,κg,κh,κi,κj,κk,κl,κm,κn,κo,κp,κq,κr,κs,κt,κu,κv,κw,κx,κy,κz,κa1,κb1,κc1,κd1,κe1,κf1,κg1,κh1,κi1,κj1,κk1,κl1,κm1,κn1,κo1,κp1,κq1,κr1,κs1,if_true,if_false,reduceIte,κt1,κu1,κv1,κw1,κx1,κy1,κz1,κa2,κb2,κc2,κd2,κe2,κf2,κg2,κh2,κi2,κj2,κk2,κl2,κm2,κn2,κo2,κp2,κq2,reduceCtorEq,κr2,κs2,κt2,κu2,κv2,κw2,κx2,κy2,κz2,κa3,eq_self,κb3,κc3,zL]; rfl
      exact ret_ ⟨.inl rfl,_,rfl,AVle.refl _⟩
    cases A with
    | false =>
      cases B with
      | false =>
        cases C with
        | false =>
          rw [show decide ((true = true ∧ decide (0 ≤ d ∧ d ≤ rg - 1) = false) ∨ (false = true ∧ decide (0 ≤ a ∧ a ≤ rg - 1) = false) ∨ (false = true ∧ decide (0 ≤ b ∧ b ≤ rg - 1) = false) ∨ (false = true ∧ decide (0 ≤ c ∧ c ≤ rg - 1) = false)) = false from decide_eq_false (by rintro (h | h | h | h) <;> first | (have h1 := h.1; cases h1; done) | (have h2 := of_decide_eq_false h.2; omega))]
          rw [Bool.false_or]
          refine seq_reg (σ' := ?_) ?_ ?_
          rotate_left
          · simp -implicitDefEqProofs only [r22_outside.r3,κa,κb,κc,κd,κe,κf,κg,κh,κi,κj,κk,κl,κm,κn,κo,κp,κq,κr,κs,κt,κu,κv,κw,κx,κy,κz,κa1,κb1,κc1,κd1,κe1,κf1,κg1,κh1,κi1,κj1,κk1,κl1,κm1,κn1,κo1,κp1,κq1,κr1,κs1,if_true,if_false,reduceIte,κt1,κu1,κv1,κw1,κx1,κy1,κz1,κa2,κb2,κc2,κd2,κe2,κf2,κg2,κh2,κi2,κj2,κk2,κl2,κm2,κn2,κo2,κp2,κq2,reduceCtorEq,κr2,κs2,κt2,κu2,κv2,κw2,κx2,κy2,κz2,κa3,eq_self,κb3,κc3,zL,rBool,rInt,PP,II,ge_iff_le,l0,u0]; rfl
          refine cond_ rfl (fun h => by cases h) (fun _ => skip_ ?_)
          exact norm_sub (sub1 _ rfl rfl rfl rfl rfl) rest
        | true =>
          by_cases l3 : c < 0
          · rw [show decide ((true = true ∧ decide (0 ≤ d ∧ d ≤ rg - 1) = false) ∨ (false = true ∧ decide (0 ≤ a ∧ a ≤ rg - 1) = false) ∨ (false = true ∧ decide (0 ≤ b ∧ b ≤ rg - 1) = false) ∨ (true = true ∧ decide (0 ≤ c ∧ c ≤ rg - 1) = false)) = true from decide_eq_true (.inr (.inr (.inr (⟨rfl,decide_eq_false (by omega)⟩))))]
            refine seq_reg (σ' := ?_) ?_ ?_
            rotate_left
            · simp -implicitDefEqProofs only [r22_outside.r3,κa,κb,κc,κd,κe,κf,κg,κh,κi,κj,κk,κl,κm,κn,κo,κp,κq,κr,κs,κt,κu,κv,κw,κx,κy,κz,κa1,κb1,κc1,κd1,κe1,κf1,κg1,κh1,κi1,κj1,κk1,κl1,κm1,κn1,κo1,κp1,κq1,κr1,κs1,if_true,if_false,reduceIte,κt1,κu1,κv1,κw1,κx1,κy1,κz1,κa2,κb2,κc2,κd2,κe2,κf2,κg2,κh2,κi2,κj2,κk2,κl2,κm2,κn2,κo2,κp2,κq2,reduceCtorEq,κr2,κs2,κt2,κu2,κv2,κw2,κx2,κy2,κz2,κa3,eq_self,κb3,κc3,zL,rBool,rInt,PP,II,ge_iff_le,l0,u0,l3]; rfl
            refine cond_ rfl (fun _ => ?_) (fun h => by cases h)
            refine seq_reg (σ' := ?_) ?_ ?_
            rotate_left
            · simp -implicitDefEqProofs only [r22_outside.r4,κa,κb,κc,κd,κe,κf,κg,κh,κi,κj,κk,κl,κm,κn,κo,κp,κq,κr,κs,κt,κu,κv,κw,κx,κy,κz,κa1,κb1,κc1,κd1,κe1,κf1,κg1,κh1,κi1,κj1,κk1,κl1,κm1,κn1,κo1,κp1,κq1,κr1,κs1,if_true,if_false,reduceIte,κt1,κu1,κv1,κw1,κx1,κy1,κz1,κa2,κb2,κc2,κd2,κe2,κf2,κg2,κh2,κi2,κj2,κk2,κl2,κm2,κn2,κo2,κp2,κq2,reduceCtorEq,κr2,κs2,κt2,κu2,κv2,κw2,κx2,κy2,κz2,κa3,eq_self,κb3,κc3,zL]; rfl
            exact ret_ ⟨.inl rfl,_,rfl,AVle.refl _⟩
          by_cases u3 : rg ≤ c
          · rw [show decide ((true = true ∧ decide (0 ≤ d ∧ d ≤ rg - 1) = false) ∨ (false = true ∧ decide (0 ≤ a ∧ a ≤ rg - 1) = false) ∨ (false = true ∧ decide (0 ≤ b ∧ b ≤ rg - 1) = false) ∨ (true = true ∧ decide (0 ≤ c ∧ c ≤ rg - 1) = false)) = true from decide_eq_true (.inr (.inr (.inr (⟨rfl,decide_eq_false (by omega)⟩))))]
            refine seq_reg (σ' := ?_) ?_ ?_
            rotate_left
            · simp -implicitDefEqProofs only [r22_outside.r3,κa,κb,κc,κd,κe,κf,κg,κh,κi,κj,κk,κl,κm,κn,κo,κp,κq,κr,κs,κt,κu,κv,κw,κx,κy,κz,κa1,κb1,κc1,κd1,κe1,κf1,κg1,κh1,κi1,κj1,κk1,κl1,κm1,κn1,κo1,κp1,κq1,κr1,κs1,if_true,if_false,reduceIte,κt1,κu1,κv1,κw1,κx1,κy1,κz1,κa2,κb2,κc2,κd2,κe2,κf2,κg2,κh2,κi2,κj2,κk2,κl2,κm2,κn2,κo2,κp2,κq2,reduceCtorEq,κr2,κs2,κt2,κu2,κv2,κw2,κx2,κy2,κz2,κa3,eq_self,κb3,κc3,zL,rBool,rInt,PP,II,ge_iff_le,l0,u0,l3,u3]; rfl
            refine cond_ rfl (fun _ => ?_) (fun h => by cases h)
            refine seq_reg (σ' := ?_) ?_ ?_
            rotate_left
            · simp -implicitDefEqProofs only [r22_outside.r4,κa,κb,κc,κd,κe,κf,κg,κh,κi,κj,κk,κl,κm,κn,κo,κp,κq,κr,κs,κt,κu,κv,κw,κx,κy,κz,κa1,κb1,κc1,κd1,κe1,κf1,κg1,κh1,κi1,κj1,κk1,κl1,κm1,κn1,κo1,κp1,κq1,κr1,κs1,if_true,if_false,reduceIte,κt1,κu1,κv1,κw1,κx1,κy1,κz1,κa2,κb2,κc2,κd2,κe2,κf2,κg2,κh2,κi2,κj2,κk2,κl2,κm2,κn2,κo2,κp2,κq2,reduceCtorEq,κr2,κs2,κt2,κu2,κv2,κw2,κx2,κy2,κz2,κa3,eq_self,κb3,κc3,zL]; rfl
            exact ret_ ⟨.inl rfl,_,rfl,AVle.refl _⟩
          rw [show decide ((true = true ∧ decide (0 ≤ d ∧ d ≤ rg - 1) = false) ∨ (false = true ∧ decide (0 ≤ a ∧ a ≤ rg - 1) = false) ∨ (false = true ∧ decide (0 ≤ b ∧ b ≤ rg - 1) = false) ∨ (true = true ∧ decide (0 ≤ c ∧ c ≤ rg - 1) = false)) = false from decide_eq_false (by rintro (h | h | h | h) <;> first | (have h1 := h.1; cases h1; done) | (have h2 := of_decide_eq_false h.2; omega))]
          rw [Bool.false_or]
          refine seq_reg (σ' := ?_) ?_ ?_
          rotate_left
          · simp -implicitDefEqProofs only [r22_outside.r3,κa,κb,κc,κd,κe,κf,κg,κh,κi,κj,κk,κl,κm,κn,κo,κp,κq,κr,κs,κt,κu,κv,κw,κx,κy,κz,κa1,κb1,κc1,κd1,κe1,κf1,κg1,κh1,κi1,κj1,κk1,κl1,κm1,κn1,κo1,κp1,κq1,κr1,κs1,if_true,if_false,reduceIte,κt1,κu1,κv1,κw1,κx1,κy1,κz1,κa2,κb2,κc2,κd2,κe2,κf2,κg2,κh2,κi2,κj2,κk2,κl2,κm2,κn2,κo2,κp2,κq2,reduceCtorEq,κr2,κs2,κt2,κu2,κv2,κw2,κx2,κy2,κz2,κa3,eq_self,κb3,κc3,zL,rBool,rInt,PP,II,ge_iff_le,l0,u0,l3,u3]; rfl
          refine cond_ rfl (fun h => by cases h) (fun _ => skip_ ?_)
          exact norm_sub (sub1 _ rfl rfl rfl rfl rfl) rest
      | true =>
        by_cases l2 : b < 0
        · rw [show decide ((true = true ∧ decide (0 ≤ d ∧ d ≤ rg - 1) = false) ∨ (false = true ∧ decide (0 ≤ a ∧ a ≤ rg - 1) = false) ∨ (true = true ∧ decide (0 ≤ b ∧ b ≤ rg - 1) = false) ∨ (C = true ∧ decide (0 ≤ c ∧ c ≤ rg - 1) = false)) = true from decide_eq_true (.inr (.inr (.inl ⟨rfl,decide_eq_false (by omega)⟩)))]
          refine seq_reg (σ' := ?_) ?_ ?_
          rotate_left
          · simp -implicitDefEqProofs only [r22_outside.r3,κa,κb,κc,κd,κe,κf,κg,κh,κi,κj,κk,κl,κm,κn,κo,κp,κq,κr,κs,κt,κu,κv,κw,κx,κy,κz,κa1,κb1,κc1,κd1,κe1,κf1,κg1,κh1,κi1,κj1,κk1,κl1,κm1,κn1,κo1,κp1,κq1,κr1,κs1,if_true,if_false,reduceIte,κt1,κu1,κv1,κw1,κx1,κy1,κz1,κa2,κb2,κc2,κd2,κe2,κf2,κg2,κh2,κi2,κj2,κk2,κl2,κm2,κn2,κo2,κp2,κq2,reduceCtorEq,κr2,κs2,κt2,κu2,κv2,κw2,κx2,κy2,κz2,κa3,eq_self,κb3,κc3,zL,rBool,rInt,PP,II,ge_iff_le,l0,u0,l2]; rfl
          refine cond_ rfl (fun _ => ?_) (fun h => by cases h)
          refine seq_reg (σ' := ?_) ?_ ?_
          rotate_left
          · simp -implicitDefEqProofs only [r22_outside.r4,κa,κb,κc,κd,κe,κf,κg,κh,κi,κj,κk,κl,κm,κn,κo,κp,κq,κr,κs,κt,κu,κv,κw,κx,κy,κz,κa1,κb1,κc1,κd1,κe1,κf1,κg1,κh1,κi1,κj1,κk1,κl1,κm1,κn1,κo1,κp1,κq1,κr1,κs1,if_true,if_false,reduceIte,κt1,κu1,κv1,κw1,κx1,κy1,κz1,κa2,κb2,κc2,κd2,κe2,κf2,κg2,κh2,κi2,κj2,κk2,κl2,κm2,κn2,κo2,κp2,κq2,reduceCtorEq,κr2,κs2,κt2,κu2,κv2,κw2,κx2,κy2,κz2,κa3,eq_self,κb3,κc3,zL]; rfl
          exact ret_ ⟨.inl rfl,_,rfl,AVle.refl _⟩
        by_cases u2 : rg ≤ b
        · rw [show decide ((true = true ∧ decide (0 ≤ d ∧ d ≤ rg - 1) = false) ∨ (false = true ∧ decide (0 ≤ a ∧ a ≤ rg - 1) = false) ∨ (true = true ∧ decide (0 ≤ b ∧ b ≤ rg - 1) = false) ∨ (C = true ∧ decide (0 ≤ c ∧ c ≤ rg - 1) = false)) = true from decide_eq_true (.inr (.inr (.inl ⟨rfl,decide_eq_false (by omega)⟩)))]
          refine seq_reg (σ' := ?_) ?_ ?_
          rotate_left
          · simp -implicitDefEqProofs only [r22_outside.r3,κa,κb,κc,κd,κe,κf,κg,κh,κi,κj,κk,κl,κm,κn,κo,κp,κq,κr,κs,κt,κu,κv,κw,κx,κy,κz,κa1,κb1,κc1,κd1,κe1,κf1,κg1,κh1,κi1,κj1,κk1,κl1,κm1,κn1,κo1,κp1,κq1,κr1,κs1,if_true,if_false,reduceIte,κt1,κu1,κv1,κw1,κx1,κy1,κz1,κa2,κb2,κc2,κd2,κe2,κf2,κg2,κh2,κi2,κj2,κk2,κl2,κm2,κn2,κo2,κp2,κq2,reduceCtorEq,κr2,κs2,κt2,κu2,κv2,κw2,κx2,κy2,κz2,κa3,eq_self,κb3,κc3,zL,rBool,rInt,PP,II,ge_iff_le,l0,u0,l2,u2]; rfl
          refine cond_ rfl (fun _ => ?_) (fun h => by cases h)
          refine seq_reg (σ' := ?_) ?_ ?_
          rotate_left
          · simp -implicitDefEqProofs only [r22_outside.r4,κa,κb,κc,κd,κe,κf,κg,κh,κi,κj,κk,κl,κm,κn,κo,κp,κq,κr,κs,κt,κu,κv,κw,κx,κy,κz,κa1,κb1,κc1,κd1,κe1,κf1,κg1,κh1,κi1,κj1,κk1,κl1,κm1,κn1,κo1,κp1,κq1,κr1,κs1,if_true,if_false,reduceIte,κt1,κu1,κv1,κw1,κx1,κy1,κz1,κa2,κb2,κc2,κd2,κe2,κf2,κg2,κh2,κi2,κj2,κk2,κl2,κm2,κn2,κo2,κp2,κq2,reduceCtorEq,κr2,κs2,κt2,κu2,κv2,κw2,κx2,κy2,κz2,κa3,eq_self,κb3,κc3,zL]; rfl
          exact ret_ ⟨.inl rfl,_,rfl,AVle.refl _⟩
        cases C with
        | false =>
          rw [show decide ((true = true ∧ decide (0 ≤ d ∧ d ≤ rg - 1) = false) ∨ (false = true ∧ decide (0 ≤ a ∧ a ≤ rg - 1) = false) ∨ (true = true ∧ decide (0 ≤ b ∧ b ≤ rg - 1) = false) ∨ (false = true ∧ decide (0 ≤ c ∧ c ≤ rg - 1) = false)) = false from decide_eq_false (by rintro (h | h | h | h) <;> first | (have h1 := h.1; cases h1; done) | (have h2 := of_decide_eq_false h.2; omega))]
          rw [Bool.false_or]
          refine seq_reg (σ' := ?_) ?_ ?_
          rotate_left
          · simp -implicitDefEqProofs only [r22_outside.r3,κa,κb,κc,κd,κe,κf,κg,κh,κi,κj,κk,κl,κm,κn,κo,κp,κq,κr,κs,κt,κu,κv,κw,κx,κy,κz,κa1,κb1,κc1,κd1,κe1,κf1,κg1,κh1,κi1,κj1,κk1,κl1,κm1,κn1,κo1,κp1,κq1,κr1,κs1,if_true,if_false,reduceIte,κt1,κu1,κv1,κw1,κx1,κy1,κz1,κa2,κb2,κc2,κd2,κe2,κf2,κg2,κh2,κi2,κj2,κk2,κl2,κm2,κn2,κo2,κp2,κq2,reduceCtorEq,κr2,κs2,κt2,κu2,κv2,κw2,κx2,κy2,κz2,κa3,eq_self,κb3,κc3,zL,rBool,rInt,PP,II,ge_iff_le,l0,u0,l2,u2]; rfl
          refine cond_ rfl (fun h => by cases h) (fun _ => skip_ ?_)
          exact norm_sub (sub1 _ rfl rfl rfl rfl rfl) rest
        | true =>
          by_cases l3 : c < 0
          · rw [show decide ((true = true ∧ decide (0 ≤ d ∧ d ≤ rg - 1) = false) ∨ (false = true ∧ decide (0 ≤ a ∧ a ≤ rg - 1) = false) ∨ (true = true ∧ decide (0 ≤ b ∧ b ≤ rg - 1) = false) ∨ (true = true ∧ decide (0 ≤ c ∧ c ≤ rg - 1) = false)) = true from decide_eq_true (.inr (.inr (.inr (⟨rfl,decide_eq_false (by omega)⟩))))]
            refine seq_reg (σ' := ?_) ?_ ?_
            rotate_left
            · simp -implicitDefEqProofs only [r22_outside.r3,κa,κb,κc,κd,κe,κf,κg,κh,κi,κj,κk,κl,κm,κn,κo,κp,κq,κr,κs,κt,κu,κv,κw,κx,κy,κz,κa1,κb1,κc1,κd1,κe1,κf1,κg1,κh1,κi1,κj1,κk1,κl1,κm1,κn1,κo1,κp1,κq1,κr1,κs1,if_true,if_false,reduceIte,κt1,κu1,κv1,κw1,κx1,κy1,κz1,κa2,κb2,κc2,κd2,κe2,κf2,κg2,κh2,κi2,κj2,κk2,κl2,κm2,κn2,κo2,κp2,κq2,reduceCtorEq,κr2,κs2,κt2,κu2,κv2,κw2,κx2,κy2,κz2,κa3,eq_self,κb3,κc3,zL,rBool,rInt,PP,II,ge_iff_le,l0,u0,l2,u2,l3]; rfl
            refine cond_ rfl (fun _ => ?_) (fun h => by cases h)
            refine seq_reg (σ' := ?_) ?_ ?_
            rotate_left
            · simp -implicitDefEqProofs only [r22_outside.r4,κa,κb,κc,κd,κe,κf,κg,κh,κi,κj,κk,κl,κm,κn,κo,κp,κq,κr,κs,κt,κu,κv,κw,κx,κy,κz,κa1,κb1,κc1,κd1,κe1,κf1,κg1,κh1,κi1,κj1,κk1,κl1,κm1,κn1,κo1,κp1,κq1,κr1,κs1,if_true,if_false,reduceIte,κt1,κu1,κv1,κw1,κx1,κy1,κz1,κa2,κb2,κc2,κd2,κe2,κf2,κg2,κh2,κi2,κj2,κk2,κl2,κm2,κn2,κo2,κp2,κq2,reduceCtorEq,κr2,κs2,κt2,κu2,κv2,κw2,κx2,κy2,κz2,κa3,eq_self,κb3,κc3,zL]; rfl
            exact ret_ ⟨.inl rfl,_,rfl,AVle.refl _⟩
          by_cases u3 : rg ≤ c
          · rw [show decide ((true = true ∧ decide (0 ≤ d ∧ d ≤ rg - 1) = false) ∨ (false = true ∧ decide (0 ≤ a ∧ a ≤ rg - 1) = false) ∨ (true = true ∧ decide (0 ≤ b ∧ b ≤ rg - 1) = false) ∨ (true = true ∧ decide (0 ≤ c ∧ c ≤ rg - 1) = false)) = true from decide_eq_true (.inr (.inr (.inr (⟨rfl,decide_eq_false (by omega)⟩))))]
            refine seq_reg (σ' := ?_) ?_ ?_
            rotate_left
            · simp -implicitDefEqProofs only [r22_outside.r3,κa,κb,κc,κd,κe,κf,κg,κh,κi,κj,κk,κl,κm,κn,κo,κp,κq,κr,κs,κt,κu,κv,κw,κx,κy,κz,κa1,κb1,κc1,κd1,κe1,κf1,κg1,κh1,κi1,κj1,κk1,κl1,κm1,κn1,κo1,κp1,κq1,κr1,κs1,if_true,if_false,reduceIte,κt1,κu1,κv1,κw1,κx1,κy1,κz1,κa2,κb2,κc2,κd2,κe2,κf2,κg2,κh2,κi2,κj2,κk2,κl2,κm2,κn2,κo2,κp2,κq2,reduceCtorEq,κr2,κs2,κt2,κu2,κv2,κw2,κx2,κy2,κz2,κa3,eq_self,κb3,κc3,zL,rBool,rInt,PP,II,ge_iff_le,l0,u0,l2,u2,l3,u3]; rfl
            refine cond_ rfl (fun _ => ?_) (fun h => by cases h)
            refine seq_reg (σ' := ?_) ?_ ?_
            rotate_left
            · simp -implicitDefEqProofs only [r22_outside.r4,κa,κb,κc,κd,κe,κf,κg,κh,κi,κj,κk,κl,κm,κn,κo,κp,κq,κr,κs,κt,κu,κv,κw,κx,κy,κz,κa1,κb1,κc1,κd1,κe1,κf1,κg1,κh1,κi1,κj1,κk1,κl1,κm1,κn1,κo1,κp1,κq1,κr1,κs1,if_true,if_false,reduceIte,κt1,κu1,κv1,κw1,κx1,κy1,κz1,κa2,κb2,κc2,κd2,κe2,κf2,κg2,κh2,κi2,κj2,κk2,κl2,κm2,κn2,κo2,κp2,κq2,reduceCtorEq,κr2,κs2,κt2,κu2,κv2,κw2,κx2,κy2,κz2,κa3,eq_self,κb3,κc3,zL]; rfl
            exact ret_ ⟨.inl rfl,_,rfl,AVle.refl _⟩
          rw [show decide ((true = true ∧ decide (0 ≤ d ∧ d ≤ rg - 1) = false) ∨ (false = true ∧ decide (0 ≤ a ∧ a ≤ rg - 1) = false) ∨ (true = true ∧ decide (0 ≤ b ∧ b ≤ rg - 1) = false) ∨ (true = true ∧ decide (0 ≤ c ∧ c ≤ rg - 1) = false)) = false from decide_eq_false (by rintro (h | h | h | h) <;> first | (have h1 := h.1; cases h1; done) | (have h2 := of_decide_eq_false h.2; omega))]
          rw [Bool.false_or]
          refine seq_reg (σ' := ?_) ?_ ?_
          rotate_left
          · simp -implicitDefEqProofs only [r22_outside.r3,κa,κb,κc,κd,κe,κf,κg,κh,κi,κj,κk,κl,κm,κn,κo,κp,κq,κr,κs,κt,κu,κv,κw,κx,κy,κz,κa1,κb1,κc1,κd1,κe1,κf1,κg1,κh1,κi1,κj1,κk1,κl1,κm1,κn1,κo1,κp1,κq1,κr1,κs1,if_true,if_false,reduceIte,κt1,κu1,κv1,κw1,κx1,κy1,κz1,κa2,κb2,κc2,κd2,κe2,κf2,κg2,κh2,κi2,κj2,κk2,κl2,κm2,κn2,κo2,κp2,κq2,reduceCtorEq,κr2,κs2,κt2,κu2,κv2,κw2,κx2,κy2,κz2,κa3,eq_self,κb3,κc3,zL,rBool,rInt,PP,II,ge_iff_le,l0,u0,l2,u2,l3,u3]; rfl
          refine cond_ rfl (fun h => by cases h) (fun _ => skip_ ?_)
          exact norm_sub (sub1 _ rfl rfl rfl rfl rfl) rest
    | true =>
      by_cases l1 : a < 0
      · rw [show decide ((true = true ∧ decide (0 ≤ d ∧ d ≤ rg - 1) = false) ∨ (true = true ∧ decide (0 ≤ a ∧ a ≤ rg - 1) = false) ∨ (B = true ∧ decide (0 ≤ b ∧ b ≤ rg - 1) = false) ∨ (C = true ∧ decide (0 ≤ c ∧ c ≤ rg - 1) = false)) = true from decide_eq_true (.inr (.inl ⟨rfl,decide_eq_false (by omega)⟩))]
        refine seq_reg (σ' := ?_) ?_ ?_
        rotate_left
        · simp -implicitDefEqProofs only [r22_outside.r3,κa,κb,κc,κd,κe,κf,κg,κh,κi,κj,κk,κl,κm,κn,κo,κp,κq,κr,κs,κt,κu,κv,κw,κx,κy,κz,κa1,κb1,κc1,κd1,κe1,κf1,κg1,κh1,κi1,κj1,κk1,κl1,κm1,κn1,κo1,κp1,κq1,κr1,κs1,if_true,if_false,reduceIte,κt1,κu1,κv1,κw1,κx1,κy1,κz1,κa2,κb2,κc2,κd2,κe2,κf2,κg2,κh2,κi2,κj2,κk2,κl2,κm2,κn2,κo2,κp2,κq2,reduceCtorEq,κr2,κs2,κt2,κu2,κv2,κw2,κx2,κy2,κz2,κa3,eq_self,κb3,κc3,zL,rBool,rInt,PP,II,ge_iff_le,l0,u0,l1]; rfl
        refine cond_ rfl (fun _ => ?_) (fun h => by cases h)
        refine seq_reg (σ' := ?_) ?_ ?_
        rotate_left
        · simp -implicitDefEqProofs only [r22_outside.r4,κa,κb,κc,κd,κe,κf,κg,κh,κi,κj,κk,κl,κm,κn,κo,κp,κq,κr,κs,κt,κu,κv,κw,κx,κy,κz,κa1,κb1,κc1,κd1,κe1,κf1,κg1,κh1,κi1,κj1,κk1,κl1,κm1,κn1,κo1,κp1,κq1,κr1,κs1,if_true,if_false,reduceIte,κt1,κu1,κv1,κw1,κx1,κy1,κz1,κa2,κb2,κc2,κd2,κe2,κf2,κg2,κh2,κi2,κj2,κk2,κl2,κm2,κn2,κo2,κp2,κq2,reduceCtorEq,κr2,κs2,κt2,κu2,κv2,κw2,κx2,κy2,κz2,κa3,eq_self,κb3,κc3,zL]; rfl
        exact ret_ ⟨.inl rfl,_,rfl,AVle.refl _⟩
      by_cases u1 : rg ≤ a
      · rw [show decide ((true = true ∧ decide (0 ≤ d ∧ d ≤ rg - 1) = false) ∨ (true = true ∧ decide (0 ≤ a ∧ a ≤ rg - 1) = false) ∨ (B = true ∧ decide (0 ≤ b ∧ b ≤ rg - 1) = false) ∨ (C = true ∧ decide (0 ≤ c ∧ c ≤ rg - 1) = false)) = true from decide_eq_true (.inr (.inl ⟨rfl,decide_eq_false (by omega)⟩))]
        refine seq_reg (σ' := ?_) ?_ ?_
        rotate_left
        · simp -implicitDefEqProofs only [r22_outside.r3,κa,κb,κc,κd,κe,κf,κg,κh,κi,κj,κk,κl,κm,κn,κo,κp,κq,κr,κs,κt,κu,κv,κw,κx,κy,κz,κa1,κb1,κc1,κd1,κe1,κf1,κg1,κh1,κi1,κj1,κk1,κl1,κm1,κn1,κo1,κp1,κq1,κr1,κs1,if_true,if_false,reduceIte,κt1,κu1,κv1,κw1,κx1,κy1,κz1,κa2,κb2,κc2,κd2,κe2,κf2,κg2,κh2,κi2,κj2,κk2,κl2,κm2,κn2,κo2,κp2,κq2,reduceCtorEq,κr2,κs2,κt2,κu2,κv2,κw2,κx2,κy2,κz2,κa3,eq_self,κb3,κc3,zL,rBool,rInt,PP,II,ge_iff_le,l0,u0,l1,u1]; rfl
        refine cond_ rfl (fun _ => ?_) (fun h => by cases h)
        refine seq_reg (σ' := ?_) ?_ ?_
        rotate_left
        · simp -implicitDefEqProofs only [r22_outside.r4,κa,κb,κc,κd,κe,κf,κg,κh,κi,κj,κk,κl,κm,κn,κo,κp,κq,κr,κs,κt,κu,κv,κw,κx,κy,κz,κa1,κb1,κc1,κd1,κe1,κf1,κg1,κh1,κi1,κj1,κk1,κl1,κm1,κn1,κo1,κp1,κq1,κr1,κs1,if_true,if_false,reduceIte,κt1,κu1,κv1,κw1,κx1,κy1,κz1,κa2,κb2,κc2,κd2,κe2,κf2,κg2,κh2,κi2,κj2,κk2,κl2,κm2,κn2,κo2,κp2,κq2,reduceCtorEq,κr2,κs2,κt2,κu2,κv2,κw2,κx2,κy2,κz2,κa3,eq_self,κb3,κc3,zL]; rfl
        exact ret_ ⟨.inl rfl,_,rfl,AVle.refl _⟩
      cases B with
      | false =>
        cases C with
        | false =>
          rw [show decide ((true = true ∧ decide (0 ≤ d ∧ d ≤ rg - 1) = false) ∨ (true = true ∧ decide (0 ≤ a ∧ a ≤ rg - 1) = false) ∨ (false = true ∧ decide (0 ≤ b ∧ b ≤ rg - 1) = false) ∨ (false = true ∧ decide (0 ≤ c ∧ c ≤ rg - 1) = false)) = false from decide_eq_false (by rintro (h | h | h | h) <;> first | (have h1 := h.1; cases h1; done) | (have h2 := of_decide_eq_false h.2; omega))]
          rw [Bool.false_or]
          refine seq_reg (σ' := ?_) ?_ ?_
          rotate_left
          · simp -implicitDefEqProofs only [r22_outside.r3,κa,κb,κc,κd,κe,κf,κg,κh,κi,κj,κk,κl,κm,κn,κo,κp,κq,κr,κs,κt,κu,κv,κw,κx,κy,κz,κa1,κb1,κc1,κd1,κe1,κf1,κg1,κh1,κi1,κj1,κk1,κl1,κm1,κn1,κo1,κp1,κq1,κr1,κs1,if_true,if_false,reduceIte,κt1,κu1,κv1,κw1,κx1,κy1,κz1,κa2,κb2,κc2,κd2,κe2,κf2,κg2,κh2,κi2,κj2,κk2,κl2,κm2,κn2,κo2,κp2,κq2,reduceCtorEq,κr2,κs2,κt2,κu2,κv2,κw2,κx2,κy2,κz2,κa3,eq_self,κb3,κc3,zL,rBool,rInt,PP,II,ge_iff_le,l0,u0,l1,u1]; rfl
          refine cond_ rfl (fun h => by cases h) (fun _ => skip_ ?_)
          exact norm_sub (sub1 _ rfl rfl rfl rfl rfl) rest
        | true =>
          by_cases l3 : c < 0
          · rw [show decide ((true = true ∧ decide (0 ≤ d ∧ d ≤ rg - 1) = false) ∨ (true = true ∧ decide (0 ≤ a ∧ a ≤ rg - 1) = false) ∨ (false = true ∧ decide (0 ≤ b ∧ b ≤ rg - 1) = false) ∨ (true = true ∧ decide (0 ≤ c ∧ c ≤ rg - 1) = false)) = true from decide_eq_true (.inr (.inr (.inr (⟨rfl,decide_eq_false (by omega)⟩))))]
            refine seq_reg (σ' := ?_) ?_ ?_
            rotate_left
            · simp -implicitDefEqProofs only [r22_outside.r3,κa,κb,κc,κd,κe,κf,κg,κh,κi,κj,κk,κl,κm,κn,κo,κp,κq,κr,κs,κt,κu,κv,κw,κx,κy,κz,κa1,κb1,κc1,κd1,κe1,κf1,κg1,κh1,κi1,κj1,κk1,κl1,κm1,κn1,κo1,κp1,κq1,κr1,κs1,if_true,if_false,reduceIte,κt1,κu1,κv1,κw1,κx1,κy1,κz1,κa2,κb2,κc2,κd2,κe2,κf2,κg2,κh2,κi2,κj2,κk2,κl2,κm2,κn2,κo2,κp2,κq2,reduceCtorEq,κr2,κs2,κt2,κu2,κv2,κw2,κx2,κy2,κz2,κa3,eq_self,κb3,κc3,zL,rBool,rInt,PP,II,ge_iff_le,l0,u0,l1,u1,l3]; rfl
            refine cond_ rfl (fun _ => ?_) (fun h => by cases h)
            refine seq_reg (σ' := ?_) ?_ ?_
            rotate_left
            · simp -implicitDefEqProofs only [r22_outside.r4,κa,κb,κc,κd,κe,κf,κg,κh,κi,κj,κk,κl,κm,κn,κo,κp,κq,κr,κs,κt,κu,κv,κw,κx,κy,κz,κa1,κb1,κc1,κd1,κe1,κf1,κg1,κh1,κi1,κj1,κk1,κl1,κm1,κn1,κo1,κp1,κq1,κr1,κs1,if_true,if_false,reduceIte,κt1,κu1,κv1,κw1,κx1,κy1,κz1,κa2,κb2,κc2,κd2,κe2,κf2,κg2,κh2,κi2,κj2,κk2,κl2,κm2,κn2,κo2,κp2,κq2,reduceCtorEq,κr2,κs2,κt2,κu2,κv2,κw2,κx2,κy2,κz2,κa3,eq_self,κb3,κc3,zL]; rfl
            exact ret_ ⟨.inl rfl,_,rfl,AVle.refl _⟩
          by_cases u3 : rg ≤ c
          · rw [show decide ((true = true ∧ decide (0 ≤ d ∧ d ≤ rg - 1) = false) ∨ (true = true ∧ decide (0 ≤ a ∧ a ≤ rg - 1) = false) ∨ (false = true ∧ decide (0 ≤ b ∧ b ≤ rg - 1) = false) ∨ (true = true ∧ decide (0 ≤ c ∧ c ≤ rg - 1) = false)) = true from decide_eq_true (.inr (.inr (.inr (⟨rfl,decide_eq_false (by omega)⟩))))]
            refine seq_reg (σ' := ?_) ?_ ?_
            rotate_left
            · simp -implicitDefEqProofs only [r22_outside.r3,κa,κb,κc,κd,κe,κf,κg,κh,κi,κj,κk,κl,κm,κn,κo,κp,κq,κr,κs,κt,κu,κv,κw,κx,κy,κz,κa1,κb1,κc1,κd1,κe1,κf1,κg1,κh1,κi1,κj1,κk1,κl1,κm1,κn1,κo1,κp1,κq1,κr1,κs1,if_true,if_false,reduceIte,κt1,κu1,κv1,κw1,κx1,κy1,κz1,κa2,κb2,κc2,κd2,κe2,κf2,κg2,κh2,κi2,κj2,κk2,κl2,κm2,κn2,κo2,κp2,κq2,reduceCtorEq,κr2,κs2,κt2,κu2,κv2,κw2,κx2,κy2,κz2,κa3,eq_self,κb3,κc3,zL,rBool,rInt,PP,II,ge_iff_le,l0,u0,l1,u1,l3,u3]; rfl
            refine cond_ rfl (fun _ => ?_) (fun h => by cases h)
            refine seq_reg (σ' := ?_) ?_ ?_
            rotate_left
            · simp -implicitDefEqProofs only [r22_outside.r4,κa,κb,κc,κd,κe,κf,κg,κh,κi,κj,κk,κl,κm,κn,κo,κp,κq,κr,κs,κt,κu,κv,κw,κx,κy,κz,κa1,κb1,κc1,κd1,κe1,κf1,κg1,κh1,κi1,κj1,κk1,κl1,κm1,κn1,κo1,κp1,κq1,κr1,κs1,if_true,if_false,reduceIte,κt1,κu1,κv1,κw1,κx1,κy1,κz1,κa2,κb2,κc2,κd2,κe2,κf2,κg2,κh2,κi2,κj2,κk2,κl2,κm2,κn2,κo2,κp2,κq2,reduceCtorEq,κr2,κs2,κt2,κu2,κv2,κw2,κx2,κy2,κz2,κa3,eq_self,κb3,κc3,zL]; rfl
            exact ret_ ⟨.inl rfl,_,rfl,AVle.refl _⟩
          rw [show decide ((true = true ∧ decide (0 ≤ d ∧ d ≤ rg - 1) = false) ∨ (true = true ∧ decide (0 ≤ a ∧ a ≤ rg - 1) = false) ∨ (false = true ∧ decide (0 ≤ b ∧ b ≤ rg - 1) = false) ∨ (true = true ∧ decide (0 ≤ c ∧ c ≤ rg - 1) = false)) = false from decide_eq_false (by rintro (h | h | h | h) <;> first | (have h1 := h.1; cases h1; done) | (have h2 := of_decide_eq_false h.2; omega))]
          rw [Bool.false_or]
          refine seq_reg (σ' := ?_) ?_ ?_
          rotate_left
          · simp -implicitDefEqProofs only [r22_outside.r3,κa,κb,κc,κd,κe,κf,κg,κh,κi,κj,κk,κl,κm,κn,κo,κp,κq,κr,κs,κt,κu,κv,κw,κx,κy,κz,κa1,κb1,κc1,κd1,κe1,κf1,κg1,κh1,κi1,κj1,κk1,κl1,κm1,κn1,κo1,κp1,κq1,κr1,κs1,if_true,if_false,reduceIte,κt1,κu1,κv1,κw1,κx1,κy1,κz1,κa2,κb2,κc2,κd2,κe2,κf2,κg2,κh2,κi2,κj2,κk2,κl2,κm2,κn2,κo2,κp2,κq2,reduceCtorEq,κr2,κs2,κt2,κu2,κv2,κw2,κx2,κy2,κz2,κa3,eq_self,κb3,κc3,zL,rBool,rInt,PP,II,ge_iff_le,l0,u0,l1,u1,l3,u3]; rfl
          refine cond_ rfl (fun h => by cases h) (fun _ => skip_ ?_)
          exact norm_sub (sub1 _ rfl rfl rfl rfl rfl) rest
      | true =>
        by_cases l2 : b < 0
        · rw [show decide ((true = true ∧ decide (0 ≤ d ∧ d ≤ rg - 1) = false) ∨ (true = true ∧ decide (0 ≤ a ∧ a ≤ rg - 1) = false) ∨ (true = true ∧ decide (0 ≤ b ∧ b ≤ rg - 1) = false) ∨ (C = true ∧ decide (0 ≤ c ∧ c ≤ rg - 1) = false)) = true from decide_eq_true (.inr (.inr (.inl ⟨rfl,decide_eq_false (by omega)⟩)))]
          refine seq_reg (σ' := ?_) ?_ ?_
          rotate_left
          · simp -implicitDefEqProofs only [r22_outside.r3,κa,κb,κc,κd,κe,κf,κg,κh,κi,κj,κk,κl,κm,κn,κo,κp,κq,κr,κs,κt,κu,κv,κw,κx,κy,κz,κa1,κb1,κc1,κd1,κe1,κf1,κg1,κh1,κi1,κj1,κk1,κl1,κm1,κn1,κo1,κp1,κq1,κr1,κs1,if_true,if_false,reduceIte,κt1,κu1,κv1,κw1,κx1,κy1,κz1,κa2,κb2,κc2,κd2,κe2,κf2,κg2,κh2,κi2,κj2,κk2,κl2,κm2,κn2,κo2,κp2,κq2,reduceCtorEq,κr2,κs2,κt2,κu2,κv2,κw2,κx2,κy2,κz2,κa3,eq_self,κb3,κc3,zL,rBool,rInt,PP,II,ge_iff_le,l0,u0,l1,u1,l2]; rfl
          refine cond_ rfl (fun _ => ?_) (fun h => by cases h)
          refine seq_reg (σ' := ?_) ?_ ?_
          rotate_left
          · simp -implicitDefEqProofs only [r22_outside.r4,κa,κb,κc,κd,κe,κf,κg,κh,κi,κj,κk,κl,κm,κn,κo,κp,κq,κr,κs,κt,κu,κv,κw,κx,κy,κz,κa1,κb1,κc1,κd1,κe1,κf1,κg1,κh1,κi1,κj1,κk1,κl1,κm1,κn1,κo1,κp1,κq1,κr1,κs1,if_true,if_false,reduceIte,κt1,κu1,κv1,κw1,κx1,κy1,κz1,κa2,κb2,κc2,κd2,κe2,κf2,κg2,κh2,κi2,κj2,κk2,κl2,κm2,κn2,κo2,κp2,κq2,reduceCtorEq,κr2,κs2,κt2,κu2,κv2,κw2,κx2,κy2,κz2,κa3,eq_self,κb3,κc3,zL]; rfl
          exact ret_ ⟨.inl rfl,_,rfl,AVle.refl _⟩
        by_cases u2 : rg ≤ b
        · rw [show decide ((true = true ∧ decide (0 ≤ d ∧ d ≤ rg - 1) = false) ∨ (true = true ∧ decide (0 ≤ a ∧ a ≤ rg - 1) = false) ∨ (true = true ∧ decide (0 ≤ b ∧ b ≤ rg - 1) = false) ∨ (C = true ∧ decide (0 ≤ c ∧ c ≤ rg - 1) = false)) = true from decide_eq_true (.inr (.inr (.inl ⟨rfl,decide_eq_false (by omega)⟩)))]
          refine seq_reg (σ' := ?_) ?_ ?_
          rotate_left
          · simp -implicitDefEqProofs only [r22_outside.r3,κa,κb,κc,κd,κe,κf,κg,κh,κi,κj,κk,κl,κm,κn,κo,κp,κq,κr,κs,κt,κu,κv,κw,κx,κy,κz,κa1,κb1,κc1,κd1,κe1,κf1,κg1,κh1,κi1,κj1,κk1,κl1,κm1,κn1,κo1,κp1,κq1,κr1,κs1,if_true,if_false,reduceIte,κt1,κu1,κv1,κw1,κx1,κy1,κz1,κa2,κb2,κc2,κd2,κe2,κf2,κg2,κh2,κi2,κj2,κk2,κl2,κm2,κn2,κo2,κp2,κq2,reduceCtorEq,κr2,κs2,κt2,κu2,κv2,κw2,κx2,κy2,κz2,κa3,eq_self,κb3,κc3,zL,rBool,rInt,PP,II,ge_iff_le,l0,u0,l1,u1,l2,u2]; rfl
          refine cond_ rfl (fun _ => ?_) (fun h => by cases h)
          refine seq_reg (σ' := ?_) ?_ ?_
          rotate_left
          · simp -implicitDefEqProofs only [r22_outside.r4,κa,κb,κc,κd,κe,κf,κg,κh,κi,κj,κk,κl,κm,κn,κo,κp,κq,κr,κs,κt,κu,κv,κw,κx,κy,κz,κa1,κb1,κc1,κd1,κe1,κf1,κg1,κh1,κi1,κj1,κk1,κl1,κm1,κn1,κo1,κp1,κq1,κr1,κs1,if_true,if_false,reduceIte,κt1,κu1,κv1,κw1,κx1,κy1,κz1,κa2,κb2,κc2,κd2,κe2,κf2,κg2,κh2,κi2,κj2,κk2,κl2,κm2,κn2,κo2,κp2,κq2,reduceCtorEq,κr2,κs2,κt2,κu2,κv2,κw2,κx2,κy2,κz2,κa3,eq_self,κb3,κc3,zL]; rfl
          exact ret_ ⟨.inl rfl,_,rfl,AVle.refl _⟩
        cases C with
        | false =>
          rw [show decide ((true = true ∧ decide (0 ≤ d ∧ d ≤ rg - 1) = false) ∨ (true = true ∧ decide (0 ≤ a ∧ a ≤ rg - 1) = false) ∨ (true = true ∧ decide (0 ≤ b ∧ b ≤ rg - 1) = false) ∨ (false = true ∧ decide (0 ≤ c ∧ c ≤ rg - 1) = false)) = false from decide_eq_false (by rintro (h | h | h | h) <;> first | (have h1 := h.1; cases h1; done) | (have h2 := of_decide_eq_false h.2; omega))]
          rw [Bool.false_or]
          refine seq_reg (σ' := ?_) ?_ ?_
          rotate_left
          · simp -implicitDefEqProofs only [r22_outside.r3,κa,κb,κc,κd,κe,κf,κg,κh,κi,κj,κk,κl,κm,κn,κo,κp,κq,κr,κs,κt,κu,κv,κw,κx,κy,κz,κa1,κb1,κc1,κd1,κe1,κf1,κg1,κh1,κi1,κj1,κk1,κl1,κm1,κn1,κo1,κp1,κq1,κr1,κs1,if_true,if_false,reduceIte,κt1,κu1,κv1,κw1,κx1,κy1,κz1,κa2,κb2,κc2,κd2,κe2,κf2,κg2,κh2,κi2,κj2,κk2,κl2,κm2,κn2,κo2,κp2,κq2,reduceCtorEq,κr2,κs2,κt2,κu2,κv2,κw2,κx2,κy2,κz2,κa3,eq_self,κb3,κc3,zL,rBool,rInt,PP,II,ge_iff_le,l0,u0,l1,u1,l2,u2]; rfl
          refine cond_ rfl (fun h => by cases h) (fun _ => skip_ ?_)
          exact norm_sub (sub1 _ rfl rfl rfl rfl rfl) rest
        | true =>
          by_cases l3 : c < 0
          · rw [show decide ((true = true ∧ decide (0 ≤ d ∧ d ≤ rg - 1) = false) ∨ (true = true ∧ decide (0 ≤ a ∧ a ≤ rg - 1) = false) ∨ (true = true ∧ decide (0 ≤ b ∧ b ≤ rg - 1) = false) ∨ (true = true ∧ decide (0 ≤ c ∧ c ≤ rg - 1) = false)) = true from decide_eq_true (.inr (.inr (.inr (⟨rfl,decide_eq_false (by omega)⟩))))]
            refine seq_reg (σ' := ?_) ?_ ?_
            rotate_left
            · simp -implicitDefEqProofs only [r22_outside.r3,κa,κb,κc,κd,κe,κf,κg,κh,κi,κj,κk,κl,κm,κn,κo,κp,κq,κr,κs,κt,κu,κv,κw,κx,κy,κz,κa1,κb1,κc1,κd1,κe1,κf1,κg1,κh1,κi1,κj1,κk1,κl1,κm1,κn1,κo1,κp1,κq1,κr1,κs1,if_true,if_false,reduceIte,κt1,κu1,κv1,κw1,κx1,κy1,κz1,κa2,κb2,κc2,κd2,κe2,κf2,κg2,κh2,κi2,κj2,κk2,κl2,κm2,κn2,κo2,κp2,κq2,reduceCtorEq,κr2,κs2,κt2,κu2,κv2,κw2,κx2,κy2,κz2,κa3,eq_self,κb3,κc3,zL,rBool,rInt,PP,II,ge_iff_le,l0,u0,l1,u1,l2,u2,l3]; rfl
            refine cond_ rfl (fun _ => ?_) (fun h => by cases h)
            refine seq_reg (σ' := ?_) ?_ ?_
            rotate_left
            · simp -implicitDefEqProofs only [r22_outside.r4,κa,κb,κc,κd,κe,κf,κg,κh,κi,κj,κk,κl,κm,κn,κo,κp,κq,κr,κs,κt,κu,κv,κw,κx,κy,κz,κa1,κb1,κc1,κd1,κe1,κf1,κg1,κh1,κi1,κj1,κk1,κl1,κm1,κn1,κo1,κp1,κq1,κr1,κs1,if_true,if_false,reduceIte,κt1,κu1,κv1,κw1,κx1,κy1,κz1,κa2,κb2,κc2,κd2,κe2,κf2,κg2,κh2,κi2,κj2,κk2,κl2,κm2,κn2,κo2,κp2,κq2,reduceCtorEq,κr2,κs2,κt2,κu2,κv2,κw2,κx2,κy2,κz2,κa3,eq_self,κb3,κc3,zL]; rfl
            exact ret_ ⟨.inl rfl,_,rfl,AVle.refl _⟩
          by_cases u3 : rg ≤ c
          · rw [show decide ((true = true ∧ decide (0 ≤ d ∧ d ≤ rg - 1) = false) ∨ (true = true ∧ decide (0 ≤ a ∧ a ≤ rg - 1) = false) ∨ (true = true ∧ decide (0 ≤ b ∧ b ≤ rg - 1) = false) ∨ (true = true ∧ decide (0 ≤ c ∧ c ≤ rg - 1) = false)) = true from decide_eq_true (.inr (.inr (.inr (⟨rfl,decide_eq_false (by omega)⟩))))]
            refine seq_reg (σ' := ?_) ?_ ?_
            rotate_left
            · simp -implicitDefEqProofs only [r22_outside.r3,κa,κb,κc,κd,κe,κf,κg,κh,κi,κj,κk,κl,κm,κn,κo,κp,κq,κr,κs,κt,κu,κv,κw,κx,κy,κz,κa1,κb1,κc1,κd1,κe1,κf1,κg1,κh1,κi1,κj1,κk1,κl1,κm1,κn1,κo1,κp1,κq1,κr1,κs1,if_true,if_false,reduceIte,κt1,κu1,κv1,κw1,κx1,κy1,κz1,κa2,κb2,κc2,κd2,κe2,κf2,κg2,κh2,κi2,κj2,κk2,κl2,κm2,κn2,κo2,κp2,κq2,reduceCtorEq,κr2,κs2,κt2,κu2,κv2,κw2,κx2,κy2,κz2,κa3,eq_self,κb3,κc3,zL,rBool,rInt,PP,II,ge_iff_le,l0,u0,l1,u1,l2,u2,l3,u3]; rfl
            refine cond_ rfl (fun _ => ?_) (fun h => by cases h)
            refine seq_reg (σ' := ?_) ?_ ?_
            rotate_left
            · simp -implicitDefEqProofs only [r22_outside.r4,κa,κb,κc,κd,κe,κf,κg,κh,κi,κj,κk,κl,κm,κn,κo,κp,κq,κr,κs,κt,κu,κv,κw,κx,κy,κz,κa1,κb1,κc1,κd1,κe1,κf1,κg1,κh1,κi1,κj1,κk1,κl1,κm1,κn1,κo1,κp1,κq1,κr1,κs1,if_true,if_false,reduceIte,κt1,κu1,κv1,κw1,κx1,κy1,κz1,κa2,κb2,κc2,κd2,κe2,κf2,κg2,κh2,κi2,κj2,κk2,κl2,κm2,κn2,κo2,κp2,κq2,reduceCtorEq,κr2,κs2,κt2,κu2,κv2,κw2,κx2,κy2,κz2,κa3,eq_self,κb3,κc3,zL]; rfl
            exact ret_ ⟨.inl rfl,_,rfl,AVle.refl _⟩
          rw [show decide ((true = true ∧ decide (0 ≤ d ∧ d ≤ rg - 1) = false) ∨ (true = true ∧ decide (0 ≤ a ∧ a ≤ rg - 1) = false) ∨ (true = true ∧ decide (0 ≤ b ∧ b ≤ rg - 1) = false) ∨ (true = true ∧ decide (0 ≤ c ∧ c ≤ rg - 1) = false)) = false from decide_eq_false (by rintro (h | h | h | h) <;> first | (have h1 := h.1; cases h1; done) | (have h2 := of_decide_eq_false h.2; omega))]
          rw [Bool.false_or]
          refine seq_reg (σ' := ?_) ?_ ?_
          rotate_left
          · simp -implicitDefEqProofs only [r22_outside.r3,κa,κb,κc,κd,κe,κf,κg,κh,κi,κj,κk,κl,κm,κn,κo,κp,κq,κr,κs,κt,κu,κv,κw,κx,κy,κz,κa1,κb1,κc1,κd1,κe1,κf1,κg1,κh1,κi1,κj1,κk1,κl1,κm1,κn1,κo1,κp1,κq1,κr1,κs1,if_true,if_false,reduceIte,κt1,κu1,κv1,κw1,κx1,κy1,κz1,κa2,κb2,κc2,κd2,κe2,κf2,κg2,κh2,κi2,κj2,κk2,κl2,κm2,κn2,κo2,κp2,κq2,reduceCtorEq,κr2,κs2,κt2,κu2,κv2,κw2,κx2,κy2,κz2,κa3,eq_self,κb3,κc3,zL,rBool,rInt,PP,II,ge_iff_le,l0,u0,l1,u1,l2,u2,l3,u3]; rfl
          refine cond_ rfl (fun h => by cases h) (fun _ => skip_ ?_)
          exact norm_sub (sub1 _ rfl rfl rfl rfl rfl) rest
end Go.Proofs.Ytjbhhdocbejccaa.Pl
