/- Chapter 43: the reference's unused. No condition beyond those that each theorem states. -/
import Derived.Test.YtjbhhdocbejccaaJ
namespace Go.Proofs.Ytjbhhdocbejccaa.Pl
open Go Go.RowKit Go.Proofs.Ytjbhhdocbejccaa.Am
open Go.Proofs.Ytjbhhdocbejccaa.Am renaming ex_nil → κa,ex_cons → κb,exK_some → κc,st_n → κd,st_g → κe,gd_b → κf,gd_u → κg,rn_v → κh,rn_m → κi,rn_s → κj,rn_a → κk,think → κl,prep → κm,mkDsts → κn,ev → κp,upd → κq,init → κr,forgetBox → κu,pvs → κx,fillX → κy,chunks → κz,binV → κa1,xints → κb1,ldX → κc1,baseOk → κe1,fg_p → κf1,fg_tk → κg1,mkG → κh1,tab → κj1,c3 → κa3
open Go.Proofs.Ytjbhhdocbejccaa.Am.St renaming clear → κo,put → κt,of → κk1
open Go.Proofs.Ytjbhhdocbejccaa.Am.PV renaming av → κs
open Go.Proofs.Ytjbhhdocbejccaa.Am.AV renaming cells → κv,pv → κw,plain → κd1
open Go.Proofs.Ytjbhhdocbejccaa.Am.Sig renaming spec → κi1
open List renaming getElem?_cons_zero → κl1,getElem?_cons_succ → κm1,getElem?_nil → κn1,map_cons → κu1,map_nil → κv1,drop_succ_cons → κw1,drop_zero → κx1,take_succ_cons → κy1,take_zero → κz1,length_cons → κa2,length_nil → κb2,length_append → κc2,cons_append → κd2,nil_append → κe2,append_nil → κf2
open Option renaming map_some → κo1,map_none → κp1,bind_some → κq1,isSome_some → κr1,isSome_none → κs1
open Nat renaming reduceEqDiff → κt1,reduceAdd → κg2,reduceMul → κh2,reduceLeDiff → κi2,reduceBEq → κj2,zero_le → κk2,le_refl → κl2,zero_add → κm2,add_zero → κn2
open Bool renaming not_true → κo2,not_false → κp2,false_eq_true → κq2,true_eq_false → κc3
open Int renaming reduceBEq → κr2,reduceBNe → κs2,reduceLT → κt2,reduceLE → κu2,reduceAdd → κv2,reduceToNat → κw2,toNat_zero → κx2,reduceEq → κy2,toNat_natCast → κz2,le_refl → κb3
set_option linter.unusedVariables false
set_option linter.unusedSimpArgs false
set_option maxHeartbeats 16000000
set_option maxRecDepth 100000
def r22_unused.S : Am.Spec := fun args => match args with
  | [.agg [.int .i64 op,.int .i64 d,.int .i64 a,.int .i64 b,.int .i64 c,.int .i64 m]] => if 1 ≤ op ∧ op ≤ 52 then some (rBool (unuB op d a b c m)) else none
  | _ => none
theorem r22_unused.ok : SpecOK Try.prog 71 r22_unused.S := fun args r h => by
  unfold r22_unused.S at h
  split at h
  case h_2 => cases h
  split at h
  case isFalse => cases h
  rename_i op d a b c m hop
  cases h
  refine fnLaw Try.func71 r22_unused.tr rfl hE (ok_cons r22_Operands.ok ok_nil) ?_
  have hO : opsS [.c (.int .i64 op)] = some (.tup [.bool (dB op),.bool (aB op),.bool (bB op),.bool (cB op),.bool (mB op)]) := if_pos hop
  unfold r22_unused.m
  refine seq_reg (σ' := ?_) ?_ ?_
  rotate_left
  · simp -implicitDefEqProofs only [r22_unused.r0,κa,κb,κc,κd,κe,κf,κg,κh,κi,κj,κk,κl,κm,κn,κo,κp,κq,κr,κs,κt,κu,κv,κw,κx,κy,κz,κa1,κb1,κc1,κd1,κe1,κf1,κg1,κh1,κi1,κj1,κk1,κl1,κm1,κn1,κo1,κp1,κq1,κr1,κs1,if_true,if_false,reduceIte,κt1,κu1,κv1,κw1,κx1,κy1,κz1,κa2,κb2,κc2,κd2,κe2,κf2,κg2,κh2,κi2,κj2,κk2,κl2,κm2,κn2,κo2,κp2,κq2,reduceCtorEq,κr2,κs2,κt2,κu2,κv2,κw2,κx2,κy2,κz2,κa3,eq_self,κb3,κc3,zL]; rfl
  refine seq_ex (σ'' := St.of [(1,.box 1 0),(3,rBool (dB op)),(4,rBool (aB op)),(5,rBool (bB op)),(6,rBool (cB op)),(7,rBool (mB op))] [(1,[.p (.int .i64 op),.p (.int .i64 d),.p (.int .i64 a),.p (.int .i64 b),.p (.int .i64 c),.p (.int .i64 m)])] [] 0) ⟨_,by simp -implicitDefEqProofs only [r22_unused.r1,r22_Operands.S,hO,rBool,κa,κb,κc,κd,κe,κf,κg,κh,κi,κj,κk,κl,κm,κn,κo,κp,κq,κr,κs,κt,κu,κv,κw,κx,κy,κz,κa1,κb1,κc1,κd1,κe1,κf1,κg1,κh1,κi1,κj1,κk1,κl1,κm1,κn1,κo1,κp1,κq1,κr1,κs1,if_true,if_false,reduceIte,κt1,κu1,κv1,κw1,κx1,κy1,κz1,κa2,κb2,κc2,κd2,κe2,κf2,κg2,κh2,κi2,κj2,κk2,κl2,κm2,κn2,κo2,κp2,κq2,reduceCtorEq,κr2,κs2,κt2,κu2,κv2,κw2,κx2,κy2,κz2,κa3,eq_self,κb3,κc3,zL]; rfl,sub_of (all_cons rfl (all_cons rfl (all_cons rfl (all_cons rfl (all_cons rfl (all_cons rfl all_nil)))))) (all_cons rfl all_nil) all_nil (Nat.le_refl _)⟩ ?_
  unfold unuB
  generalize dB op = D
  generalize aB op = A
  generalize bB op = B
  generalize cB op = C
  generalize mB op = M
  cases D with
  | true =>
    cases A with
    | true =>
      cases B with
      | true =>
        cases C with
        | true =>
          cases M with
          | true =>
            rw [show decide ((true = false ∧ d ≠ 0 ∨ true = false ∧ a ≠ 0 ∨ true = false ∧ b ≠ 0 ∨ true = false ∧ c ≠ 0 ∨ true = false ∧ m ≠ 0)) = false from decide_eq_false (by simp [])]
            refine seq_reg (σ' := ?_) ?_ ?_
            rotate_left
            · simp -implicitDefEqProofs only [r22_unused.r2,κa,κb,κc,κd,κe,κf,κg,κh,κi,κj,κk,κl,κm,κn,κo,κp,κq,κr,κs,κt,κu,κv,κw,κx,κy,κz,κa1,κb1,κc1,κd1,κe1,κf1,κg1,κh1,κi1,κj1,κk1,κl1,κm1,κn1,κo1,κp1,κq1,κr1,κs1,if_true,if_false,reduceIte,κt1,κu1,κv1,κw1,κx1,κy1,κz1,κa2,κb2,κc2,κd2,κe2,κf2,κg2,κh2,κi2,κj2,κk2,κl2,κm2,κn2,κo2,κp2,κq2,reduceCtorEq,κr2,κs2,κt2,κu2,κv2,κw2,κx2,κy2,κz2,κa3,eq_self,κb3,κc3,zL,rBool]; rfl
            exact ret_ ⟨.inl rfl,_,rfl,AVle.refl _⟩
          | false =>
            by_cases v4 : m = 0
            · have g4 : (m != 0) = false := by simpa using v4
              rw [show decide ((true = false ∧ d ≠ 0 ∨ true = false ∧ a ≠ 0 ∨ true = false ∧ b ≠ 0 ∨ true = false ∧ c ≠ 0 ∨ false = false ∧ m ≠ 0)) = false from decide_eq_false (by simp [v4])]
              refine seq_reg (σ' := ?_) ?_ ?_
              rotate_left
              · simp -implicitDefEqProofs only [r22_unused.r2,κa,κb,κc,κd,κe,κf,κg,κh,κi,κj,κk,κl,κm,κn,κo,κp,κq,κr,κs,κt,κu,κv,κw,κx,κy,κz,κa1,κb1,κc1,κd1,κe1,κf1,κg1,κh1,κi1,κj1,κk1,κl1,κm1,κn1,κo1,κp1,κq1,κr1,κs1,if_true,if_false,reduceIte,κt1,κu1,κv1,κw1,κx1,κy1,κz1,κa2,κb2,κc2,κd2,κe2,κf2,κg2,κh2,κi2,κj2,κk2,κl2,κm2,κn2,κo2,κp2,κq2,reduceCtorEq,κr2,κs2,κt2,κu2,κv2,κw2,κx2,κy2,κz2,κa3,eq_self,κb3,κc3,zL,rBool,g4]; rfl
              exact ret_ ⟨.inl rfl,_,rfl,AVle.refl _⟩
            · have g4 : (m != 0) = true := by simpa using v4
              rw [show decide ((true = false ∧ d ≠ 0 ∨ true = false ∧ a ≠ 0 ∨ true = false ∧ b ≠ 0 ∨ true = false ∧ c ≠ 0 ∨ false = false ∧ m ≠ 0)) = true from decide_eq_true (by simp [v4])]
              refine seq_reg (σ' := ?_) ?_ ?_
              rotate_left
              · simp -implicitDefEqProofs only [r22_unused.r2,κa,κb,κc,κd,κe,κf,κg,κh,κi,κj,κk,κl,κm,κn,κo,κp,κq,κr,κs,κt,κu,κv,κw,κx,κy,κz,κa1,κb1,κc1,κd1,κe1,κf1,κg1,κh1,κi1,κj1,κk1,κl1,κm1,κn1,κo1,κp1,κq1,κr1,κs1,if_true,if_false,reduceIte,κt1,κu1,κv1,κw1,κx1,κy1,κz1,κa2,κb2,κc2,κd2,κe2,κf2,κg2,κh2,κi2,κj2,κk2,κl2,κm2,κn2,κo2,κp2,κq2,reduceCtorEq,κr2,κs2,κt2,κu2,κv2,κw2,κx2,κy2,κz2,κa3,eq_self,κb3,κc3,zL,rBool,g4]; rfl
              exact ret_ ⟨.inl rfl,_,rfl,AVle.refl _⟩
        | false =>
          by_cases v3 : c = 0
          · have g3 : (c != 0) = false := by simpa using v3
            cases M with
            | true =>
              rw [show decide ((true = false ∧ d ≠ 0 ∨ true = false ∧ a ≠ 0 ∨ true = false ∧ b ≠ 0 ∨ false = false ∧ c ≠ 0 ∨ true = false ∧ m ≠ 0)) = false from decide_eq_false (by simp [v3])]
              refine seq_reg (σ' := ?_) ?_ ?_
              rotate_left
              · simp -implicitDefEqProofs only [r22_unused.r2,κa,κb,κc,κd,κe,κf,κg,κh,κi,κj,κk,κl,κm,κn,κo,κp,κq,κr,κs,κt,κu,κv,κw,κx,κy,κz,κa1,κb1,κc1,κd1,κe1,κf1,κg1,κh1,κi1,κj1,κk1,κl1,κm1,κn1,κo1,κp1,κq1,κr1,κs1,if_true,if_false,reduceIte,κt1,κu1,κv1,κw1,κx1,κy1,κz1,κa2,κb2,κc2,κd2,κe2,κf2,κg2,κh2,κi2,κj2,κk2,κl2,κm2,κn2,κo2,κp2,κq2,reduceCtorEq,κr2,κs2,κt2,κu2,κv2,κw2,κx2,κy2,κz2,κa3,eq_self,κb3,κc3,zL,rBool,g3]; rfl
              exact ret_ ⟨.inl rfl,_,rfl,AVle.refl _⟩
            | false =>
              by_cases v4 : m = 0
              · have g4 : (m != 0) = false := by simpa using v4
                rw [show decide ((true = false ∧ d ≠ 0 ∨ true = false ∧ a ≠ 0 ∨ true = false ∧ b ≠ 0 ∨ false = false ∧ c ≠ 0 ∨ false = false ∧ m ≠ 0)) = false from decide_eq_false (by simp [v3,v4])]
                refine seq_reg (σ' := ?_) ?_ ?_
                rotate_left
                · simp -implicitDefEqProofs only [r22_unused.r2,κa,κb,κc,κd,κe,κf,κg,κh,κi,κj,κk,κl,κm,κn,κo,κp,κq,κr,κs,κt,κu,κv,κw,κx,κy,κz,κa1,κb1,κc1,κd1,κe1,κf1,κg1,κh1,κi1,κj1,κk1,κl1,κm1,κn1,κo1,κp1,κq1,κr1,κs1,if_true,if_false,reduceIte,κt1,κu1,κv1,κw1,κx1,κy1,κz1,κa2,κb2,κc2,κd2,κe2,κf2,κg2,κh2,κi2,κj2,κk2,κl2,κm2,κn2,κo2,κp2,κq2,reduceCtorEq,κr2,κs2,κt2,κu2,κv2,κw2,κx2,κy2,κz2,κa3,eq_self,κb3,κc3,zL,rBool,g3,g4]; rfl
                exact ret_ ⟨.inl rfl,_,rfl,AVle.refl _⟩
              · have g4 : (m != 0) = true := by simpa using v4
                rw [show decide ((true = false ∧ d ≠ 0 ∨ true = false ∧ a ≠ 0 ∨ true = false ∧ b ≠ 0 ∨ false = false ∧ c ≠ 0 ∨ false = false ∧ m ≠ 0)) = true from decide_eq_true (by simp [v4])]
                refine seq_reg (σ' := ?_) ?_ ?_
                rotate_left
                · simp -implicitDefEqProofs only [r22_unused.r2,κa,κb,κc,κd,κe,κf,κg,κh,κi,κj,κk,κl,κm,κn,κo,κp,κq,κr,κs,κt,κu,κv,κw,κx,κy,κz,κa1,κb1,κc1,κd1,κe1,κf1,κg1,κh1,κi1,κj1,κk1,κl1,κm1,κn1,κo1,κp1,κq1,κr1,κs1,if_true,if_false,reduceIte,κt1,κu1,κv1,κw1,κx1,κy1,κz1,κa2,κb2,κc2,κd2,κe2,κf2,κg2,κh2,κi2,κj2,κk2,κl2,κm2,κn2,κo2,κp2,κq2,reduceCtorEq,κr2,κs2,κt2,κu2,κv2,κw2,κx2,κy2,κz2,κa3,eq_self,κb3,κc3,zL,rBool,g3,g4]; rfl
                exact ret_ ⟨.inl rfl,_,rfl,AVle.refl _⟩
          · have g3 : (c != 0) = true := by simpa using v3
            rw [show decide ((true = false ∧ d ≠ 0 ∨ true = false ∧ a ≠ 0 ∨ true = false ∧ b ≠ 0 ∨ false = false ∧ c ≠ 0 ∨ M = false ∧ m ≠ 0)) = true from decide_eq_true (by simp [v3])]
            refine seq_reg (σ' := ?_) ?_ ?_
            rotate_left
            · simp -implicitDefEqProofs only [r22_unused.r2,κa,κb,κc,κd,κe,κf,κg,κh,κi,κj,κk,κl,κm,κn,κo,κp,κq,κr,κs,κt,κu,κv,κw,κx,κy,κz,κa1,κb1,κc1,κd1,κe1,κf1,κg1,κh1,κi1,κj1,κk1,κl1,κm1,κn1,κo1,κp1,κq1,κr1,κs1,if_true,if_false,reduceIte,κt1,κu1,κv1,κw1,κx1,κy1,κz1,κa2,κb2,κc2,κd2,κe2,κf2,κg2,κh2,κi2,κj2,κk2,κl2,κm2,κn2,κo2,κp2,κq2,reduceCtorEq,κr2,κs2,κt2,κu2,κv2,κw2,κx2,κy2,κz2,κa3,eq_self,κb3,κc3,zL,rBool,g3]; rfl
            exact ret_ ⟨.inl rfl,_,rfl,AVle.refl _⟩
      | false =>
        by_cases v2 : b = 0
        · have g2 : (b != 0) = false := by simpa using v2
          cases C with
          | true =>
            cases M with
            | true =>
              rw [show decide ((true = false ∧ d ≠ 0 ∨ true = false ∧ a ≠ 0 ∨ false = false ∧ b ≠ 0 ∨ true = false ∧ c ≠ 0 ∨ true = false ∧ m ≠ 0)) = false from decide_eq_false (by simp [v2])]
              refine seq_reg (σ' := ?_) ?_ ?_
              rotate_left
              · simp -implicitDefEqProofs only [r22_unused.r2,κa,κb,κc,κd,κe,κf,κg,κh,κi,κj,κk,κl,κm,κn,κo,κp,κq,κr,κs,κt,κu,κv,κw,κx,κy,κz,κa1,κb1,κc1,κd1,κe1,κf1,κg1,κh1,κi1,κj1,κk1,κl1,κm1,κn1,κo1,κp1,κq1,κr1,κs1,if_true,if_false,reduceIte,κt1,κu1,κv1,κw1,κx1,κy1,κz1,κa2,κb2,κc2,κd2,κe2,κf2,κg2,κh2,κi2,κj2,κk2,κl2,κm2,κn2,κo2,κp2,κq2,reduceCtorEq,κr2,κs2,κt2,κu2,κv2,κw2,κx2,κy2,κz2,κa3,eq_self,κb3,κc3,zL,rBool,g2]; rfl
              exact ret_ ⟨.inl rfl,_,rfl,AVle.refl _⟩
            | false =>
              by_cases v4 : m = 0
              · have g4 : (m != 0) = false := by simpa using v4
                rw [show decide ((true = false ∧ d ≠ 0 ∨ true = false ∧ a ≠ 0 ∨ false = false ∧ b ≠ 0 ∨ true = false ∧ c ≠ 0 ∨ false = false ∧ m ≠ 0)) = false from decide_eq_false (by simp [v2,v4])]
                refine seq_reg (σ' := ?_) ?_ ?_
                rotate_left
                · simp -implicitDefEqProofs only [r22_unused.r2,κa,κb,κc,κd,κe,κf,κg,κh,κi,κj,κk,κl,κm,κn,κo,κp,κq,κr,κs,κt,κu,κv,κw,κx,κy,κz,κa1,κb1,κc1,κd1,κe1,κf1,κg1,κh1,κi1,κj1,κk1,κl1,κm1,κn1,κo1,κp1,κq1,κr1,κs1,if_true,if_false,reduceIte,κt1,κu1,κv1,κw1,κx1,κy1,κz1,κa2,κb2,κc2,κd2,κe2,κf2,κg2,κh2,κi2,κj2,κk2,κl2,κm2,κn2,κo2,κp2,κq2,reduceCtorEq,κr2,κs2,κt2,κu2,κv2,κw2,κx2,κy2,κz2,κa3,eq_self,κb3,κc3,zL,rBool,g2,g4]; rfl
                exact ret_ ⟨.inl rfl,_,rfl,AVle.refl _⟩
              · have g4 : (m != 0) = true := by simpa using v4
                rw [show decide ((true = false ∧ d ≠ 0 ∨ true = false ∧ a ≠ 0 ∨ false = false ∧ b ≠ 0 ∨ true = false ∧ c ≠ 0 ∨ false = false ∧ m ≠ 0)) = true from decide_eq_true (by simp [v4])]
                refine seq_reg (σ' := ?_) ?_ ?_
                rotate_left
                · simp -implicitDefEqProofs only [r22_unused.r2,κa,κb,κc,κd,κe,κf,κg,κh,κi,κj,κk,κl,κm,κn,κo,κp,κq,κr,κs,κt,κu,κv,κw,κx,κy,κz,κa1,κb1,κc1,κd1,κe1,κf1,κg1,κh1,κi1,κj1,κk1,κl1,κm1,κn1,κo1,κp1,κq1,κr1,κs1,if_true,if_false,reduceIte,κt1,κu1,κv1,κw1,κx1,κy1,κz1,κa2,κb2,κc2,κd2,κe2,κf2,κg2,κh2,κi2,κj2,κk2,κl2,κm2,κn2,κo2,κp2,κq2,reduceCtorEq,κr2,κs2,κt2,κu2,κv2,κw2,κx2,κy2,κz2,κa3,eq_self,κb3,κc3,zL,rBool,g2,g4]; rfl
                exact ret_ ⟨.inl rfl,_,rfl,AVle.refl _⟩
          | false =>
            by_cases v3 : c = 0
            · have g3 : (c != 0) = false := by simpa using v3
              cases M with
              | true =>
                rw [show decide ((true = false ∧ d ≠ 0 ∨ true = false ∧ a ≠ 0 ∨ false = false ∧ b ≠ 0 ∨ false = false ∧ c ≠ 0 ∨ true = false ∧ m ≠ 0)) = false from decide_eq_false (by simp [v2,v3])]
                refine seq_reg (σ' := ?_) ?_ ?_
                rotate_left
                · simp -implicitDefEqProofs only [r22_unused.r2,κa,κb,κc,κd,κe,κf,κg,κh,κi,κj,κk,κl,κm,κn,κo,κp,κq,κr,κs,κt,κu,κv,κw,κx,κy,κz,κa1,κb1,κc1,κd1,κe1,κf1,κg1,κh1,κi1,κj1,κk1,κl1,κm1,κn1,κo1,κp1,κq1,κr1,κs1,if_true,if_false,reduceIte,κt1,κu1,κv1,κw1,κx1,κy1,κz1,κa2,κb2,κc2,κd2,κe2,κf2,κg2,κh2,κi2,κj2,κk2,κl2,κm2,κn2,κo2,κp2,κq2,reduceCtorEq,κr2,κs2,κt2,κu2,κv2,κw2,κx2,κy2,κz2,κa3,eq_self,κb3,κc3,zL,rBool,g2,g3]; rfl
                exact ret_ ⟨.inl rfl,_,rfl,AVle.refl _⟩
              | false =>
                by_cases v4 : m = 0
                · have g4 : (m != 0) = false := by simpa using v4
                  rw [show decide ((true = false ∧ d ≠ 0 ∨ true = false ∧ a ≠ 0 ∨ false = false ∧ b ≠ 0 ∨ false = false ∧ c ≠ 0 ∨ false = false ∧ m ≠ 0)) = false from decide_eq_false (by simp [v2,v3,v4])]
                  refine seq_reg (σ' := ?_) ?_ ?_
                  rotate_left
                  · simp -implicitDefEqProofs only [r22_unused.r2,κa,κb,κc,κd,κe,κf,κg,κh,κi,κj,κk,κl,κm,κn,κo,κp,κq,κr,κs,κt,κu,κv,κw,κx,κy,κz,κa1,κb1,κc1,κd1,κe1,κf1,κg1,κh1,κi1,κj1,κk1,κl1,κm1,κn1,κo1,κp1,κq1,κr1,κs1,if_true,if_false,reduceIte,κt1,κu1,κv1,κw1,κx1,κy1,κz1,κa2,κb2,κc2,κd2,κe2,κf2,κg2,κh2,κi2,κj2,κk2,κl2,κm2,κn2,κo2,κp2,κq2,reduceCtorEq,κr2,κs2,κt2,κu2,κv2,κw2,κx2,κy2,κz2,κa3,eq_self,κb3,κc3,zL,rBool,g2,g3,g4]; rfl
                  exact ret_ ⟨.inl rfl,_,rfl,AVle.refl _⟩
                · have g4 : (m != 0) = true := by simpa using v4
                  rw [show decide ((true = false ∧ d ≠ 0 ∨ true = false ∧ a ≠ 0 ∨ false = false ∧ b ≠ 0 ∨ false = false ∧ c ≠ 0 ∨ false = false ∧ m ≠ 0)) = true from decide_eq_true (by simp [v4])]
                  refine seq_reg (σ' := ?_) ?_ ?_
                  rotate_left
                  · simp -implicitDefEqProofs only [r22_unused.r2,κa,κb,κc,κd,κe,κf,κg,κh,κi,κj,κk,κl,κm,κn,κo,κp,κq,κr,κs,κt,κu,κv,κw,κx,κy,κz,κa1,κb1,κc1,κd1,κe1,κf1,κg1,κh1,κi1,κj1,κk1,κl1,κm1,κn1,κo1,κp1,κq1,κr1,κs1,if_true,if_false,reduceIte,κt1,κu1,κv1,κw1,κx1,κy1,κz1,κa2,κb2,κc2,κd2,κe2,κf2,κg2,κh2,κi2,κj2,κk2,κl2,κm2,κn2,κo2,κp2,κq2,reduceCtorEq,κr2,κs2,κt2,κu2,κv2,κw2,κx2,κy2,κz2,κa3,eq_self,κb3,κc3,zL,rBool,g2,g3,g4]; rfl
                  exact ret_ ⟨.inl rfl,_,rfl,AVle.refl _⟩
            · have g3 : (c != 0) = true := by simpa using v3
              rw [show decide ((true = false ∧ d ≠ 0 ∨ true = false ∧ a ≠ 0 ∨ false = false ∧ b ≠ 0 ∨ false = false ∧ c ≠ 0 ∨ M = false ∧ m ≠ 0)) = true from decide_eq_true (by simp [v3])]
              refine seq_reg (σ' := ?_) ?_ ?_
              rotate_left
              · simp -implicitDefEqProofs only [r22_unused.r2,κa,κb,κc,κd,κe,κf,κg,κh,κi,κj,κk,κl,κm,κn,κo,κp,κq,κr,κs,κt,κu,κv,κw,κx,κy,κz,κa1,κb1,κc1,κd1,κe1,κf1,κg1,κh1,κi1,κj1,κk1,κl1,κm1,κn1,κo1,κp1,κq1,κr1,κs1,if_true,if_false,reduceIte,κt1,κu1,κv1,κw1,κx1,κy1,κz1,κa2,κb2,κc2,κd2,κe2,κf2,κg2,κh2,κi2,κj2,κk2,κl2,κm2,κn2,κo2,κp2,κq2,reduceCtorEq,κr2,κs2,κt2,κu2,κv2,κw2,κx2,κy2,κz2,κa3,eq_self,κb3,κc3,zL,rBool,g2,g3]; rfl
              exact ret_ ⟨.inl rfl,_,rfl,AVle.refl _⟩
        · have g2 : (b != 0) = true := by simpa using v2
          rw [show decide ((true = false ∧ d ≠ 0 ∨ true = false ∧ a ≠ 0 ∨ false = false ∧ b ≠ 0 ∨ C = false ∧ c ≠ 0 ∨ M = false ∧ m ≠ 0)) = true from decide_eq_true (by simp [v2])]
          refine seq_reg (σ' := ?_) ?_ ?_
          rotate_left
          · simp -implicitDefEqProofs only [r22_unused.r2,κa,κb,κc,κd,κe,κf,κg,κh,κi,κj,κk,κl,κm,κn,κo,κp,κq,κr,κs,κt,κu,κv,κw,κx,κy,κz,κa1,κb1,κc1,κd1,κe1,κf1,κg1,κh1,κi1,κj1,κk1,κl1,κm1,κn1,κo1,κp1,κq1,κr1,κs1,if_true,if_false,reduceIte,κt1,κu1,κv1,κw1,κx1,κy1,κz1,κa2,κb2,κc2,κd2,κe2,κf2,κg2,κh2,κi2,κj2,κk2,κl2,κm2,κn2,κo2,κp2,κq2,reduceCtorEq,κr2,κs2,κt2,κu2,κv2,κw2,κx2,κy2,κz2,κa3,eq_self,κb3,κc3,zL,rBool,g2]; rfl
          exact ret_ ⟨.inl rfl,_,rfl,AVle.refl _⟩
    | false =>
      by_cases v1 : a = 0
      · have g1 : (a != 0) = false := by simpa using v1
        cases B with
        | true =>
          cases C with
          | true =>
            cases M with
            | true =>
              rw [show decide ((true = false ∧ d ≠ 0 ∨ false = false ∧ a ≠ 0 ∨ true = false ∧ b ≠ 0 ∨ true = false ∧ c ≠ 0 ∨ true = false ∧ m ≠ 0)) = false from decide_eq_false (by simp [v1])]
              refine seq_reg (σ' := ?_) ?_ ?_
              rotate_left
              · simp -implicitDefEqProofs only [r22_unused.r2,κa,κb,κc,κd,κe,κf,κg,κh,κi,κj,κk,κl,κm,κn,κo,κp,κq,κr,κs,κt,κu,κv,κw,κx,κy,κz,κa1,κb1,κc1,κd1,κe1,κf1,κg1,κh1,κi1,κj1,κk1,κl1,κm1,κn1,κo1,κp1,κq1,κr1,κs1,if_true,if_false,reduceIte,κt1,κu1,κv1,κw1,κx1,κy1,κz1,κa2,κb2,κc2,κd2,κe2,κf2,κg2,κh2,κi2,κj2,κk2,κl2,κm2,κn2,κo2,κp2,κq2,reduceCtorEq,κr2,κs2,κt2,κu2,κv2,κw2,κx2,κy2,κz2,κa3,eq_self,κb3,κc3,zL,rBool,g1]; rfl
              exact ret_ ⟨.inl rfl,_,rfl,AVle.refl _⟩
            | false =>
              by_cases v4 : m = 0
              · have g4 : (m != 0) = false := by simpa using v4
                rw [show decide ((true = false ∧ d ≠ 0 ∨ false = false ∧ a ≠ 0 ∨ true = false ∧ b ≠ 0 ∨ true = false ∧ c ≠ 0 ∨ false = false ∧ m ≠ 0)) = false from decide_eq_false (by simp [v1,v4])]
                refine seq_reg (σ' := ?_) ?_ ?_
                rotate_left
                · simp -implicitDefEqProofs only [r22_unused.r2,κa,κb,κc,κd,κe,κf,κg,κh,κi,κj,κk,κl,κm,κn,κo,κp,κq,κr,κs,κt,κu,κv,κw,κx,κy,κz,κa1,κb1,κc1,κd1,κe1,κf1,κg1,κh1,κi1,κj1,κk1,κl1,κm1,κn1,κo1,κp1,κq1,κr1,κs1,if_true,if_false,reduceIte,κt1,κu1,κv1,κw1,κx1,κy1,κz1,κa2,κb2,κc2,κd2,κe2,κf2,κg2,κh2,κi2,κj2,κk2,κl2,κm2,κn2,κo2,κp2,κq2,reduceCtorEq,κr2,κs2,κt2,κu2,κv2,κw2,κx2,κy2,κz2,κa3,eq_self,κb3,κc3,zL,rBool,g1,g4]; rfl
                exact ret_ ⟨.inl rfl,_,rfl,AVle.refl _⟩
              · have g4 : (m != 0) = true := by simpa using v4
                rw [show decide ((true = false ∧ d ≠ 0 ∨ false = false ∧ a ≠ 0 ∨ true = false ∧ b ≠ 0 ∨ true = false ∧ c ≠ 0 ∨ false = false ∧ m ≠ 0)) = true from decide_eq_true (by simp [v4])]
                refine seq_reg (σ' := ?_) ?_ ?_
                rotate_left
                · simp -implicitDefEqProofs only [r22_unused.r2,κa,κb,κc,κd,κe,κf,κg,κh,κi,κj,κk,κl,κm,κn,κo,κp,κq,κr,κs,κt,κu,κv,κw,κx,κy,κz,κa1,κb1,κc1,κd1,κe1,κf1,κg1,κh1,κi1,κj1,κk1,κl1,κm1,κn1,κo1,κp1,κq1,κr1,κs1,if_true,if_false,reduceIte,κt1,κu1,κv1,κw1,κx1,κy1,κz1,κa2,κb2,κc2,κd2,κe2,κf2,κg2,κh2,κi2,κj2,κk2,κl2,κm2,κn2,κo2,κp2,κq2,reduceCtorEq,κr2,κs2,κt2,κu2,κv2,κw2,κx2,κy2,κz2,κa3,eq_self,κb3,κc3,zL,rBool,g1,g4]; rfl
                exact ret_ ⟨.inl rfl,_,rfl,AVle.refl _⟩
          | false =>
            by_cases v3 : c = 0
            · have g3 : (c != 0) = false := by simpa using v3
              cases M with
              | true =>
                rw [show decide ((true = false ∧ d ≠ 0 ∨ false = false ∧ a ≠ 0 ∨ true = false ∧ b ≠ 0 ∨ false = false ∧ c ≠ 0 ∨ true = false ∧ m ≠ 0)) = false from decide_eq_false (by simp [v1,v3])]
                refine seq_reg (σ' := ?_) ?_ ?_
                rotate_left
                · simp -implicitDefEqProofs only [r22_unused.r2,κa,κb,κc,κd,κe,κf,κg,κh,κi,κj,κk,κl,κm,κn,κo,κp,κq,κr,κs,κt,κu,κv,κw,κx,κy,κz,κa1,κb1,κc1,κd1,κe1,κf1,κg1,κh1,κi1,κj1,κk1,κl1,κm1,κn1,κo1,κp1,κq1,κr1,κs1,if_true,if_false,reduceIte,κt1,κu1,κv1,κw1,κx1,κy1,κz1,κa2,κb2,κc2,κd2,κe2,κf2,κg2,κh2,κi2,κj2,κk2,κl2,κm2,κn2,κo2,κp2,κq2,reduceCtorEq,κr2,κs2,κt2,κu2,κv2,κw2,κx2,κy2,κz2,κa3,eq_self,κb3,κc3,zL,rBool,g1,g3]; rfl
                exact ret_ ⟨.inl rfl,_,rfl,AVle.refl _⟩
              | false =>
                by_cases v4 : m = 0
                · have g4 : (m != 0) = false := by simpa using v4
                  rw [show decide ((true = false ∧ d ≠ 0 ∨ false = false ∧ a ≠ 0 ∨ true = false ∧ b ≠ 0 ∨ false = false ∧ c ≠ 0 ∨ false = false ∧ m ≠ 0)) = false from decide_eq_false (by simp [v1,v3,v4])]
                  refine seq_reg (σ' := ?_) ?_ ?_
                  rotate_left
                  · simp -implicitDefEqProofs only [r22_unused.r2,κa,κb,κc,κd,κe,κf,κg,κh,κi,κj,κk,κl,κm,κn,κo,κp,κq,κr,κs,κt,κu,κv,κw,κx,κy,κz,κa1,κb1,κc1,κd1,κe1,κf1,κg1,κh1,κi1,κj1,κk1,κl1,κm1,κn1,κo1,κp1,κq1,κr1,κs1,if_true,if_false,reduceIte,κt1,κu1,κv1,κw1,κx1,κy1,κz1,κa2,κb2,κc2,κd2,κe2,κf2,κg2,κh2,κi2,κj2,κk2,κl2,κm2,κn2,κo2,κp2,κq2,reduceCtorEq,κr2,κs2,κt2,κu2,κv2,κw2,κx2,κy2,κz2,κa3,eq_self,κb3,κc3,zL,rBool,g1,g3,g4]; rfl
                  exact ret_ ⟨.inl rfl,_,rfl,AVle.refl _⟩
                · have g4 : (m != 0) = true := by simpa using v4
                  rw [show decide ((true = false ∧ d ≠ 0 ∨ false = false ∧ a ≠ 0 ∨ true = false ∧ b ≠ 0 ∨ false = false ∧ c ≠ 0 ∨ false = false ∧ m ≠ 0)) = true from decide_eq_true (by simp [v4])]
                  refine seq_reg (σ' := ?_) ?_ ?_
                  rotate_left
                  · simp -implicitDefEqProofs only [r22_unused.r2,κa,κb,κc,κd,κe,κf,κg,κh,κi,κj,κk,κl,κm,κn,κo,κp,κq,κr,κs,κt,κu,κv,κw,κx,κy,κz,κa1,κb1,κc1,κd1,κe1,κf1,κg1,κh1,κi1,κj1,κk1,κl1,κm1,κn1,κo1,κp1,κq1,κr1,κs1,if_true,if_false,reduceIte,κt1,κu1,κv1,κw1,κx1,κy1,κz1,κa2,κb2,κc2,κd2,κe2,κf2,κg2,κh2,κi2,κj2,κk2,κl2,κm2,κn2,κo2,κp2,κq2,reduceCtorEq,κr2,κs2,κt2,κu2,κv2,κw2,κx2,κy2,κz2,κa3,eq_self,κb3,κc3,zL,rBool,g1,g3,g4]; rfl
                  exact ret_ ⟨.inl rfl,_,rfl,AVle.refl _⟩
            · have g3 : (c != 0) = true := by simpa using v3
              rw [show decide ((true = false ∧ d ≠ 0 ∨ false = false ∧ a ≠ 0 ∨ true = false ∧ b ≠ 0 ∨ false = false ∧ c ≠ 0 ∨ M = false ∧ m ≠ 0)) = true from decide_eq_true (by simp [v3])]
              refine seq_reg (σ' := ?_) ?_ ?_
              rotate_left
              · simp -implicitDefEqProofs only [r22_unused.r2,κa,κb,κc,κd,κe,κf,κg,κh,κi,κj,κk,κl,κm,κn,κo,κp,κq,κr,κs,κt,κu,κv,κw,κx,κy,κz,κa1,κb1,κc1,κd1,κe1,κf1,κg1,κh1,κi1,κj1,κk1,κl1,κm1,κn1,κo1,κp1,κq1,κr1,κs1,if_true,if_false,reduceIte,κt1,κu1,κv1,κw1,κx1,κy1,κz1,κa2,κb2,κc2,κd2,κe2,κf2,κg2,κh2,κi2,κj2,κk2,κl2,κm2,κn2,κo2,κp2,κq2,reduceCtorEq,κr2,κs2,κt2,κu2,κv2,κw2,κx2,κy2,κz2,κa3,eq_self,κb3,κc3,zL,rBool,g1,g3]; rfl
              exact ret_ ⟨.inl rfl,_,rfl,AVle.refl _⟩
        | false =>
          by_cases v2 : b = 0
          · have g2 : (b != 0) = false := by simpa using v2
            cases C with
            | true =>
              cases M with
              | true =>
                rw [show decide ((true = false ∧ d ≠ 0 ∨ false = false ∧ a ≠ 0 ∨ false = false ∧ b ≠ 0 ∨ true = false ∧ c ≠ 0 ∨ true = false ∧ m ≠ 0)) = false from decide_eq_false (by simp [v1,v2])]
                refine seq_reg (σ' := ?_) ?_ ?_
                rotate_left
                · simp -implicitDefEqProofs only [r22_unused.r2,κa,κb,κc,κd,κe,κf,κg,κh,κi,κj,κk,κl,κm,κn,κo,κp,κq,κr,κs,κt,κu,κv,κw,κx,κy,κz,κa1,κb1,κc1,κd1,κe1,κf1,κg1,κh1,κi1,κj1,κk1,κl1,κm1,κn1,κo1,κp1,κq1,κr1,κs1,if_true,if_false,reduceIte,κt1,κu1,κv1,κw1,κx1,κy1,κz1,κa2,κb2,κc2,κd2,κe2,κf2,κg2,κh2,κi2,κj2,κk2,κl2,κm2,κn2,κo2,κp2,κq2,reduceCtorEq,κr2,κs2,κt2,κu2,κv2,κw2,κx2,κy2,κz2,κa3,eq_self,κb3,κc3,zL,rBool,g1,g2]; rfl
                exact ret_ ⟨.inl rfl,_,rfl,AVle.refl _⟩
              | false =>
                by_cases v4 : m = 0
                · have g4 : (m != 0) = false := by simpa using v4
                  rw [show decide ((true = false ∧ d ≠ 0 ∨ false = false ∧ a ≠ 0 ∨ false = false ∧ b ≠ 0 ∨ true = false ∧ c ≠ 0 ∨ false = false ∧ m ≠ 0)) = false from decide_eq_false (by simp [v1,v2,v4])]
                  refine seq_reg (σ' := ?_) ?_ ?_
                  rotate_left
                  · simp -implicitDefEqProofs only [r22_unused.r2,κa,κb,κc,κd,κe,κf,κg,κh,κi,κj,κk,κl,κm,κn,κo,κp,κq,κr,κs,κt,κu,κv,κw,κx,κy,κz,κa1,κb1,κc1,κd1,κe1,κf1,κg1,κh1,κi1,κj1,κk1,κl1,κm1,κn1,κo1,κp1,κq1,κr1,κs1,if_true,if_false,reduceIte,κt1,κu1,κv1,κw1,κx1,κy1,κz1,κa2,κb2,κc2,κd2,κe2,κf2,κg2,κh2,κi2,κj2,κk2,κl2,κm2,κn2,κo2,κp2,κq2,reduceCtorEq,κr2,κs2,κt2,κu2,κv2,κw2,κx2,κy2,κz2,κa3,eq_self,κb3,κc3,zL,rBool,g1,g2,g4]; rfl
                  exact ret_ ⟨.inl rfl,_,rfl,AVle.refl _⟩
                · have g4 : (m != 0) = true := by simpa using v4
                  rw [show decide ((true = false ∧ d ≠ 0 ∨ false = false ∧ a ≠ 0 ∨ false = false ∧ b ≠ 0 ∨ true = false ∧ c ≠ 0 ∨ false = false ∧ m ≠ 0)) = true from decide_eq_true (by simp [v4])]
                  refine seq_reg (σ' := ?_) ?_ ?_
                  rotate_left
                  · simp -implicitDefEqProofs only [r22_unused.r2,κa,κb,κc,κd,κe,κf,κg,κh,κi,κj,κk,κl,κm,κn,κo,κp,κq,κr,κs,κt,κu,κv,κw,κx,κy,κz,κa1,κb1,κc1,κd1,κe1,κf1,κg1,κh1,κi1,κj1,κk1,κl1,κm1,κn1,κo1,κp1,κq1,κr1,κs1,if_true,if_false,reduceIte,κt1,κu1,κv1,κw1,κx1,κy1,κz1,κa2,κb2,κc2,κd2,κe2,κf2,κg2,κh2,κi2,κj2,κk2,κl2,κm2,κn2,κo2,κp2,κq2,reduceCtorEq,κr2,κs2,κt2,κu2,κv2,κw2,κx2,κy2,κz2,κa3,eq_self,κb3,κc3,zL,rBool,g1,g2,g4]; rfl
                  exact ret_ ⟨.inl rfl,_,rfl,AVle.refl _⟩
            | false =>
              by_cases v3 : c = 0
              · have g3 : (c != 0) = false := by simpa using v3
                cases M with
                | true =>
                  rw [show decide ((true = false ∧ d ≠ 0 ∨ false = false ∧ a ≠ 0 ∨ false = false ∧ b ≠ 0 ∨ false = false ∧ c ≠ 0 ∨ true = false ∧ m ≠ 0)) = false from decide_eq_false (by simp [v1,v2,v3])]
                  refine seq_reg (σ' := ?_) ?_ ?_
                  rotate_left
                  · simp -implicitDefEqProofs only [r22_unused.r2,κa,κb,κc,κd,κe,κf,κg,κh,κi,κj,κk,κl,κm,κn,κo,κp,κq,κr,κs,κt,κu,κv,κw,κx,κy,κz,κa1,κb1,κc1,κd1,κe1,κf1,κg1,κh1,κi1,κj1,κk1,κl1,κm1,κn1,κo1,κp1,κq1,κr1,κs1,if_true,if_false,reduceIte,κt1,κu1,κv1,κw1,κx1,κy1,κz1,κa2,κb2,κc2,κd2,κe2,κf2,κg2,κh2,κi2,κj2,κk2,κl2,κm2,κn2,κo2,κp2,κq2,reduceCtorEq,κr2,κs2,κt2,κu2,κv2,κw2,κx2,κy2,κz2,κa3,eq_self,κb3,κc3,zL,rBool,g1,g2,g3]; rfl
                  exact ret_ ⟨.inl rfl,_,rfl,AVle.refl _⟩
                | false =>
                  by_cases v4 : m = 0
                  · have g4 : (m != 0) = false := by simpa using v4
                    rw [show decide ((true = false ∧ d ≠ 0 ∨ false = false ∧ a ≠ 0 ∨ false = false ∧ b ≠ 0 ∨ false = false ∧ c ≠ 0 ∨ false = false ∧ m ≠ 0)) = false from decide_eq_false (by simp [v1,v2,v3,v4])]
                    refine seq_reg (σ' := ?_) ?_ ?_
                    rotate_left
                    · simp -implicitDefEqProofs only [r22_unused.r2,κa,κb,κc,κd,κe,κf,κg,κh,κi,κj,κk,κl,κm,κn,κo,κp,κq,κr,κs,κt,κu,κv,κw,κx,κy,κz,κa1,κb1,κc1,κd1,κe1,κf1,κg1,κh1,κi1,κj1,κk1,κl1,κm1,κn1,κo1,κp1,κq1,κr1,κs1,if_true,if_false,reduceIte,κt1,κu1,κv1,κw1,κx1,κy1,κz1,κa2,κb2,κc2,κd2,κe2,κf2,κg2,κh2,κi2,κj2,κk2,κl2,κm2,κn2,κo2,κp2,κq2,reduceCtorEq,κr2,κs2,κt2,κu2,κv2,κw2,κx2,κy2,κz2,κa3,eq_self,κb3,κc3,zL,rBool,g1,g2,g3,g4]; rfl
                    exact ret_ ⟨.inl rfl,_,rfl,AVle.refl _⟩
                  · have g4 : (m != 0) = true := by simpa using v4
                    rw [show decide ((true = false ∧ d ≠ 0 ∨ false = false ∧ a ≠ 0 ∨ false = false ∧ b ≠ 0 ∨ false = false ∧ c ≠ 0 ∨ false = false ∧ m ≠ 0)) = true from decide_eq_true (by simp [v4])]
                    refine seq_reg (σ' := ?_) ?_ ?_
                    rotate_left
                    · simp -implicitDefEqProofs only [r22_unused.r2,κa,κb,κc,κd,κe,κf,κg,κh,κi,κj,κk,κl,κm,κn,κo,κp,κq,κr,κs,κt,κu,κv,κw,κx,κy,κz,κa1,κb1,κc1,κd1,κe1,κf1,κg1,κh1,κi1,κj1,κk1,κl1,κm1,κn1,κo1,κp1,κq1,κr1,κs1,if_true,if_false,reduceIte,κt1,κu1,κv1,κw1,κx1,κy1,κz1,κa2,κb2,κc2,κd2,κe2,κf2,κg2,κh2,κi2,κj2,κk2,κl2,κm2,κn2,κo2,κp2,κq2,reduceCtorEq,κr2,κs2,κt2,κu2,κv2,κw2,κx2,κy2,κz2,κa3,eq_self,κb3,κc3,zL,rBool,g1,g2,g3,g4]; rfl
                    exact ret_ ⟨.inl rfl,_,rfl,AVle.refl _⟩
              · have g3 : (c != 0) = true := by simpa using v3
                rw [show decide ((true = false ∧ d ≠ 0 ∨ false = false ∧ a ≠ 0 ∨ false = false ∧ b ≠ 0 ∨ false = false ∧ c ≠ 0 ∨ M = false ∧ m ≠ 0)) = true from decide_eq_true (by simp [v3])]
                refine seq_reg (σ' := ?_) ?_ ?_
                rotate_left
                · simp -implicitDefEqProofs only [r22_unused.r2,κa,κb,κc,κd,κe,κf,κg,κh,κi,κj,κk,κl,κm,κn,κo,κp,κq,κr,κs,κt,κu,κv,κw,κx,κy,κz,κa1,κb1,κc1,κd1,κe1,κf1,κg1,κh1,κi1,κj1,κk1,κl1,κm1,κn1,κo1,κp1,κq1,κr1,κs1,if_true,if_false,reduceIte,κt1,κu1,κv1,κw1,κx1,κy1,κz1,κa2,κb2,κc2,κd2,κe2,κf2,κg2,κh2,κi2,κj2,κk2,κl2,κm2,κn2,κo2,κp2,κq2,reduceCtorEq,κr2,κs2,κt2,κu2,κv2,κw2,κx2,κy2,κz2,κa3,eq_self,κb3,κc3,zL,rBool,g1,g2,g3]; rfl
                exact ret_ ⟨.inl rfl,_,rfl,AVle.refl _⟩
          · have g2 : (b != 0) = true := by simpa using v2
            rw [show decide ((true = false ∧ d ≠ 0 ∨ false = false ∧ a ≠ 0 ∨ false = false ∧ b ≠ 0 ∨ C = false ∧ c ≠ 0 ∨ M = false ∧ m ≠ 0)) = true from decide_eq_true (by simp [v2])]
            refine seq_reg (σ' := ?_) ?_ ?_
            rotate_left
            · simp -implicitDefEqProofs only [r22_unused.r2,κa,κb,κc,κd,κe,κf,κg,κh,κi,κj,κk,κl,κm,κn,κo,κp,κq,κr,κs,κt,κu,κv,κw,κx,κy,κz,κa1,κb1,κc1,κd1,κe1,κf1,κg1,κh1,κi1,κj1,κk1,κl1,κm1,κn1,κo1,κp1,κq1,κr1,κs1,if_true,if_false,reduceIte,κt1,κu1,κv1,κw1,κx1,κy1,κz1,κa2,κb2,κc2,κd2,κe2,κf2,κg2,κh2,κi2,κj2,κk2,κl2,κm2,κn2,κo2,κp2,κq2,reduceCtorEq,κr2,κs2,κt2,κu2,κv2,κw2,κx2,κy2,κz2,κa3,eq_self,κb3,κc3,zL,rBool,g1,g2]; rfl
            exact ret_ ⟨.inl rfl,_,rfl,AVle.refl _⟩
      · have g1 : (a != 0) = true := by simpa using v1
        rw [show decide ((true = false ∧ d ≠ 0 ∨ false = false ∧ a ≠ 0 ∨ B = false ∧ b ≠ 0 ∨ C = false ∧ c ≠ 0 ∨ M = false ∧ m ≠ 0)) = true from decide_eq_true (by simp [v1])]
        refine seq_reg (σ' := ?_) ?_ ?_
        rotate_left
        · simp -implicitDefEqProofs only [r22_unused.r2,κa,κb,κc,κd,κe,κf,κg,κh,κi,κj,κk,κl,κm,κn,κo,κp,κq,κr,κs,κt,κu,κv,κw,κx,κy,κz,κa1,κb1,κc1,κd1,κe1,κf1,κg1,κh1,κi1,κj1,κk1,κl1,κm1,κn1,κo1,κp1,κq1,κr1,κs1,if_true,if_false,reduceIte,κt1,κu1,κv1,κw1,κx1,κy1,κz1,κa2,κb2,κc2,κd2,κe2,κf2,κg2,κh2,κi2,κj2,κk2,κl2,κm2,κn2,κo2,κp2,κq2,reduceCtorEq,κr2,κs2,κt2,κu2,κv2,κw2,κx2,κy2,κz2,κa3,eq_self,κb3,κc3,zL,rBool,g1]; rfl
        exact ret_ ⟨.inl rfl,_,rfl,AVle.refl _⟩
  | false =>
    by_cases v0 : d = 0
    · have g0 : (d != 0) = false := by simpa using v0
      cases A with
      | true =>
        cases B with
        | true =>
          cases C with
          | true =>
            cases M with
            | true =>
              rw [show decide ((false = false ∧ d ≠ 0 ∨ true = false ∧ a ≠ 0 ∨ true = false ∧ b ≠ 0 ∨ true = false ∧ c ≠ 0 ∨ true = false ∧ m ≠ 0)) = false from decide_eq_false (by simp [v0])]
              refine seq_reg (σ' := ?_) ?_ ?_
              rotate_left
              · simp -implicitDefEqProofs only [r22_unused.r2,κa,κb,κc,κd,κe,κf,κg,κh,κi,κj,κk,κl,κm,κn,κo,κp,κq,κr,κs,κt,κu,κv,κw,κx,κy,κz,κa1,κb1,κc1,κd1,κe1,κf1,κg1,κh1,κi1,κj1,κk1,κl1,κm1,κn1,κo1,κp1,κq1,κr1,κs1,if_true,if_false,reduceIte,κt1,κu1,κv1,κw1,κx1,κy1,κz1,κa2,κb2,κc2,κd2,κe2,κf2,κg2,κh2,κi2,κj2,κk2,κl2,κm2,κn2,κo2,κp2,κq2,reduceCtorEq,κr2,κs2,κt2,κu2,κv2,κw2,κx2,κy2,κz2,κa3,eq_self,κb3,κc3,zL,rBool,g0]; rfl
              exact ret_ ⟨.inl rfl,_,rfl,AVle.refl _⟩
            | false =>
              by_cases v4 : m = 0
              · have g4 : (m != 0) = false := by simpa using v4
                rw [show decide ((false = false ∧ d ≠ 0 ∨ true = false ∧ a ≠ 0 ∨ true = false ∧ b ≠ 0 ∨ true = false ∧ c ≠ 0 ∨ false = false ∧ m ≠ 0)) = false from decide_eq_false (by simp [v0,v4])]
                refine seq_reg (σ' := ?_) ?_ ?_
                rotate_left
                · simp -implicitDefEqProofs only [r22_unused.r2,κa,κb,κc,κd,κe,κf,κg,κh,κi,κj,κk,κl,κm,κn,κo,κp,κq,κr,κs,κt,κu,κv,κw,κx,κy,κz,κa1,κb1,κc1,κd1,κe1,κf1,κg1,κh1,κi1,κj1,κk1,κl1,κm1,κn1,κo1,κp1,κq1,κr1,κs1,if_true,if_false,reduceIte,κt1,κu1,κv1,κw1,κx1,κy1,κz1,κa2,κb2,κc2,κd2,κe2,κf2,κg2,κh2,κi2,κj2,κk2,κl2,κm2,κn2,κo2,κp2,κq2,reduceCtorEq,κr2,κs2,κt2,κu2,κv2,κw2,κx2,κy2,κz2,κa3,eq_self,κb3,κc3,zL,rBool,g0,g4]; rfl
                exact ret_ ⟨.inl rfl,_,rfl,AVle.refl _⟩
              · have g4 : (m != 0) = true := by simpa using v4
                rw [show decide ((false = false ∧ d ≠ 0 ∨ true = false ∧ a ≠ 0 ∨ true = false ∧ b ≠ 0 ∨ true = false ∧ c ≠ 0 ∨ false = false ∧ m ≠ 0)) = true from decide_eq_true (by simp [v4])]
                refine seq_reg (σ' := ?_) ?_ ?_
                rotate_left
                · simp -implicitDefEqProofs only [r22_unused.r2,κa,κb,κc,κd,κe,κf,κg,κh,κi,κj,κk,κl,κm,κn,κo,κp,κq,κr,κs,κt,κu,κv,κw,κx,κy,κz,κa1,κb1,κc1,κd1,κe1,κf1,κg1,κh1,κi1,κj1,κk1,κl1,κm1,κn1,κo1,κp1,κq1,κr1,κs1,if_true,if_false,reduceIte,κt1,κu1,κv1,κw1,κx1,κy1,κz1,κa2,κb2,κc2,κd2,κe2,κf2,κg2,κh2,κi2,κj2,κk2,κl2,κm2,κn2,κo2,κp2,κq2,reduceCtorEq,κr2,κs2,κt2,κu2,κv2,κw2,κx2,κy2,κz2,κa3,eq_self,κb3,κc3,zL,rBool,g0,g4]; rfl
                exact ret_ ⟨.inl rfl,_,rfl,AVle.refl _⟩
          | false =>
            by_cases v3 : c = 0
            · have g3 : (c != 0) = false := by simpa using v3
              cases M with
              | true =>
                rw [show decide ((false = false ∧ d ≠ 0 ∨ true = false ∧ a ≠ 0 ∨ true = false ∧ b ≠ 0 ∨ false = false ∧ c ≠ 0 ∨ true = false ∧ m ≠ 0)) = false from decide_eq_false (by simp [v0,v3])]
                refine seq_reg (σ' := ?_) ?_ ?_
                rotate_left
                · simp -implicitDefEqProofs only [r22_unused.r2,κa,κb,κc,κd,κe,κf,κg,κh,κi,κj,κk,κl,κm,κn,κo,κp,κq,κr,κs,κt,κu,κv,κw,κx,κy,κz,κa1,κb1,κc1,κd1,κe1,κf1,κg1,κh1,κi1,κj1,κk1,κl1,κm1,κn1,κo1,κp1,κq1,κr1,κs1,if_true,if_false,reduceIte,κt1,κu1,κv1,κw1,κx1,κy1,κz1,κa2,κb2,κc2,κd2,κe2,κf2,κg2,κh2,κi2,κj2,κk2,κl2,κm2,κn2,κo2,κp2,κq2,reduceCtorEq,κr2,κs2,κt2,κu2,κv2,κw2,κx2,κy2,κz2,κa3,eq_self,κb3,κc3,zL,rBool,g0,g3]; rfl
                exact ret_ ⟨.inl rfl,_,rfl,AVle.refl _⟩
              | false =>
                by_cases v4 : m = 0
                · have g4 : (m != 0) = false := by simpa using v4
                  rw [show decide ((false = false ∧ d ≠ 0 ∨ true = false ∧ a ≠ 0 ∨ true = false ∧ b ≠ 0 ∨ false = false ∧ c ≠ 0 ∨ false = false ∧ m ≠ 0)) = false from decide_eq_false (by simp [v0,v3,v4])]
                  refine seq_reg (σ' := ?_) ?_ ?_
                  rotate_left
                  · simp -implicitDefEqProofs only [r22_unused.r2,κa,κb,κc,κd,κe,κf,κg,κh,κi,κj,κk,κl,κm,κn,κo,κp,κq,κr,κs,κt,κu,κv,κw,κx,κy,κz,κa1,κb1,κc1,κd1,κe1,κf1,κg1,κh1,κi1,κj1,κk1,κl1,κm1,κn1,κo1,κp1,κq1,κr1,κs1,if_true,if_false,reduceIte,κt1,κu1,κv1,κw1,κx1,κy1,κz1,κa2,κb2,κc2,κd2,κe2,κf2,κg2,κh2,κi2,κj2,κk2,κl2,κm2,κn2,κo2,κp2,κq2,reduceCtorEq,κr2,κs2,κt2,κu2,κv2,κw2,κx2,κy2,κz2,κa3,eq_self,κb3,κc3,zL,rBool,g0,g3,g4]; rfl
                  exact ret_ ⟨.inl rfl,_,rfl,AVle.refl _⟩
                · have g4 : (m != 0) = true := by simpa using v4
                  rw [show decide ((false = false ∧ d ≠ 0 ∨ true = false ∧ a ≠ 0 ∨ true = false ∧ b ≠ 0 ∨ false = false ∧ c ≠ 0 ∨ false = false ∧ m ≠ 0)) = true from decide_eq_true (by simp [v4])]
                  refine seq_reg (σ' := ?_) ?_ ?_
                  rotate_left
                  · simp -implicitDefEqProofs only [r22_unused.r2,κa,κb,κc,κd,κe,κf,κg,κh,κi,κj,κk,κl,κm,κn,κo,κp,κq,κr,κs,κt,κu,κv,κw,κx,κy,κz,κa1,κb1,κc1,κd1,κe1,κf1,κg1,κh1,κi1,κj1,κk1,κl1,κm1,κn1,κo1,κp1,κq1,κr1,κs1,if_true,if_false,reduceIte,κt1,κu1,κv1,κw1,κx1,κy1,κz1,κa2,κb2,κc2,κd2,κe2,κf2,κg2,κh2,κi2,κj2,κk2,κl2,κm2,κn2,κo2,κp2,κq2,reduceCtorEq,κr2,κs2,κt2,κu2,κv2,κw2,κx2,κy2,κz2,κa3,eq_self,κb3,κc3,zL,rBool,g0,g3,g4]; rfl
                  exact ret_ ⟨.inl rfl,_,rfl,AVle.refl _⟩
            · have g3 : (c != 0) = true := by simpa using v3
              rw [show decide ((false = false ∧ d ≠ 0 ∨ true = false ∧ a ≠ 0 ∨ true = false ∧ b ≠ 0 ∨ false = false ∧ c ≠ 0 ∨ M = false ∧ m ≠ 0)) = true from decide_eq_true (by simp [v3])]
              refine seq_reg (σ' := ?_) ?_ ?_
              rotate_left
              · simp -implicitDefEqProofs only [r22_unused.r2,κa,κb,κc,κd,κe,κf,κg,κh,κi,κj,κk,κl,κm,κn,κo,κp,κq,κr,κs,κt,κu,κv,κw,κx,κy,κz,κa1,κb1,κc1,κd1,κe1,κf1,κg1,κh1,κi1,κj1,κk1,κl1,κm1,κn1,κo1,κp1,κq1,κr1,κs1,if_true,if_false,reduceIte,κt1,κu1,κv1,κw1,κx1,κy1,κz1,κa2,κb2,κc2,κd2,κe2,κf2,κg2,κh2,κi2,κj2,κk2,κl2,κm2,κn2,κo2,κp2,κq2,reduceCtorEq,κr2,κs2,κt2,κu2,κv2,κw2,κx2,κy2,κz2,κa3,eq_self,κb3,κc3,zL,rBool,g0,g3]; rfl
              exact ret_ ⟨.inl rfl,_,rfl,AVle.refl _⟩
        | false =>
          by_cases v2 : b = 0
          · have g2 : (b != 0) = false := by simpa using v2
            cases C with
            | true =>
              cases M with
              | true =>
                rw [show decide ((false = false ∧ d ≠ 0 ∨ true = false ∧ a ≠ 0 ∨ false = false ∧ b ≠ 0 ∨ true = false ∧ c ≠ 0 ∨ true = false ∧ m ≠ 0)) = false from decide_eq_false (by simp [v0,v2])]
                refine seq_reg (σ' := ?_) ?_ ?_
                rotate_left
                · simp -implicitDefEqProofs only [r22_unused.r2,κa,κb,κc,κd,κe,κf,κg,κh,κi,κj,κk,κl,κm,κn,κo,κp,κq,κr,κs,κt,κu,κv,κw,κx,κy,κz,κa1,κb1,κc1,κd1,κe1,κf1,κg1,κh1,κi1,κj1,κk1,κl1,κm1,κn1,κo1,κp1,κq1,κr1,κs1,if_true,if_false,reduceIte,κt1,κu1,κv1,κw1,κx1,κy1,κz1,κa2,κb2,κc2,κd2,κe2,κf2,κg2,κh2,κi2,κj2,κk2,κl2,κm2,κn2,κo2,κp2,κq2,reduceCtorEq,κr2,κs2,κt2,κu2,κv2,κw2,κx2,κy2,κz2,κa3,eq_self,κb3,κc3,zL,rBool,g0,g2]; rfl
                exact ret_ ⟨.inl rfl,_,rfl,AVle.refl _⟩
              | false =>
                by_cases v4 : m = 0
                · have g4 : (m != 0) = false := by simpa using v4
                  rw [show decide ((false = false ∧ d ≠ 0 ∨ true = false ∧ a ≠ 0 ∨ false = false ∧ b ≠ 0 ∨ true = false ∧ c ≠ 0 ∨ false = false ∧ m ≠ 0)) = false from decide_eq_false (by simp [v0,v2,v4])]
                  refine seq_reg (σ' := ?_) ?_ ?_
                  rotate_left
                  · simp -implicitDefEqProofs only [r22_unused.r2,κa,κb,κc,κd,κe,κf,κg,κh,κi,κj,κk,κl,κm,κn,κo,κp,κq,κr,κs,κt,κu,κv,κw,κx,κy,κz,κa1,κb1,κc1,κd1,κe1,κf1,κg1,κh1,κi1,κj1,κk1,κl1,κm1,κn1,κo1,κp1,κq1,κr1,κs1,if_true,if_false,reduceIte,κt1,κu1,κv1,κw1,κx1,κy1,κz1,κa2,κb2,κc2,κd2,κe2,κf2,κg2,κh2,κi2,κj2,κk2,κl2,κm2,κn2,κo2,κp2,κq2,reduceCtorEq,κr2,κs2,κt2,κu2,κv2,κw2,κx2,κy2,κz2,κa3,eq_self,κb3,κc3,zL,rBool,g0,g2,g4]; rfl
                  exact ret_ ⟨.inl rfl,_,rfl,AVle.refl _⟩
                · have g4 : (m != 0) = true := by simpa using v4
                  rw [show decide ((false = false ∧ d ≠ 0 ∨ true = false ∧ a ≠ 0 ∨ false = false ∧ b ≠ 0 ∨ true = false ∧ c ≠ 0 ∨ false = false ∧ m ≠ 0)) = true from decide_eq_true (by simp [v4])]
                  refine seq_reg (σ' := ?_) ?_ ?_
                  rotate_left
                  · simp -implicitDefEqProofs only [r22_unused.r2,κa,κb,κc,κd,κe,κf,κg,κh,κi,κj,κk,κl,κm,κn,κo,κp,κq,κr,κs,κt,κu,κv,κw,κx,κy,κz,κa1,κb1,κc1,κd1,κe1,κf1,κg1,κh1,κi1,κj1,κk1,κl1,κm1,κn1,κo1,κp1,κq1,κr1,κs1,if_true,if_false,reduceIte,κt1,κu1,κv1,κw1,κx1,κy1,κz1,κa2,κb2,κc2,κd2,κe2,κf2,κg2,κh2,κi2,κj2,κk2,κl2,κm2,κn2,κo2,κp2,κq2,reduceCtorEq,κr2,κs2,κt2,κu2,κv2,κw2,κx2,κy2,κz2,κa3,eq_self,κb3,κc3,zL,rBool,g0,g2,g4]; rfl
                  exact ret_ ⟨.inl rfl,_,rfl,AVle.refl _⟩
            | false =>
              by_cases v3 : c = 0
              · have g3 : (c != 0) = false := by simpa using v3
                cases M with
                | true =>
                  rw [show decide ((false = false ∧ d ≠ 0 ∨ true = false ∧ a ≠ 0 ∨ false = false ∧ b ≠ 0 ∨ false = false ∧ c ≠ 0 ∨ true = false ∧ m ≠ 0)) = false from decide_eq_false (by simp [v0,v2,v3])]
                  refine seq_reg (σ' := ?_) ?_ ?_
                  rotate_left
                  · simp -implicitDefEqProofs only [r22_unused.r2,κa,κb,κc,κd,κe,κf,κg,κh,κi,κj,κk,κl,κm,κn,κo,κp,κq,κr,κs,κt,κu,κv,κw,κx,κy,κz,κa1,κb1,κc1,κd1,κe1,κf1,κg1,κh1,κi1,κj1,κk1,κl1,κm1,κn1,κo1,κp1,κq1,κr1,κs1,if_true,if_false,reduceIte,κt1,κu1,κv1,κw1,κx1,κy1,κz1,κa2,κb2,κc2,κd2,κe2,κf2,κg2,κh2,κi2,κj2,κk2,κl2,κm2,κn2,κo2,κp2,κq2,reduceCtorEq,κr2,κs2,κt2,κu2,κv2,κw2,κx2,κy2,κz2,κa3,eq_self,κb3,κc3,zL,rBool,g0,g2,g3]; rfl
                  exact ret_ ⟨.inl rfl,_,rfl,AVle.refl _⟩
                | false =>
                  by_cases v4 : m = 0
                  · have g4 : (m != 0) = false := by simpa using v4
                    rw [show decide ((false = false ∧ d ≠ 0 ∨ true = false ∧ a ≠ 0 ∨ false = false ∧ b ≠ 0 ∨ false = false ∧ c ≠ 0 ∨ false = false ∧ m ≠ 0)) = false from decide_eq_false (by simp [v0,v2,v3,v4])]
                    refine seq_reg (σ' := ?_) ?_ ?_
                    rotate_left
                    · simp -implicitDefEqProofs only [r22_unused.r2,κa,κb,κc,κd,κe,κf,κg,κh,κi,κj,κk,κl,κm,κn,κo,κp,κq,κr,κs,κt,κu,κv,κw,κx,κy,κz,κa1,κb1,κc1,κd1,κe1,κf1,κg1,κh1,κi1,κj1,κk1,κl1,κm1,κn1,κo1,κp1,κq1,κr1,κs1,if_true,if_false,reduceIte,κt1,κu1,κv1,κw1,κx1,κy1,κz1,κa2,κb2,κc2,κd2,κe2,κf2,κg2,κh2,κi2,κj2,κk2,κl2,κm2,κn2,κo2,κp2,κq2,reduceCtorEq,κr2,κs2,κt2,κu2,κv2,κw2,κx2,κy2,κz2,κa3,eq_self,κb3,κc3,zL,rBool,g0,g2,g3,g4]; rfl
                    exact ret_ ⟨.inl rfl,_,rfl,AVle.refl _⟩
                  · have g4 : (m != 0) = true := by simpa using v4
                    rw [show decide ((false = false ∧ d ≠ 0 ∨ true = false ∧ a ≠ 0 ∨ false = false ∧ b ≠ 0 ∨ false = false ∧ c ≠ 0 ∨ false = false ∧ m ≠ 0)) = true from decide_eq_true (by simp [v4])]
                    refine seq_reg (σ' := ?_) ?_ ?_
                    rotate_left
                    · simp -implicitDefEqProofs only [r22_unused.r2,κa,κb,κc,κd,κe,κf,κg,κh,κi,κj,κk,κl,κm,κn,κo,κp,κq,κr,κs,κt,κu,κv,κw,κx,κy,κz,κa1,κb1,κc1,κd1,κe1,κf1,κg1,κh1,κi1,κj1,κk1,κl1,κm1,κn1,κo1,κp1,κq1,κr1,κs1,if_true,if_false,reduceIte,κt1,κu1,κv1,κw1,κx1,κy1,κz1,κa2,κb2,κc2,κd2,κe2,κf2,κg2,κh2,κi2,κj2,κk2,κl2,κm2,κn2,κo2,κp2,κq2,reduceCtorEq,κr2,κs2,κt2,κu2,κv2,κw2,κx2,κy2,κz2,κa3,eq_self,κb3,κc3,zL,rBool,g0,g2,g3,g4]; rfl
                    exact ret_ ⟨.inl rfl,_,rfl,AVle.refl _⟩
              · have g3 : (c != 0) = true := by simpa using v3
                rw [show decide ((false = false ∧ d ≠ 0 ∨ true = false ∧ a ≠ 0 ∨ false = false ∧ b ≠ 0 ∨ false = false ∧ c ≠ 0 ∨ M = false ∧ m ≠ 0)) = true from decide_eq_true (by simp [v3])]
                refine seq_reg (σ' := ?_) ?_ ?_
                rotate_left
                · simp -implicitDefEqProofs only [r22_unused.r2,κa,κb,κc,κd,κe,κf,κg,κh,κi,κj,κk,κl,κm,κn,κo,κp,κq,κr,κs,κt,κu,κv,κw,κx,κy,κz,κa1,κb1,κc1,κd1,κe1,κf1,κg1,κh1,κi1,κj1,κk1,κl1,κm1,κn1,κo1,κp1,κq1,κr1,κs1,if_true,if_false,reduceIte,κt1,κu1,κv1,κw1,κx1,κy1,κz1,κa2,κb2,κc2,κd2,κe2,κf2,κg2,κh2,κi2,κj2,κk2,κl2,κm2,κn2,κo2,κp2,κq2,reduceCtorEq,κr2,κs2,κt2,κu2,κv2,κw2,κx2,κy2,κz2,κa3,eq_self,κb3,κc3,zL,rBool,g0,g2,g3]; rfl
                exact ret_ ⟨.inl rfl,_,rfl,AVle.refl _⟩
          · have g2 : (b != 0) = true := by simpa using v2
            rw [show decide ((false = false ∧ d ≠ 0 ∨ true = false ∧ a ≠ 0 ∨ false = false ∧ b ≠ 0 ∨ C = false ∧ c ≠ 0 ∨ M = false ∧ m ≠ 0)) = true from decide_eq_true (by simp [v2])]
            refine seq_reg (σ' := ?_) ?_ ?_
            rotate_left
            · simp -implicitDefEqProofs only [r22_unused.r2,κa,κb,κc,κd,κe,κf,κg,κh,κi,κj,κk,κl,κm,κn,κo,κp,κq,κr,κs,κt,κu,κv,κw,κx,κy,κz,κa1,κb1,κc1,κd1,κe1,κf1,κg1,κh1,κi1,κj1,κk1,κl1,κm1,κn1,κo1,κp1,κq1,κr1,κs1,if_true,if_false,reduceIte,κt1,κu1,κv1,κw1,κx1,κy1,κz1,κa2,κb2,κc2,κd2,κe2,κf2,κg2,κh2,κi2,κj2,κk2,κl2,κm2,κn2,κo2,κp2,κq2,reduceCtorEq,κr2,κs2,κt2,κu2,κv2,κw2,κx2,κy2,κz2,κa3,eq_self,κb3,κc3,zL,rBool,g0,g2]; rfl
            exact ret_ ⟨.inl rfl,_,rfl,AVle.refl _⟩
      | false =>
        by_cases v1 : a = 0
        · have g1 : (a != 0) = false := by simpa using v1
          cases B with
          | true =>
            cases C with
            | true =>
              cases M with
              | true =>
                rw [show decide ((false = false ∧ d ≠ 0 ∨ false = false ∧ a ≠ 0 ∨ true = false ∧ b ≠ 0 ∨ true = false ∧ c ≠ 0 ∨ true = false ∧ m ≠ 0)) = false from decide_eq_false (by simp [v0,v1])]
                refine seq_reg (σ' := ?_) ?_ ?_
                rotate_left
                · simp -implicitDefEqProofs only [r22_unused.r2,κa,κb,κc,κd,κe,κf,κg,κh,κi,κj,κk,κl,κm,κn,κo,κp,κq,κr,κs,κt,κu,κv,κw,κx,κy,κz,κa1,κb1,κc1,κd1,κe1,κf1,κg1,κh1,κi1,κj1,κk1,κl1,κm1,κn1,κo1,κp1,κq1,κr1,κs1,if_true,if_false,reduceIte,κt1,κu1,κv1,κw1,κx1,κy1,κz1,κa2,κb2,κc2,κd2,κe2,κf2,κg2,κh2,κi2,κj2,κk2,κl2,κm2,κn2,κo2,κp2,κq2,reduceCtorEq,κr2,κs2,κt2,κu2,κv2,κw2,κx2,κy2,κz2,κa3,eq_self,κb3,κc3,zL,rBool,g0,g1]; rfl
                exact ret_ ⟨.inl rfl,_,rfl,AVle.refl _⟩
              | false =>
                by_cases v4 : m = 0
                · have g4 : (m != 0) = false := by simpa using v4
                  rw [show decide ((false = false ∧ d ≠ 0 ∨ false = false ∧ a ≠ 0 ∨ true = false ∧ b ≠ 0 ∨ true = false ∧ c ≠ 0 ∨ false = false ∧ m ≠ 0)) = false from decide_eq_false (by simp [v0,v1,v4])]
                  refine seq_reg (σ' := ?_) ?_ ?_
                  rotate_left
                  · simp -implicitDefEqProofs only [r22_unused.r2,κa,κb,κc,κd,κe,κf,κg,κh,κi,κj,κk,κl,κm,κn,κo,κp,κq,κr,κs,κt,κu,κv,κw,κx,κy,κz,κa1,κb1,κc1,κd1,κe1,κf1,κg1,κh1,κi1,κj1,κk1,κl1,κm1,κn1,κo1,κp1,κq1,κr1,κs1,if_true,if_false,reduceIte,κt1,κu1,κv1,κw1,κx1,κy1,κz1,κa2,κb2,κc2,κd2,κe2,κf2,κg2,κh2,κi2,κj2,κk2,κl2,κm2,κn2,κo2,κp2,κq2,reduceCtorEq,κr2,κs2,κt2,κu2,κv2,κw2,κx2,κy2,κz2,κa3,eq_self,κb3,κc3,zL,rBool,g0,g1,g4]; rfl
                  exact ret_ ⟨.inl rfl,_,rfl,AVle.refl _⟩
                · have g4 : (m != 0) = true := by simpa using v4
                  rw [show decide ((false = false ∧ d ≠ 0 ∨ false = false ∧ a ≠ 0 ∨ true = false ∧ b ≠ 0 ∨ true = false ∧ c ≠ 0 ∨ false = false ∧ m ≠ 0)) = true from decide_eq_true (by simp [v4])]
                  refine seq_reg (σ' := ?_) ?_ ?_
                  rotate_left
                  · simp -implicitDefEqProofs only [r22_unused.r2,κa,κb,κc,κd,κe,κf,κg,κh,κi,κj,κk,κl,κm,κn,κo,κp,κq,κr,κs,κt,κu,κv,κw,κx,κy,κz,κa1,κb1,κc1,κd1,κe1,κf1,κg1,κh1,κi1,κj1,κk1,κl1,κm1,κn1,κo1,κp1,κq1,κr1,κs1,if_true,if_false,reduceIte,κt1,κu1,κv1,κw1,κx1,κy1,κz1,κa2,κb2,κc2,κd2,κe2,κf2,κg2,κh2,κi2,κj2,κk2,κl2,κm2,κn2,κo2,κp2,κq2,reduceCtorEq,κr2,κs2,κt2,κu2,κv2,κw2,κx2,κy2,κz2,κa3,eq_self,κb3,κc3,zL,rBool,g0,g1,g4]; rfl
                  exact ret_ ⟨.inl rfl,_,rfl,AVle.refl _⟩
            | false =>
              by_cases v3 : c = 0
              · have g3 : (c != 0) = false := by simpa using v3
                cases M with
                | true =>
                  rw [show decide ((false = false ∧ d ≠ 0 ∨ false = false ∧ a ≠ 0 ∨ true = false ∧ b ≠ 0 ∨ false = false ∧ c ≠ 0 ∨ true = false ∧ m ≠ 0)) = false from decide_eq_false (by simp [v0,v1,v3])]
                  refine seq_reg (σ' := ?_) ?_ ?_
                  rotate_left
                  · simp -implicitDefEqProofs only [r22_unused.r2,κa,κb,κc,κd,κe,κf,κg,κh,κi,κj,κk,κl,κm,κn,κo,κp,κq,κr,κs,κt,κu,κv,κw,κx,κy,κz,κa1,κb1,κc1,κd1,κe1,κf1,κg1,κh1,κi1,κj1,κk1,κl1,κm1,κn1,κo1,κp1,κq1,κr1,κs1,if_true,if_false,reduceIte,κt1,κu1,κv1,κw1,κx1,κy1,κz1,κa2,κb2,κc2,κd2,κe2,κf2,κg2,κh2,κi2,κj2,κk2,κl2,κm2,κn2,κo2,κp2,κq2,reduceCtorEq,κr2,κs2,κt2,κu2,κv2,κw2,κx2,κy2,κz2,κa3,eq_self,κb3,κc3,zL,rBool,g0,g1,g3]; rfl
                  exact ret_ ⟨.inl rfl,_,rfl,AVle.refl _⟩
                | false =>
                  by_cases v4 : m = 0
                  · have g4 : (m != 0) = false := by simpa using v4
                    rw [show decide ((false = false ∧ d ≠ 0 ∨ false = false ∧ a ≠ 0 ∨ true = false ∧ b ≠ 0 ∨ false = false ∧ c ≠ 0 ∨ false = false ∧ m ≠ 0)) = false from decide_eq_false (by simp [v0,v1,v3,v4])]
                    refine seq_reg (σ' := ?_) ?_ ?_
                    rotate_left
                    · simp -implicitDefEqProofs only [r22_unused.r2,κa,κb,κc,κd,κe,κf,κg,κh,κi,κj,κk,κl,κm,κn,κo,κp,κq,κr,κs,κt,κu,κv,κw,κx,κy,κz,κa1,κb1,κc1,κd1,κe1,κf1,κg1,κh1,κi1,κj1,κk1,κl1,κm1,κn1,κo1,κp1,κq1,κr1,κs1,if_true,if_false,reduceIte,κt1,κu1,κv1,κw1,κx1,κy1,κz1,κa2,κb2,κc2,κd2,κe2,κf2,κg2,κh2,κi2,κj2,κk2,κl2,κm2,κn2,κo2,κp2,κq2,reduceCtorEq,κr2,κs2,κt2,κu2,κv2,κw2,κx2,κy2,κz2,κa3,eq_self,κb3,κc3,zL,rBool,g0,g1,g3,g4]; rfl
                    exact ret_ ⟨.inl rfl,_,rfl,AVle.refl _⟩
                  · have g4 : (m != 0) = true := by simpa using v4
                    rw [show decide ((false = false ∧ d ≠ 0 ∨ false = false ∧ a ≠ 0 ∨ true = false ∧ b ≠ 0 ∨ false = false ∧ c ≠ 0 ∨ false = false ∧ m ≠ 0)) = true from decide_eq_true (by simp [v4])]
                    refine seq_reg (σ' := ?_) ?_ ?_
                    rotate_left
                    · simp -implicitDefEqProofs only [r22_unused.r2,κa,κb,κc,κd,κe,κf,κg,κh,κi,κj,κk,κl,κm,κn,κo,κp,κq,κr,κs,κt,κu,κv,κw,κx,κy,κz,κa1,κb1,κc1,κd1,κe1,κf1,κg1,κh1,κi1,κj1,κk1,κl1,κm1,κn1,κo1,κp1,κq1,κr1,κs1,if_true,if_false,reduceIte,κt1,κu1,κv1,κw1,κx1,κy1,κz1,κa2,κb2,κc2,κd2,κe2,κf2,κg2,κh2,κi2,κj2,κk2,κl2,κm2,κn2,κo2,κp2,κq2,reduceCtorEq,κr2,κs2,κt2,κu2,κv2,κw2,κx2,κy2,κz2,κa3,eq_self,κb3,κc3,zL,rBool,g0,g1,g3,g4]; rfl
                    exact ret_ ⟨.inl rfl,_,rfl,AVle.refl _⟩
              · have g3 : (c != 0) = true := by simpa using v3
                rw [show decide ((false = false ∧ d ≠ 0 ∨ false = false ∧ a ≠ 0 ∨ true = false ∧ b ≠ 0 ∨ false = false ∧ c ≠ 0 ∨ M = false ∧ m ≠ 0)) = true from decide_eq_true (by simp [v3])]
                refine seq_reg (σ' := ?_) ?_ ?_
                rotate_left
                · simp -implicitDefEqProofs only [r22_unused.r2,κa,κb,κc,κd,κe,κf,κg,κh,κi,κj,κk,κl,κm,κn,κo,κp,κq,κr,κs,κt,κu,κv,κw,κx,κy,κz,κa1,κb1,κc1,κd1,κe1,κf1,κg1,κh1,κi1,κj1,κk1,κl1,κm1,κn1,κo1,κp1,κq1,κr1,κs1,if_true,if_false,reduceIte,κt1,κu1,κv1,κw1,κx1,κy1,κz1,κa2,κb2,κc2,κd2,κe2,κf2,κg2,κh2,κi2,κj2,κk2,κl2,κm2,κn2,κo2,κp2,κq2,reduceCtorEq,κr2,κs2,κt2,κu2,κv2,κw2,κx2,κy2,κz2,κa3,eq_self,κb3,κc3,zL,rBool,g0,g1,g3]; rfl
                exact ret_ ⟨.inl rfl,_,rfl,AVle.refl _⟩
          | false =>
            by_cases v2 : b = 0
            · have g2 : (b != 0) = false := by simpa using v2
              cases C with
              | true =>
                cases M with
                | true =>
                  rw [show decide ((false = false ∧ d ≠ 0 ∨ false = false ∧ a ≠ 0 ∨ false = false ∧ b ≠ 0 ∨ true = false ∧ c ≠ 0 ∨ true = false ∧ m ≠ 0)) = false from decide_eq_false (by simp [v0,v1,v2])]
                  refine seq_reg (σ' := ?_) ?_ ?_
                  rotate_left
                  · simp -implicitDefEqProofs only [r22_unused.r2,κa,κb,κc,κd,κe,κf,κg,κh,κi,κj,κk,κl,κm,κn,κo,κp,κq,κr,κs,κt,κu,κv,κw,κx,κy,κz,κa1,κb1,κc1,κd1,κe1,κf1,κg1,κh1,κi1,κj1,κk1,κl1,κm1,κn1,κo1,κp1,κq1,κr1,κs1,if_true,if_false,reduceIte,κt1,κu1,κv1,κw1,κx1,κy1,κz1,κa2,κb2,κc2,κd2,κe2,κf2,κg2,κh2,κi2,κj2,κk2,κl2,κm2,κn2,κo2,κp2,κq2,reduceCtorEq,κr2,κs2,κt2,κu2,κv2,κw2,κx2,κy2,κz2,κa3,eq_self,κb3,κc3,zL,rBool,g0,g1,g2]; rfl
                  exact ret_ ⟨.inl rfl,_,rfl,AVle.refl _⟩
                | false =>
                  by_cases v4 : m = 0
                  · have g4 : (m != 0) = false := by simpa using v4
                    rw [show decide ((false = false ∧ d ≠ 0 ∨ false = false ∧ a ≠ 0 ∨ false = false ∧ b ≠ 0 ∨ true = false ∧ c ≠ 0 ∨ false = false ∧ m ≠ 0)) = false from decide_eq_false (by simp [v0,v1,v2,v4])]
                    refine seq_reg (σ' := ?_) ?_ ?_
                    rotate_left
                    · simp -implicitDefEqProofs only [r22_unused.r2,κa,κb,κc,κd,κe,κf,κg,κh,κi,κj,κk,κl,κm,κn,κo,κp,κq,κr,κs,κt,κu,κv,κw,κx,κy,κz,κa1,κb1,κc1,κd1,κe1,κf1,κg1,κh1,κi1,κj1,κk1,κl1,κm1,κn1,κo1,κp1,κq1,κr1,κs1,if_true,if_false,reduceIte,κt1,κu1,κv1,κw1,κx1,κy1,κz1,κa2,κb2,κc2,κd2,κe2,κf2,κg2,κh2,κi2,κj2,κk2,κl2,κm2,κn2,κo2,κp2,κq2,reduceCtorEq,κr2,κs2,κt2,κu2,κv2,κw2,κx2,κy2,κz2,κa3,eq_self,κb3,κc3,zL,rBool,g0,g1,g2,g4]; rfl
                    exact ret_ ⟨.inl rfl,_,rfl,AVle.refl _⟩
                  · have g4 : (m != 0) = true := by simpa using v4
                    rw [show decide ((false = false ∧ d ≠ 0 ∨ false = false ∧ a ≠ 0 ∨ false = false ∧ b ≠ 0 ∨ true = false ∧ c ≠ 0 ∨ false = false ∧ m ≠ 0)) = true from decide_eq_true (by simp [v4])]
                    refine seq_reg (σ' := ?_) ?_ ?_
                    rotate_left
                    · simp -implicitDefEqProofs only [r22_unused.r2,κa,κb,κc,κd,κe,κf,κg,κh,κi,κj,κk,κl,κm,κn,κo,κp,κq,κr,κs,κt,κu,κv,κw,κx,κy,κz,κa1,κb1,κc1,κd1,κe1,κf1,κg1,κh1,κi1,κj1,κk1,κl1,κm1,κn1,κo1,κp1,κq1,κr1,κs1,if_true,if_false,reduceIte,κt1,κu1,κv1,κw1,κx1,κy1,κz1,κa2,κb2,κc2,κd2,κe2,κf2,κg2,κh2,κi2,κj2,κk2,κl2,κm2,κn2,κo2,κp2,κq2,reduceCtorEq,κr2,κs2,κt2,κu2,κv2,κw2,κx2,κy2,κz2,κa3,eq_self,κb3,κc3,zL,rBool,g0,g1,g2,g4]; rfl
                    exact ret_ ⟨.inl rfl,_,rfl,AVle.refl _⟩
              | false =>
                by_cases v3 : c = 0
                · have g3 : (c != 0) = false := by simpa using v3
                  cases M with
                  | true =>
                    rw [show decide ((false = false ∧ d ≠ 0 ∨ false = false ∧ a ≠ 0 ∨ false = false ∧ b ≠ 0 ∨ false = false ∧ c ≠ 0 ∨ true = false ∧ m ≠ 0)) = false from decide_eq_false (by simp [v0,v1,v2,v3])]
                    refine seq_reg (σ' := ?_) ?_ ?_
                    rotate_left
                    · simp -implicitDefEqProofs only [r22_unused.r2,κa,κb,κc,κd,κe,κf,κg,κh,κi,κj,κk,κl,κm,κn,κo,κp,κq,κr,κs,κt,κu,κv,κw,κx,κy,κz,κa1,κb1,κc1,κd1,κe1,κf1,κg1,κh1,κi1,κj1,κk1,κl1,κm1,κn1,κo1,κp1,κq1,κr1,κs1,if_true,if_false,reduceIte,κt1,κu1,κv1,κw1,κx1,κy1,κz1,κa2,κb2,κc2,κd2,κe2,κf2,κg2,κh2,κi2,κj2,κk2,κl2,κm2,κn2,κo2,κp2,κq2,reduceCtorEq,κr2,κs2,κt2,κu2,κv2,κw2,κx2,κy2,κz2,κa3,eq_self,κb3,κc3,zL,rBool,g0,g1,g2,g3]; rfl
                    exact ret_ ⟨.inl rfl,_,rfl,AVle.refl _⟩
                  | false =>
                    by_cases v4 : m = 0
                    · have g4 : (m != 0) = false := by simpa using v4
                      rw [show decide ((false = false ∧ d ≠ 0 ∨ false = false ∧ a ≠ 0 ∨ false = false ∧ b ≠ 0 ∨ false = false ∧ c ≠ 0 ∨ false = false ∧ m ≠ 0)) = false from decide_eq_false (by simp [v0,v1,v2,v3,v4])]
                      refine seq_reg (σ' := ?_) ?_ ?_
                      rotate_left
                      · simp -implicitDefEqProofs only [r22_unused.r2,κa,κb,κc,κd,κe,κf,κg,κh,κi,κj,κk,κl,κm,κn,κo,κp,κq,κr,κs,κt,κu,κv,κw,κx,κy,κz,κa1,κb1,κc1,κd1,κe1,κf1,κg1,κh1,κi1,κj1,κk1,κl1,κm1,κn1,κo1,κp1,κq1,κr1,κs1,if_true,if_false,reduceIte,κt1,κu1,κv1,κw1,κx1,κy1,κz1,κa2,κb2,κc2,κd2,κe2,κf2,κg2,κh2,κi2,κj2,κk2,κl2,κm2,κn2,κo2,κp2,κq2,reduceCtorEq,κr2,κs2,κt2,κu2,κv2,κw2,κx2,κy2,κz2,κa3,eq_self,κb3,κc3,zL,rBool,g0,g1,g2,g3,g4]; rfl
                      exact ret_ ⟨.inl rfl,_,rfl,AVle.refl _⟩
                    · have g4 : (m != 0) = true := by simpa using v4
                      rw [show decide ((false = false ∧ d ≠ 0 ∨ false = false ∧ a ≠ 0 ∨ false = false ∧ b ≠ 0 ∨ false = false ∧ c ≠ 0 ∨ false = false ∧ m ≠ 0)) = true from decide_eq_true (by simp [v4])]
                      refine seq_reg (σ' := ?_) ?_ ?_
                      rotate_left
                      · simp -implicitDefEqProofs only [r22_unused.r2,κa,κb,κc,κd,κe,κf,κg,κh,κi,κj,κk,κl,κm,κn,κo,κp,κq,κr,κs,κt,κu,κv,κw,κx,κy,κz,κa1,κb1,κc1,κd1,κe1,κf1,κg1,κh1,κi1,κj1,κk1,κl1,κm1,κn1,κo1,κp1,κq1,κr1,κs1,if_true,if_false,reduceIte,κt1,κu1,κv1,κw1,κx1,κy1,κz1,κa2,κb2,κc2,κd2,κe2,κf2,κg2,κh2,κi2,κj2,κk2,κl2,κm2,κn2,κo2,κp2,κq2,reduceCtorEq,κr2,κs2,κt2,κu2,κv2,κw2,κx2,κy2,κz2,κa3,eq_self,κb3,κc3,zL,rBool,g0,g1,g2,g3,g4]; rfl
                      exact ret_ ⟨.inl rfl,_,rfl,AVle.refl _⟩
                · have g3 : (c != 0) = true := by simpa using v3
                  rw [show decide ((false = false ∧ d ≠ 0 ∨ false = false ∧ a ≠ 0 ∨ false = false ∧ b ≠ 0 ∨ false = false ∧ c ≠ 0 ∨ M = false ∧ m ≠ 0)) = true from decide_eq_true (by simp [v3])]
                  refine seq_reg (σ' := ?_) ?_ ?_
                  rotate_left
                  · simp -implicitDefEqProofs only [r22_unused.r2,κa,κb,κc,κd,κe,κf,κg,κh,κi,κj,κk,κl,κm,κn,κo,κp,κq,κr,κs,κt,κu,κv,κw,κx,κy,κz,κa1,κb1,κc1,κd1,κe1,κf1,κg1,κh1,κi1,κj1,κk1,κl1,κm1,κn1,κo1,κp1,κq1,κr1,κs1,if_true,if_false,reduceIte,κt1,κu1,κv1,κw1,κx1,κy1,κz1,κa2,κb2,κc2,κd2,κe2,κf2,κg2,κh2,κi2,κj2,κk2,κl2,κm2,κn2,κo2,κp2,κq2,reduceCtorEq,κr2,κs2,κt2,κu2,κv2,κw2,κx2,κy2,κz2,κa3,eq_self,κb3,κc3,zL,rBool,g0,g1,g2,g3]; rfl
                  exact ret_ ⟨.inl rfl,_,rfl,AVle.refl _⟩
            · have g2 : (b != 0) = true := by simpa using v2
              rw [show decide ((false = false ∧ d ≠ 0 ∨ false = false ∧ a ≠ 0 ∨ false = false ∧ b ≠ 0 ∨ C = false ∧ c ≠ 0 ∨ M = false ∧ m ≠ 0)) = true from decide_eq_true (by simp [v2])]
              refine seq_reg (σ' := ?_) ?_ ?_
              rotate_left
              · simp -implicitDefEqProofs only [r22_unused.r2,κa,κb,κc,κd,κe,κf,κg,κh,κi,κj,κk,κl,κm,κn,κo,κp,κq,κr,κs,κt,κu,κv,κw,κx,κy,κz,κa1,κb1,κc1,κd1,κe1,κf1,κg1,κh1,κi1,κj1,κk1,κl1,κm1,κn1,κo1,κp1,κq1,κr1,κs1,if_true,if_false,reduceIte,κt1,κu1,κv1,κw1,κx1,κy1,κz1,κa2,κb2,κc2,κd2,κe2,κf2,κg2,κh2,κi2,κj2,κk2,κl2,κm2,κn2,κo2,κp2,κq2,reduceCtorEq,κr2,κs2,κt2,κu2,κv2,κw2,κx2,κy2,κz2,κa3,eq_self,κb3,κc3,zL,rBool,g0,g1,g2]; rfl
              exact ret_ ⟨.inl rfl,_,rfl,AVle.refl _⟩
        · have g1 : (a != 0) = true := by simpa using v1
          rw [show decide ((false = false ∧ d ≠ 0 ∨ false = false ∧ a ≠ 0 ∨ B = false ∧ b ≠ 0 ∨ C = false ∧ c ≠ 0 ∨ M = false ∧ m ≠ 0)) = true from decide_eq_true (by simp [v1])]
          refine seq_reg (σ' := ?_) ?_ ?_
          rotate_left
          · simp -implicitDefEqProofs only [r22_unused.r2,κa,κb,κc,κd,κe,κf,κg,κh,κi,κj,κk,κl,κm,κn,κo,κp,κq,κr,κs,κt,κu,κv,κw,κx,κy,κz,κa1,κb1,κc1,κd1,κe1,κf1,κg1,κh1,κi1,κj1,κk1,κl1,κm1,κn1,κo1,κp1,κq1,κr1,κs1,if_true,if_false,reduceIte,κt1,κu1,κv1,κw1,κx1,κy1,κz1,κa2,κb2,κc2,κd2,κe2,κf2,κg2,κh2,κi2,κj2,κk2,κl2,κm2,κn2,κo2,κp2,κq2,reduceCtorEq,κr2,κs2,κt2,κu2,κv2,κw2,κx2,κy2,κz2,κa3,eq_self,κb3,κc3,zL,rBool,g0,g1]; rfl
          exact ret_ ⟨.inl rfl,_,rfl,AVle.refl _⟩
    · have g0 : (d != 0) = true := by simpa using v0
      rw [show decide ((false = false ∧ d ≠ 0 ∨ A = false ∧ a ≠ 0 ∨ B = false ∧ b ≠ 0 ∨ C = false ∧ c ≠ 0 ∨ M = false ∧ m ≠ 0)) = true from decide_eq_true (by simp [v0])]
      refine seq_reg (σ' := ?_) ?_ ?_
      rotate_left
      · simp -implicitDefEqProofs only [r22_unused.r2,κa,κb,κc,κd,κe,κf,κg,κh,κi,κj,κk,κl,κm,κn,κo,κp,κq,κr,κs,κt,κu,κv,κw,κx,κy,κz,κa1,κb1,κc1,κd1,κe1,κf1,κg1,κh1,κi1,κj1,κk1,κl1,κm1,κn1,κo1,κp1,κq1,κr1,κs1,if_true,if_false,reduceIte,κt1,κu1,κv1,κw1,κx1,κy1,κz1,κa2,κb2,κc2,κd2,κe2,κf2,κg2,κh2,κi2,κj2,κk2,κl2,κm2,κn2,κo2,κp2,κq2,reduceCtorEq,κr2,κs2,κt2,κu2,κv2,κw2,κx2,κy2,κz2,κa3,eq_self,κb3,κc3,zL,rBool,g0]; rfl
      exact ret_ ⟨.inl rfl,_,rfl,AVle.refl _⟩
end Go.Proofs.Ytjbhhdocbejccaa.Pl
