/- Chapter 43: the first error of an instruction's fields. No condition beyond those that each theorem states. -/
import Derived.Test.YtjbhhdocbejccaaI
namespace Go.Proofs.Ytjbhhdocbejccaa.Pl
open Go Go.RowKit Go.Proofs.Ytjbhhdocbejccaa.Am
open Go.Proofs.Ytjbhhdocbejccaa.Am renaming ex_nil → κa,ex_cons → κb,exK_some → κc,st_n → κd,st_g → κe,gd_b → κf,gd_u → κg,rn_v → κh,rn_m → κi,rn_s → κj,rn_a → κk,think → κl,prep → κm,mkDsts → κn,ev → κp,upd → κq,init → κr,forgetBox → κu,pvs → κx,fillX → κy,chunks → κz,binV → κa1,xints → κb1,ldX → κc1,baseOk → κe1,fg_p → κf1,fg_tk → κg1,mkG → κh1,tab → κj1,c3 → κa3
open Go.Proofs.Ytjbhhdocbejccaa.Am.St renaming clear → κo,put → κt,of → κk1
open Go.Proofs.Ytjbhhdocbejccaa.Am.PV renaming av → κs
open Go.Proofs.Ytjbhhdocbejccaa.Am.AV renaming cells → κv,pv → κw,plain → κd1
open Go.Proofs.Ytjbhhdocbejccaa.Am.Sig renaming spec → κi1
open List renaming getElem?_cons_zero → κl1,getElem?_cons_succ → κm1,getElem?_nil → κn1,map_cons → κu1,map_nil → κv1,drop_succ_cons → κw1,drop_zero → κx1,take_succ_cons → κy1,take_zero → κz1,length_cons → κa2,length_nil → κb2,length_append → κc2,cons_append → κd2,nil_append → κe2,append_nil → κf2
open Option renaming map_some → κo1,map_none → κp1,bind_some → κq1,isSome_some → κr1,isSome_none → κs1
open Nat renaming reduceEqDiff → κt1,reduceAdd → κg2,reduceMul → κh2,reduceLeDiff → κi2,reduceBEq → κj2,zero_le → κk2,le_refl → κl2,zero_add → κm2,add_zero → κn2
open Bool renaming not_true → κo2,not_false → κp2,false_eq_true → κq2,true_eq_false → κc3
open Int renaming reduceBEq → κr2,reduceBNe → κs2,reduceLT → κt2,reduceLE → κu2,reduceAdd → κv2,reduceToNat → κw2,toNat_zero → κx2,reduceEq → κy2,toNat_natCast → κz2,le_refl → κb3
set_option linter.unusedVariables false
set_option linter.unusedSimpArgs false
set_option maxHeartbeats 8000000
set_option maxRecDepth 100000
def unuB (op d a b c m : Int) : Bool := decide ((dB op = false ∧ d ≠ 0) ∨ (aB op = false ∧ a ≠ 0) ∨ (bB op = false ∧ b ≠ 0) ∨ (cB op = false ∧ c ≠ 0) ∨ (mB op = false ∧ m ≠ 0))
def outB (st rg inp out un tx bf op d a b c m : Int) : Bool := decide ((dB op = true ∧ withinB d 0 (rg - 1) = false) ∨ (aB op = true ∧ withinB a 0 (rg - 1) = false) ∨ (bB op = true ∧ withinB b 0 (rg - 1) = false) ∨ (cB op = true ∧ withinB c 0 (rg - 1) = false) ∨ immB st inp out un tx bf op m = false)
def opnE (st rg inp out un tx bf op d a b c m : Int) : Int := if opB op = true then (if unuB op d a b c m = true then 2 else if outB st rg inp out un tx bf op d a b c m = true then 6 else 0) else 10
def isa_operands.S : Am.Spec := fun args => match args with
  | [.agg [.int .i64 st,.int .i64 rg,.int .i64 inp,.int .i64 out,.int .i64 un,.int .i64 tx,.int .i64 bf,code],.agg [.int .i64 op,.int .i64 d,.int .i64 a,.int .i64 b,.int .i64 c,.int .i64 m]] => if okP inp out un tx bf ∧ 0 ≤ rg ∧ rg ≤ 8192 then some (rInt (opnE st rg inp out un tx bf op d a b c m)) else none
  | _ => none
def oS (P I L : List XV) (M : Bool) (i : Nat) : St := St.of [(2,.box 2 0),(3,.box 3 0),(9,.c (.p (.bool M))),(10,.box 10 0),(30,.agg L),(31,rInt i)] [(2,P),(3,I),(10,L)] [] 0
def oT (P I L : List XV) (i : Nat) : St := St.of [(2,.box 2 0),(3,.box 3 0),(50,.agg L),(51,rInt i)] [(2,P),(3,I)] [] 0
section
variable {G : FuncId → Am.Spec} {Q : Exit → St → Prop} {K : St → Prop} {P I L R : List XV} {M U : Bool} {v : Int} {i : Nat}
theorem opn_pass (hi : i < 4) (hL : L.drop (i * 2) = .p (.int .i64 v) :: .p (.bool U) :: R) (h : U = true ∨ v = 0) (hK : K (oS P I L M (i + 1))) : mwp G isa_operands.b11 (outSeq (fun σ' => ∃ σ'',Sub σ'' σ' ∧ K σ'') Q) (oS P I L M i) := by
  have hlt : (i : Int) < 4 := by omega
  have hi0 : (0 : Int) ≤ (i : Int) := by omega
  have hi1 : (i : Int) < ((4 : Nat) : Int) := by omega
  have hwr : IntKind.i64.wrap ((i : Int) + 1) = ((i + 1 : Nat) : Int) := by rw [i64_w' (by omega) (by omega)]; omega
  unfold isa_operands.b11
  refine seq_reg (σ' := ?_) ?_ ?_
  rotate_left
  · simp -implicitDefEqProofs only [isa_operands.r6,κa,κb,κc,κd,κe,κf,κg,κh,κi,κj,κk,κl,κm,κn,κo,κp,κq,κr,κs,κt,κu,κv,κw,κx,κy,κz,κa1,κb1,κc1,κd1,κe1,κf1,κg1,κh1,κi1,κj1,κk1,κl1,κm1,κn1,κo1,κp1,κq1,κr1,κs1,if_true,if_false,reduceIte,κt1,κu1,κv1,κw1,κx1,κy1,κz1,κa2,κb2,κc2,κd2,κe2,κf2,κg2,κh2,κi2,κj2,κk2,κl2,κm2,κn2,κo2,κp2,κq2,reduceCtorEq,κr2,κs2,κt2,κu2,κv2,κw2,κx2,κy2,κz2,κa3,eq_self,κb3,κc3,zL,oS,rInt,hlt]; rfl
  refine seq_ (cond_ rfl (fun _ => skip_ (norm_ ?_)) (fun h => by cases h))
  refine seq_ (block_ ?_)
  refine seq_reg (σ' := ?_) ?_ ?_
  rotate_left
  · simp -implicitDefEqProofs only [isa_operands.r7,κa,κb,κc,κd,κe,κf,κg,κh,κi,κj,κk,κl,κm,κn,κo,κp,κq,κr,κs,κt,κu,κv,κw,κx,κy,κz,κa1,κb1,κc1,κd1,κe1,κf1,κg1,κh1,κi1,κj1,κk1,κl1,κm1,κn1,κo1,κp1,κq1,κr1,κs1,if_true,if_false,reduceIte,κt1,κu1,κv1,κw1,κx1,κy1,κz1,κa2,κb2,κc2,κd2,κe2,κf2,κg2,κh2,κi2,κj2,κk2,κl2,κm2,κn2,κo2,κp2,κq2,reduceCtorEq,κr2,κs2,κt2,κu2,κv2,κw2,κx2,κy2,κz2,κa3,eq_self,κb3,κc3,zL,hi0,hi1,hL,rInt]; rfl
  have fin : ∀ σ,(oS P I L M i).tm = (oS P I L M i).tm → Sub (St.of [(2,.box 2 0),(3,.box 3 0),(9,.c (.p (.bool M))),(10,.box 10 0),(30,.agg L),(31,rInt i)] [(2,P),(3,I),(10,L)] [] 0) σ → outSeq (fun σ' => ∃ σ'',Sub σ'' σ' ∧ mwp G (.reg isa_operands.r10) (outSeq (fun σ' => ∃ σ'',Sub σ'' σ' ∧ K σ'') Q) σ'') (outSeq (fun σ' => ∃ σ'',Sub σ'' σ' ∧ K σ'') Q) .normal σ := fun σ _ hs => by
    refine norm_sub (σ'' := St.of [(2,.box 2 0),(3,.box 3 0),(9,.c (.p (.bool M))),(10,.box 10 0),(30,.agg L),(31,rInt i)] [(2,P),(3,I),(10,L)] [] 0) hs ?_
    refine last_reg (σ' := ?_) ?_ ?_
    rotate_left
    · simp -implicitDefEqProofs only [isa_operands.r10,κa,κb,κc,κd,κe,κf,κg,κh,κi,κj,κk,κl,κm,κn,κo,κp,κq,κr,κs,κt,κu,κv,κw,κx,κy,κz,κa1,κb1,κc1,κd1,κe1,κf1,κg1,κh1,κi1,κj1,κk1,κl1,κm1,κn1,κo1,κp1,κq1,κr1,κs1,if_true,if_false,reduceIte,κt1,κu1,κv1,κw1,κx1,κy1,κz1,κa2,κb2,κc2,κd2,κe2,κf2,κg2,κh2,κi2,κj2,κk2,κl2,κm2,κn2,κo2,κp2,κq2,reduceCtorEq,κr2,κs2,κt2,κu2,κv2,κw2,κx2,κy2,κz2,κa3,eq_self,κb3,κc3,zL,rInt,hwr]; rfl
    exact ⟨oS P I L M (i + 1),sub_of (all_cons rfl (all_cons rfl (all_cons rfl (all_cons rfl (all_cons rfl (all_cons rfl all_nil)))))) (all_cons rfl (all_cons rfl (all_cons rfl all_nil))) all_nil (Nat.le_refl _),hK⟩
  rcases h with h | h
  · subst h
    refine seq_reg (σ' := ?_) ?_ ?_
    rotate_left
    · simp -implicitDefEqProofs only [isa_operands.r8,κa,κb,κc,κd,κe,κf,κg,κh,κi,κj,κk,κl,κm,κn,κo,κp,κq,κr,κs,κt,κu,κv,κw,κx,κy,κz,κa1,κb1,κc1,κd1,κe1,κf1,κg1,κh1,κi1,κj1,κk1,κl1,κm1,κn1,κo1,κp1,κq1,κr1,κs1,if_true,if_false,reduceIte,κt1,κu1,κv1,κw1,κx1,κy1,κz1,κa2,κb2,κc2,κd2,κe2,κf2,κg2,κh2,κi2,κj2,κk2,κl2,κm2,κn2,κo2,κp2,κq2,reduceCtorEq,κr2,κs2,κt2,κu2,κv2,κw2,κx2,κy2,κz2,κa3,eq_self,κb3,κc3,zL,rInt]; rfl
    refine cond_ rfl (fun h => by cases h) (fun _ => skip_ ?_)
    exact fin _ rfl (sub_of (all_cons rfl (all_cons rfl (all_cons rfl (all_cons rfl (all_cons rfl (all_cons rfl all_nil)))))) (all_cons rfl (all_cons rfl (all_cons rfl all_nil))) all_nil (Nat.le_refl _))
  · subst h
    cases U with
    | true =>
      refine seq_reg (σ' := ?_) ?_ ?_
      rotate_left
      · simp -implicitDefEqProofs only [isa_operands.r8,κa,κb,κc,κd,κe,κf,κg,κh,κi,κj,κk,κl,κm,κn,κo,κp,κq,κr,κs,κt,κu,κv,κw,κx,κy,κz,κa1,κb1,κc1,κd1,κe1,κf1,κg1,κh1,κi1,κj1,κk1,κl1,κm1,κn1,κo1,κp1,κq1,κr1,κs1,if_true,if_false,reduceIte,κt1,κu1,κv1,κw1,κx1,κy1,κz1,κa2,κb2,κc2,κd2,κe2,κf2,κg2,κh2,κi2,κj2,κk2,κl2,κm2,κn2,κo2,κp2,κq2,reduceCtorEq,κr2,κs2,κt2,κu2,κv2,κw2,κx2,κy2,κz2,κa3,eq_self,κb3,κc3,zL,rInt]; rfl
      refine cond_ rfl (fun h => by cases h) (fun _ => skip_ ?_)
      exact fin _ rfl (sub_of (all_cons rfl (all_cons rfl (all_cons rfl (all_cons rfl (all_cons rfl (all_cons rfl all_nil)))))) (all_cons rfl (all_cons rfl (all_cons rfl all_nil))) all_nil (Nat.le_refl _))
    | false =>
      have hne : ((0 : Int) != 0) = false := rfl
      refine seq_reg (σ' := ?_) ?_ ?_
      rotate_left
      · simp -implicitDefEqProofs only [isa_operands.r8,κa,κb,κc,κd,κe,κf,κg,κh,κi,κj,κk,κl,κm,κn,κo,κp,κq,κr,κs,κt,κu,κv,κw,κx,κy,κz,κa1,κb1,κc1,κd1,κe1,κf1,κg1,κh1,κi1,κj1,κk1,κl1,κm1,κn1,κo1,κp1,κq1,κr1,κs1,if_true,if_false,reduceIte,κt1,κu1,κv1,κw1,κx1,κy1,κz1,κa2,κb2,κc2,κd2,κe2,κf2,κg2,κh2,κi2,κj2,κk2,κl2,κm2,κn2,κo2,κp2,κq2,reduceCtorEq,κr2,κs2,κt2,κu2,κv2,κw2,κx2,κy2,κz2,κa3,eq_self,κb3,κc3,zL,rInt,hne]; rfl
      refine cond_ rfl (fun h => by cases h) (fun _ => skip_ ?_)
      exact fin _ rfl (sub_of (all_cons rfl (all_cons rfl (all_cons rfl (all_cons rfl (all_cons rfl (all_cons rfl all_nil)))))) (all_cons rfl (all_cons rfl (all_cons rfl all_nil))) all_nil (Nat.le_refl _))
theorem opn_exit (hi : i < 4) (hL : L.drop (i * 2) = .p (.int .i64 v) :: .p (.bool U) :: R) (hU : U = false) (hv : v ≠ 0) (hQ : ∀ σ,σ.tm 4 = some (rInt 2) → Q .ret σ) : mwp G isa_operands.b11 (outSeq (fun σ' => ∃ σ'',Sub σ'' σ' ∧ K σ'') Q) (oS P I L M i) := by
  have hlt : (i : Int) < 4 := by omega
  have hi0 : (0 : Int) ≤ (i : Int) := by omega
  have hi1 : (i : Int) < ((4 : Nat) : Int) := by omega
  have hne : (v != 0) = true := by simpa using hv
  subst hU
  unfold isa_operands.b11
  refine seq_reg (σ' := ?_) ?_ ?_
  rotate_left
  · simp -implicitDefEqProofs only [isa_operands.r6,κa,κb,κc,κd,κe,κf,κg,κh,κi,κj,κk,κl,κm,κn,κo,κp,κq,κr,κs,κt,κu,κv,κw,κx,κy,κz,κa1,κb1,κc1,κd1,κe1,κf1,κg1,κh1,κi1,κj1,κk1,κl1,κm1,κn1,κo1,κp1,κq1,κr1,κs1,if_true,if_false,reduceIte,κt1,κu1,κv1,κw1,κx1,κy1,κz1,κa2,κb2,κc2,κd2,κe2,κf2,κg2,κh2,κi2,κj2,κk2,κl2,κm2,κn2,κo2,κp2,κq2,reduceCtorEq,κr2,κs2,κt2,κu2,κv2,κw2,κx2,κy2,κz2,κa3,eq_self,κb3,κc3,zL,oS,rInt,hlt]; rfl
  refine seq_ (cond_ rfl (fun _ => skip_ (norm_ ?_)) (fun h => by cases h))
  refine seq_ (block_ ?_)
  refine seq_reg (σ' := ?_) ?_ ?_
  rotate_left
  · simp -implicitDefEqProofs only [isa_operands.r7,κa,κb,κc,κd,κe,κf,κg,κh,κi,κj,κk,κl,κm,κn,κo,κp,κq,κr,κs,κt,κu,κv,κw,κx,κy,κz,κa1,κb1,κc1,κd1,κe1,κf1,κg1,κh1,κi1,κj1,κk1,κl1,κm1,κn1,κo1,κp1,κq1,κr1,κs1,if_true,if_false,reduceIte,κt1,κu1,κv1,κw1,κx1,κy1,κz1,κa2,κb2,κc2,κd2,κe2,κf2,κg2,κh2,κi2,κj2,κk2,κl2,κm2,κn2,κo2,κp2,κq2,reduceCtorEq,κr2,κs2,κt2,κu2,κv2,κw2,κx2,κy2,κz2,κa3,eq_self,κb3,κc3,zL,hi0,hi1,hL,rInt]; rfl
  refine seq_reg (σ' := ?_) ?_ ?_
  rotate_left
  · simp -implicitDefEqProofs only [isa_operands.r8,κa,κb,κc,κd,κe,κf,κg,κh,κi,κj,κk,κl,κm,κn,κo,κp,κq,κr,κs,κt,κu,κv,κw,κx,κy,κz,κa1,κb1,κc1,κd1,κe1,κf1,κg1,κh1,κi1,κj1,κk1,κl1,κm1,κn1,κo1,κp1,κq1,κr1,κs1,if_true,if_false,reduceIte,κt1,κu1,κv1,κw1,κx1,κy1,κz1,κa2,κb2,κc2,κd2,κe2,κf2,κg2,κh2,κi2,κj2,κk2,κl2,κm2,κn2,κo2,κp2,κq2,reduceCtorEq,κr2,κs2,κt2,κu2,κv2,κw2,κx2,κy2,κz2,κa3,eq_self,κb3,κc3,zL,rInt,hne]; rfl
  refine cond_ rfl (fun _ => ?_) (fun h => by cases h)
  refine seq_reg (σ' := ?_) ?_ ?_
  rotate_left
  · simp -implicitDefEqProofs only [isa_operands.r9,κa,κb,κc,κd,κe,κf,κg,κh,κi,κj,κk,κl,κm,κn,κo,κp,κq,κr,κs,κt,κu,κv,κw,κx,κy,κz,κa1,κb1,κc1,κd1,κe1,κf1,κg1,κh1,κi1,κj1,κk1,κl1,κm1,κn1,κo1,κp1,κq1,κr1,κs1,if_true,if_false,reduceIte,κt1,κu1,κv1,κw1,κx1,κy1,κz1,κa2,κb2,κc2,κd2,κe2,κf2,κg2,κh2,κi2,κj2,κk2,κl2,κm2,κn2,κo2,κp2,κq2,reduceCtorEq,κr2,κs2,κt2,κu2,κv2,κw2,κx2,κy2,κz2,κa3,eq_self,κb3,κc3,zL]; rfl
  exact hQ _ rfl
theorem opn_done (hK : ∀ σ,Sub (oS P I L M 4) σ → Q (.exit 0) σ) : mwp G isa_operands.b11 (outSeq (fun σ' => ∃ σ'',Sub σ'' σ' ∧ K σ'') Q) (oS P I L M 4) := by
  have h4 : ((4 : Nat) : Int) = 4 := rfl
  unfold isa_operands.b11
  refine seq_reg (σ' := ?_) ?_ ?_
  rotate_left
  · simp -implicitDefEqProofs only [isa_operands.r6,κa,κb,κc,κd,κe,κf,κg,κh,κi,κj,κk,κl,κm,κn,κo,κp,κq,κr,κs,κt,κu,κv,κw,κx,κy,κz,κa1,κb1,κc1,κd1,κe1,κf1,κg1,κh1,κi1,κj1,κk1,κl1,κm1,κn1,κo1,κp1,κq1,κr1,κs1,if_true,if_false,reduceIte,κt1,κu1,κv1,κw1,κx1,κy1,κz1,κa2,κb2,κc2,κd2,κe2,κf2,κg2,κh2,κi2,κj2,κk2,κl2,κm2,κn2,κo2,κp2,κq2,reduceCtorEq,κr2,κs2,κt2,κu2,κv2,κw2,κx2,κy2,κz2,κa3,eq_self,κb3,κc3,zL,oS,rInt,h4,Int.lt_irrefl]; rfl
  refine seq_ (cond_ rfl (fun h => by cases h) (fun _ => exit_ ?_))
  exact hK _ (sub_of (all_cons rfl (all_cons rfl (all_cons rfl (all_cons rfl (all_cons rfl (all_cons rfl all_nil)))))) (all_cons rfl (all_cons rfl (all_cons rfl all_nil))) all_nil (Nat.le_refl _))
theorem opt_pass (hi : i < 4) {rg : Int} {R' : List XV} (hrg : 0 ≤ rg ∧ rg ≤ 8192) (hG : G 81 = isa_within.S) (hP : P.drop 1 = .p (.int .i64 rg) :: R') (hL : L.drop (i * 2) = .p (.int .i64 v) :: .p (.bool U) :: R) (h : U = false ∨ withinB v 0 (rg - 1) = true) (hK : K (oT P I L (i + 1))) : mwp G isa_operands.b20 (outSeq (fun σ' => ∃ σ'',Sub σ'' σ' ∧ K σ'') Q) (oT P I L i) := by
  have hlt : (i : Int) < 4 := by omega
  have hi0 : (0 : Int) ≤ (i : Int) := by omega
  have hi1 : (i : Int) < ((4 : Nat) : Int) := by omega
  have hwr : IntKind.i64.wrap ((i : Int) + 1) = ((i + 1 : Nat) : Int) := by rw [i64_w' (by omega) (by omega)]; omega
  have hw2 : IntKind.i64.wrap (rg - 1) = rg - 1 := i64_w' (by omega) (by omega)
  unfold isa_operands.b20
  refine seq_reg (σ' := ?_) ?_ ?_
  rotate_left
  · simp -implicitDefEqProofs only [isa_operands.r15,κa,κb,κc,κd,κe,κf,κg,κh,κi,κj,κk,κl,κm,κn,κo,κp,κq,κr,κs,κt,κu,κv,κw,κx,κy,κz,κa1,κb1,κc1,κd1,κe1,κf1,κg1,κh1,κi1,κj1,κk1,κl1,κm1,κn1,κo1,κp1,κq1,κr1,κs1,if_true,if_false,reduceIte,κt1,κu1,κv1,κw1,κx1,κy1,κz1,κa2,κb2,κc2,κd2,κe2,κf2,κg2,κh2,κi2,κj2,κk2,κl2,κm2,κn2,κo2,κp2,κq2,reduceCtorEq,κr2,κs2,κt2,κu2,κv2,κw2,κx2,κy2,κz2,κa3,eq_self,κb3,κc3,zL,oT,rInt,hlt]; rfl
  refine seq_ (cond_ rfl (fun _ => skip_ (norm_ ?_)) (fun h => by cases h))
  refine seq_ (block_ ?_)
  refine seq_reg (σ' := ?_) ?_ ?_
  rotate_left
  · simp -implicitDefEqProofs only [isa_operands.r16,κa,κb,κc,κd,κe,κf,κg,κh,κi,κj,κk,κl,κm,κn,κo,κp,κq,κr,κs,κt,κu,κv,κw,κx,κy,κz,κa1,κb1,κc1,κd1,κe1,κf1,κg1,κh1,κi1,κj1,κk1,κl1,κm1,κn1,κo1,κp1,κq1,κr1,κs1,if_true,if_false,reduceIte,κt1,κu1,κv1,κw1,κx1,κy1,κz1,κa2,κb2,κc2,κd2,κe2,κf2,κg2,κh2,κi2,κj2,κk2,κl2,κm2,κn2,κo2,κp2,κq2,reduceCtorEq,κr2,κs2,κt2,κu2,κv2,κw2,κx2,κy2,κz2,κa3,eq_self,κb3,κc3,zL,hi0,hi1,hL,rInt]; rfl
  have fin : ∀ σ,Sub (oT P I L i) σ → outSeq (fun σ' => ∃ σ'',Sub σ'' σ' ∧ mwp G (.reg isa_operands.r19) (outSeq (fun σ' => ∃ σ'',Sub σ'' σ' ∧ K σ'') Q) σ'') (outSeq (fun σ' => ∃ σ'',Sub σ'' σ' ∧ K σ'') Q) .normal σ := fun σ hs => by
    refine norm_sub (σ'' := oT P I L i) hs ?_
    refine last_reg (σ' := ?_) ?_ ?_
    rotate_left
    · simp -implicitDefEqProofs only [isa_operands.r19,oT,κa,κb,κc,κd,κe,κf,κg,κh,κi,κj,κk,κl,κm,κn,κo,κp,κq,κr,κs,κt,κu,κv,κw,κx,κy,κz,κa1,κb1,κc1,κd1,κe1,κf1,κg1,κh1,κi1,κj1,κk1,κl1,κm1,κn1,κo1,κp1,κq1,κr1,κs1,if_true,if_false,reduceIte,κt1,κu1,κv1,κw1,κx1,κy1,κz1,κa2,κb2,κc2,κd2,κe2,κf2,κg2,κh2,κi2,κj2,κk2,κl2,κm2,κn2,κo2,κp2,κq2,reduceCtorEq,κr2,κs2,κt2,κu2,κv2,κw2,κx2,κy2,κz2,κa3,eq_self,κb3,κc3,zL,rInt,hwr]; rfl
    exact ⟨oT P I L (i + 1),sub_of (all_cons rfl (all_cons rfl (all_cons rfl (all_cons rfl all_nil)))) (all_cons rfl (all_cons rfl all_nil)) all_nil (Nat.le_refl _),hK⟩
  cases U with
  | false =>
    refine seq_reg (σ' := ?_) ?_ ?_
    rotate_left
    · simp -implicitDefEqProofs only [isa_operands.r17,κa,κb,κc,κd,κe,κf,κg,κh,κi,κj,κk,κl,κm,κn,κo,κp,κq,κr,κs,κt,κu,κv,κw,κx,κy,κz,κa1,κb1,κc1,κd1,κe1,κf1,κg1,κh1,κi1,κj1,κk1,κl1,κm1,κn1,κo1,κp1,κq1,κr1,κs1,if_true,if_false,reduceIte,κt1,κu1,κv1,κw1,κx1,κy1,κz1,κa2,κb2,κc2,κd2,κe2,κf2,κg2,κh2,κi2,κj2,κk2,κl2,κm2,κn2,κo2,κp2,κq2,reduceCtorEq,κr2,κs2,κt2,κu2,κv2,κw2,κx2,κy2,κz2,κa3,eq_self,κb3,κc3,zL,rInt]; rfl
    refine cond_ rfl (fun h => by cases h) (fun _ => skip_ ?_)
    exact fin _ (sub_of (all_cons rfl (all_cons rfl (all_cons rfl (all_cons rfl all_nil)))) (all_cons rfl (all_cons rfl all_nil)) all_nil (Nat.le_refl _))
  | true =>
    have hw : withinB v 0 (rg - 1) = true := by rcases h with h | h; cases h; exact h
    refine seq_reg (σ' := ?_) ?_ ?_
    rotate_left
    · simp -implicitDefEqProofs only [isa_operands.r17,κa,κb,κc,κd,κe,κf,κg,κh,κi,κj,κk,κl,κm,κn,κo,κp,κq,κr,κs,κt,κu,κv,κw,κx,κy,κz,κa1,κb1,κc1,κd1,κe1,κf1,κg1,κh1,κi1,κj1,κk1,κl1,κm1,κn1,κo1,κp1,κq1,κr1,κs1,if_true,if_false,reduceIte,κt1,κu1,κv1,κw1,κx1,κy1,κz1,κa2,κb2,κc2,κd2,κe2,κf2,κg2,κh2,κi2,κj2,κk2,κl2,κm2,κn2,κo2,κp2,κq2,reduceCtorEq,κr2,κs2,κt2,κu2,κv2,κw2,κx2,κy2,κz2,κa3,eq_self,κb3,κc3,zL,rInt,hP,hw2,hG,isa_within.S,hw,rBool]; rfl
    refine cond_ rfl (fun h => by cases h) (fun _ => skip_ ?_)
    exact fin _ (sub_of (all_cons rfl (all_cons rfl (all_cons rfl (all_cons rfl all_nil)))) (all_cons rfl (all_cons rfl all_nil)) all_nil (Nat.le_refl _))
theorem opt_exit (hi : i < 4) {rg : Int} {R' : List XV} (hrg : 0 ≤ rg ∧ rg ≤ 8192) (hG : G 81 = isa_within.S) (hP : P.drop 1 = .p (.int .i64 rg) :: R') (hL : L.drop (i * 2) = .p (.int .i64 v) :: .p (.bool U) :: R) (hU : U = true) (hv : withinB v 0 (rg - 1) = false) (hQ : ∀ σ,σ.tm 4 = some (rInt 6) → Q .ret σ) : mwp G isa_operands.b20 (outSeq (fun σ' => ∃ σ'',Sub σ'' σ' ∧ K σ'') Q) (oT P I L i) := by
  have hlt : (i : Int) < 4 := by omega
  have hi0 : (0 : Int) ≤ (i : Int) := by omega
  have hi1 : (i : Int) < ((4 : Nat) : Int) := by omega
  have hw2 : IntKind.i64.wrap (rg - 1) = rg - 1 := i64_w' (by omega) (by omega)
  subst hU
  unfold isa_operands.b20
  refine seq_reg (σ' := ?_) ?_ ?_
  rotate_left
  · simp -implicitDefEqProofs only [isa_operands.r15,κa,κb,κc,κd,κe,κf,κg,κh,κi,κj,κk,κl,κm,κn,κo,κp,κq,κr,κs,κt,κu,κv,κw,κx,κy,κz,κa1,κb1,κc1,κd1,κe1,κf1,κg1,κh1,κi1,κj1,κk1,κl1,κm1,κn1,κo1,κp1,κq1,κr1,κs1,if_true,if_false,reduceIte,κt1,κu1,κv1,κw1,κx1,κy1,κz1,κa2,κb2,κc2,κd2,κe2,κf2,κg2,κh2,κi2,κj2,κk2,κl2,κm2,κn2,κo2,κp2,κq2,reduceCtorEq,κr2,κs2,κt2,κu2,κv2,κw2,κx2,κy2,κz2,κa3,eq_self,κb3,κc3,zL,oT,rInt,hlt]; rfl
  refine seq_ (cond_ rfl (fun _ => skip_ (norm_ ?_)) (fun h => by cases h))
  refine seq_ (block_ ?_)
  refine seq_reg (σ' := ?_) ?_ ?_
  rotate_left
  · simp -implicitDefEqProofs only [isa_operands.r16,κa,κb,κc,κd,κe,κf,κg,κh,κi,κj,κk,κl,κm,κn,κo,κp,κq,κr,κs,κt,κu,κv,κw,κx,κy,κz,κa1,κb1,κc1,κd1,κe1,κf1,κg1,κh1,κi1,κj1,κk1,κl1,κm1,κn1,κo1,κp1,κq1,κr1,κs1,if_true,if_false,reduceIte,κt1,κu1,κv1,κw1,κx1,κy1,κz1,κa2,κb2,κc2,κd2,κe2,κf2,κg2,κh2,κi2,κj2,κk2,κl2,κm2,κn2,κo2,κp2,κq2,reduceCtorEq,κr2,κs2,κt2,κu2,κv2,κw2,κx2,κy2,κz2,κa3,eq_self,κb3,κc3,zL,hi0,hi1,hL,rInt]; rfl
  refine seq_reg (σ' := ?_) ?_ ?_
  rotate_left
  · simp -implicitDefEqProofs only [isa_operands.r17,κa,κb,κc,κd,κe,κf,κg,κh,κi,κj,κk,κl,κm,κn,κo,κp,κq,κr,κs,κt,κu,κv,κw,κx,κy,κz,κa1,κb1,κc1,κd1,κe1,κf1,κg1,κh1,κi1,κj1,κk1,κl1,κm1,κn1,κo1,κp1,κq1,κr1,κs1,if_true,if_false,reduceIte,κt1,κu1,κv1,κw1,κx1,κy1,κz1,κa2,κb2,κc2,κd2,κe2,κf2,κg2,κh2,κi2,κj2,κk2,κl2,κm2,κn2,κo2,κp2,κq2,reduceCtorEq,κr2,κs2,κt2,κu2,κv2,κw2,κx2,κy2,κz2,κa3,eq_self,κb3,κc3,zL,rInt,hP,hw2,hG,isa_within.S,hv,rBool]; rfl
  refine cond_ rfl (fun _ => ?_) (fun h => by cases h)
  refine seq_reg (σ' := ?_) ?_ ?_
  rotate_left
  · simp -implicitDefEqProofs only [isa_operands.r18,κa,κb,κc,κd,κe,κf,κg,κh,κi,κj,κk,κl,κm,κn,κo,κp,κq,κr,κs,κt,κu,κv,κw,κx,κy,κz,κa1,κb1,κc1,κd1,κe1,κf1,κg1,κh1,κi1,κj1,κk1,κl1,κm1,κn1,κo1,κp1,κq1,κr1,κs1,if_true,if_false,reduceIte,κt1,κu1,κv1,κw1,κx1,κy1,κz1,κa2,κb2,κc2,κd2,κe2,κf2,κg2,κh2,κi2,κj2,κk2,κl2,κm2,κn2,κo2,κp2,κq2,reduceCtorEq,κr2,κs2,κt2,κu2,κv2,κw2,κx2,κy2,κz2,κa3,eq_self,κb3,κc3,zL]; rfl
  exact hQ _ rfl
theorem opt_done (hK : ∀ σ,Sub (oT P I L 4) σ → Q (.exit 2) σ) : mwp G isa_operands.b20 (outSeq (fun σ' => ∃ σ'',Sub σ'' σ' ∧ K σ'') Q) (oT P I L 4) := by
  have h4 : ((4 : Nat) : Int) = 4 := rfl
  unfold isa_operands.b20
  refine seq_reg (σ' := ?_) ?_ ?_
  rotate_left
  · simp -implicitDefEqProofs only [isa_operands.r15,κa,κb,κc,κd,κe,κf,κg,κh,κi,κj,κk,κl,κm,κn,κo,κp,κq,κr,κs,κt,κu,κv,κw,κx,κy,κz,κa1,κb1,κc1,κd1,κe1,κf1,κg1,κh1,κi1,κj1,κk1,κl1,κm1,κn1,κo1,κp1,κq1,κr1,κs1,if_true,if_false,reduceIte,κt1,κu1,κv1,κw1,κx1,κy1,κz1,κa2,κb2,κc2,κd2,κe2,κf2,κg2,κh2,κi2,κj2,κk2,κl2,κm2,κn2,κo2,κp2,κq2,reduceCtorEq,κr2,κs2,κt2,κu2,κv2,κw2,κx2,κy2,κz2,κa3,eq_self,κb3,κc3,zL,oT,rInt,h4,Int.lt_irrefl]; rfl
  refine seq_ (cond_ rfl (fun h => by cases h) (fun _ => exit_ ?_))
  exact hK _ (sub_of (all_cons rfl (all_cons rfl (all_cons rfl (all_cons rfl all_nil)))) (all_cons rfl (all_cons rfl all_nil)) all_nil (Nat.le_refl _))
end
theorem isa_operands.ok : SpecOK Try.prog 82 isa_operands.S := fun args r h => by
  unfold isa_operands.S at h
  split at h
  case h_2 => cases h
  split at h
  case isFalse => cases h
  rename_i st rg inp out un tx bf code op d a b c m hok
  obtain ⟨hok,hrg⟩ := hok
  cases h
  refine fnLaw Try.func82 isa_operands.tr rfl hE (ok_cons isa_Valid.ok (ok_cons isa_Operands.ok (ok_cons isa_registers.ok (ok_cons isa_within.ok (ok_cons isa_immediate.ok ok_nil))))) ?_
  unfold isa_operands.m
  refine seq_reg (σ' := ?_) ?_ ?_
  rotate_left
  · simp -implicitDefEqProofs only [isa_operands.r0,κa,κb,κc,κd,κe,κf,κg,κh,κi,κj,κk,κl,κm,κn,κo,κp,κq,κr,κs,κt,κu,κv,κw,κx,κy,κz,κa1,κb1,κc1,κd1,κe1,κf1,κg1,κh1,κi1,κj1,κk1,κl1,κm1,κn1,κo1,κp1,κq1,κr1,κs1,if_true,if_false,reduceIte,κt1,κu1,κv1,κw1,κx1,κy1,κz1,κa2,κb2,κc2,κd2,κe2,κf2,κg2,κh2,κi2,κj2,κk2,κl2,κm2,κn2,κo2,κp2,κq2,reduceCtorEq,κr2,κs2,κt2,κu2,κv2,κw2,κx2,κy2,κz2,κa3,eq_self,κb3,κc3,zL]; rfl
  by_cases hop : opB op = true
  case neg =>
    have hop' : opB op = false := by simpa using hop
    have hE : opnE st rg inp out un tx bf op d a b c m = 10 := if_neg hop
    rw [hE]
    refine seq_ (seq_ ?_)
    refine seq_reg (σ' := ?_) ?_ ?_
    rotate_left
    · simp -implicitDefEqProofs only [isa_operands.r1,κa,κb,κc,κd,κe,κf,κg,κh,κi,κj,κk,κl,κm,κn,κo,κp,κq,κr,κs,κt,κu,κv,κw,κx,κy,κz,κa1,κb1,κc1,κd1,κe1,κf1,κg1,κh1,κi1,κj1,κk1,κl1,κm1,κn1,κo1,κp1,κq1,κr1,κs1,if_true,if_false,reduceIte,κt1,κu1,κv1,κw1,κx1,κy1,κz1,κa2,κb2,κc2,κd2,κe2,κf2,κg2,κh2,κi2,κj2,κk2,κl2,κm2,κn2,κo2,κp2,κq2,reduceCtorEq,κr2,κs2,κt2,κu2,κv2,κw2,κx2,κy2,κz2,κa3,eq_self,κb3,κc3,zL,isa_Valid.S,rBool,hop']; rfl
    refine cond_ rfl (fun _ => ?_) (fun h => by cases h)
    refine seq_reg (σ' := ?_) ?_ ?_
    rotate_left
    · simp -implicitDefEqProofs only [isa_operands.r2,κa,κb,κc,κd,κe,κf,κg,κh,κi,κj,κk,κl,κm,κn,κo,κp,κq,κr,κs,κt,κu,κv,κw,κx,κy,κz,κa1,κb1,κc1,κd1,κe1,κf1,κg1,κh1,κi1,κj1,κk1,κl1,κm1,κn1,κo1,κp1,κq1,κr1,κs1,if_true,if_false,reduceIte,κt1,κu1,κv1,κw1,κx1,κy1,κz1,κa2,κb2,κc2,κd2,κe2,κf2,κg2,κh2,κi2,κj2,κk2,κl2,κm2,κn2,κo2,κp2,κq2,reduceCtorEq,κr2,κs2,κt2,κu2,κv2,κw2,κx2,κy2,κz2,κa3,eq_self,κb3,κc3,zL]; rfl
    exact ret_ ⟨.inl rfl,_,rfl,AVle.refl _⟩
  have hr : 1 ≤ op ∧ op ≤ 52 := of_decide_eq_true hop
  have hO : opsS [.c (.int .i64 op)] = some (.tup [.bool (dB op),.bool (aB op),.bool (bB op),.bool (cB op),.bool (mB op)]) := if_pos hr
  refine seq_ (seq_ ?_)
  refine seq_reg (σ' := ?_) ?_ ?_
  rotate_left
  · simp -implicitDefEqProofs only [isa_operands.r1,κa,κb,κc,κd,κe,κf,κg,κh,κi,κj,κk,κl,κm,κn,κo,κp,κq,κr,κs,κt,κu,κv,κw,κx,κy,κz,κa1,κb1,κc1,κd1,κe1,κf1,κg1,κh1,κi1,κj1,κk1,κl1,κm1,κn1,κo1,κp1,κq1,κr1,κs1,if_true,if_false,reduceIte,κt1,κu1,κv1,κw1,κx1,κy1,κz1,κa2,κb2,κc2,κd2,κe2,κf2,κg2,κh2,κi2,κj2,κk2,κl2,κm2,κn2,κo2,κp2,κq2,reduceCtorEq,κr2,κs2,κt2,κu2,κv2,κw2,κx2,κy2,κz2,κa3,eq_self,κb3,κc3,zL,isa_Valid.S,rBool,hop]; rfl
  refine cond_ rfl (fun h => by cases h) (fun _ => skip_ (norm_ ?_))
  refine seq_reg (σ' := ?_) ?_ ?_
  rotate_left
  · simp -implicitDefEqProofs only [isa_operands.r3,κa,κb,κc,κd,κe,κf,κg,κh,κi,κj,κk,κl,κm,κn,κo,κp,κq,κr,κs,κt,κu,κv,κw,κx,κy,κz,κa1,κb1,κc1,κd1,κe1,κf1,κg1,κh1,κi1,κj1,κk1,κl1,κm1,κn1,κo1,κp1,κq1,κr1,κs1,if_true,if_false,reduceIte,κt1,κu1,κv1,κw1,κx1,κy1,κz1,κa2,κb2,κc2,κd2,κe2,κf2,κg2,κh2,κi2,κj2,κk2,κl2,κm2,κn2,κo2,κp2,κq2,reduceCtorEq,κr2,κs2,κt2,κu2,κv2,κw2,κx2,κy2,κz2,κa3,eq_self,κb3,κc3,zL,isa_Operands.S,hO]; rfl
  refine seq_reg (σ' := ?_) ?_ ?_
  rotate_left
  · simp -implicitDefEqProofs only [isa_operands.r4,κa,κb,κc,κd,κe,κf,κg,κh,κi,κj,κk,κl,κm,κn,κo,κp,κq,κr,κs,κt,κu,κv,κw,κx,κy,κz,κa1,κb1,κc1,κd1,κe1,κf1,κg1,κh1,κi1,κj1,κk1,κl1,κm1,κn1,κo1,κp1,κq1,κr1,κs1,if_true,if_false,reduceIte,κt1,κu1,κv1,κw1,κx1,κy1,κz1,κa2,κb2,κc2,κd2,κe2,κf2,κg2,κh2,κi2,κj2,κk2,κl2,κm2,κn2,κo2,κp2,κq2,reduceCtorEq,κr2,κs2,κt2,κu2,κv2,κw2,κx2,κy2,κz2,κa3,eq_self,κb3,κc3,zL,isa_registers.S,if_pos hr]; rfl
  let PP : List XV := [.p (.int .i64 st),.p (.int .i64 rg),.p (.int .i64 inp),.p (.int .i64 out),.p (.int .i64 un),.p (.int .i64 tx),.p (.int .i64 bf),.p code]
  let II : List XV := [.p (.int .i64 op),.p (.int .i64 d),.p (.int .i64 a),.p (.int .i64 b),.p (.int .i64 c),.p (.int .i64 m)]
  let LL : List XV := [.p (.int .i64 d),.p (.bool (dB op)),.p (.int .i64 a),.p (.bool (aB op)),.p (.int .i64 b),.p (.bool (bB op)),.p (.int .i64 c),.p (.bool (cB op))]
  refine seq_ (seq_ ?_)
  refine seq_ex (σ'' := oS PP II LL (mB op) 0) ⟨_,by simp -implicitDefEqProofs only [isa_operands.r5,κa,κb,κc,κd,κe,κf,κg,κh,κi,κj,κk,κl,κm,κn,κo,κp,κq,κr,κs,κt,κu,κv,κw,κx,κy,κz,κa1,κb1,κc1,κd1,κe1,κf1,κg1,κh1,κi1,κj1,κk1,κl1,κm1,κn1,κo1,κp1,κq1,κr1,κs1,if_true,if_false,reduceIte,κt1,κu1,κv1,κw1,κx1,κy1,κz1,κa2,κb2,κc2,κd2,κe2,κf2,κg2,κh2,κi2,κj2,κk2,κl2,κm2,κn2,κo2,κp2,κq2,reduceCtorEq,κr2,κs2,κt2,κu2,κv2,κw2,κx2,κy2,κz2,κa3,eq_self,κb3,κc3,zL]; rfl,sub_of (all_cons rfl (all_cons rfl (all_cons rfl (all_cons rfl (all_cons rfl (all_cons rfl all_nil)))))) (all_cons rfl (all_cons rfl (all_cons rfl all_nil))) all_nil (Nat.le_refl _)⟩ ?_
  refine block_ (peel_ 5 ?_)
  have ex2 : ∀ (hu : unuB op d a b c m = true) (σ : St),σ.tm 4 = some (rInt 2) → (fun e σ => (e = Exit.ret ∨ e = Exit.normal) ∧ ∃ r',result σ (.tmp 4) = some r' ∧ AVle r' (rInt (opnE st rg inp out un tx bf op d a b c m))) Exit.ret σ := fun hu σ h => by
    have hE : opnE st rg inp out un tx bf op d a b c m = 2 := by unfold opnE; rw [if_pos hop,if_pos hu]
    rw [hE]
    exact ⟨.inl rfl,rInt 2,by simp [result,ev,h,rInt,AV.fin,XV.fin],AVle.refl _⟩
  by_cases u0 : dB op = false ∧ d ≠ 0
  · exact opn_exit (L := LL) (by omega) rfl u0.1 u0.2 (ex2 (decide_eq_true (.inl u0)))
  refine opn_pass (L := LL) (by omega) rfl (by cases h : dB op <;> simp_all) ?_
  by_cases u1 : aB op = false ∧ a ≠ 0
  · exact opn_exit (L := LL) (by omega) rfl u1.1 u1.2 (ex2 (decide_eq_true (.inr (.inl u1))))
  refine opn_pass (L := LL) (by omega) rfl (by cases h : aB op <;> simp_all) ?_
  by_cases u2 : bB op = false ∧ b ≠ 0
  · exact opn_exit (L := LL) (by omega) rfl u2.1 u2.2 (ex2 (decide_eq_true (.inr (.inr (.inl u2)))))
  refine opn_pass (L := LL) (by omega) rfl (by cases h : bB op <;> simp_all) ?_
  by_cases u3 : cB op = false ∧ c ≠ 0
  · exact opn_exit (L := LL) (by omega) rfl u3.1 u3.2 (ex2 (decide_eq_true (.inr (.inr (.inr (.inl u3))))))
  refine opn_pass (L := LL) (by omega) rfl (by cases h : cB op <;> simp_all) ?_
  refine opn_done fun σ hs => ⟨_,hs,?_⟩
  clear hs σ
  have ex6 : ∀ (hu : unuB op d a b c m = false) (ho : outB st rg inp out un tx bf op d a b c m = true) (σ : St),σ.tm 4 = some (rInt 6) → (fun e σ => (e = Exit.ret ∨ e = Exit.normal) ∧ ∃ r',result σ (.tmp 4) = some r' ∧ AVle r' (rInt (opnE st rg inp out un tx bf op d a b c m))) Exit.ret σ := fun hu ho σ h => by
    have hE : opnE st rg inp out un tx bf op d a b c m = 6 := by unfold opnE; rw [if_pos hop,if_neg (by rw [hu]; simp),if_pos ho]
    rw [hE]
    exact ⟨.inl rfl,rInt 6,by simp [result,ev,h,rInt,AV.fin,XV.fin],AVle.refl _⟩
  by_cases u4 : mB op = false ∧ m ≠ 0
  · obtain ⟨um,um2⟩ := u4
    have hne : (m != 0) = true := by simpa using um2
    refine seq_ (seq_ ?_)
    refine seq_reg (σ' := ?_) ?_ ?_
    rotate_left
    · simp -implicitDefEqProofs only [isa_operands.r12,κa,κb,κc,κd,κe,κf,κg,κh,κi,κj,κk,κl,κm,κn,κo,κp,κq,κr,κs,κt,κu,κv,κw,κx,κy,κz,κa1,κb1,κc1,κd1,κe1,κf1,κg1,κh1,κi1,κj1,κk1,κl1,κm1,κn1,κo1,κp1,κq1,κr1,κs1,if_true,if_false,reduceIte,κt1,κu1,κv1,κw1,κx1,κy1,κz1,κa2,κb2,κc2,κd2,κe2,κf2,κg2,κh2,κi2,κj2,κk2,κl2,κm2,κn2,κo2,κp2,κq2,reduceCtorEq,κr2,κs2,κt2,κu2,κv2,κw2,κx2,κy2,κz2,κa3,eq_self,κb3,κc3,zL,oS,um,PP,II,hne]; rfl
    refine cond_ rfl (fun _ => ?_) (fun h => by cases h)
    refine seq_reg (σ' := ?_) ?_ ?_
    rotate_left
    · simp -implicitDefEqProofs only [isa_operands.r13,κa,κb,κc,κd,κe,κf,κg,κh,κi,κj,κk,κl,κm,κn,κo,κp,κq,κr,κs,κt,κu,κv,κw,κx,κy,κz,κa1,κb1,κc1,κd1,κe1,κf1,κg1,κh1,κi1,κj1,κk1,κl1,κm1,κn1,κo1,κp1,κq1,κr1,κs1,if_true,if_false,reduceIte,κt1,κu1,κv1,κw1,κx1,κy1,κz1,κa2,κb2,κc2,κd2,κe2,κf2,κg2,κh2,κi2,κj2,κk2,κl2,κm2,κn2,κo2,κp2,κq2,reduceCtorEq,κr2,κs2,κt2,κu2,κv2,κw2,κx2,κy2,κz2,κa3,eq_self,κb3,κc3,zL]; rfl
    exact ex2 (decide_eq_true (.inr (.inr (.inr (.inr ⟨um,um2⟩))))) _ rfl
  have hun : unuB op d a b c m = false := decide_eq_false (fun h => by
    rcases h with h | h | h | h | h
    · exact u0 h
    · exact u1 h
    · exact u2 h
    · exact u3 h
    · exact u4 h)
  refine seq_ ?_
  have rest : mwp (mkG [(87,isa_Valid.S),(88,isa_Operands.S),(89,isa_registers.S),(81,isa_within.S),(90,isa_immediate.S)]) (.seq (.seq (.reg isa_operands.r14) (.block 2 (.loop isa_operands.b20))) (.seq (.seq (.reg isa_operands.r21) (.cond (.tmp 69) (.seq (.reg isa_operands.r22) .ret) .skip)) (.seq (.reg isa_operands.r23) .ret))) (fun e σ => (e = Exit.ret ∨ e = Exit.normal) ∧ ∃ r',result σ (.tmp 4) = some r' ∧ AVle r' (rInt (opnE st rg inp out un tx bf op d a b c m))) (St.of [(2,.box 2 0),(3,.box 3 0),(10,.box 10 0)] [(2,PP),(3,II),(10,LL)] [] 0) := by
    have hG : (mkG [(87,isa_Valid.S),(88,isa_Operands.S),(89,isa_registers.S),(81,isa_within.S),(90,isa_immediate.S)]) 81 = isa_within.S := rfl
    refine seq_ (seq_ ?_)
    refine seq_ex (σ'' := oT PP II LL 0) ⟨_,by simp -implicitDefEqProofs only [isa_operands.r14,PP,II,LL,κa,κb,κc,κd,κe,κf,κg,κh,κi,κj,κk,κl,κm,κn,κo,κp,κq,κr,κs,κt,κu,κv,κw,κx,κy,κz,κa1,κb1,κc1,κd1,κe1,κf1,κg1,κh1,κi1,κj1,κk1,κl1,κm1,κn1,κo1,κp1,κq1,κr1,κs1,if_true,if_false,reduceIte,κt1,κu1,κv1,κw1,κx1,κy1,κz1,κa2,κb2,κc2,κd2,κe2,κf2,κg2,κh2,κi2,κj2,κk2,κl2,κm2,κn2,κo2,κp2,κq2,reduceCtorEq,κr2,κs2,κt2,κu2,κv2,κw2,κx2,κy2,κz2,κa3,eq_self,κb3,κc3,zL]; rfl,sub_of (all_cons rfl (all_cons rfl (all_cons rfl (all_cons rfl all_nil)))) (all_cons rfl (all_cons rfl all_nil)) all_nil (Nat.le_refl _)⟩ ?_
    refine block_ (peel_ 5 ?_)
    by_cases v0 : dB op = true ∧ withinB d 0 (rg - 1) = false
    · obtain ⟨h1,h2⟩ := v0
      exact opt_exit (P := PP) (L := LL) (by omega) hrg hG rfl rfl h1 h2 (ex6 hun (decide_eq_true (.inl ⟨h1,h2⟩)))
    refine opt_pass (P := PP) (L := LL) (by omega) hrg hG rfl rfl (by cases h : dB op <;> simp_all) ?_
    by_cases v1 : aB op = true ∧ withinB a 0 (rg - 1) = false
    · obtain ⟨h1,h2⟩ := v1
      exact opt_exit (P := PP) (L := LL) (by omega) hrg hG rfl rfl h1 h2 (ex6 hun (decide_eq_true (.inr (.inl ⟨h1,h2⟩))))
    refine opt_pass (P := PP) (L := LL) (by omega) hrg hG rfl rfl (by cases h : aB op <;> simp_all) ?_
    by_cases v2 : bB op = true ∧ withinB b 0 (rg - 1) = false
    · obtain ⟨h1,h2⟩ := v2
      exact opt_exit (P := PP) (L := LL) (by omega) hrg hG rfl rfl h1 h2 (ex6 hun (decide_eq_true (.inr (.inr (.inl ⟨h1,h2⟩)))))
    refine opt_pass (P := PP) (L := LL) (by omega) hrg hG rfl rfl (by cases h : bB op <;> simp_all) ?_
    by_cases v3 : cB op = true ∧ withinB c 0 (rg - 1) = false
    · obtain ⟨h1,h2⟩ := v3
      exact opt_exit (P := PP) (L := LL) (by omega) hrg hG rfl rfl h1 h2 (ex6 hun (decide_eq_true (.inr (.inr (.inr (.inl ⟨h1,h2⟩))))))
    refine opt_pass (P := PP) (L := LL) (by omega) hrg hG rfl rfl (by cases h : cB op <;> simp_all) ?_
    refine opt_done fun σ hs => ⟨_,hs,?_⟩
    clear hs σ
    refine seq_ (seq_ ?_)
    cases hi : immB st inp out un tx bf op m with
    | false =>
      refine seq_reg (σ' := ?_) ?_ ?_
      rotate_left
      · simp -implicitDefEqProofs only [isa_operands.r21,κa,κb,κc,κd,κe,κf,κg,κh,κi,κj,κk,κl,κm,κn,κo,κp,κq,κr,κs,κt,κu,κv,κw,κx,κy,κz,κa1,κb1,κc1,κd1,κe1,κf1,κg1,κh1,κi1,κj1,κk1,κl1,κm1,κn1,κo1,κp1,κq1,κr1,κs1,if_true,if_false,reduceIte,κt1,κu1,κv1,κw1,κx1,κy1,κz1,κa2,κb2,κc2,κd2,κe2,κf2,κg2,κh2,κi2,κj2,κk2,κl2,κm2,κn2,κo2,κp2,κq2,reduceCtorEq,κr2,κs2,κt2,κu2,κv2,κw2,κx2,κy2,κz2,κa3,eq_self,κb3,κc3,zL,oT,PP,II,isa_immediate.S,if_pos hok,rBool,hi]; rfl
      refine cond_ rfl (fun _ => ?_) (fun h => by cases h)
      refine seq_reg (σ' := ?_) ?_ ?_
      rotate_left
      · simp -implicitDefEqProofs only [isa_operands.r22,κa,κb,κc,κd,κe,κf,κg,κh,κi,κj,κk,κl,κm,κn,κo,κp,κq,κr,κs,κt,κu,κv,κw,κx,κy,κz,κa1,κb1,κc1,κd1,κe1,κf1,κg1,κh1,κi1,κj1,κk1,κl1,κm1,κn1,κo1,κp1,κq1,κr1,κs1,if_true,if_false,reduceIte,κt1,κu1,κv1,κw1,κx1,κy1,κz1,κa2,κb2,κc2,κd2,κe2,κf2,κg2,κh2,κi2,κj2,κk2,κl2,κm2,κn2,κo2,κp2,κq2,reduceCtorEq,κr2,κs2,κt2,κu2,κv2,κw2,κx2,κy2,κz2,κa3,eq_self,κb3,κc3,zL]; rfl
      exact ex6 hun (decide_eq_true (.inr (.inr (.inr (.inr hi))))) _ rfl
    | true =>
      have hE : opnE st rg inp out un tx bf op d a b c m = 0 := by
        have ho : outB st rg inp out un tx bf op d a b c m = false := decide_eq_false (fun h => by
          rcases h with h | h | h | h | h
          · exact v0 h
          · exact v1 h
          · exact v2 h
          · exact v3 h
          · rw [hi] at h; cases h)
        unfold opnE; rw [if_pos hop,if_neg (by rw [hun]; simp),if_neg (by rw [ho]; simp)]
      rw [hE]
      refine seq_reg (σ' := ?_) ?_ ?_
      rotate_left
      · simp -implicitDefEqProofs only [isa_operands.r21,κa,κb,κc,κd,κe,κf,κg,κh,κi,κj,κk,κl,κm,κn,κo,κp,κq,κr,κs,κt,κu,κv,κw,κx,κy,κz,κa1,κb1,κc1,κd1,κe1,κf1,κg1,κh1,κi1,κj1,κk1,κl1,κm1,κn1,κo1,κp1,κq1,κr1,κs1,if_true,if_false,reduceIte,κt1,κu1,κv1,κw1,κx1,κy1,κz1,κa2,κb2,κc2,κd2,κe2,κf2,κg2,κh2,κi2,κj2,κk2,κl2,κm2,κn2,κo2,κp2,κq2,reduceCtorEq,κr2,κs2,κt2,κu2,κv2,κw2,κx2,κy2,κz2,κa3,eq_self,κb3,κc3,zL,oT,PP,II,isa_immediate.S,if_pos hok,rBool,hi]; rfl
      refine cond_ rfl (fun h => by cases h) (fun _ => skip_ (norm_ ?_))
      refine seq_reg (σ' := ?_) ?_ ?_
      rotate_left
      · simp -implicitDefEqProofs only [isa_operands.r23,κa,κb,κc,κd,κe,κf,κg,κh,κi,κj,κk,κl,κm,κn,κo,κp,κq,κr,κs,κt,κu,κv,κw,κx,κy,κz,κa1,κb1,κc1,κd1,κe1,κf1,κg1,κh1,κi1,κj1,κk1,κl1,κm1,κn1,κo1,κp1,κq1,κr1,κs1,if_true,if_false,reduceIte,κt1,κu1,κv1,κw1,κx1,κy1,κz1,κa2,κb2,κc2,κd2,κe2,κf2,κg2,κh2,κi2,κj2,κk2,κl2,κm2,κn2,κo2,κp2,κq2,reduceCtorEq,κr2,κs2,κt2,κu2,κv2,κw2,κx2,κy2,κz2,κa3,eq_self,κb3,κc3,zL]; rfl
      exact ret_ ⟨.inl rfl,_,rfl,AVle.refl _⟩
  cases hm : mB op with
  | true =>
    refine seq_ ?_
    refine seq_reg (σ' := ?_) ?_ ?_
    rotate_left
    · simp -implicitDefEqProofs only [isa_operands.r12,κa,κb,κc,κd,κe,κf,κg,κh,κi,κj,κk,κl,κm,κn,κo,κp,κq,κr,κs,κt,κu,κv,κw,κx,κy,κz,κa1,κb1,κc1,κd1,κe1,κf1,κg1,κh1,κi1,κj1,κk1,κl1,κm1,κn1,κo1,κp1,κq1,κr1,κs1,if_true,if_false,reduceIte,κt1,κu1,κv1,κw1,κx1,κy1,κz1,κa2,κb2,κc2,κd2,κe2,κf2,κg2,κh2,κi2,κj2,κk2,κl2,κm2,κn2,κo2,κp2,κq2,reduceCtorEq,κr2,κs2,κt2,κu2,κv2,κw2,κx2,κy2,κz2,κa3,eq_self,κb3,κc3,zL,oS,PP,II]; rfl
    refine cond_ rfl (fun h => by cases h) (fun _ => skip_ ?_)
    exact norm_sub (sub_of (all_cons rfl (all_cons rfl (all_cons rfl all_nil))) (all_cons rfl (all_cons rfl (all_cons rfl all_nil))) all_nil (Nat.le_refl _)) rest
  | false =>
    have hm0 : m = 0 := Classical.byContradiction fun h => u4 ⟨hm,h⟩
    have hne : (m != 0) = false := by simpa using hm0
    refine seq_ ?_
    refine seq_reg (σ' := ?_) ?_ ?_
    rotate_left
    · simp -implicitDefEqProofs only [isa_operands.r12,κa,κb,κc,κd,κe,κf,κg,κh,κi,κj,κk,κl,κm,κn,κo,κp,κq,κr,κs,κt,κu,κv,κw,κx,κy,κz,κa1,κb1,κc1,κd1,κe1,κf1,κg1,κh1,κi1,κj1,κk1,κl1,κm1,κn1,κo1,κp1,κq1,κr1,κs1,if_true,if_false,reduceIte,κt1,κu1,κv1,κw1,κx1,κy1,κz1,κa2,κb2,κc2,κd2,κe2,κf2,κg2,κh2,κi2,κj2,κk2,κl2,κm2,κn2,κo2,κp2,κq2,reduceCtorEq,κr2,κs2,κt2,κu2,κv2,κw2,κx2,κy2,κz2,κa3,eq_self,κb3,κc3,zL,oS,PP,II,hne]; rfl
    refine cond_ rfl (fun h => by cases h) (fun _ => skip_ ?_)
    exact norm_sub (sub_of (all_cons rfl (all_cons rfl (all_cons rfl all_nil))) (all_cons rfl (all_cons rfl (all_cons rfl all_nil))) all_nil (Nat.le_refl _)) rest
end Go.Proofs.Ytjbhhdocbejccaa.Pl
