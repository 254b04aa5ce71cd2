/- Chapter 43: the reference's Validate of programs. No condition beyond those that each theorem states. -/
import Derived.Test.YtjbhhdocbejccaaR1
import Derived.Test.YtjbhhdocbejccaaR2
import Derived.Test.YtjbhhdocbejccaaR3
import Derived.Test.YtjbhhdocbejccaaVb
namespace Go.Proofs.Ytjbhhdocbejccaa.Pl
open Go Go.RowKit Go.Proofs.Ytjbhhdocbejccaa.Am
open Go.Proofs.Ytjbhhdocbejccaa.Am renaming ex_nil → κa,ex_cons → κb,exK_some → κc,st_n → κd,st_g → κe,gd_b → κf,gd_u → κg,rn_v → κh,rn_m → κi,rn_s → κj,rn_a → κk,think → κl,prep → κm,mkDsts → κn,ev → κp,upd → κq,init → κr,forgetBox → κu,pvs → κx,fillX → κy,chunks → κz,binV → κa1,xints → κb1,ldX → κc1,baseOk → κe1,fg_p → κf1,fg_tk → κg1,mkG → κh1,tab → κj1,c3 → κa3
open Go.Proofs.Ytjbhhdocbejccaa.Am.St renaming clear → κo,put → κt,of → κk1
open Go.Proofs.Ytjbhhdocbejccaa.Am.PV renaming av → κs
open Go.Proofs.Ytjbhhdocbejccaa.Am.AV renaming cells → κv,pv → κw,plain → κd1
open Go.Proofs.Ytjbhhdocbejccaa.Am.Sig renaming spec → κi1
open List renaming getElem?_cons_zero → κl1,getElem?_cons_succ → κm1,getElem?_nil → κn1,map_cons → κu1,map_nil → κv1,drop_succ_cons → κw1,drop_zero → κx1,take_succ_cons → κy1,take_zero → κz1,length_cons → κa2,length_nil → κb2,length_append → κc2,cons_append → κd2,nil_append → κe2,append_nil → κf2
open Option renaming map_some → κo1,map_none → κp1,bind_some → κq1,isSome_some → κr1,isSome_none → κs1
open Nat renaming reduceEqDiff → κt1,reduceAdd → κg2,reduceMul → κh2,reduceLeDiff → κi2,reduceBEq → κj2,zero_le → κk2,le_refl → κl2,zero_add → κm2,add_zero → κn2
open Bool renaming not_true → κo2,not_false → κp2,false_eq_true → κq2,true_eq_false → κc3
open Int renaming reduceBEq → κr2,reduceBNe → κs2,reduceLT → κt2,reduceLE → κu2,reduceAdd → κv2,reduceToNat → κw2,toNat_zero → κx2,reduceEq → κy2,toNat_natCast → κz2,le_refl → κb3
set_option linter.unusedVariables false
set_option linter.unusedSimpArgs false
set_option maxHeartbeats 16000000
set_option maxRecDepth 100000
def fE (x : Int) : Int := if x = 43 then 1 else if x = 44 then 2 else 3
def InL (L : List Int) : Prop := ∀ x ∈ L,x = 43 ∨ x = 44 ∨ x = 46
theorem cnt_map {L : List Int} (h : InL L) : (L.map fE).count 3 = L.count 46 := by
  induction L with
  | nil => rfl
  | cons x L ih =>
    have h1 := h x (by simp)
    have h2 := ih (fun y hy => h y (by simp [hy]))
    simp only [List.map_cons,List.count_cons,h2]
    rcases h1 with rfl | rfl | rfl <;> simp [fE]
theorem top_map (L : List Int) : (L.map fE).getLast?.getD 0 = (L.getLast?.map fE).getD 0 := by rw [List.getLast?_map]
theorem inL_drop {L : List Int} (h : InL L) : InL L.dropLast := fun x hx => h x ((List.dropLast_sublist L).subset hx)
theorem inL_snoc {L : List Int} {x : Int} (h : InL L) (hx : x = 43 ∨ x = 44 ∨ x = 46) : InL (L ++ [x]) := fun y hy => by
  simp only [List.mem_append,List.mem_singleton] at hy
  rcases hy with hy | rfl
  · exact h y hy
  · exact hx
theorem next_rel {st n op : Int} {L : List Int} (hL : InL L) (hn : n = (L.count 46 : Nat)) : match stepS st L n op with
    | none => nextB st op (L.map fE) = false
    | some (L',n') => nextB st op (L.map fE) = true ∧ nextL st op (L.map fE) = L'.map fE ∧ InL L' := by
  have hc := cnt_map hL
  have ht := top_map L
  have hlast : ∀ x,L.getLast? = some x → x = 43 ∨ x = 44 ∨ x = 46 := fun x hx => hL x (List.mem_of_getLast? hx)
  have hd : (L.map fE).dropLast = L.dropLast.map fE := by rw [List.map_dropLast]
  by_cases e43 : op = 43
  · subst e43; simp only [stepS,if_true]
    exact ⟨rfl,by simp [nextL,fE],inL_snoc hL (.inl rfl)⟩
  by_cases e44 : op = 44
  · subst e44
    rcases nil_or_snoc L with rfl | ⟨K,x,rfl⟩
    · simp [stepS,nextB]
    · by_cases hx : x = 43
      · subst hx
        simp only [stepS,List.getLast?_append,List.getLast?_singleton,Option.some_or]
        refine ⟨by simp [nextB,ht,fE],by simp [nextL,fE],inL_snoc (fun y hy => hL y (by simp at hy; simp [hy])) (.inr (.inl rfl))⟩
      · have hx2 := hlast x (by simp)
        simp [stepS,hx,nextB,ht]
        rcases hx2 with h | h | h <;> simp_all [fE]
  by_cases e45 : op = 45
  · subst e45
    rcases nil_or_snoc L with rfl | ⟨K,x,rfl⟩
    · simp [stepS,nextB]
    · have hx2 := hlast x (by simp)
      have hK : InL K := fun y hy => hL y (by simp [hy])
      rcases hx2 with rfl | rfl | rfl
      · simp [stepS,nextB,ht,nextL,fE,hK]
      · simp [stepS,nextB,ht,nextL,fE,hK]
      · simp [stepS,nextB,ht,fE]
  by_cases e46 : op = 46
  · subst e46
    by_cases hn3 : 3 ≤ n
    · simp only [stepS,hn3,if_true]
      simp [nextB,hc]; omega
    · have : stepS st L n 46 = some (L ++ [46],n + 1) := by simp [stepS,hn3]
      rw [this]
      exact ⟨by simp [nextB,hc]; omega,by simp [nextL,fE],inL_snoc hL (.inr (.inr rfl))⟩
  by_cases e49 : op = 49
  · subst e49
    rcases nil_or_snoc L with rfl | ⟨K,x,rfl⟩
    · simp [stepS,nextB]
    · have hx2 := hlast x (by simp)
      have hK : InL K := fun y hy => hL y (by simp [hy])
      rcases hx2 with rfl | rfl | rfl
      · simp [stepS,nextB,ht,fE]
      · simp [stepS,nextB,ht,fE]
      · simp [stepS,nextB,ht,nextL,fE,hK]
  have hnl : nextL st op (L.map fE) = L.map fE := by simp [nextL,e43,e44,e45,e46,e49]
  by_cases e47 : op = 47 ∨ op = 48
  · by_cases h0 : 0 < n
    · have : stepS st L n op = some (L,n) := by simp [stepS,e43,e44,e45,e46,e49,e47,h0]
      rw [this]
      exact ⟨by simp only [nextB,e43,e44,e45,e46,e49,e47,if_true,if_false,hc]; exact decide_eq_true (by omega),hnl,hL⟩
    · have : stepS st L n op = none := by simp [stepS,e43,e44,e45,e46,e49,e47,h0]
      rw [this]
      simp only [nextB,e43,e44,e45,e46,e49,e47,if_true,if_false,hc]; exact decide_eq_false (by omega)
  by_cases e50 : op = 50
  · subst e50
    by_cases h0 : st = 3
    · have : stepS st L n 50 = some (L,n) := by simp [stepS,h0]
      rw [this]
      exact ⟨by simp [nextB,h0],hnl,hL⟩
    · have : stepS st L n 50 = none := by simp [stepS,h0]
      rw [this]
      simp [nextB,h0]
  by_cases e51 : op = 51 ∨ op = 52
  · by_cases h0 : st = 2
    · have : stepS st L n op = some (L,n) := by simp [stepS,e43,e44,e45,e46,e49,e47,e50,e51,h0]
      rw [this]
      exact ⟨by simp [nextB,e43,e44,e45,e46,e49,e47,e50,e51,h0],hnl,hL⟩
    · have : stepS st L n op = none := by simp [stepS,e43,e44,e45,e46,e49,e47,e50,e51,h0]
      rw [this]
      simp [nextB,e43,e44,e45,e46,e49,e47,e50,e51,h0]
  · have : stepS st L n op = some (L,n) := by simp [stepS,e43,e44,e45,e46,e49,e47,e50,e51]
    rw [this]
    exact ⟨by simp [nextB,e43,e44,e45,e46,e49,e47,e50,e51],hnl,hL⟩
theorem Ins.cs_get (l : List Ins) (j : Nat) (h : j < l.length) : (l.map Ins.cs)[j]? = some [.int .i64 (l[j]).op,.int .i64 (l[j]).d,.int .i64 (l[j]).a,.int .i64 (l[j]).b,.int .i64 (l[j]).c,.int .i64 (l[j]).m] := by simp [h,Ins.cs]
noncomputable def r22_Validate.S : Am.Spec := isa_Validate.S
theorem r22_Validate.ok : SpecOK Try.prog 49 r22_Validate.S := (cSpec_ok (enc := encPg) (res := fun p => some (rInt (validS p))) fun p r h => by
  cases h
  refine fnLaw Try.func49 r22_Validate.tr rfl hE (ok_cons r22_Valid.ok (ok_cons r22_unused.ok (ok_cons r22_outside.ok (ok_cons r22_next.ok ok_nil)))) ?_
  unfold r22_Validate.m
  refine seq_reg (σ' := ?_) ?_ ?_
  rotate_left
  · simp -implicitDefEqProofs only [r22_Validate.r0,κa,κb,κc,κd,κe,κf,κg,κh,κi,κj,κk,κl,κm,κn,κo,κp,κq,κr,κs,κt,κu,κv,κw,κx,κy,κz,κa1,κb1,κc1,κd1,κe1,κf1,κg1,κh1,κi1,κj1,κk1,κl1,κm1,κn1,κo1,κp1,κq1,κr1,κs1,if_true,if_false,reduceIte,κt1,κu1,κv1,κw1,κx1,κy1,κz1,κa2,κb2,κc2,κd2,κe2,κf2,κg2,κh2,κi2,κj2,κk2,κl2,κm2,κn2,κo2,κp2,κq2,reduceCtorEq,κr2,κs2,κt2,κu2,κv2,κw2,κx2,κy2,κz2,κa3,eq_self,κb3,κc3,zL,encPg,Pg.cs]; rfl
  refine seq_ (seq_ ?_)
  by_cases hst : p.st < 1 ∨ 3 < p.st
  · have hV : validS p = 10 := if_pos hst
    rw [hV]
    by_cases h1 : p.st < 1
    · refine seq_reg (σ' := ?_) ?_ ?_
      rotate_left
      · simp -implicitDefEqProofs only [r22_Validate.r1,κa,κb,κc,κd,κe,κf,κg,κh,κi,κj,κk,κl,κm,κn,κo,κp,κq,κr,κs,κt,κu,κv,κw,κx,κy,κz,κa1,κb1,κc1,κd1,κe1,κf1,κg1,κh1,κi1,κj1,κk1,κl1,κm1,κn1,κo1,κp1,κq1,κr1,κs1,if_true,if_false,reduceIte,κt1,κu1,κv1,κw1,κx1,κy1,κz1,κa2,κb2,κc2,κd2,κe2,κf2,κg2,κh2,κi2,κj2,κk2,κl2,κm2,κn2,κo2,κp2,κq2,reduceCtorEq,κr2,κs2,κt2,κu2,κv2,κw2,κx2,κy2,κz2,κa3,eq_self,κb3,κc3,zL,h1]; rfl
      refine cond_ rfl (fun _ => ?_) (fun h => by cases h)
      refine seq_reg (σ' := ?_) ?_ ?_
      rotate_left
      · simp -implicitDefEqProofs only [r22_Validate.r2,κa,κb,κc,κd,κe,κf,κg,κh,κi,κj,κk,κl,κm,κn,κo,κp,κq,κr,κs,κt,κu,κv,κw,κx,κy,κz,κa1,κb1,κc1,κd1,κe1,κf1,κg1,κh1,κi1,κj1,κk1,κl1,κm1,κn1,κo1,κp1,κq1,κr1,κs1,if_true,if_false,reduceIte,κt1,κu1,κv1,κw1,κx1,κy1,κz1,κa2,κb2,κc2,κd2,κe2,κf2,κg2,κh2,κi2,κj2,κk2,κl2,κm2,κn2,κo2,κp2,κq2,reduceCtorEq,κr2,κs2,κt2,κu2,κv2,κw2,κx2,κy2,κz2,κa3,eq_self,κb3,κc3,zL]; rfl
      exact ret_ ⟨.inl rfl,_,rfl,AVle.refl _⟩
    · have h2 : p.st > 3 := by omega
      refine seq_reg (σ' := ?_) ?_ ?_
      rotate_left
      · simp -implicitDefEqProofs only [r22_Validate.r1,κa,κb,κc,κd,κe,κf,κg,κh,κi,κj,κk,κl,κm,κn,κo,κp,κq,κr,κs,κt,κu,κv,κw,κx,κy,κz,κa1,κb1,κc1,κd1,κe1,κf1,κg1,κh1,κi1,κj1,κk1,κl1,κm1,κn1,κo1,κp1,κq1,κr1,κs1,if_true,if_false,reduceIte,κt1,κu1,κv1,κw1,κx1,κy1,κz1,κa2,κb2,κc2,κd2,κe2,κf2,κg2,κh2,κi2,κj2,κk2,κl2,κm2,κn2,κo2,κp2,κq2,reduceCtorEq,κr2,κs2,κt2,κu2,κv2,κw2,κx2,κy2,κz2,κa3,eq_self,κb3,κc3,zL,h1,h2]; rfl
      refine cond_ rfl (fun _ => ?_) (fun h => by cases h)
      refine seq_reg (σ' := ?_) ?_ ?_
      rotate_left
      · simp -implicitDefEqProofs only [r22_Validate.r2,κa,κb,κc,κd,κe,κf,κg,κh,κi,κj,κk,κl,κm,κn,κo,κp,κq,κr,κs,κt,κu,κv,κw,κx,κy,κz,κa1,κb1,κc1,κd1,κe1,κf1,κg1,κh1,κi1,κj1,κk1,κl1,κm1,κn1,κo1,κp1,κq1,κr1,κs1,if_true,if_false,reduceIte,κt1,κu1,κv1,κw1,κx1,κy1,κz1,κa2,κb2,κc2,κd2,κe2,κf2,κg2,κh2,κi2,κj2,κk2,κl2,κm2,κn2,κo2,κp2,κq2,reduceCtorEq,κr2,κs2,κt2,κu2,κv2,κw2,κx2,κy2,κz2,κa3,eq_self,κb3,κc3,zL]; rfl
      exact ret_ ⟨.inl rfl,_,rfl,AVle.refl _⟩
  have h1 : ¬ p.st < 1 := fun h => hst (.inl h)
  have h2 : ¬ p.st > 3 := fun h => hst (.inr h)
  refine seq_reg (σ' := ?_) ?_ ?_
  rotate_left
  · simp -implicitDefEqProofs only [r22_Validate.r1,κa,κb,κc,κd,κe,κf,κg,κh,κi,κj,κk,κl,κm,κn,κo,κp,κq,κr,κs,κt,κu,κv,κw,κx,κy,κz,κa1,κb1,κc1,κd1,κe1,κf1,κg1,κh1,κi1,κj1,κk1,κl1,κm1,κn1,κo1,κp1,κq1,κr1,κs1,if_true,if_false,reduceIte,κt1,κu1,κv1,κw1,κx1,κy1,κz1,κa2,κb2,κc2,κd2,κe2,κf2,κg2,κh2,κi2,κj2,κk2,κl2,κm2,κn2,κo2,κp2,κq2,reduceCtorEq,κr2,κs2,κt2,κu2,κv2,κw2,κx2,κy2,κz2,κa3,eq_self,κb3,κc3,zL,h1,h2]; rfl
  refine cond_ rfl (fun h => by cases h) (fun _ => skip_ ?_)
  let PP : List XV := [.p (.int .i64 p.st),.p (.int .i64 p.rg),.p (.int .i64 p.inp),.p (.int .i64 p.out),.p (.int .i64 p.un),.p (.int .i64 p.tx),.p (.int .i64 p.bf),.p (.sl 6 (p.code.map Ins.cs))]
  refine norm_sub (σ'' := St.of [(1,.box 1 0)] [(1,PP)] [] 0) (sub_of (all_cons rfl all_nil) (all_cons rfl all_nil) all_nil (Nat.le_refl _)) ?_
  refine seq_ (seq_ ?_)
  have bad : rngP p = false → validS p = 6 := fun h => by unfold validS; rw [if_neg hst,if_pos h]
  by_cases n0 : p.rg < 0
  · rw [bad (by unfold rngP cmpP resP withinB; simp; omega)]
    refine seq_reg (σ' := ?_) ?_ ?_
    rotate_left
    · simp -implicitDefEqProofs only [r22_Validate.r3,κa,κb,κc,κd,κe,κf,κg,κh,κi,κj,κk,κl,κm,κn,κo,κp,κq,κr,κs,κt,κu,κv,κw,κx,κy,κz,κa1,κb1,κc1,κd1,κe1,κf1,κg1,κh1,κi1,κj1,κk1,κl1,κm1,κn1,κo1,κp1,κq1,κr1,κs1,if_true,if_false,reduceIte,κt1,κu1,κv1,κw1,κx1,κy1,κz1,κa2,κb2,κc2,κd2,κe2,κf2,κg2,κh2,κi2,κj2,κk2,κl2,κm2,κn2,κo2,κp2,κq2,reduceCtorEq,κr2,κs2,κt2,κu2,κv2,κw2,κx2,κy2,κz2,κa3,eq_self,κb3,κc3,zL,PP,gt_iff_lt,n0]; rfl
    refine cond_ rfl (fun _ => ?_) (fun h => by cases h)
    refine seq_reg (σ' := ?_) ?_ ?_
    rotate_left
    · simp -implicitDefEqProofs only [r22_Validate.r4,κa,κb,κc,κd,κe,κf,κg,κh,κi,κj,κk,κl,κm,κn,κo,κp,κq,κr,κs,κt,κu,κv,κw,κx,κy,κz,κa1,κb1,κc1,κd1,κe1,κf1,κg1,κh1,κi1,κj1,κk1,κl1,κm1,κn1,κo1,κp1,κq1,κr1,κs1,if_true,if_false,reduceIte,κt1,κu1,κv1,κw1,κx1,κy1,κz1,κa2,κb2,κc2,κd2,κe2,κf2,κg2,κh2,κi2,κj2,κk2,κl2,κm2,κn2,κo2,κp2,κq2,reduceCtorEq,κr2,κs2,κt2,κu2,κv2,κw2,κx2,κy2,κz2,κa3,eq_self,κb3,κc3,zL]; rfl
    exact ret_ ⟨.inl rfl,_,rfl,AVle.refl _⟩
  by_cases n1 : 8192 < p.rg
  · rw [bad (by unfold rngP cmpP resP withinB; simp; omega)]
    refine seq_reg (σ' := ?_) ?_ ?_
    rotate_left
    · simp -implicitDefEqProofs only [r22_Validate.r3,κa,κb,κc,κd,κe,κf,κg,κh,κi,κj,κk,κl,κm,κn,κo,κp,κq,κr,κs,κt,κu,κv,κw,κx,κy,κz,κa1,κb1,κc1,κd1,κe1,κf1,κg1,κh1,κi1,κj1,κk1,κl1,κm1,κn1,κo1,κp1,κq1,κr1,κs1,if_true,if_false,reduceIte,κt1,κu1,κv1,κw1,κx1,κy1,κz1,κa2,κb2,κc2,κd2,κe2,κf2,κg2,κh2,κi2,κj2,κk2,κl2,κm2,κn2,κo2,κp2,κq2,reduceCtorEq,κr2,κs2,κt2,κu2,κv2,κw2,κx2,κy2,κz2,κa3,eq_self,κb3,κc3,zL,PP,gt_iff_lt,n0,n1]; rfl
    refine cond_ rfl (fun _ => ?_) (fun h => by cases h)
    refine seq_reg (σ' := ?_) ?_ ?_
    rotate_left
    · simp -implicitDefEqProofs only [r22_Validate.r4,κa,κb,κc,κd,κe,κf,κg,κh,κi,κj,κk,κl,κm,κn,κo,κp,κq,κr,κs,κt,κu,κv,κw,κx,κy,κz,κa1,κb1,κc1,κd1,κe1,κf1,κg1,κh1,κi1,κj1,κk1,κl1,κm1,κn1,κo1,κp1,κq1,κr1,κs1,if_true,if_false,reduceIte,κt1,κu1,κv1,κw1,κx1,κy1,κz1,κa2,κb2,κc2,κd2,κe2,κf2,κg2,κh2,κi2,κj2,κk2,κl2,κm2,κn2,κo2,κp2,κq2,reduceCtorEq,κr2,κs2,κt2,κu2,κv2,κw2,κx2,κy2,κz2,κa3,eq_self,κb3,κc3,zL]; rfl
    exact ret_ ⟨.inl rfl,_,rfl,AVle.refl _⟩
  by_cases n2 : p.inp < 0
  · rw [bad (by unfold rngP cmpP resP withinB; simp; omega)]
    refine seq_reg (σ' := ?_) ?_ ?_
    rotate_left
    · simp -implicitDefEqProofs only [r22_Validate.r3,κa,κb,κc,κd,κe,κf,κg,κh,κi,κj,κk,κl,κm,κn,κo,κp,κq,κr,κs,κt,κu,κv,κw,κx,κy,κz,κa1,κb1,κc1,κd1,κe1,κf1,κg1,κh1,κi1,κj1,κk1,κl1,κm1,κn1,κo1,κp1,κq1,κr1,κs1,if_true,if_false,reduceIte,κt1,κu1,κv1,κw1,κx1,κy1,κz1,κa2,κb2,κc2,κd2,κe2,κf2,κg2,κh2,κi2,κj2,κk2,κl2,κm2,κn2,κo2,κp2,κq2,reduceCtorEq,κr2,κs2,κt2,κu2,κv2,κw2,κx2,κy2,κz2,κa3,eq_self,κb3,κc3,zL,PP,gt_iff_lt,n0,n1,n2]; rfl
    refine cond_ rfl (fun _ => ?_) (fun h => by cases h)
    refine seq_reg (σ' := ?_) ?_ ?_
    rotate_left
    · simp -implicitDefEqProofs only [r22_Validate.r4,κa,κb,κc,κd,κe,κf,κg,κh,κi,κj,κk,κl,κm,κn,κo,κp,κq,κr,κs,κt,κu,κv,κw,κx,κy,κz,κa1,κb1,κc1,κd1,κe1,κf1,κg1,κh1,κi1,κj1,κk1,κl1,κm1,κn1,κo1,κp1,κq1,κr1,κs1,if_true,if_false,reduceIte,κt1,κu1,κv1,κw1,κx1,κy1,κz1,κa2,κb2,κc2,κd2,κe2,κf2,κg2,κh2,κi2,κj2,κk2,κl2,κm2,κn2,κo2,κp2,κq2,reduceCtorEq,κr2,κs2,κt2,κu2,κv2,κw2,κx2,κy2,κz2,κa3,eq_self,κb3,κc3,zL]; rfl
    exact ret_ ⟨.inl rfl,_,rfl,AVle.refl _⟩
  by_cases n3 : 32 < p.inp
  · rw [bad (by unfold rngP cmpP resP withinB; simp; omega)]
    refine seq_reg (σ' := ?_) ?_ ?_
    rotate_left
    · simp -implicitDefEqProofs only [r22_Validate.r3,κa,κb,κc,κd,κe,κf,κg,κh,κi,κj,κk,κl,κm,κn,κo,κp,κq,κr,κs,κt,κu,κv,κw,κx,κy,κz,κa1,κb1,κc1,κd1,κe1,κf1,κg1,κh1,κi1,κj1,κk1,κl1,κm1,κn1,κo1,κp1,κq1,κr1,κs1,if_true,if_false,reduceIte,κt1,κu1,κv1,κw1,κx1,κy1,κz1,κa2,κb2,κc2,κd2,κe2,κf2,κg2,κh2,κi2,κj2,κk2,κl2,κm2,κn2,κo2,κp2,κq2,reduceCtorEq,κr2,κs2,κt2,κu2,κv2,κw2,κx2,κy2,κz2,κa3,eq_self,κb3,κc3,zL,PP,gt_iff_lt,n0,n1,n2,n3]; rfl
    refine cond_ rfl (fun _ => ?_) (fun h => by cases h)
    refine seq_reg (σ' := ?_) ?_ ?_
    rotate_left
    · simp -implicitDefEqProofs only [r22_Validate.r4,κa,κb,κc,κd,κe,κf,κg,κh,κi,κj,κk,κl,κm,κn,κo,κp,κq,κr,κs,κt,κu,κv,κw,κx,κy,κz,κa1,κb1,κc1,κd1,κe1,κf1,κg1,κh1,κi1,κj1,κk1,κl1,κm1,κn1,κo1,κp1,κq1,κr1,κs1,if_true,if_false,reduceIte,κt1,κu1,κv1,κw1,κx1,κy1,κz1,κa2,κb2,κc2,κd2,κe2,κf2,κg2,κh2,κi2,κj2,κk2,κl2,κm2,κn2,κo2,κp2,κq2,reduceCtorEq,κr2,κs2,κt2,κu2,κv2,κw2,κx2,κy2,κz2,κa3,eq_self,κb3,κc3,zL]; rfl
    exact ret_ ⟨.inl rfl,_,rfl,AVle.refl _⟩
  by_cases n4 : p.out < 0
  · rw [bad (by unfold rngP cmpP resP withinB; simp; omega)]
    refine seq_reg (σ' := ?_) ?_ ?_
    rotate_left
    · simp -implicitDefEqProofs only [r22_Validate.r3,κa,κb,κc,κd,κe,κf,κg,κh,κi,κj,κk,κl,κm,κn,κo,κp,κq,κr,κs,κt,κu,κv,κw,κx,κy,κz,κa1,κb1,κc1,κd1,κe1,κf1,κg1,κh1,κi1,κj1,κk1,κl1,κm1,κn1,κo1,κp1,κq1,κr1,κs1,if_true,if_false,reduceIte,κt1,κu1,κv1,κw1,κx1,κy1,κz1,κa2,κb2,κc2,κd2,κe2,κf2,κg2,κh2,κi2,κj2,κk2,κl2,κm2,κn2,κo2,κp2,κq2,reduceCtorEq,κr2,κs2,κt2,κu2,κv2,κw2,κx2,κy2,κz2,κa3,eq_self,κb3,κc3,zL,PP,gt_iff_lt,n0,n1,n2,n3,n4]; rfl
    refine cond_ rfl (fun _ => ?_) (fun h => by cases h)
    refine seq_reg (σ' := ?_) ?_ ?_
    rotate_left
    · simp -implicitDefEqProofs only [r22_Validate.r4,κa,κb,κc,κd,κe,κf,κg,κh,κi,κj,κk,κl,κm,κn,κo,κp,κq,κr,κs,κt,κu,κv,κw,κx,κy,κz,κa1,κb1,κc1,κd1,κe1,κf1,κg1,κh1,κi1,κj1,κk1,κl1,κm1,κn1,κo1,κp1,κq1,κr1,κs1,if_true,if_false,reduceIte,κt1,κu1,κv1,κw1,κx1,κy1,κz1,κa2,κb2,κc2,κd2,κe2,κf2,κg2,κh2,κi2,κj2,κk2,κl2,κm2,κn2,κo2,κp2,κq2,reduceCtorEq,κr2,κs2,κt2,κu2,κv2,κw2,κx2,κy2,κz2,κa3,eq_self,κb3,κc3,zL]; rfl
    exact ret_ ⟨.inl rfl,_,rfl,AVle.refl _⟩
  by_cases n5 : 32 < p.out
  · rw [bad (by unfold rngP cmpP resP withinB; simp; omega)]
    refine seq_reg (σ' := ?_) ?_ ?_
    rotate_left
    · simp -implicitDefEqProofs only [r22_Validate.r3,κa,κb,κc,κd,κe,κf,κg,κh,κi,κj,κk,κl,κm,κn,κo,κp,κq,κr,κs,κt,κu,κv,κw,κx,κy,κz,κa1,κb1,κc1,κd1,κe1,κf1,κg1,κh1,κi1,κj1,κk1,κl1,κm1,κn1,κo1,κp1,κq1,κr1,κs1,if_true,if_false,reduceIte,κt1,κu1,κv1,κw1,κx1,κy1,κz1,κa2,κb2,κc2,κd2,κe2,κf2,κg2,κh2,κi2,κj2,κk2,κl2,κm2,κn2,κo2,κp2,κq2,reduceCtorEq,κr2,κs2,κt2,κu2,κv2,κw2,κx2,κy2,κz2,κa3,eq_self,κb3,κc3,zL,PP,gt_iff_lt,n0,n1,n2,n3,n4,n5]; rfl
    refine cond_ rfl (fun _ => ?_) (fun h => by cases h)
    refine seq_reg (σ' := ?_) ?_ ?_
    rotate_left
    · simp -implicitDefEqProofs only [r22_Validate.r4,κa,κb,κc,κd,κe,κf,κg,κh,κi,κj,κk,κl,κm,κn,κo,κp,κq,κr,κs,κt,κu,κv,κw,κx,κy,κz,κa1,κb1,κc1,κd1,κe1,κf1,κg1,κh1,κi1,κj1,κk1,κl1,κm1,κn1,κo1,κp1,κq1,κr1,κs1,if_true,if_false,reduceIte,κt1,κu1,κv1,κw1,κx1,κy1,κz1,κa2,κb2,κc2,κd2,κe2,κf2,κg2,κh2,κi2,κj2,κk2,κl2,κm2,κn2,κo2,κp2,κq2,reduceCtorEq,κr2,κs2,κt2,κu2,κv2,κw2,κx2,κy2,κz2,κa3,eq_self,κb3,κc3,zL]; rfl
    exact ret_ ⟨.inl rfl,_,rfl,AVle.refl _⟩
  by_cases n6 : p.un < 0
  · rw [bad (by unfold rngP cmpP resP withinB; simp; omega)]
    refine seq_reg (σ' := ?_) ?_ ?_
    rotate_left
    · simp -implicitDefEqProofs only [r22_Validate.r3,κa,κb,κc,κd,κe,κf,κg,κh,κi,κj,κk,κl,κm,κn,κo,κp,κq,κr,κs,κt,κu,κv,κw,κx,κy,κz,κa1,κb1,κc1,κd1,κe1,κf1,κg1,κh1,κi1,κj1,κk1,κl1,κm1,κn1,κo1,κp1,κq1,κr1,κs1,if_true,if_false,reduceIte,κt1,κu1,κv1,κw1,κx1,κy1,κz1,κa2,κb2,κc2,κd2,κe2,κf2,κg2,κh2,κi2,κj2,κk2,κl2,κm2,κn2,κo2,κp2,κq2,reduceCtorEq,κr2,κs2,κt2,κu2,κv2,κw2,κx2,κy2,κz2,κa3,eq_self,κb3,κc3,zL,PP,gt_iff_lt,n0,n1,n2,n3,n4,n5,n6]; rfl
    refine cond_ rfl (fun _ => ?_) (fun h => by cases h)
    refine seq_reg (σ' := ?_) ?_ ?_
    rotate_left
    · simp -implicitDefEqProofs only [r22_Validate.r4,κa,κb,κc,κd,κe,κf,κg,κh,κi,κj,κk,κl,κm,κn,κo,κp,κq,κr,κs,κt,κu,κv,κw,κx,κy,κz,κa1,κb1,κc1,κd1,κe1,κf1,κg1,κh1,κi1,κj1,κk1,κl1,κm1,κn1,κo1,κp1,κq1,κr1,κs1,if_true,if_false,reduceIte,κt1,κu1,κv1,κw1,κx1,κy1,κz1,κa2,κb2,κc2,κd2,κe2,κf2,κg2,κh2,κi2,κj2,κk2,κl2,κm2,κn2,κo2,κp2,κq2,reduceCtorEq,κr2,κs2,κt2,κu2,κv2,κw2,κx2,κy2,κz2,κa3,eq_self,κb3,κc3,zL]; rfl
    exact ret_ ⟨.inl rfl,_,rfl,AVle.refl _⟩
  by_cases n7 : 64 < p.un
  · rw [bad (by unfold rngP cmpP resP withinB; simp; omega)]
    refine seq_reg (σ' := ?_) ?_ ?_
    rotate_left
    · simp -implicitDefEqProofs only [r22_Validate.r3,κa,κb,κc,κd,κe,κf,κg,κh,κi,κj,κk,κl,κm,κn,κo,κp,κq,κr,κs,κt,κu,κv,κw,κx,κy,κz,κa1,κb1,κc1,κd1,κe1,κf1,κg1,κh1,κi1,κj1,κk1,κl1,κm1,κn1,κo1,κp1,κq1,κr1,κs1,if_true,if_false,reduceIte,κt1,κu1,κv1,κw1,κx1,κy1,κz1,κa2,κb2,κc2,κd2,κe2,κf2,κg2,κh2,κi2,κj2,κk2,κl2,κm2,κn2,κo2,κp2,κq2,reduceCtorEq,κr2,κs2,κt2,κu2,κv2,κw2,κx2,κy2,κz2,κa3,eq_self,κb3,κc3,zL,PP,gt_iff_lt,n0,n1,n2,n3,n4,n5,n6,n7]; rfl
    refine cond_ rfl (fun _ => ?_) (fun h => by cases h)
    refine seq_reg (σ' := ?_) ?_ ?_
    rotate_left
    · simp -implicitDefEqProofs only [r22_Validate.r4,κa,κb,κc,κd,κe,κf,κg,κh,κi,κj,κk,κl,κm,κn,κo,κp,κq,κr,κs,κt,κu,κv,κw,κx,κy,κz,κa1,κb1,κc1,κd1,κe1,κf1,κg1,κh1,κi1,κj1,κk1,κl1,κm1,κn1,κo1,κp1,κq1,κr1,κs1,if_true,if_false,reduceIte,κt1,κu1,κv1,κw1,κx1,κy1,κz1,κa2,κb2,κc2,κd2,κe2,κf2,κg2,κh2,κi2,κj2,κk2,κl2,κm2,κn2,κo2,κp2,κq2,reduceCtorEq,κr2,κs2,κt2,κu2,κv2,κw2,κx2,κy2,κz2,κa3,eq_self,κb3,κc3,zL]; rfl
    exact ret_ ⟨.inl rfl,_,rfl,AVle.refl _⟩
  by_cases n8 : p.tx < 0
  · rw [bad (by unfold rngP cmpP resP withinB; simp; omega)]
    refine seq_reg (σ' := ?_) ?_ ?_
    rotate_left
    · simp -implicitDefEqProofs only [r22_Validate.r3,κa,κb,κc,κd,κe,κf,κg,κh,κi,κj,κk,κl,κm,κn,κo,κp,κq,κr,κs,κt,κu,κv,κw,κx,κy,κz,κa1,κb1,κc1,κd1,κe1,κf1,κg1,κh1,κi1,κj1,κk1,κl1,κm1,κn1,κo1,κp1,κq1,κr1,κs1,if_true,if_false,reduceIte,κt1,κu1,κv1,κw1,κx1,κy1,κz1,κa2,κb2,κc2,κd2,κe2,κf2,κg2,κh2,κi2,κj2,κk2,κl2,κm2,κn2,κo2,κp2,κq2,reduceCtorEq,κr2,κs2,κt2,κu2,κv2,κw2,κx2,κy2,κz2,κa3,eq_self,κb3,κc3,zL,PP,gt_iff_lt,n0,n1,n2,n3,n4,n5,n6,n7,n8]; rfl
    refine cond_ rfl (fun _ => ?_) (fun h => by cases h)
    refine seq_reg (σ' := ?_) ?_ ?_
    rotate_left
    · simp -implicitDefEqProofs only [r22_Validate.r4,κa,κb,κc,κd,κe,κf,κg,κh,κi,κj,κk,κl,κm,κn,κo,κp,κq,κr,κs,κt,κu,κv,κw,κx,κy,κz,κa1,κb1,κc1,κd1,κe1,κf1,κg1,κh1,κi1,κj1,κk1,κl1,κm1,κn1,κo1,κp1,κq1,κr1,κs1,if_true,if_false,reduceIte,κt1,κu1,κv1,κw1,κx1,κy1,κz1,κa2,κb2,κc2,κd2,κe2,κf2,κg2,κh2,κi2,κj2,κk2,κl2,κm2,κn2,κo2,κp2,κq2,reduceCtorEq,κr2,κs2,κt2,κu2,κv2,κw2,κx2,κy2,κz2,κa3,eq_self,κb3,κc3,zL]; rfl
    exact ret_ ⟨.inl rfl,_,rfl,AVle.refl _⟩
  by_cases n9 : 4 < p.tx
  · rw [bad (by unfold rngP cmpP resP withinB; simp; omega)]
    refine seq_reg (σ' := ?_) ?_ ?_
    rotate_left
    · simp -implicitDefEqProofs only [r22_Validate.r3,κa,κb,κc,κd,κe,κf,κg,κh,κi,κj,κk,κl,κm,κn,κo,κp,κq,κr,κs,κt,κu,κv,κw,κx,κy,κz,κa1,κb1,κc1,κd1,κe1,κf1,κg1,κh1,κi1,κj1,κk1,κl1,κm1,κn1,κo1,κp1,κq1,κr1,κs1,if_true,if_false,reduceIte,κt1,κu1,κv1,κw1,κx1,κy1,κz1,κa2,κb2,κc2,κd2,κe2,κf2,κg2,κh2,κi2,κj2,κk2,κl2,κm2,κn2,κo2,κp2,κq2,reduceCtorEq,κr2,κs2,κt2,κu2,κv2,κw2,κx2,κy2,κz2,κa3,eq_self,κb3,κc3,zL,PP,gt_iff_lt,n0,n1,n2,n3,n4,n5,n6,n7,n8,n9]; rfl
    refine cond_ rfl (fun _ => ?_) (fun h => by cases h)
    refine seq_reg (σ' := ?_) ?_ ?_
    rotate_left
    · simp -implicitDefEqProofs only [r22_Validate.r4,κa,κb,κc,κd,κe,κf,κg,κh,κi,κj,κk,κl,κm,κn,κo,κp,κq,κr,κs,κt,κu,κv,κw,κx,κy,κz,κa1,κb1,κc1,κd1,κe1,κf1,κg1,κh1,κi1,κj1,κk1,κl1,κm1,κn1,κo1,κp1,κq1,κr1,κs1,if_true,if_false,reduceIte,κt1,κu1,κv1,κw1,κx1,κy1,κz1,κa2,κb2,κc2,κd2,κe2,κf2,κg2,κh2,κi2,κj2,κk2,κl2,κm2,κn2,κo2,κp2,κq2,reduceCtorEq,κr2,κs2,κt2,κu2,κv2,κw2,κx2,κy2,κz2,κa3,eq_self,κb3,κc3,zL]; rfl
    exact ret_ ⟨.inl rfl,_,rfl,AVle.refl _⟩
  by_cases n10 : p.bf < 0
  · rw [bad (by unfold rngP cmpP resP withinB; simp; omega)]
    refine seq_reg (σ' := ?_) ?_ ?_
    rotate_left
    · simp -implicitDefEqProofs only [r22_Validate.r3,κa,κb,κc,κd,κe,κf,κg,κh,κi,κj,κk,κl,κm,κn,κo,κp,κq,κr,κs,κt,κu,κv,κw,κx,κy,κz,κa1,κb1,κc1,κd1,κe1,κf1,κg1,κh1,κi1,κj1,κk1,κl1,κm1,κn1,κo1,κp1,κq1,κr1,κs1,if_true,if_false,reduceIte,κt1,κu1,κv1,κw1,κx1,κy1,κz1,κa2,κb2,κc2,κd2,κe2,κf2,κg2,κh2,κi2,κj2,κk2,κl2,κm2,κn2,κo2,κp2,κq2,reduceCtorEq,κr2,κs2,κt2,κu2,κv2,κw2,κx2,κy2,κz2,κa3,eq_self,κb3,κc3,zL,PP,gt_iff_lt,n0,n1,n2,n3,n4,n5,n6,n7,n8,n9,n10]; rfl
    refine cond_ rfl (fun _ => ?_) (fun h => by cases h)
    refine seq_reg (σ' := ?_) ?_ ?_
    rotate_left
    · simp -implicitDefEqProofs only [r22_Validate.r4,κa,κb,κc,κd,κe,κf,κg,κh,κi,κj,κk,κl,κm,κn,κo,κp,κq,κr,κs,κt,κu,κv,κw,κx,κy,κz,κa1,κb1,κc1,κd1,κe1,κf1,κg1,κh1,κi1,κj1,κk1,κl1,κm1,κn1,κo1,κp1,κq1,κr1,κs1,if_true,if_false,reduceIte,κt1,κu1,κv1,κw1,κx1,κy1,κz1,κa2,κb2,κc2,κd2,κe2,κf2,κg2,κh2,κi2,κj2,κk2,κl2,κm2,κn2,κo2,κp2,κq2,reduceCtorEq,κr2,κs2,κt2,κu2,κv2,κw2,κx2,κy2,κz2,κa3,eq_self,κb3,κc3,zL]; rfl
    exact ret_ ⟨.inl rfl,_,rfl,AVle.refl _⟩
  by_cases n11 : 4 < p.bf
  · rw [bad (by unfold rngP cmpP resP withinB; simp; omega)]
    refine seq_reg (σ' := ?_) ?_ ?_
    rotate_left
    · simp -implicitDefEqProofs only [r22_Validate.r3,κa,κb,κc,κd,κe,κf,κg,κh,κi,κj,κk,κl,κm,κn,κo,κp,κq,κr,κs,κt,κu,κv,κw,κx,κy,κz,κa1,κb1,κc1,κd1,κe1,κf1,κg1,κh1,κi1,κj1,κk1,κl1,κm1,κn1,κo1,κp1,κq1,κr1,κs1,if_true,if_false,reduceIte,κt1,κu1,κv1,κw1,κx1,κy1,κz1,κa2,κb2,κc2,κd2,κe2,κf2,κg2,κh2,κi2,κj2,κk2,κl2,κm2,κn2,κo2,κp2,κq2,reduceCtorEq,κr2,κs2,κt2,κu2,κv2,κw2,κx2,κy2,κz2,κa3,eq_self,κb3,κc3,zL,PP,gt_iff_lt,n0,n1,n2,n3,n4,n5,n6,n7,n8,n9,n10,n11]; rfl
    refine cond_ rfl (fun _ => ?_) (fun h => by cases h)
    refine seq_reg (σ' := ?_) ?_ ?_
    rotate_left
    · simp -implicitDefEqProofs only [r22_Validate.r4,κa,κb,κc,κd,κe,κf,κg,κh,κi,κj,κk,κl,κm,κn,κo,κp,κq,κr,κs,κt,κu,κv,κw,κx,κy,κz,κa1,κb1,κc1,κd1,κe1,κf1,κg1,κh1,κi1,κj1,κk1,κl1,κm1,κn1,κo1,κp1,κq1,κr1,κs1,if_true,if_false,reduceIte,κt1,κu1,κv1,κw1,κx1,κy1,κz1,κa2,κb2,κc2,κd2,κe2,κf2,κg2,κh2,κi2,κj2,κk2,κl2,κm2,κn2,κo2,κp2,κq2,reduceCtorEq,κr2,κs2,κt2,κu2,κv2,κw2,κx2,κy2,κz2,κa3,eq_self,κb3,κc3,zL]; rfl
    exact ret_ ⟨.inl rfl,_,rfl,AVle.refl _⟩
  have hrng : rngP p = true := by
    simp only [rngP,cmpP,resP,withinB,Bool.and_eq_true,decide_eq_true_eq]; omega
  have hokp : okP p.inp p.out p.un p.tx p.bf := ⟨by omega,by omega,by omega,by omega,by omega,by omega,by omega,by omega,by omega,by omega⟩
  refine seq_reg (σ' := ?_) ?_ ?_
  rotate_left
  · simp -implicitDefEqProofs only [r22_Validate.r3,κa,κb,κc,κd,κe,κf,κg,κh,κi,κj,κk,κl,κm,κn,κo,κp,κq,κr,κs,κt,κu,κv,κw,κx,κy,κz,κa1,κb1,κc1,κd1,κe1,κf1,κg1,κh1,κi1,κj1,κk1,κl1,κm1,κn1,κo1,κp1,κq1,κr1,κs1,if_true,if_false,reduceIte,κt1,κu1,κv1,κw1,κx1,κy1,κz1,κa2,κb2,κc2,κd2,κe2,κf2,κg2,κh2,κi2,κj2,κk2,κl2,κm2,κn2,κo2,κp2,κq2,reduceCtorEq,κr2,κs2,κt2,κu2,κv2,κw2,κx2,κy2,κz2,κa3,eq_self,κb3,κc3,zL,PP,gt_iff_lt,n0,n1,n2,n3,n4,n5,n6,n7,n8,n9,n10,n11]; rfl
  refine cond_ rfl (fun h => by cases h) (fun _ => skip_ ?_)
  refine norm_sub (σ'' := St.of [(1,.box 1 0)] [(1,PP)] [] 0) (sub_of (all_cons rfl all_nil) (all_cons rfl all_nil) all_nil (Nat.le_refl _)) ?_
  refine seq_ (seq_ ?_)
  by_cases hl : 16384 < p.code.length
  · have hV : validS p = 5 := by unfold validS; rw [if_neg hst,if_neg (by rw [hrng]; simp),if_pos hl]
    rw [hV]
    refine seq_reg (σ' := ?_) ?_ ?_
    rotate_left
    · simp -implicitDefEqProofs only [r22_Validate.r5,κa,κb,κc,κd,κe,κf,κg,κh,κi,κj,κk,κl,κm,κn,κo,κp,κq,κr,κs,κt,κu,κv,κw,κx,κy,κz,κa1,κb1,κc1,κd1,κe1,κf1,κg1,κh1,κi1,κj1,κk1,κl1,κm1,κn1,κo1,κp1,κq1,κr1,κs1,if_true,if_false,reduceIte,κt1,κu1,κv1,κw1,κx1,κy1,κz1,κa2,κb2,κc2,κd2,κe2,κf2,κg2,κh2,κi2,κj2,κk2,κl2,κm2,κn2,κo2,κp2,κq2,reduceCtorEq,κr2,κs2,κt2,κu2,κv2,κw2,κx2,κy2,κz2,κa3,eq_self,κb3,κc3,zL,PP,List.length_map,show (p.code.length : Int) > 16384 by omega]; rfl
    refine cond_ rfl (fun _ => ?_) (fun h => by cases h)
    refine seq_reg (σ' := ?_) ?_ ?_
    rotate_left
    · simp -implicitDefEqProofs only [r22_Validate.r6,κa,κb,κc,κd,κe,κf,κg,κh,κi,κj,κk,κl,κm,κn,κo,κp,κq,κr,κs,κt,κu,κv,κw,κx,κy,κz,κa1,κb1,κc1,κd1,κe1,κf1,κg1,κh1,κi1,κj1,κk1,κl1,κm1,κn1,κo1,κp1,κq1,κr1,κs1,if_true,if_false,reduceIte,κt1,κu1,κv1,κw1,κx1,κy1,κz1,κa2,κb2,κc2,κd2,κe2,κf2,κg2,κh2,κi2,κj2,κk2,κl2,κm2,κn2,κo2,κp2,κq2,reduceCtorEq,κr2,κs2,κt2,κu2,κv2,κw2,κx2,κy2,κz2,κa3,eq_self,κb3,κc3,zL]; rfl
    exact ret_ ⟨.inl rfl,_,rfl,AVle.refl _⟩
  have hV : validS p = vLoop p p.code [] 0 := by unfold validS; rw [if_neg hst,if_neg (by rw [hrng]; simp),if_neg hl]
  rw [hV]
  refine seq_reg (σ' := ?_) ?_ ?_
  rotate_left
  · simp -implicitDefEqProofs only [r22_Validate.r5,κa,κb,κc,κd,κe,κf,κg,κh,κi,κj,κk,κl,κm,κn,κo,κp,κq,κr,κs,κt,κu,κv,κw,κx,κy,κz,κa1,κb1,κc1,κd1,κe1,κf1,κg1,κh1,κi1,κj1,κk1,κl1,κm1,κn1,κo1,κp1,κq1,κr1,κs1,if_true,if_false,reduceIte,κt1,κu1,κv1,κw1,κx1,κy1,κz1,κa2,κb2,κc2,κd2,κe2,κf2,κg2,κh2,κi2,κj2,κk2,κl2,κm2,κn2,κo2,κp2,κq2,reduceCtorEq,κr2,κs2,κt2,κu2,κv2,κw2,κx2,κy2,κz2,κa3,eq_self,κb3,κc3,zL,PP,List.length_map,show ¬ (p.code.length : Int) > 16384 by omega]; rfl
  refine cond_ rfl (fun h => by cases h) (fun _ => skip_ (norm_ ?_))
  refine seq_reg (σ' := ?_) ?_ ?_
  rotate_left
  · simp -implicitDefEqProofs only [r22_Validate.r7,κa,κb,κc,κd,κe,κf,κg,κh,κi,κj,κk,κl,κm,κn,κo,κp,κq,κr,κs,κt,κu,κv,κw,κx,κy,κz,κa1,κb1,κc1,κd1,κe1,κf1,κg1,κh1,κi1,κj1,κk1,κl1,κm1,κn1,κo1,κp1,κq1,κr1,κs1,if_true,if_false,reduceIte,κt1,κu1,κv1,κw1,κx1,κy1,κz1,κa2,κb2,κc2,κd2,κe2,κf2,κg2,κh2,κi2,κj2,κk2,κl2,κm2,κn2,κo2,κp2,κq2,reduceCtorEq,κr2,κs2,κt2,κu2,κv2,κw2,κx2,κy2,κz2,κa3,eq_self,κb3,κc3,zL]; rfl
  refine seq_ (seq_ ?_)
  let RS (X : XV) (j : Nat) : St := St.of [(1,.box 1 0),(3,.c X),(4,rInt j)] [(1,PP)] [] 0
  have rs_sub : ∀ (X : XV) (j : Nat) (σ : St),σ.tm 1 = some (.box 1 0) → σ.tm 3 = some (.c X) → σ.tm 4 = some (rInt j) → σ.hp 1 = some PP → σ.nt = 0 → Sub (RS X j) σ := fun X j σ a1 a2 a3 a4 a5 => sub_of (all_cons a1 (all_cons a2 (all_cons a3 all_nil))) (all_cons a4 all_nil) all_nil (Nat.le_of_eq a5)
  refine seq_ex (σ'' := RS (.tk .tight 1 []) 0) ⟨_,by simp -implicitDefEqProofs only [r22_Validate.r8,κa,κb,κc,κd,κe,κf,κg,κh,κi,κj,κk,κl,κm,κn,κo,κp,κq,κr,κs,κt,κu,κv,κw,κx,κy,κz,κa1,κb1,κc1,κd1,κe1,κf1,κg1,κh1,κi1,κj1,κk1,κl1,κm1,κn1,κo1,κp1,κq1,κr1,κs1,if_true,if_false,reduceIte,κt1,κu1,κv1,κw1,κx1,κy1,κz1,κa2,κb2,κc2,κd2,κe2,κf2,κg2,κh2,κi2,κj2,κk2,κl2,κm2,κn2,κo2,κp2,κq2,reduceCtorEq,κr2,κs2,κt2,κu2,κv2,κw2,κx2,κy2,κz2,κa3,eq_self,κb3,κc3,zL]; rfl,rs_sub _ _ _ rfl rfl rfl rfl rfl⟩ ?_
  refine block_ ?_
  refine loop_ (fun k σ => ∃ (j : Nat) (L : List Int) (n : Int) (X : XV),j ≤ p.code.length ∧ k = p.code.length - j ∧ X.forget = .sl 1 ((L.map fE).map eI) ∧ InL L ∧ n = (L.count 46 : Nat) ∧ n ≤ 3 ∧ L.length ≤ j ∧ vLoop p (p.code.drop j) L n = vLoop p p.code [] 0 ∧ σ = RS X j)
    p.code.length _ (Sub.refl _) ⟨0,[],0,_,Nat.zero_le _,rfl,rfl,(fun x hx => by cases hx),rfl,by omega,Nat.le_refl _,rfl,rfl⟩ ?_
  rintro k σ ⟨j,L,n,X,hj,rfl,hX,hL,hn,hn3,hlj,hv,rfl⟩
  unfold r22_Validate.b22
  refine seq_ (seq_ ?_)
  refine seq_reg (σ' := ?_) ?_ ?_
  rotate_left
  · simp -implicitDefEqProofs only [r22_Validate.r9,κa,κb,κc,κd,κe,κf,κg,κh,κi,κj,κk,κl,κm,κn,κo,κp,κq,κr,κs,κt,κu,κv,κw,κx,κy,κz,κa1,κb1,κc1,κd1,κe1,κf1,κg1,κh1,κi1,κj1,κk1,κl1,κm1,κn1,κo1,κp1,κq1,κr1,κs1,if_true,if_false,reduceIte,κt1,κu1,κv1,κw1,κx1,κy1,κz1,κa2,κb2,κc2,κd2,κe2,κf2,κg2,κh2,κi2,κj2,κk2,κl2,κm2,κn2,κo2,κp2,κq2,reduceCtorEq,κr2,κs2,κt2,κu2,κv2,κw2,κx2,κy2,κz2,κa3,eq_self,κb3,κc3,zL,RS,PP,rInt,List.length_map]; rfl
  refine cond_ rfl (fun h => skip_ (norm_ ?_)) (fun h => ?_)
  · have hlt : j < p.code.length := by have := of_decide_eq_true h; omega
    have hg := Ins.cs_get p.code j hlt
    have hdr : p.code.drop j = p.code[j] :: p.code.drop (j + 1) := List.drop_eq_getElem_cons hlt
    have hwr : IntKind.i64.wrap ((j : Int) + 1) = ((j + 1 : Nat) : Int) := by rw [i64_w' (by omega) (by omega)]; omega
    have hj0 : (0 : Int) ≤ (j : Int) := by omega
    rw [hdr] at hv
    generalize p.code[j] = I at hg hv
    refine seq_ (block_ ?_)
    refine seq_reg (σ' := ?_) ?_ ?_
    rotate_left
    · simp -implicitDefEqProofs only [r22_Validate.r10,κa,κb,κc,κd,κe,κf,κg,κh,κi,κj,κk,κl,κm,κn,κo,κp,κq,κr,κs,κt,κu,κv,κw,κx,κy,κz,κa1,κb1,κc1,κd1,κe1,κf1,κg1,κh1,κi1,κj1,κk1,κl1,κm1,κn1,κo1,κp1,κq1,κr1,κs1,if_true,if_false,reduceIte,κt1,κu1,κv1,κw1,κx1,κy1,κz1,κa2,κb2,κc2,κd2,κe2,κf2,κg2,κh2,κi2,κj2,κk2,κl2,κm2,κn2,κo2,κp2,κq2,reduceCtorEq,κr2,κs2,κt2,κu2,κv2,κw2,κx2,κy2,κz2,κa3,eq_self,κb3,κc3,zL,hg,hj0]; rfl
    refine seq_ (seq_ ?_)
    by_cases hop : opB I.op = true
    case neg =>
      have hop' : opB I.op = false := by simpa using hop
      have hE : opnI p I = 10 := if_neg hop
      have hF : vLoop p p.code [] 0 = 10 := by rw [← hv]; unfold vLoop; rw [if_neg (by rw [hE]; decide),hE]
      rw [hF]
      refine seq_reg (σ' := ?_) ?_ ?_
      rotate_left
      · simp -implicitDefEqProofs only [r22_Validate.r11,κa,κb,κc,κd,κe,κf,κg,κh,κi,κj,κk,κl,κm,κn,κo,κp,κq,κr,κs,κt,κu,κv,κw,κx,κy,κz,κa1,κb1,κc1,κd1,κe1,κf1,κg1,κh1,κi1,κj1,κk1,κl1,κm1,κn1,κo1,κp1,κq1,κr1,κs1,if_true,if_false,reduceIte,κt1,κu1,κv1,κw1,κx1,κy1,κz1,κa2,κb2,κc2,κd2,κe2,κf2,κg2,κh2,κi2,κj2,κk2,κl2,κm2,κn2,κo2,κp2,κq2,reduceCtorEq,κr2,κs2,κt2,κu2,κv2,κw2,κx2,κy2,κz2,κa3,eq_self,κb3,κc3,zL,r22_Valid.S,rBool,hop']; rfl
      refine cond_ rfl (fun _ => ?_) (fun h => by cases h)
      refine seq_reg (σ' := ?_) ?_ ?_
      rotate_left
      · simp -implicitDefEqProofs only [r22_Validate.r12,κa,κb,κc,κd,κe,κf,κg,κh,κi,κj,κk,κl,κm,κn,κo,κp,κq,κr,κs,κt,κu,κv,κw,κx,κy,κz,κa1,κb1,κc1,κd1,κe1,κf1,κg1,κh1,κi1,κj1,κk1,κl1,κm1,κn1,κo1,κp1,κq1,κr1,κs1,if_true,if_false,reduceIte,κt1,κu1,κv1,κw1,κx1,κy1,κz1,κa2,κb2,κc2,κd2,κe2,κf2,κg2,κh2,κi2,κj2,κk2,κl2,κm2,κn2,κo2,κp2,κq2,reduceCtorEq,κr2,κs2,κt2,κu2,κv2,κw2,κx2,κy2,κz2,κa3,eq_self,κb3,κc3,zL]; rfl
      exact ret_ ⟨.inl rfl,_,rfl,AVle.refl _⟩
    have hr : 1 ≤ I.op ∧ I.op ≤ 52 := of_decide_eq_true hop
    refine seq_reg (σ' := ?_) ?_ ?_
    rotate_left
    · simp -implicitDefEqProofs only [r22_Validate.r11,κa,κb,κc,κd,κe,κf,κg,κh,κi,κj,κk,κl,κm,κn,κo,κp,κq,κr,κs,κt,κu,κv,κw,κx,κy,κz,κa1,κb1,κc1,κd1,κe1,κf1,κg1,κh1,κi1,κj1,κk1,κl1,κm1,κn1,κo1,κp1,κq1,κr1,κs1,if_true,if_false,reduceIte,κt1,κu1,κv1,κw1,κx1,κy1,κz1,κa2,κb2,κc2,κd2,κe2,κf2,κg2,κh2,κi2,κj2,κk2,κl2,κm2,κn2,κo2,κp2,κq2,reduceCtorEq,κr2,κs2,κt2,κu2,κv2,κw2,κx2,κy2,κz2,κa3,eq_self,κb3,κc3,zL,r22_Valid.S,rBool,hop]; rfl
    refine cond_ rfl (fun h => by cases h) (fun _ => skip_ (norm_ ?_))
    refine seq_ (seq_ ?_)
    cases hu : unuB I.op I.d I.a I.b I.c I.m with
    | true =>
      have hE : opnI p I = 2 := by unfold opnI opnE; rw [if_pos hop,if_pos hu]
      have hF : vLoop p p.code [] 0 = 2 := by rw [← hv]; unfold vLoop; rw [if_neg (by rw [hE]; decide),hE]
      rw [hF]
      refine seq_reg (σ' := ?_) ?_ ?_
      rotate_left
      · simp -implicitDefEqProofs only [r22_Validate.r13,κa,κb,κc,κd,κe,κf,κg,κh,κi,κj,κk,κl,κm,κn,κo,κp,κq,κr,κs,κt,κu,κv,κw,κx,κy,κz,κa1,κb1,κc1,κd1,κe1,κf1,κg1,κh1,κi1,κj1,κk1,κl1,κm1,κn1,κo1,κp1,κq1,κr1,κs1,if_true,if_false,reduceIte,κt1,κu1,κv1,κw1,κx1,κy1,κz1,κa2,κb2,κc2,κd2,κe2,κf2,κg2,κh2,κi2,κj2,κk2,κl2,κm2,κn2,κo2,κp2,κq2,reduceCtorEq,κr2,κs2,κt2,κu2,κv2,κw2,κx2,κy2,κz2,κa3,eq_self,κb3,κc3,zL,r22_unused.S,if_pos hr,rBool,hu]; rfl
      refine cond_ rfl (fun _ => ?_) (fun h => by cases h)
      refine seq_reg (σ' := ?_) ?_ ?_
      rotate_left
      · simp -implicitDefEqProofs only [r22_Validate.r14,κa,κb,κc,κd,κe,κf,κg,κh,κi,κj,κk,κl,κm,κn,κo,κp,κq,κr,κs,κt,κu,κv,κw,κx,κy,κz,κa1,κb1,κc1,κd1,κe1,κf1,κg1,κh1,κi1,κj1,κk1,κl1,κm1,κn1,κo1,κp1,κq1,κr1,κs1,if_true,if_false,reduceIte,κt1,κu1,κv1,κw1,κx1,κy1,κz1,κa2,κb2,κc2,κd2,κe2,κf2,κg2,κh2,κi2,κj2,κk2,κl2,κm2,κn2,κo2,κp2,κq2,reduceCtorEq,κr2,κs2,κt2,κu2,κv2,κw2,κx2,κy2,κz2,κa3,eq_self,κb3,κc3,zL]; rfl
      exact ret_ ⟨.inl rfl,_,rfl,AVle.refl _⟩
    | false =>
    refine seq_reg (σ' := ?_) ?_ ?_
    rotate_left
    · simp -implicitDefEqProofs only [r22_Validate.r13,κa,κb,κc,κd,κe,κf,κg,κh,κi,κj,κk,κl,κm,κn,κo,κp,κq,κr,κs,κt,κu,κv,κw,κx,κy,κz,κa1,κb1,κc1,κd1,κe1,κf1,κg1,κh1,κi1,κj1,κk1,κl1,κm1,κn1,κo1,κp1,κq1,κr1,κs1,if_true,if_false,reduceIte,κt1,κu1,κv1,κw1,κx1,κy1,κz1,κa2,κb2,κc2,κd2,κe2,κf2,κg2,κh2,κi2,κj2,κk2,κl2,κm2,κn2,κo2,κp2,κq2,reduceCtorEq,κr2,κs2,κt2,κu2,κv2,κw2,κx2,κy2,κz2,κa3,eq_self,κb3,κc3,zL,r22_unused.S,if_pos hr,rBool,hu]; rfl
    refine cond_ rfl (fun h => by cases h) (fun _ => skip_ (norm_ ?_))
    refine seq_ (seq_ ?_)
    cases ho : outB p.st p.rg p.inp p.out p.un p.tx p.bf I.op I.d I.a I.b I.c I.m with
    | true =>
      have hE : opnI p I = 6 := by unfold opnI opnE; rw [if_pos hop,if_neg (by rw [hu]; simp),if_pos ho]
      have hF : vLoop p p.code [] 0 = 6 := by rw [← hv]; unfold vLoop; rw [if_neg (by rw [hE]; decide),hE]
      rw [hF]
      refine seq_reg (σ' := ?_) ?_ ?_
      rotate_left
      · simp -implicitDefEqProofs only [r22_Validate.r15,κa,κb,κc,κd,κe,κf,κg,κh,κi,κj,κk,κl,κm,κn,κo,κp,κq,κr,κs,κt,κu,κv,κw,κx,κy,κz,κa1,κb1,κc1,κd1,κe1,κf1,κg1,κh1,κi1,κj1,κk1,κl1,κm1,κn1,κo1,κp1,κq1,κr1,κs1,if_true,if_false,reduceIte,κt1,κu1,κv1,κw1,κx1,κy1,κz1,κa2,κb2,κc2,κd2,κe2,κf2,κg2,κh2,κi2,κj2,κk2,κl2,κm2,κn2,κo2,κp2,κq2,reduceCtorEq,κr2,κs2,κt2,κu2,κv2,κw2,κx2,κy2,κz2,κa3,eq_self,κb3,κc3,zL,r22_outside.S,if_pos (And.intro hokp hr),rBool,ho]; rfl
      refine cond_ rfl (fun _ => ?_) (fun h => by cases h)
      refine seq_reg (σ' := ?_) ?_ ?_
      rotate_left
      · simp -implicitDefEqProofs only [r22_Validate.r16,κa,κb,κc,κd,κe,κf,κg,κh,κi,κj,κk,κl,κm,κn,κo,κp,κq,κr,κs,κt,κu,κv,κw,κx,κy,κz,κa1,κb1,κc1,κd1,κe1,κf1,κg1,κh1,κi1,κj1,κk1,κl1,κm1,κn1,κo1,κp1,κq1,κr1,κs1,if_true,if_false,reduceIte,κt1,κu1,κv1,κw1,κx1,κy1,κz1,κa2,κb2,κc2,κd2,κe2,κf2,κg2,κh2,κi2,κj2,κk2,κl2,κm2,κn2,κo2,κp2,κq2,reduceCtorEq,κr2,κs2,κt2,κu2,κv2,κw2,κx2,κy2,κz2,κa3,eq_self,κb3,κc3,zL]; rfl
      exact ret_ ⟨.inl rfl,_,rfl,AVle.refl _⟩
    | false =>
    have hE : opnI p I = 0 := by unfold opnI opnE; rw [if_pos hop,if_neg (by rw [hu]; simp),if_neg (by rw [ho]; simp)]
    refine seq_reg (σ' := ?_) ?_ ?_
    rotate_left
    · simp -implicitDefEqProofs only [r22_Validate.r15,κa,κb,κc,κd,κe,κf,κg,κh,κi,κj,κk,κl,κm,κn,κo,κp,κq,κr,κs,κt,κu,κv,κw,κx,κy,κz,κa1,κb1,κc1,κd1,κe1,κf1,κg1,κh1,κi1,κj1,κk1,κl1,κm1,κn1,κo1,κp1,κq1,κr1,κs1,if_true,if_false,reduceIte,κt1,κu1,κv1,κw1,κx1,κy1,κz1,κa2,κb2,κc2,κd2,κe2,κf2,κg2,κh2,κi2,κj2,κk2,κl2,κm2,κn2,κo2,κp2,κq2,reduceCtorEq,κr2,κs2,κt2,κu2,κv2,κw2,κx2,κy2,κz2,κa3,eq_self,κb3,κc3,zL,r22_outside.S,if_pos (And.intro hokp hr),rBool,ho]; rfl
    refine cond_ rfl (fun h => by cases h) (fun _ => skip_ (norm_ ?_))
    have hnx := nextS_eq p.st I.op (L.map fE) (by simp; omega)
    have hrel := next_rel (st := p.st) (op := I.op) hL hn
    have hv2 : vLoop p p.code [] 0 = (match stepS p.st L n I.op with
      | none => 16
      | some (L',n') => vLoop p (p.code.drop (j + 1)) L' n') := by
      rw [← hv]
      simp only [vLoop,if_pos hE]
      cases stepS p.st L n I.op <;> rfl
    refine seq_reg (σ' := ?_) ?_ ?_
    rotate_left
    · simp -implicitDefEqProofs only [r22_Validate.r17,κa,κb,κc,κd,κe,κf,κg,κh,κi,κj,κk,κl,κm,κn,κo,κp,κq,κr,κs,κt,κu,κv,κw,κx,κy,κz,κa1,κb1,κc1,κd1,κe1,κf1,κg1,κh1,κi1,κj1,κk1,κl1,κm1,κn1,κo1,κp1,κq1,κr1,κs1,if_true,if_false,reduceIte,κt1,κu1,κv1,κw1,κx1,κy1,κz1,κa2,κb2,κc2,κd2,κe2,κf2,κg2,κh2,κi2,κj2,κk2,κl2,κm2,κn2,κo2,κp2,κq2,reduceCtorEq,κr2,κs2,κt2,κu2,κv2,κw2,κx2,κy2,κz2,κa3,eq_self,κb3,κc3,zL,hX,hnx]; rfl
    refine seq_ (seq_ ?_)
    cases hs : stepS p.st L n I.op with
    | none =>
      rw [hs] at hrel hv2
      simp only at hrel hv2
      rw [hv2]
      refine seq_reg (σ' := ?_) ?_ ?_
      rotate_left
      · simp -implicitDefEqProofs only [r22_Validate.r18,κa,κb,κc,κd,κe,κf,κg,κh,κi,κj,κk,κl,κm,κn,κo,κp,κq,κr,κs,κt,κu,κv,κw,κx,κy,κz,κa1,κb1,κc1,κd1,κe1,κf1,κg1,κh1,κi1,κj1,κk1,κl1,κm1,κn1,κo1,κp1,κq1,κr1,κs1,if_true,if_false,reduceIte,κt1,κu1,κv1,κw1,κx1,κy1,κz1,κa2,κb2,κc2,κd2,κe2,κf2,κg2,κh2,κi2,κj2,κk2,κl2,κm2,κn2,κo2,κp2,κq2,reduceCtorEq,κr2,κs2,κt2,κu2,κv2,κw2,κx2,κy2,κz2,κa3,eq_self,κb3,κc3,zL,hrel]; rfl
      refine cond_ rfl (fun _ => ?_) (fun h => by cases h)
      refine seq_reg (σ' := ?_) ?_ ?_
      rotate_left
      · simp -implicitDefEqProofs only [r22_Validate.r19,κa,κb,κc,κd,κe,κf,κg,κh,κi,κj,κk,κl,κm,κn,κo,κp,κq,κr,κs,κt,κu,κv,κw,κx,κy,κz,κa1,κb1,κc1,κd1,κe1,κf1,κg1,κh1,κi1,κj1,κk1,κl1,κm1,κn1,κo1,κp1,κq1,κr1,κs1,if_true,if_false,reduceIte,κt1,κu1,κv1,κw1,κx1,κy1,κz1,κa2,κb2,κc2,κd2,κe2,κf2,κg2,κh2,κi2,κj2,κk2,κl2,κm2,κn2,κo2,κp2,κq2,reduceCtorEq,κr2,κs2,κt2,κu2,κv2,κw2,κx2,κy2,κz2,κa3,eq_self,κb3,κc3,zL]; rfl
      exact ret_ ⟨.inl rfl,_,rfl,AVle.refl _⟩
    | some q =>
      obtain ⟨L',n'⟩ := q
      obtain ⟨g1,g2,g3⟩ := stepS_inv hs hn hn3
      rw [hs] at hrel hv2
      simp only at hrel hv2
      obtain ⟨r1,r2,r3⟩ := hrel
      rw [r2]
      refine seq_reg (σ' := ?_) ?_ ?_
      rotate_left
      · simp -implicitDefEqProofs only [r22_Validate.r18,κa,κb,κc,κd,κe,κf,κg,κh,κi,κj,κk,κl,κm,κn,κo,κp,κq,κr,κs,κt,κu,κv,κw,κx,κy,κz,κa1,κb1,κc1,κd1,κe1,κf1,κg1,κh1,κi1,κj1,κk1,κl1,κm1,κn1,κo1,κp1,κq1,κr1,κs1,if_true,if_false,reduceIte,κt1,κu1,κv1,κw1,κx1,κy1,κz1,κa2,κb2,κc2,κd2,κe2,κf2,κg2,κh2,κi2,κj2,κk2,κl2,κm2,κn2,κo2,κp2,κq2,reduceCtorEq,κr2,κs2,κt2,κu2,κv2,κw2,κx2,κy2,κz2,κa3,eq_self,κb3,κc3,zL,r1]; rfl
      refine cond_ rfl (fun h => by cases h) (fun _ => skip_ (norm_ ?_))
      refine last_reg (σ' := ?_) ?_ ?_
      rotate_left
      · simp -implicitDefEqProofs only [r22_Validate.r20,κa,κb,κc,κd,κe,κf,κg,κh,κi,κj,κk,κl,κm,κn,κo,κp,κq,κr,κs,κt,κu,κv,κw,κx,κy,κz,κa1,κb1,κc1,κd1,κe1,κf1,κg1,κh1,κi1,κj1,κk1,κl1,κm1,κn1,κo1,κp1,κq1,κr1,κs1,if_true,if_false,reduceIte,κt1,κu1,κv1,κw1,κx1,κy1,κz1,κa2,κb2,κc2,κd2,κe2,κf2,κg2,κh2,κi2,κj2,κk2,κl2,κm2,κn2,κo2,κp2,κq2,reduceCtorEq,κr2,κs2,κt2,κu2,κv2,κw2,κx2,κy2,κz2,κa3,eq_self,κb3,κc3,zL]; rfl
      refine norm_ ?_
      refine last_reg (σ' := ?_) ?_ ?_
      rotate_left
      · simp -implicitDefEqProofs only [r22_Validate.r21,κa,κb,κc,κd,κe,κf,κg,κh,κi,κj,κk,κl,κm,κn,κo,κp,κq,κr,κs,κt,κu,κv,κw,κx,κy,κz,κa1,κb1,κc1,κd1,κe1,κf1,κg1,κh1,κi1,κj1,κk1,κl1,κm1,κn1,κo1,κp1,κq1,κr1,κs1,if_true,if_false,reduceIte,κt1,κu1,κv1,κw1,κx1,κy1,κz1,κa2,κb2,κc2,κd2,κe2,κf2,κg2,κh2,κi2,κj2,κk2,κl2,κm2,κn2,κo2,κp2,κq2,reduceCtorEq,κr2,κs2,κt2,κu2,κv2,κw2,κx2,κy2,κz2,κa3,eq_self,κb3,κc3,zL,rInt,hwr]; rfl
      exact round_ (m := p.code.length - (j + 1)) (σ'' := RS (.p (.sl 1 ((L'.map fE).map eI))) (j + 1)) (by omega) (rs_sub _ _ _ rfl rfl rfl rfl rfl) ⟨j + 1,L',n',_,hlt,rfl,rfl,r3,g1,g2,by omega,hv2.symm,rfl⟩
  · have hge : j = p.code.length := by have := of_decide_eq_false h; omega
    subst hge
    have hF : vLoop p p.code [] 0 = (if L.length = 0 then 0 else 16) := by rw [← hv]; simp [vLoop]
    rw [hF]
    refine exit_ (norm_ ?_)
    refine seq_ (seq_ ?_)
    by_cases hz : L.length = 0
    · rw [if_pos hz]
      refine seq_reg (σ' := ?_) ?_ ?_
      rotate_left
      · simp -implicitDefEqProofs only [r22_Validate.r23,κa,κb,κc,κd,κe,κf,κg,κh,κi,κj,κk,κl,κm,κn,κo,κp,κq,κr,κs,κt,κu,κv,κw,κx,κy,κz,κa1,κb1,κc1,κd1,κe1,κf1,κg1,κh1,κi1,κj1,κk1,κl1,κm1,κn1,κo1,κp1,κq1,κr1,κs1,if_true,if_false,reduceIte,κt1,κu1,κv1,κw1,κx1,κy1,κz1,κa2,κb2,κc2,κd2,κe2,κf2,κg2,κh2,κi2,κj2,κk2,κl2,κm2,κn2,κo2,κp2,κq2,reduceCtorEq,κr2,κs2,κt2,κu2,κv2,κw2,κx2,κy2,κz2,κa3,eq_self,κb3,κc3,zL,hX,List.length_map,hz,Int.natCast_zero,gt_iff_lt,Int.lt_irrefl]; rfl
      refine cond_ rfl (fun h => by cases h) (fun _ => skip_ (norm_ ?_))
      refine seq_reg (σ' := ?_) ?_ ?_
      rotate_left
      · simp -implicitDefEqProofs only [r22_Validate.r25,κa,κb,κc,κd,κe,κf,κg,κh,κi,κj,κk,κl,κm,κn,κo,κp,κq,κr,κs,κt,κu,κv,κw,κx,κy,κz,κa1,κb1,κc1,κd1,κe1,κf1,κg1,κh1,κi1,κj1,κk1,κl1,κm1,κn1,κo1,κp1,κq1,κr1,κs1,if_true,if_false,reduceIte,κt1,κu1,κv1,κw1,κx1,κy1,κz1,κa2,κb2,κc2,κd2,κe2,κf2,κg2,κh2,κi2,κj2,κk2,κl2,κm2,κn2,κo2,κp2,κq2,reduceCtorEq,κr2,κs2,κt2,κu2,κv2,κw2,κx2,κy2,κz2,κa3,eq_self,κb3,κc3,zL]; rfl
      exact ret_ ⟨.inl rfl,_,rfl,AVle.refl _⟩
    · rw [if_neg hz]
      refine seq_reg (σ' := ?_) ?_ ?_
      rotate_left
      · simp -implicitDefEqProofs only [r22_Validate.r23,κa,κb,κc,κd,κe,κf,κg,κh,κi,κj,κk,κl,κm,κn,κo,κp,κq,κr,κs,κt,κu,κv,κw,κx,κy,κz,κa1,κb1,κc1,κd1,κe1,κf1,κg1,κh1,κi1,κj1,κk1,κl1,κm1,κn1,κo1,κp1,κq1,κr1,κs1,if_true,if_false,reduceIte,κt1,κu1,κv1,κw1,κx1,κy1,κz1,κa2,κb2,κc2,κd2,κe2,κf2,κg2,κh2,κi2,κj2,κk2,κl2,κm2,κn2,κo2,κp2,κq2,reduceCtorEq,κr2,κs2,κt2,κu2,κv2,κw2,κx2,κy2,κz2,κa3,eq_self,κb3,κc3,zL,hX,List.length_map,show (L.length : Int) > 0 by omega]; rfl
      refine cond_ rfl (fun _ => ?_) (fun h => by cases h)
      refine seq_reg (σ' := ?_) ?_ ?_
      rotate_left
      · simp -implicitDefEqProofs only [r22_Validate.r24,κa,κb,κc,κd,κe,κf,κg,κh,κi,κj,κk,κl,κm,κn,κo,κp,κq,κr,κs,κt,κu,κv,κw,κx,κy,κz,κa1,κb1,κc1,κd1,κe1,κf1,κg1,κh1,κi1,κj1,κk1,κl1,κm1,κn1,κo1,κp1,κq1,κr1,κs1,if_true,if_false,reduceIte,κt1,κu1,κv1,κw1,κx1,κy1,κz1,κa2,κb2,κc2,κd2,κe2,κf2,κg2,κh2,κi2,κj2,κk2,κl2,κm2,κn2,κo2,κp2,κq2,reduceCtorEq,κr2,κs2,κt2,κu2,κv2,κw2,κx2,κy2,κz2,κa3,eq_self,κb3,κc3,zL]; rfl
      exact ret_ ⟨.inl rfl,_,rfl,AVle.refl _⟩)
end Go.Proofs.Ytjbhhdocbejccaa.Pl
