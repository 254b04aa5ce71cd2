/- Chapter 43: isa.Validate, for all programs. No condition beyond those that each theorem states. -/
import Derived.Test.YtjbhhdocbejccaaVa
namespace Go.Proofs.Ytjbhhdocbejccaa.Pl
open Go Go.RowKit Go.Proofs.Ytjbhhdocbejccaa.Am
open Go.Proofs.Ytjbhhdocbejccaa.Am renaming ex_nil → κa,ex_cons → κb,exK_some → κc,st_n → κd,st_g → κe,gd_b → κf,gd_u → κg,rn_v → κh,rn_m → κi,rn_s → κj,rn_a → κk,think → κl,prep → κm,mkDsts → κn,ev → κp,upd → κq,init → κr,forgetBox → κu,pvs → κx,fillX → κy,chunks → κz,binV → κa1,xints → κb1,ldX → κc1,baseOk → κe1,fg_p → κf1,fg_tk → κg1,mkG → κh1,tab → κj1,c3 → κa3
open Go.Proofs.Ytjbhhdocbejccaa.Am.St renaming clear → κo,put → κt,of → κk1
open Go.Proofs.Ytjbhhdocbejccaa.Am.PV renaming av → κs
open Go.Proofs.Ytjbhhdocbejccaa.Am.AV renaming cells → κv,pv → κw,plain → κd1
open Go.Proofs.Ytjbhhdocbejccaa.Am.Sig renaming spec → κi1
open List renaming getElem?_cons_zero → κl1,getElem?_cons_succ → κm1,getElem?_nil → κn1,map_cons → κu1,map_nil → κv1,drop_succ_cons → κw1,drop_zero → κx1,take_succ_cons → κy1,take_zero → κz1,length_cons → κa2,length_nil → κb2,length_append → κc2,cons_append → κd2,nil_append → κe2,append_nil → κf2
open Option renaming map_some → κo1,map_none → κp1,bind_some → κq1,isSome_some → κr1,isSome_none → κs1
open Nat renaming reduceEqDiff → κt1,reduceAdd → κg2,reduceMul → κh2,reduceLeDiff → κi2,reduceBEq → κj2,zero_le → κk2,le_refl → κl2,zero_add → κm2,add_zero → κn2
open Bool renaming not_true → κo2,not_false → κp2,false_eq_true → κq2,true_eq_false → κc3
open Int renaming reduceBEq → κr2,reduceBNe → κs2,reduceLT → κt2,reduceLE → κu2,reduceAdd → κv2,reduceToNat → κw2,toNat_zero → κx2,reduceEq → κy2,toNat_natCast → κz2,le_refl → κb3
set_option linter.unusedVariables false
set_option linter.unusedSimpArgs false
set_option maxHeartbeats 8000000
def cmpP (p : Pg) : Bool := withinB p.inp 0 32 && withinB p.out 0 32
def resP (p : Pg) : Bool := withinB p.un 0 64 && (withinB p.tx 0 4 && withinB p.bf 0 4)
def rngP (p : Pg) : Bool := withinB p.rg 0 8192 && (cmpP p && resP p)
def validS (p : Pg) : Int := if p.st < 1 ∨ 3 < p.st then 10 else if rngP p = false then 6 else if 16384 < p.code.length then 5 else vLoop p p.code [] 0
def encPg (p : Pg) : List PV := [.agg p.cs]
theorem encPg_inj (a b : Pg) (h : encPg a = encPg b) : a = b := by
  simp only [encPg,List.cons.injEq,PV.agg.injEq,and_true] at h
  exact Pg.cs_inj _ _ h
noncomputable def isa_Validate.S : Am.Spec := cSpec encPg fun p => some (rInt (validS p))
theorem validS_eq (p : Pg) : isa_Validate.S [.agg [.int .i64 p.st,.int .i64 p.rg,.int .i64 p.inp,.int .i64 p.out,.int .i64 p.un,.int .i64 p.tx,.int .i64 p.bf,.sl 6 (p.code.map Ins.cs)]] = some (rInt (validS p)) := cSpec_eq encPg_inj p
theorem rep_int {w : World} {ok : Nat → Nat → Prop} {k : IntKind} {n : Int} {v : Value} (h : RepC w ok (.int k n) v) : v = .int k n := by cases h; rfl
theorem rep_pg {w : World} {ok : Nat → Nat → Prop} {p : Pg} {us : List Value} (h : RepCs w ok p.cs us) :
    ∃ A cap,us = [.int .i64 p.st,.int .i64 p.rg,.int .i64 p.inp,.int .i64 p.out,.int .i64 p.un,.int .i64 p.tx,.int .i64 p.bf,.slice A p.code.length cap] ∧
      ∀ j (hj : j < p.code.length),∃ b off,A = some ⟨b,off,none⟩ ∧ ∀ k u,[Value.int .i64 (p.code[j]).op,.int .i64 (p.code[j]).d,.int .i64 (p.code[j]).a,.int .i64 (p.code[j]).b,.int .i64 (p.code[j]).c,.int .i64 (p.code[j]).m][k]? = some u → w.cell? ⟨b,off + j * 6 + k,none⟩ = some u := by
  rcases us with _ | ⟨u1,_ | ⟨u2,_ | ⟨u3,_ | ⟨u4,_ | ⟨u5,_ | ⟨u6,_ | ⟨u7,_ | ⟨u8,_ | ⟨u9,us⟩⟩⟩⟩⟩⟩⟩⟩⟩ <;> simp only [Pg.cs,RepCs,and_false] at h
  obtain ⟨h1,h2,h3,h4,h5,h6,h7,h8,_⟩ := h
  cases h1; cases h2; cases h3; cases h4; cases h5; cases h6; cases h7
  generalize hes : p.code.map Ins.cs = es at h8
  have hlen : es.length = p.code.length := by rw [← hes]; simp
  cases h8 with
  | nil sz A =>
    have h0 : p.code.length = 0 := by simpa using hlen.symm
    exact ⟨A,0,by rw [h0],fun j hj => by omega⟩
  | sl sz es b off cap f hc hsz hcell hrep =>
    refine ⟨some ⟨b,off,none⟩,cap,by rw [hlen],fun j hj => ⟨b,off,rfl,fun k u hk => ?_⟩⟩
    have hjl : j < es.length := by omega
    have hk6 : k < 6 := by
      have := (List.getElem?_eq_some_iff.1 hk).1
      simpa using this
    have he : es[j]? = some (p.code[j]).cs := by rw [← hes]; simp [hj]
    have hcl := (hcell j k hjl hk6).1
    rw [hcl]
    have hmap : ((p.code[j]).cs)[k]? = some (match k with | 0 => CV.int .i64 (p.code[j]).op | 1 => .int .i64 (p.code[j]).d | 2 => .int .i64 (p.code[j]).a | 3 => .int .i64 (p.code[j]).b | 4 => .int .i64 (p.code[j]).c | _ => .int .i64 (p.code[j]).m) := by
      match k,hk6 with
      | 0,_ => rfl
      | 1,_ => rfl
      | 2,_ => rfl
      | 3,_ => rfl
      | 4,_ => rfl
      | 5,_ => rfl
    have hr := hrep j _ k _ he hmap
    match k,hk6 with
    | 0,_ => simp at hk; subst hk; rw [rep_int hr]
    | 1,_ => simp at hk; subst hk; rw [rep_int hr]
    | 2,_ => simp at hk; subst hk; rw [rep_int hr]
    | 3,_ => simp at hk; subst hk; rw [rep_int hr]
    | 4,_ => simp at hk; subst hk; rw [rep_int hr]
    | 5,_ => simp at hk; subst hk; rw [rep_int hr]
theorem isa_Validate.ok : SpecOK Try.prog 67 isa_Validate.S := cSpec_ok fun p r h => by
  cases h
  by_cases hst : p.st < 1 ∨ 3 < p.st
  · have hV : validS p = 10 := if_pos hst
    rw [hV]
    refine fnLaw Try.func67 isa_Validate.tr rfl hE (ok_cons isa_within.ok ok_nil) ?_
    unfold isa_Validate.m
    refine seq_reg (σ' := ?_) ?_ ?_
    rotate_left
    · simp -implicitDefEqProofs only [isa_Validate.r0,κa,κb,κc,κd,κe,κf,κg,κh,κi,κj,κk,κl,κm,κn,κo,κp,κq,κr,κs,κt,κu,κv,κw,κx,κy,κz,κa1,κb1,κc1,κd1,κe1,κf1,κg1,κh1,κi1,κj1,κk1,κl1,κm1,κn1,κo1,κp1,κq1,κr1,κs1,if_true,if_false,reduceIte,κt1,κu1,κv1,κw1,κx1,κy1,κz1,κa2,κb2,κc2,κd2,κe2,κf2,κg2,κh2,κi2,κj2,κk2,κl2,κm2,κn2,κo2,κp2,κq2,reduceCtorEq,κr2,κs2,κt2,κu2,κv2,κw2,κx2,κy2,κz2,κa3,eq_self,κb3,κc3,zL,encPg,Pg.cs]; rfl
    refine seq_ (seq_ ?_)
    by_cases h1 : p.st < 1
    · refine seq_reg (σ' := ?_) ?_ ?_
      rotate_left
      · simp -implicitDefEqProofs only [isa_Validate.r1,κa,κb,κc,κd,κe,κf,κg,κh,κi,κj,κk,κl,κm,κn,κo,κp,κq,κr,κs,κt,κu,κv,κw,κx,κy,κz,κa1,κb1,κc1,κd1,κe1,κf1,κg1,κh1,κi1,κj1,κk1,κl1,κm1,κn1,κo1,κp1,κq1,κr1,κs1,if_true,if_false,reduceIte,κt1,κu1,κv1,κw1,κx1,κy1,κz1,κa2,κb2,κc2,κd2,κe2,κf2,κg2,κh2,κi2,κj2,κk2,κl2,κm2,κn2,κo2,κp2,κq2,reduceCtorEq,κr2,κs2,κt2,κu2,κv2,κw2,κx2,κy2,κz2,κa3,eq_self,κb3,κc3,zL,h1]; rfl
      refine cond_ rfl (fun _ => ?_) (fun h => by cases h)
      refine seq_reg (σ' := ?_) ?_ ?_
      rotate_left
      · simp -implicitDefEqProofs only [isa_Validate.r2,κa,κb,κc,κd,κe,κf,κg,κh,κi,κj,κk,κl,κm,κn,κo,κp,κq,κr,κs,κt,κu,κv,κw,κx,κy,κz,κa1,κb1,κc1,κd1,κe1,κf1,κg1,κh1,κi1,κj1,κk1,κl1,κm1,κn1,κo1,κp1,κq1,κr1,κs1,if_true,if_false,reduceIte,κt1,κu1,κv1,κw1,κx1,κy1,κz1,κa2,κb2,κc2,κd2,κe2,κf2,κg2,κh2,κi2,κj2,κk2,κl2,κm2,κn2,κo2,κp2,κq2,reduceCtorEq,κr2,κs2,κt2,κu2,κv2,κw2,κx2,κy2,κz2,κa3,eq_self,κb3,κc3,zL]; rfl
      exact ret_ ⟨.inl rfl,_,rfl,AVle.refl _⟩
    · have h2 : p.st > 3 := by omega
      refine seq_reg (σ' := ?_) ?_ ?_
      rotate_left
      · simp -implicitDefEqProofs only [isa_Validate.r1,κa,κb,κc,κd,κe,κf,κg,κh,κi,κj,κk,κl,κm,κn,κo,κp,κq,κr,κs,κt,κu,κv,κw,κx,κy,κz,κa1,κb1,κc1,κd1,κe1,κf1,κg1,κh1,κi1,κj1,κk1,κl1,κm1,κn1,κo1,κp1,κq1,κr1,κs1,if_true,if_false,reduceIte,κt1,κu1,κv1,κw1,κx1,κy1,κz1,κa2,κb2,κc2,κd2,κe2,κf2,κg2,κh2,κi2,κj2,κk2,κl2,κm2,κn2,κo2,κp2,κq2,reduceCtorEq,κr2,κs2,κt2,κu2,κv2,κw2,κx2,κy2,κz2,κa3,eq_self,κb3,κc3,zL,h1,h2]; rfl
      refine cond_ rfl (fun _ => ?_) (fun h => by cases h)
      refine seq_reg (σ' := ?_) ?_ ?_
      rotate_left
      · simp -implicitDefEqProofs only [isa_Validate.r2,κa,κb,κc,κd,κe,κf,κg,κh,κi,κj,κk,κl,κm,κn,κo,κp,κq,κr,κs,κt,κu,κv,κw,κx,κy,κz,κa1,κb1,κc1,κd1,κe1,κf1,κg1,κh1,κi1,κj1,κk1,κl1,κm1,κn1,κo1,κp1,κq1,κr1,κs1,if_true,if_false,reduceIte,κt1,κu1,κv1,κw1,κx1,κy1,κz1,κa2,κb2,κc2,κd2,κe2,κf2,κg2,κh2,κi2,κj2,κk2,κl2,κm2,κn2,κo2,κp2,κq2,reduceCtorEq,κr2,κs2,κt2,κu2,κv2,κw2,κx2,κy2,κz2,κa3,eq_self,κb3,κc3,zL]; rfl
      exact ret_ ⟨.inl rfl,_,rfl,AVle.refl _⟩
  have h1 : ¬ p.st < 1 := fun h => hst (.inl h)
  have h2 : ¬ p.st > 3 := fun h => hst (.inr h)
  by_cases hD : rngP p = true ∧ p.code.length ≤ 16384
  · obtain ⟨hr,hl⟩ := hD
    have hV : validS p = vLoop p p.code [] 0 := by unfold validS; rw [if_neg hst,if_neg (by rw [hr]; simp),if_neg (by omega)]
    rw [hV]
    have hin : InR p := by
      simp only [rngP,cmpP,resP,withinB,Bool.and_eq_true,decide_eq_true_eq] at hr
      exact ⟨by omega,by omega,by omega,by omega,by omega,by omega,by omega,hl⟩
    refine ⟨⟨Try.f67,Try.func67,by kernel_rfl,by kernel_rfl⟩,fun w okA vs hvs => ?_⟩
    match vs,hvs with
    | [v],hvs =>
      obtain ⟨⟨us,rfl,hus⟩,_⟩ := hvs
      obtain ⟨A,cap,rfl,hcell⟩ := rep_pg hus
      refine (validate_walk w p A cap hin hcell).mono ?_
      rintro e w' ⟨rfl,hb⟩
      exact ⟨_,rfl,hb,RepC.int _ _⟩
    | [],hvs => exact hvs.elim
    | _ :: _ :: _,hvs => exact hvs.2.elim
  refine fnLaw Try.func67 isa_Validate.tr rfl hE (ok_cons isa_within.ok ok_nil) ?_
  unfold isa_Validate.m
  refine seq_reg (σ' := ?_) ?_ ?_
  rotate_left
  · simp -implicitDefEqProofs only [isa_Validate.r0,κa,κb,κc,κd,κe,κf,κg,κh,κi,κj,κk,κl,κm,κn,κo,κp,κq,κr,κs,κt,κu,κv,κw,κx,κy,κz,κa1,κb1,κc1,κd1,κe1,κf1,κg1,κh1,κi1,κj1,κk1,κl1,κm1,κn1,κo1,κp1,κq1,κr1,κs1,if_true,if_false,reduceIte,κt1,κu1,κv1,κw1,κx1,κy1,κz1,κa2,κb2,κc2,κd2,κe2,κf2,κg2,κh2,κi2,κj2,κk2,κl2,κm2,κn2,κo2,κp2,κq2,reduceCtorEq,κr2,κs2,κt2,κu2,κv2,κw2,κx2,κy2,κz2,κa3,eq_self,κb3,κc3,zL,encPg,Pg.cs]; rfl
  refine seq_ (seq_ ?_)
  refine seq_reg (σ' := ?_) ?_ ?_
  rotate_left
  · simp -implicitDefEqProofs only [isa_Validate.r1,κa,κb,κc,κd,κe,κf,κg,κh,κi,κj,κk,κl,κm,κn,κo,κp,κq,κr,κs,κt,κu,κv,κw,κx,κy,κz,κa1,κb1,κc1,κd1,κe1,κf1,κg1,κh1,κi1,κj1,κk1,κl1,κm1,κn1,κo1,κp1,κq1,κr1,κs1,if_true,if_false,reduceIte,κt1,κu1,κv1,κw1,κx1,κy1,κz1,κa2,κb2,κc2,κd2,κe2,κf2,κg2,κh2,κi2,κj2,κk2,κl2,κm2,κn2,κo2,κp2,κq2,reduceCtorEq,κr2,κs2,κt2,κu2,κv2,κw2,κx2,κy2,κz2,κa3,eq_self,κb3,κc3,zL,h1,h2]; rfl
  refine cond_ rfl (fun h => by cases h) (fun _ => skip_ ?_)
  let PP : List XV := [.p (.int .i64 p.st),.p (.int .i64 p.rg),.p (.int .i64 p.inp),.p (.int .i64 p.out),.p (.int .i64 p.un),.p (.int .i64 p.tx),.p (.int .i64 p.bf),.p (.sl 6 (p.code.map Ins.cs))]
  refine norm_sub (σ'' := St.of [(1,.box 1 0)] [(1,PP)] [] 0) (sub_of (all_cons rfl all_nil) (all_cons rfl all_nil) all_nil (Nat.le_refl _)) ?_
  refine seq_ex (σ'' := St.of [(1,.box 1 0),(3,rBool (cmpP p))] [(1,PP)] [] 0) ?_ ?_
  · unfold cmpP
    cases hx : withinB p.inp 0 32 <;> cases hy : withinB p.out 0 32
    all_goals exact ⟨_,by simp -implicitDefEqProofs only [isa_Validate.r3,PP,isa_within.S,rBool,hx,hy,κa,κb,κc,κd,κe,κf,κg,κh,κi,κj,κk,κl,κm,κn,κo,κp,κq,κr,κs,κt,κu,κv,κw,κx,κy,κz,κa1,κb1,κc1,κd1,κe1,κf1,κg1,κh1,κi1,κj1,κk1,κl1,κm1,κn1,κo1,κp1,κq1,κr1,κs1,if_true,if_false,reduceIte,κt1,κu1,κv1,κw1,κx1,κy1,κz1,κa2,κb2,κc2,κd2,κe2,κf2,κg2,κh2,κi2,κj2,κk2,κl2,κm2,κn2,κo2,κp2,κq2,reduceCtorEq,κr2,κs2,κt2,κu2,κv2,κw2,κx2,κy2,κz2,κa3,eq_self,κb3,κc3,zL]; rfl,sub_of (all_cons rfl (all_cons rfl all_nil)) (all_cons rfl all_nil) all_nil (Nat.le_refl _)⟩
  refine seq_ex (σ'' := St.of [(1,.box 1 0),(3,rBool (cmpP p)),(4,rBool (resP p))] [(1,PP)] [] 0) ?_ ?_
  · unfold resP
    cases hx : withinB p.un 0 64 <;> cases hy : withinB p.tx 0 4 <;> cases hz : withinB p.bf 0 4
    all_goals exact ⟨_,by simp -implicitDefEqProofs only [isa_Validate.r4,PP,isa_within.S,rBool,hx,hy,hz,κa,κb,κc,κd,κe,κf,κg,κh,κi,κj,κk,κl,κm,κn,κo,κp,κq,κr,κs,κt,κu,κv,κw,κx,κy,κz,κa1,κb1,κc1,κd1,κe1,κf1,κg1,κh1,κi1,κj1,κk1,κl1,κm1,κn1,κo1,κp1,κq1,κr1,κs1,if_true,if_false,reduceIte,κt1,κu1,κv1,κw1,κx1,κy1,κz1,κa2,κb2,κc2,κd2,κe2,κf2,κg2,κh2,κi2,κj2,κk2,κl2,κm2,κn2,κo2,κp2,κq2,reduceCtorEq,κr2,κs2,κt2,κu2,κv2,κw2,κx2,κy2,κz2,κa3,eq_self,κb3,κc3,zL]; rfl,sub_of (all_cons rfl (all_cons rfl (all_cons rfl all_nil))) (all_cons rfl all_nil) all_nil (Nat.le_refl _)⟩
  refine seq_ (seq_ ?_)
  refine seq_ex (σ'' := St.of [(1,.box 1 0),(49,rBool (!rngP p))] [(1,PP)] [] 0) ?_ ?_
  · unfold rngP
    cases hx : withinB p.rg 0 8192 <;> cases hy : cmpP p <;> cases hz : resP p
    all_goals exact ⟨_,by simp -implicitDefEqProofs only [isa_Validate.r5,PP,isa_within.S,rBool,hx,hy,hz,κa,κb,κc,κd,κe,κf,κg,κh,κi,κj,κk,κl,κm,κn,κo,κp,κq,κr,κs,κt,κu,κv,κw,κx,κy,κz,κa1,κb1,κc1,κd1,κe1,κf1,κg1,κh1,κi1,κj1,κk1,κl1,κm1,κn1,κo1,κp1,κq1,κr1,κs1,if_true,if_false,reduceIte,κt1,κu1,κv1,κw1,κx1,κy1,κz1,κa2,κb2,κc2,κd2,κe2,κf2,κg2,κh2,κi2,κj2,κk2,κl2,κm2,κn2,κo2,κp2,κq2,reduceCtorEq,κr2,κs2,κt2,κu2,κv2,κw2,κx2,κy2,κz2,κa3,eq_self,κb3,κc3,zL]; rfl,sub_of (all_cons rfl (all_cons rfl all_nil)) (all_cons rfl all_nil) all_nil (Nat.le_refl _)⟩
  cases hr : rngP p with
  | false =>
    have hV : validS p = 6 := by unfold validS; rw [if_neg hst,if_pos hr]
    rw [hV]
    refine cond_ rfl (fun _ => ?_) (fun h => by cases h)
    refine seq_reg (σ' := ?_) ?_ ?_
    rotate_left
    · simp -implicitDefEqProofs only [isa_Validate.r6,κa,κb,κc,κd,κe,κf,κg,κh,κi,κj,κk,κl,κm,κn,κo,κp,κq,κr,κs,κt,κu,κv,κw,κx,κy,κz,κa1,κb1,κc1,κd1,κe1,κf1,κg1,κh1,κi1,κj1,κk1,κl1,κm1,κn1,κo1,κp1,κq1,κr1,κs1,if_true,if_false,reduceIte,κt1,κu1,κv1,κw1,κx1,κy1,κz1,κa2,κb2,κc2,κd2,κe2,κf2,κg2,κh2,κi2,κj2,κk2,κl2,κm2,κn2,κo2,κp2,κq2,reduceCtorEq,κr2,κs2,κt2,κu2,κv2,κw2,κx2,κy2,κz2,κa3,eq_self,κb3,κc3,zL]; rfl
    exact ret_ ⟨.inl rfl,_,rfl,AVle.refl _⟩
  | true =>
    have hl : 16384 < p.code.length := by
      have : ¬ p.code.length ≤ 16384 := fun h => hD ⟨hr,h⟩
      omega
    have hV : validS p = 5 := by unfold validS; rw [if_neg hst,if_neg (by rw [hr]; simp),if_pos hl]
    rw [hV]
    refine cond_ rfl (fun h => by cases h) (fun _ => skip_ (norm_ ?_))
    refine seq_ (seq_ ?_)
    have hgt : (p.code.length : Int) > 16384 := by omega
    refine seq_reg (σ' := ?_) ?_ ?_
    rotate_left
    · simp -implicitDefEqProofs only [isa_Validate.r7,κa,κb,κc,κd,κe,κf,κg,κh,κi,κj,κk,κl,κm,κn,κo,κp,κq,κr,κs,κt,κu,κv,κw,κx,κy,κz,κa1,κb1,κc1,κd1,κe1,κf1,κg1,κh1,κi1,κj1,κk1,κl1,κm1,κn1,κo1,κp1,κq1,κr1,κs1,if_true,if_false,reduceIte,κt1,κu1,κv1,κw1,κx1,κy1,κz1,κa2,κb2,κc2,κd2,κe2,κf2,κg2,κh2,κi2,κj2,κk2,κl2,κm2,κn2,κo2,κp2,κq2,reduceCtorEq,κr2,κs2,κt2,κu2,κv2,κw2,κx2,κy2,κz2,κa3,eq_self,κb3,κc3,zL,PP,rBool,List.length_map,hgt]; rfl
    refine cond_ rfl (fun _ => ?_) (fun h => by cases h)
    refine seq_reg (σ' := ?_) ?_ ?_
    rotate_left
    · simp -implicitDefEqProofs only [isa_Validate.r8,κa,κb,κc,κd,κe,κf,κg,κh,κi,κj,κk,κl,κm,κn,κo,κp,κq,κr,κs,κt,κu,κv,κw,κx,κy,κz,κa1,κb1,κc1,κd1,κe1,κf1,κg1,κh1,κi1,κj1,κk1,κl1,κm1,κn1,κo1,κp1,κq1,κr1,κs1,if_true,if_false,reduceIte,κt1,κu1,κv1,κw1,κx1,κy1,κz1,κa2,κb2,κc2,κd2,κe2,κf2,κg2,κh2,κi2,κj2,κk2,κl2,κm2,κn2,κo2,κp2,κq2,reduceCtorEq,κr2,κs2,κt2,κu2,κv2,κw2,κx2,κy2,κz2,κa3,eq_self,κb3,κc3,zL]; rfl
    exact ret_ ⟨.inl rfl,_,rfl,AVle.refl _⟩
end Go.Proofs.Ytjbhhdocbejccaa.Pl
