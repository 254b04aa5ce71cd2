/- Chapter 43: Matches of both, PipelineMatches. No condition beyond those that each theorem states. -/
import Derived.Test.YtjbhhdocbejccaaR6
import Derived.Test.YtjbhhdocbejccaaT4
namespace Go.Proofs.Ytjbhhdocbejccaa.Pl
open Go Go.RowKit Go.Proofs.Ytjbhhdocbejccaa.Am
open Go.Proofs.Ytjbhhdocbejccaa.Am renaming ex_nil → κa,ex_cons → κb,exK_some → κc,st_n → κd,st_g → κe,gd_b → κf,gd_u → κg,rn_v → κh,rn_m → κi,rn_s → κj,rn_a → κk,think → κl,prep → κm,mkDsts → κn,ev → κp,upd → κq,init → κr,forgetBox → κu,pvs → κx,fillX → κy,chunks → κz,binV → κa1,xints → κb1,ldX → κc1,baseOk → κe1,fg_p → κf1,fg_tk → κg1,mkG → κh1,tab → κj1,c3 → κa3
open Go.Proofs.Ytjbhhdocbejccaa.Am.St renaming clear → κo,put → κt,of → κk1
open Go.Proofs.Ytjbhhdocbejccaa.Am.PV renaming av → κs
open Go.Proofs.Ytjbhhdocbejccaa.Am.AV renaming cells → κv,pv → κw,plain → κd1
open Go.Proofs.Ytjbhhdocbejccaa.Am.Sig renaming spec → κi1
open List renaming getElem?_cons_zero → κl1,getElem?_cons_succ → κm1,getElem?_nil → κn1,map_cons → κu1,map_nil → κv1,drop_succ_cons → κw1,drop_zero → κx1,take_succ_cons → κy1,take_zero → κz1,length_cons → κa2,length_nil → κb2,length_append → κc2,cons_append → κd2,nil_append → κe2,append_nil → κf2
open Option renaming map_some → κo1,map_none → κp1,bind_some → κq1,isSome_some → κr1,isSome_none → κs1
open Nat renaming reduceEqDiff → κt1,reduceAdd → κg2,reduceMul → κh2,reduceLeDiff → κi2,reduceBEq → κj2,zero_le → κk2,le_refl → κl2,zero_add → κm2,add_zero → κn2
open Bool renaming not_true → κo2,not_false → κp2,false_eq_true → κq2,true_eq_false → κc3
open Int renaming reduceBEq → κr2,reduceBNe → κs2,reduceLT → κt2,reduceLE → κu2,reduceAdd → κv2,reduceToNat → κw2,toNat_zero → κx2,reduceEq → κy2,toNat_natCast → κz2,le_refl → κb3
set_option linter.unusedVariables false
set_option linter.unusedSimpArgs false
set_option maxHeartbeats 16000000
set_option maxRecDepth 100000
def matB (p : Pl) (t : Tg) : Bool := decide (validP p = 0 ∧ tgB t = true ∧ t.s = p.smp ∧ fmt0 t = p.fmt ∧ t.d = p.dfm ∧ p.vx + p.vw ≤ t.w ∧ p.vy + p.vh ≤ t.h)
theorem vpt_of {p : Pl} (h : validP p = 0) : IntKind.i64.wrap (p.vx + p.vw) = p.vx + p.vw ∧ IntKind.i64.wrap (p.vy + p.vh) = p.vy + p.vh := by
  have hv : vptB p = true := by
    cases hc : vptB p with
    | true => rfl
    | false =>
      unfold validP at h
      rw [hc] at h
      repeat' split at h
      all_goals first | (cases h; done) | contradiction
  simp only [vptB,vpB,insB,decide_eq_true_eq] at hv
  exact ⟨i64_w' (by omega) (by omega),i64_w' (by omega) (by omega)⟩
theorem tgB_hd {t : Tg} (h : tgB t = true) : hdB t = true := by
  simp only [tgB,Bool.and_eq_true] at h; exact h.1
def encMt (a : Pl × Tg) : List PV := [.agg a.1.cs,.agg a.2.cs]
theorem encMt_inj (a b : Pl × Tg) (h : encMt a = encMt b) : a = b := by
  obtain ⟨a1,a2⟩ := a; obtain ⟨b1,b2⟩ := b
  simp only [encMt,List.cons.injEq,PV.agg.injEq,and_true] at h
  rw [Pl.cs_inj _ _ h.1,Tg.cs_inj _ _ h.2]
noncomputable def pl_Matches.S : Am.Spec := cSpec encMt fun a => some (rBool (matB a.1 a.2))
theorem matS_eq (p : Pl) (t : Tg) : pl_Matches.S [.agg [.int .i64 p.v.st,.int .i64 p.v.rg,.int .i64 p.v.inp,.int .i64 p.v.out,.int .i64 p.v.un,.int .i64 p.v.tx,.int .i64 p.v.bf,.sl 6 (p.v.code.map Ins.cs),.int .i64 p.g.st,.int .i64 p.g.rg,.int .i64 p.g.inp,.int .i64 p.g.out,.int .i64 p.g.un,.int .i64 p.g.tx,.int .i64 p.g.bf,.sl 6 (p.g.code.map Ins.cs),.int .i64 p.f.st,.int .i64 p.f.rg,.int .i64 p.f.inp,.int .i64 p.f.out,.int .i64 p.f.un,.int .i64 p.f.tx,.int .i64 p.f.bf,.sl 6 (p.f.code.map Ins.cs),.bool p.hg,.sl 4 (p.ats.map At.cs),.int .i64 p.topo,.int .i64 p.cull,.bool p.fc,.int .i64 p.vx,.int .i64 p.vy,.int .i64 p.vw,.int .i64 p.vh,.int .i64 p.vn,.int .i64 p.vm,.bool p.dt,.bool p.dw,.int .i64 p.dc,.int .i64 p.db,.bool p.se,.int .i64 p.f1,.int .i64 p.f2,.int .i64 p.f3,.int .i64 p.f4,.int .i64 p.b1,.int .i64 p.b2,.int .i64 p.b3,.int .i64 p.b4,.int .i64 p.sr,.int .i64 p.sm,.int .i64 p.sw,.bool p.be,.int .i64 p.c1,.int .i64 p.c2,.int .i64 p.c3,.int .i64 p.c4,.int .i64 p.c5,.int .i64 p.c6,.int .i64 p.bm,.int .i64 p.smp,.int .i64 p.fmt,.int .i64 p.dfm],.agg [.int .i64 t.w,.int .i64 t.h,.int .i64 t.s,.int .i64 t.d,.sl 4 (t.col.map Im.cs),.sl 1 (t.ds.map iC),.sl 1 (t.ss.map iC)]] = some (rBool (matB p t)) := cSpec_eq encMt_inj (p,t)
def Pl.vp (p : Pl) : List XV := [.p (.int .i64 p.vx),.p (.int .i64 p.vy),.p (.int .i64 p.vw),.p (.int .i64 p.vh),.p (.int .i64 p.vn),.p (.int .i64 p.vm)]
theorem pl_Matches.ok : SpecOK Try.prog 14 pl_Matches.S := cSpec_ok fun a r h => by
  obtain ⟨p,t⟩ := a
  cases h
  refine fnLaw Try.func14 pl_Matches.tr rfl hE (ok_cons pl_Validate.ok (ok_cons tg_Valid.ok ok_nil)) ?_
  have q1 := vPS_eq p
  have q2 := tg_Valid_eq t
  unfold pl_Matches.m
  refine seq_reg (σ' := ?_) ?_ ?_
  rotate_left
  · simp -implicitDefEqProofs only [pl_Matches.r0,κa,κb,κc,κd,κe,κf,κg,κh,κi,κj,κk,κl,κm,κn,κo,κp,κq,κr,κs,κt,κu,κv,κw,κx,κy,κz,κa1,κb1,κc1,κd1,κe1,κf1,κg1,κh1,κi1,κj1,κk1,κl1,κm1,κn1,κo1,κp1,κq1,κr1,κs1,if_true,if_false,reduceIte,κt1,κu1,κv1,κw1,κx1,κy1,κz1,κa2,κb2,κc2,κd2,κe2,κf2,κg2,κh2,κi2,κj2,κk2,κl2,κm2,κn2,κo2,κp2,κq2,reduceCtorEq,κr2,κs2,κt2,κu2,κv2,κw2,κx2,κy2,κz2,κa3,eq_self,κb3,κc3,zL,encMt,Pl.cs,Tg.cs]; rfl
  refine seq_ (seq_ ?_)
  by_cases h1 : validP p = 0
  case neg =>
    have g1 : (validP p != 0) = true := bne_iff_ne.2 h1
    have hF : matB p t = false := decide_eq_false (fun h => h1 h.1)
    simp only [hF]
    refine seq_reg (σ' := ?_) ?_ ?_
    rotate_left
    · simp -implicitDefEqProofs only [pl_Matches.r1,κa,κb,κc,κd,κe,κf,κg,κh,κi,κj,κk,κl,κm,κn,κo,κp,κq,κr,κs,κt,κu,κv,κw,κx,κy,κz,κa1,κb1,κc1,κd1,κe1,κf1,κg1,κh1,κi1,κj1,κk1,κl1,κm1,κn1,κo1,κp1,κq1,κr1,κs1,if_true,if_false,reduceIte,κt1,κu1,κv1,κw1,κx1,κy1,κz1,κa2,κb2,κc2,κd2,κe2,κf2,κg2,κh2,κi2,κj2,κk2,κl2,κm2,κn2,κo2,κp2,κq2,reduceCtorEq,κr2,κs2,κt2,κu2,κv2,κw2,κx2,κy2,κz2,κa3,eq_self,κb3,κc3,zL,rInt,rBool,q1,g1]; rfl
    refine cond_ rfl (fun _ => ?_) (fun h => by cases h)
    refine seq_reg (σ' := ?_) ?_ ?_
    rotate_left
    · simp -implicitDefEqProofs only [pl_Matches.r2,κa,κb,κc,κd,κe,κf,κg,κh,κi,κj,κk,κl,κm,κn,κo,κp,κq,κr,κs,κt,κu,κv,κw,κx,κy,κz,κa1,κb1,κc1,κd1,κe1,κf1,κg1,κh1,κi1,κj1,κk1,κl1,κm1,κn1,κo1,κp1,κq1,κr1,κs1,if_true,if_false,reduceIte,κt1,κu1,κv1,κw1,κx1,κy1,κz1,κa2,κb2,κc2,κd2,κe2,κf2,κg2,κh2,κi2,κj2,κk2,κl2,κm2,κn2,κo2,κp2,κq2,reduceCtorEq,κr2,κs2,κt2,κu2,κv2,κw2,κx2,κy2,κz2,κa3,eq_self,κb3,κc3,zL]; rfl
    exact ret_ ⟨.inl rfl,_,rfl,AVle.refl _⟩
  have g1 : (validP p != 0) = false := bne_eq_false_iff_eq.2 h1
  cases h2 : tgB t with
  | false =>
    have hF : matB p t = false := decide_eq_false (fun h => by have := h.2.1; rw [h2] at this; cases this)
    simp only [hF]
    refine seq_reg (σ' := ?_) ?_ ?_
    rotate_left
    · simp -implicitDefEqProofs only [pl_Matches.r1,κa,κb,κc,κd,κe,κf,κg,κh,κi,κj,κk,κl,κm,κn,κo,κp,κq,κr,κs,κt,κu,κv,κw,κx,κy,κz,κa1,κb1,κc1,κd1,κe1,κf1,κg1,κh1,κi1,κj1,κk1,κl1,κm1,κn1,κo1,κp1,κq1,κr1,κs1,if_true,if_false,reduceIte,κt1,κu1,κv1,κw1,κx1,κy1,κz1,κa2,κb2,κc2,κd2,κe2,κf2,κg2,κh2,κi2,κj2,κk2,κl2,κm2,κn2,κo2,κp2,κq2,reduceCtorEq,κr2,κs2,κt2,κu2,κv2,κw2,κx2,κy2,κz2,κa3,eq_self,κb3,κc3,zL,rInt,rBool,q1,g1,q2,h2]; rfl
    refine cond_ rfl (fun _ => ?_) (fun h => by cases h)
    refine seq_reg (σ' := ?_) ?_ ?_
    rotate_left
    · simp -implicitDefEqProofs only [pl_Matches.r2,κa,κb,κc,κd,κe,κf,κg,κh,κi,κj,κk,κl,κm,κn,κo,κp,κq,κr,κs,κt,κu,κv,κw,κx,κy,κz,κa1,κb1,κc1,κd1,κe1,κf1,κg1,κh1,κi1,κj1,κk1,κl1,κm1,κn1,κo1,κp1,κq1,κr1,κs1,if_true,if_false,reduceIte,κt1,κu1,κv1,κw1,κx1,κy1,κz1,κa2,κb2,κc2,κd2,κe2,κf2,κg2,κh2,κi2,κj2,κk2,κl2,κm2,κn2,κo2,κp2,κq2,reduceCtorEq,κr2,κs2,κt2,κu2,κv2,κw2,κx2,κy2,κz2,κa3,eq_self,κb3,κc3,zL]; rfl
    exact ret_ ⟨.inl rfl,_,rfl,AVle.refl _⟩
  | true =>
  refine seq_reg (σ' := ?_) ?_ ?_
  rotate_left
  · simp -implicitDefEqProofs only [pl_Matches.r1,κa,κb,κc,κd,κe,κf,κg,κh,κi,κj,κk,κl,κm,κn,κo,κp,κq,κr,κs,κt,κu,κv,κw,κx,κy,κz,κa1,κb1,κc1,κd1,κe1,κf1,κg1,κh1,κi1,κj1,κk1,κl1,κm1,κn1,κo1,κp1,κq1,κr1,κs1,if_true,if_false,reduceIte,κt1,κu1,κv1,κw1,κx1,κy1,κz1,κa2,κb2,κc2,κd2,κe2,κf2,κg2,κh2,κi2,κj2,κk2,κl2,κm2,κn2,κo2,κp2,κq2,reduceCtorEq,κr2,κs2,κt2,κu2,κv2,κw2,κx2,κy2,κz2,κa3,eq_self,κb3,κc3,zL,rInt,rBool,q1,g1,q2,h2]; rfl
  refine cond_ rfl (fun h => by cases h) (fun _ => skip_ ?_)
  refine norm_sub (σ'' := St.of [(2,.box 2 0),(3,.box 3 0)] [(2,p.xs),(3,t.xs)] [] 0) (sub_of (all_cons rfl (all_cons rfl all_nil)) (all_cons rfl (all_cons rfl all_nil)) all_nil (Nat.le_refl _)) ?_
  have hd := tgB_hd h2
  obtain ⟨hp0,hp8⟩ := col_pos hd
  have hg0 := Im.cs_get t.col 0 hp0
  have hf0 := fmt0_eq t hp0
  obtain ⟨hw1,hw2⟩ := vpt_of h1
  refine seq_ex (σ'' := St.of [(2,.box 2 0),(3,.box 3 0),(5,.box 5 0)] [(2,p.xs),(3,t.xs),(5,p.vp)] [] (0)) ⟨_,by simp -implicitDefEqProofs only [pl_Matches.r3,κa,κb,κc,κd,κe,κf,κg,κh,κi,κj,κk,κl,κm,κn,κo,κp,κq,κr,κs,κt,κu,κv,κw,κx,κy,κz,κa1,κb1,κc1,κd1,κe1,κf1,κg1,κh1,κi1,κj1,κk1,κl1,κm1,κn1,κo1,κp1,κq1,κr1,κs1,if_true,if_false,reduceIte,κt1,κu1,κv1,κw1,κx1,κy1,κz1,κa2,κb2,κc2,κd2,κe2,κf2,κg2,κh2,κi2,κj2,κk2,κl2,κm2,κn2,κo2,κp2,κq2,reduceCtorEq,κr2,κs2,κt2,κu2,κv2,κw2,κx2,κy2,κz2,κa3,eq_self,κb3,κc3,zL,Pl.xs]; rfl,sub_of (all_cons rfl (all_cons rfl (all_cons rfl all_nil))) (all_cons rfl (all_cons rfl (all_cons rfl all_nil))) all_nil (Nat.le_refl _)⟩ ?_
  by_cases es : t.s = p.smp
  case neg =>
    have ys : (t.s == p.smp) = false := beq_eq_false_iff_ne.2 es
    have hF : matB p t = false := decide_eq_false (fun h => by have := h.2.2.1; exact es this)
    simp only [hF]
    refine seq_reg (σ' := ?_) ?_ ?_
    rotate_left
    · simp -implicitDefEqProofs only [pl_Matches.r4,κa,κb,κc,κd,κe,κf,κg,κh,κi,κj,κk,κl,κm,κn,κo,κp,κq,κr,κs,κt,κu,κv,κw,κx,κy,κz,κa1,κb1,κc1,κd1,κe1,κf1,κg1,κh1,κi1,κj1,κk1,κl1,κm1,κn1,κo1,κp1,κq1,κr1,κs1,if_true,if_false,reduceIte,κt1,κu1,κv1,κw1,κx1,κy1,κz1,κa2,κb2,κc2,κd2,κe2,κf2,κg2,κh2,κi2,κj2,κk2,κl2,κm2,κn2,κo2,κp2,κq2,reduceCtorEq,κr2,κs2,κt2,κu2,κv2,κw2,κx2,κy2,κz2,κa3,eq_self,κb3,κc3,zL,Pl.xs,Tg.xs,Pl.vp,rInt,rBool,hg0,hw1,hw2,ys]; rfl
    exact ret_ ⟨.inl rfl,_,rfl,AVle.refl _⟩
  have ys : (t.s == p.smp) = true := beq_iff_eq.2 es
  by_cases ef : (t.col[0]).f = p.fmt
  case neg =>
    have yf : ((t.col[0]).f == p.fmt) = false := beq_eq_false_iff_ne.2 ef
    have hF : matB p t = false := decide_eq_false (fun h => by have := h.2.2.2.1; rw [hf0] at this; exact ef this)
    simp only [hF]
    refine seq_reg (σ' := ?_) ?_ ?_
    rotate_left
    · simp -implicitDefEqProofs only [pl_Matches.r4,κa,κb,κc,κd,κe,κf,κg,κh,κi,κj,κk,κl,κm,κn,κo,κp,κq,κr,κs,κt,κu,κv,κw,κx,κy,κz,κa1,κb1,κc1,κd1,κe1,κf1,κg1,κh1,κi1,κj1,κk1,κl1,κm1,κn1,κo1,κp1,κq1,κr1,κs1,if_true,if_false,reduceIte,κt1,κu1,κv1,κw1,κx1,κy1,κz1,κa2,κb2,κc2,κd2,κe2,κf2,κg2,κh2,κi2,κj2,κk2,κl2,κm2,κn2,κo2,κp2,κq2,reduceCtorEq,κr2,κs2,κt2,κu2,κv2,κw2,κx2,κy2,κz2,κa3,eq_self,κb3,κc3,zL,Pl.xs,Tg.xs,Pl.vp,rInt,rBool,hg0,hw1,hw2,ys,yf]; rfl
    exact ret_ ⟨.inl rfl,_,rfl,AVle.refl _⟩
  have yf : ((t.col[0]).f == p.fmt) = true := beq_iff_eq.2 ef
  by_cases ed : t.d = p.dfm
  case neg =>
    have yd : (t.d == p.dfm) = false := beq_eq_false_iff_ne.2 ed
    have hF : matB p t = false := decide_eq_false (fun h => by have := h.2.2.2.2.1; exact ed this)
    simp only [hF]
    refine seq_reg (σ' := ?_) ?_ ?_
    rotate_left
    · simp -implicitDefEqProofs only [pl_Matches.r4,κa,κb,κc,κd,κe,κf,κg,κh,κi,κj,κk,κl,κm,κn,κo,κp,κq,κr,κs,κt,κu,κv,κw,κx,κy,κz,κa1,κb1,κc1,κd1,κe1,κf1,κg1,κh1,κi1,κj1,κk1,κl1,κm1,κn1,κo1,κp1,κq1,κr1,κs1,if_true,if_false,reduceIte,κt1,κu1,κv1,κw1,κx1,κy1,κz1,κa2,κb2,κc2,κd2,κe2,κf2,κg2,κh2,κi2,κj2,κk2,κl2,κm2,κn2,κo2,κp2,κq2,reduceCtorEq,κr2,κs2,κt2,κu2,κv2,κw2,κx2,κy2,κz2,κa3,eq_self,κb3,κc3,zL,Pl.xs,Tg.xs,Pl.vp,rInt,rBool,hg0,hw1,hw2,ys,yf,yd]; rfl
    exact ret_ ⟨.inl rfl,_,rfl,AVle.refl _⟩
  have yd : (t.d == p.dfm) = true := beq_iff_eq.2 ed
  by_cases c0 : p.vx + p.vw ≤ t.w
  case neg =>
    have hF : matB p t = false := decide_eq_false (fun h => c0 h.2.2.2.2.2.1)
    simp only [hF]
    refine seq_reg (σ' := ?_) ?_ ?_
    rotate_left
    · simp -implicitDefEqProofs only [pl_Matches.r4,κa,κb,κc,κd,κe,κf,κg,κh,κi,κj,κk,κl,κm,κn,κo,κp,κq,κr,κs,κt,κu,κv,κw,κx,κy,κz,κa1,κb1,κc1,κd1,κe1,κf1,κg1,κh1,κi1,κj1,κk1,κl1,κm1,κn1,κo1,κp1,κq1,κr1,κs1,if_true,if_false,reduceIte,κt1,κu1,κv1,κw1,κx1,κy1,κz1,κa2,κb2,κc2,κd2,κe2,κf2,κg2,κh2,κi2,κj2,κk2,κl2,κm2,κn2,κo2,κp2,κq2,reduceCtorEq,κr2,κs2,κt2,κu2,κv2,κw2,κx2,κy2,κz2,κa3,eq_self,κb3,κc3,zL,Pl.xs,Tg.xs,Pl.vp,rInt,rBool,hg0,hw1,hw2,ys,yf,yd,c0]; rfl
    exact ret_ ⟨.inl rfl,_,rfl,AVle.refl _⟩
  by_cases c1 : p.vy + p.vh ≤ t.h
  case neg =>
    have hF : matB p t = false := decide_eq_false (fun h => c1 h.2.2.2.2.2.2)
    simp only [hF]
    refine seq_reg (σ' := ?_) ?_ ?_
    rotate_left
    · simp -implicitDefEqProofs only [pl_Matches.r4,κa,κb,κc,κd,κe,κf,κg,κh,κi,κj,κk,κl,κm,κn,κo,κp,κq,κr,κs,κt,κu,κv,κw,κx,κy,κz,κa1,κb1,κc1,κd1,κe1,κf1,κg1,κh1,κi1,κj1,κk1,κl1,κm1,κn1,κo1,κp1,κq1,κr1,κs1,if_true,if_false,reduceIte,κt1,κu1,κv1,κw1,κx1,κy1,κz1,κa2,κb2,κc2,κd2,κe2,κf2,κg2,κh2,κi2,κj2,κk2,κl2,κm2,κn2,κo2,κp2,κq2,reduceCtorEq,κr2,κs2,κt2,κu2,κv2,κw2,κx2,κy2,κz2,κa3,eq_self,κb3,κc3,zL,Pl.xs,Tg.xs,Pl.vp,rInt,rBool,hg0,hw1,hw2,ys,yf,yd,c0,c1]; rfl
    exact ret_ ⟨.inl rfl,_,rfl,AVle.refl _⟩
  have hF : matB p t = true := decide_eq_true ⟨h1,h2,es,by rw [hf0]; exact ef,ed,c0,c1⟩
  simp only [hF]
  refine seq_reg (σ' := ?_) ?_ ?_
  rotate_left
  · simp -implicitDefEqProofs only [pl_Matches.r4,κa,κb,κc,κd,κe,κf,κg,κh,κi,κj,κk,κl,κm,κn,κo,κp,κq,κr,κs,κt,κu,κv,κw,κx,κy,κz,κa1,κb1,κc1,κd1,κe1,κf1,κg1,κh1,κi1,κj1,κk1,κl1,κm1,κn1,κo1,κp1,κq1,κr1,κs1,if_true,if_false,reduceIte,κt1,κu1,κv1,κw1,κx1,κy1,κz1,κa2,κb2,κc2,κd2,κe2,κf2,κg2,κh2,κi2,κj2,κk2,κl2,κm2,κn2,κo2,κp2,κq2,reduceCtorEq,κr2,κs2,κt2,κu2,κv2,κw2,κx2,κy2,κz2,κa3,eq_self,κb3,κc3,zL,Pl.xs,Tg.xs,Pl.vp,rInt,rBool,hg0,hw1,hw2,ys,yf,yd,c0,c1]; rfl
  exact ret_ ⟨.inl rfl,_,rfl,AVle.refl _⟩
noncomputable def r43_Matches.S : Am.Spec := pl_Matches.S
theorem r43_Matches.ok : SpecOK Try.prog 15 r43_Matches.S := (cSpec_ok (enc := encMt) (res := fun a => some (rBool (matB a.1 a.2))) fun a r h => by
  obtain ⟨p,t⟩ := a
  cases h
  refine fnLaw Try.func15 r43_Matches.tr rfl hE (ok_cons r43_Validate.ok (ok_cons r42_Valid.ok ok_nil)) ?_
  have q1 := vPS_eq p
  have q2 := r42_Valid_eq t
  unfold r43_Matches.m
  refine seq_reg (σ' := ?_) ?_ ?_
  rotate_left
  · simp -implicitDefEqProofs only [r43_Matches.r0,κa,κb,κc,κd,κe,κf,κg,κh,κi,κj,κk,κl,κm,κn,κo,κp,κq,κr,κs,κt,κu,κv,κw,κx,κy,κz,κa1,κb1,κc1,κd1,κe1,κf1,κg1,κh1,κi1,κj1,κk1,κl1,κm1,κn1,κo1,κp1,κq1,κr1,κs1,if_true,if_false,reduceIte,κt1,κu1,κv1,κw1,κx1,κy1,κz1,κa2,κb2,κc2,κd2,κe2,κf2,κg2,κh2,κi2,κj2,κk2,κl2,κm2,κn2,κo2,κp2,κq2,reduceCtorEq,κr2,κs2,κt2,κu2,κv2,κw2,κx2,κy2,κz2,κa3,eq_self,κb3,κc3,zL,encMt,Pl.cs,Tg.cs]; rfl
  refine seq_ex (σ'' := St.of [(2,.box 2 0),(3,.box 3 0),(5,.box 5 0)] [(2,p.xs),(3,t.xs),(5,p.vp)] [] (0)) ⟨_,by simp -implicitDefEqProofs only [r43_Matches.r1,κa,κb,κc,κd,κe,κf,κg,κh,κi,κj,κk,κl,κm,κn,κo,κp,κq,κr,κs,κt,κu,κv,κw,κx,κy,κz,κa1,κb1,κc1,κd1,κe1,κf1,κg1,κh1,κi1,κj1,κk1,κl1,κm1,κn1,κo1,κp1,κq1,κr1,κs1,if_true,if_false,reduceIte,κt1,κu1,κv1,κw1,κx1,κy1,κz1,κa2,κb2,κc2,κd2,κe2,κf2,κg2,κh2,κi2,κj2,κk2,κl2,κm2,κn2,κo2,κp2,κq2,reduceCtorEq,κr2,κs2,κt2,κu2,κv2,κw2,κx2,κy2,κz2,κa3,eq_self,κb3,κc3,zL]; rfl,sub_of (all_cons rfl (all_cons rfl (all_cons rfl all_nil))) (all_cons rfl (all_cons rfl (all_cons rfl all_nil))) all_nil (Nat.le_refl _)⟩ ?_
  by_cases h1 : validP p = 0
  case neg =>
    have g1 : (validP p == 0) = false := beq_eq_false_iff_ne.2 h1
    have hF : matB p t = false := decide_eq_false (fun h => h1 h.1)
    simp only [hF]
    refine seq_reg (σ' := ?_) ?_ ?_
    rotate_left
    · simp -implicitDefEqProofs only [r43_Matches.r2,κa,κb,κc,κd,κe,κf,κg,κh,κi,κj,κk,κl,κm,κn,κo,κp,κq,κr,κs,κt,κu,κv,κw,κx,κy,κz,κa1,κb1,κc1,κd1,κe1,κf1,κg1,κh1,κi1,κj1,κk1,κl1,κm1,κn1,κo1,κp1,κq1,κr1,κs1,if_true,if_false,reduceIte,κt1,κu1,κv1,κw1,κx1,κy1,κz1,κa2,κb2,κc2,κd2,κe2,κf2,κg2,κh2,κi2,κj2,κk2,κl2,κm2,κn2,κo2,κp2,κq2,reduceCtorEq,κr2,κs2,κt2,κu2,κv2,κw2,κx2,κy2,κz2,κa3,eq_self,κb3,κc3,zL,Pl.xs,Tg.xs,rInt,rBool,r43_Validate.S,q1,g1]; rfl
    exact ret_ ⟨.inl rfl,_,rfl,AVle.refl _⟩
  have g1 : (validP p == 0) = true := beq_iff_eq.2 h1
  cases h2 : tgB t with
  | false =>
    have hF : matB p t = false := decide_eq_false (fun h => by have := h.2.1; rw [h2] at this; cases this)
    simp only [hF]
    refine seq_reg (σ' := ?_) ?_ ?_
    rotate_left
    · simp -implicitDefEqProofs only [r43_Matches.r2,κa,κb,κc,κd,κe,κf,κg,κh,κi,κj,κk,κl,κm,κn,κo,κp,κq,κr,κs,κt,κu,κv,κw,κx,κy,κz,κa1,κb1,κc1,κd1,κe1,κf1,κg1,κh1,κi1,κj1,κk1,κl1,κm1,κn1,κo1,κp1,κq1,κr1,κs1,if_true,if_false,reduceIte,κt1,κu1,κv1,κw1,κx1,κy1,κz1,κa2,κb2,κc2,κd2,κe2,κf2,κg2,κh2,κi2,κj2,κk2,κl2,κm2,κn2,κo2,κp2,κq2,reduceCtorEq,κr2,κs2,κt2,κu2,κv2,κw2,κx2,κy2,κz2,κa3,eq_self,κb3,κc3,zL,Pl.xs,Tg.xs,rInt,rBool,r43_Validate.S,q1,g1,q2,h2]; rfl
    exact ret_ ⟨.inl rfl,_,rfl,AVle.refl _⟩
  | true =>
  have hd := tgB_hd h2
  obtain ⟨hp0,hp8⟩ := col_pos hd
  have hg0 := Im.cs_get t.col 0 hp0
  have hf0 := fmt0_eq t hp0
  obtain ⟨hw1,hw2⟩ := vpt_of h1
  by_cases es : p.smp = t.s
  case neg =>
    have ys : (p.smp == t.s) = false := beq_eq_false_iff_ne.2 es
    have hF : matB p t = false := decide_eq_false (fun h => by have := h.2.2.1; exact es this.symm)
    simp only [hF]
    refine seq_reg (σ' := ?_) ?_ ?_
    rotate_left
    · simp -implicitDefEqProofs only [r43_Matches.r2,κa,κb,κc,κd,κe,κf,κg,κh,κi,κj,κk,κl,κm,κn,κo,κp,κq,κr,κs,κt,κu,κv,κw,κx,κy,κz,κa1,κb1,κc1,κd1,κe1,κf1,κg1,κh1,κi1,κj1,κk1,κl1,κm1,κn1,κo1,κp1,κq1,κr1,κs1,if_true,if_false,reduceIte,κt1,κu1,κv1,κw1,κx1,κy1,κz1,κa2,κb2,κc2,κd2,κe2,κf2,κg2,κh2,κi2,κj2,κk2,κl2,κm2,κn2,κo2,κp2,κq2,reduceCtorEq,κr2,κs2,κt2,κu2,κv2,κw2,κx2,κy2,κz2,κa3,eq_self,κb3,κc3,zL,Pl.xs,Tg.xs,Pl.vp,rInt,rBool,r43_Validate.S,q1,g1,q2,h2,hg0,hw1,hw2,ys]; rfl
    exact ret_ ⟨.inl rfl,_,rfl,AVle.refl _⟩
  have ys : (p.smp == t.s) = true := beq_iff_eq.2 es
  by_cases ef : p.fmt = (t.col[0]).f
  case neg =>
    have yf : (p.fmt == (t.col[0]).f) = false := beq_eq_false_iff_ne.2 ef
    have hF : matB p t = false := decide_eq_false (fun h => by have := h.2.2.2.1; rw [hf0] at this; exact ef this.symm)
    simp only [hF]
    refine seq_reg (σ' := ?_) ?_ ?_
    rotate_left
    · simp -implicitDefEqProofs only [r43_Matches.r2,κa,κb,κc,κd,κe,κf,κg,κh,κi,κj,κk,κl,κm,κn,κo,κp,κq,κr,κs,κt,κu,κv,κw,κx,κy,κz,κa1,κb1,κc1,κd1,κe1,κf1,κg1,κh1,κi1,κj1,κk1,κl1,κm1,κn1,κo1,κp1,κq1,κr1,κs1,if_true,if_false,reduceIte,κt1,κu1,κv1,κw1,κx1,κy1,κz1,κa2,κb2,κc2,κd2,κe2,κf2,κg2,κh2,κi2,κj2,κk2,κl2,κm2,κn2,κo2,κp2,κq2,reduceCtorEq,κr2,κs2,κt2,κu2,κv2,κw2,κx2,κy2,κz2,κa3,eq_self,κb3,κc3,zL,Pl.xs,Tg.xs,Pl.vp,rInt,rBool,r43_Validate.S,q1,g1,q2,h2,hg0,hw1,hw2,ys,yf]; rfl
    exact ret_ ⟨.inl rfl,_,rfl,AVle.refl _⟩
  have yf : (p.fmt == (t.col[0]).f) = true := beq_iff_eq.2 ef
  by_cases ed : p.dfm = t.d
  case neg =>
    have yd : (p.dfm == t.d) = false := beq_eq_false_iff_ne.2 ed
    have hF : matB p t = false := decide_eq_false (fun h => by have := h.2.2.2.2.1; exact ed this.symm)
    simp only [hF]
    refine seq_reg (σ' := ?_) ?_ ?_
    rotate_left
    · simp -implicitDefEqProofs only [r43_Matches.r2,κa,κb,κc,κd,κe,κf,κg,κh,κi,κj,κk,κl,κm,κn,κo,κp,κq,κr,κs,κt,κu,κv,κw,κx,κy,κz,κa1,κb1,κc1,κd1,κe1,κf1,κg1,κh1,κi1,κj1,κk1,κl1,κm1,κn1,κo1,κp1,κq1,κr1,κs1,if_true,if_false,reduceIte,κt1,κu1,κv1,κw1,κx1,κy1,κz1,κa2,κb2,κc2,κd2,κe2,κf2,κg2,κh2,κi2,κj2,κk2,κl2,κm2,κn2,κo2,κp2,κq2,reduceCtorEq,κr2,κs2,κt2,κu2,κv2,κw2,κx2,κy2,κz2,κa3,eq_self,κb3,κc3,zL,Pl.xs,Tg.xs,Pl.vp,rInt,rBool,r43_Validate.S,q1,g1,q2,h2,hg0,hw1,hw2,ys,yf,yd]; rfl
    exact ret_ ⟨.inl rfl,_,rfl,AVle.refl _⟩
  have yd : (p.dfm == t.d) = true := beq_iff_eq.2 ed
  by_cases c0 : p.vx + p.vw ≤ t.w
  case neg =>
    have hF : matB p t = false := decide_eq_false (fun h => c0 h.2.2.2.2.2.1)
    simp only [hF]
    refine seq_reg (σ' := ?_) ?_ ?_
    rotate_left
    · simp -implicitDefEqProofs only [r43_Matches.r2,κa,κb,κc,κd,κe,κf,κg,κh,κi,κj,κk,κl,κm,κn,κo,κp,κq,κr,κs,κt,κu,κv,κw,κx,κy,κz,κa1,κb1,κc1,κd1,κe1,κf1,κg1,κh1,κi1,κj1,κk1,κl1,κm1,κn1,κo1,κp1,κq1,κr1,κs1,if_true,if_false,reduceIte,κt1,κu1,κv1,κw1,κx1,κy1,κz1,κa2,κb2,κc2,κd2,κe2,κf2,κg2,κh2,κi2,κj2,κk2,κl2,κm2,κn2,κo2,κp2,κq2,reduceCtorEq,κr2,κs2,κt2,κu2,κv2,κw2,κx2,κy2,κz2,κa3,eq_self,κb3,κc3,zL,Pl.xs,Tg.xs,Pl.vp,rInt,rBool,r43_Validate.S,q1,g1,q2,h2,hg0,hw1,hw2,ys,yf,yd,c0]; rfl
    exact ret_ ⟨.inl rfl,_,rfl,AVle.refl _⟩
  by_cases c1 : p.vy + p.vh ≤ t.h
  case neg =>
    have hF : matB p t = false := decide_eq_false (fun h => c1 h.2.2.2.2.2.2)
    simp only [hF]
    refine seq_reg (σ' := ?_) ?_ ?_
    rotate_left
    · simp -implicitDefEqProofs only [r43_Matches.r2,κa,κb,κc,κd,κe,κf,κg,κh,κi,κj,κk,κl,κm,κn,κo,κp,κq,κr,κs,κt,κu,κv,κw,κx,κy,κz,κa1,κb1,κc1,κd1,κe1,κf1,κg1,κh1,κi1,κj1,κk1,κl1,κm1,κn1,κo1,κp1,κq1,κr1,κs1,if_true,if_false,reduceIte,κt1,κu1,κv1,κw1,κx1,κy1,κz1,κa2,κb2,κc2,κd2,κe2,κf2,κg2,κh2,κi2,κj2,κk2,κl2,κm2,κn2,κo2,κp2,κq2,reduceCtorEq,κr2,κs2,κt2,κu2,κv2,κw2,κx2,κy2,κz2,κa3,eq_self,κb3,κc3,zL,Pl.xs,Tg.xs,Pl.vp,rInt,rBool,r43_Validate.S,q1,g1,q2,h2,hg0,hw1,hw2,ys,yf,yd,c0,c1]; rfl
    exact ret_ ⟨.inl rfl,_,rfl,AVle.refl _⟩
  have hF : matB p t = true := decide_eq_true ⟨h1,h2,es.symm,by rw [hf0]; exact ef.symm,ed.symm,c0,c1⟩
  simp only [hF]
  refine seq_reg (σ' := ?_) ?_ ?_
  rotate_left
  · simp -implicitDefEqProofs only [r43_Matches.r2,κa,κb,κc,κd,κe,κf,κg,κh,κi,κj,κk,κl,κm,κn,κo,κp,κq,κr,κs,κt,κu,κv,κw,κx,κy,κz,κa1,κb1,κc1,κd1,κe1,κf1,κg1,κh1,κi1,κj1,κk1,κl1,κm1,κn1,κo1,κp1,κq1,κr1,κs1,if_true,if_false,reduceIte,κt1,κu1,κv1,κw1,κx1,κy1,κz1,κa2,κb2,κc2,κd2,κe2,κf2,κg2,κh2,κi2,κj2,κk2,κl2,κm2,κn2,κo2,κp2,κq2,reduceCtorEq,κr2,κs2,κt2,κu2,κv2,κw2,κx2,κy2,κz2,κa3,eq_self,κb3,κc3,zL,Pl.xs,Tg.xs,Pl.vp,rInt,rBool,r43_Validate.S,q1,g1,q2,h2,hg0,hw1,hw2,ys,yf,yd,c0,c1]; rfl
  exact ret_ ⟨.inl rfl,_,rfl,AVle.refl _⟩)
theorem frustum_eqb (b : Bool) : (b == b) = true := by cases b <;> rfl
noncomputable def PipelineMatches.S : Am.Spec := cSpec encMt fun _ => some (rBool true)
theorem PipelineMatches_at (p : Pl) (t : Tg) : PipelineMatches.S [.agg p.cs,.agg t.cs] = some (rBool true) := cSpec_eq encMt_inj (p,t)
theorem PipelineMatches.ok : SpecOK Try.prog 6 PipelineMatches.S := cSpec_ok fun a r h => by
  obtain ⟨p,t⟩ := a
  cases h
  refine runC_law (n := 0) Try.func6 PipelineMatches.tr rfl hE (ok_cons pl_Matches.ok (ok_cons r43_Matches.ok (ok_cons frustumlaw43_example.ok ok_nil))) ?_
  have q1 := matS_eq p t
  generalize matB p t = V at q1
  have g := frustum_eqb V
  simp -implicitDefEqProofs only [runC,mrun,result,AV.fin,XV.fin,Option.bind,Option.map,PipelineMatches.r0,PipelineMatches.r1,PipelineMatches.m,κa,κb,κc,κd,κe,κf,κg,κh,κi,κj,κk,κl,κm,κn,κo,κp,κq,κr,κs,κt,κu,κv,κw,κx,κy,κz,κa1,κb1,κc1,κd1,κe1,κf1,κg1,κh1,κi1,κj1,κk1,κl1,κm1,κn1,κo1,κp1,κq1,κr1,κs1,if_true,if_false,reduceIte,κt1,κu1,κv1,κw1,κx1,κy1,κz1,κa2,κb2,κc2,κd2,κe2,κf2,κg2,κh2,κi2,κj2,κk2,κl2,κm2,κn2,κo2,κp2,κq2,reduceCtorEq,κr2,κs2,κt2,κu2,κv2,κw2,κx2,κy2,κz2,κa3,eq_self,κb3,κc3,zL,encMt,Pl.cs,Tg.cs,rInt,rBool,r43_Matches.S,q1,g,frustumlaw43_example.S]
end Go.Proofs.Ytjbhhdocbejccaa.Pl
