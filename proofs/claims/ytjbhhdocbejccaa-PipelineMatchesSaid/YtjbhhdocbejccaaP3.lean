/- Chapter 43: Validate of package pipeline. No condition beyond those that each theorem states. -/
import Derived.Test.YtjbhhdocbejccaaP2
namespace Go.Proofs.Ytjbhhdocbejccaa.Pl
open Go Go.RowKit Go.Proofs.Ytjbhhdocbejccaa.Am
open Go.Proofs.Ytjbhhdocbejccaa.Am renaming ex_nil → κa,ex_cons → κb,exK_some → κc,st_n → κd,st_g → κe,gd_b → κf,gd_u → κg,rn_v → κh,rn_m → κi,rn_s → κj,rn_a → κk,think → κl,prep → κm,mkDsts → κn,ev → κp,upd → κq,init → κr,forgetBox → κu,pvs → κx,fillX → κy,chunks → κz,binV → κa1,xints → κb1,ldX → κc1,baseOk → κe1,fg_p → κf1,fg_tk → κg1,mkG → κh1,tab → κj1,c3 → κa3
open Go.Proofs.Ytjbhhdocbejccaa.Am.St renaming clear → κo,put → κt,of → κk1
open Go.Proofs.Ytjbhhdocbejccaa.Am.PV renaming av → κs
open Go.Proofs.Ytjbhhdocbejccaa.Am.AV renaming cells → κv,pv → κw,plain → κd1
open Go.Proofs.Ytjbhhdocbejccaa.Am.Sig renaming spec → κi1
open List renaming getElem?_cons_zero → κl1,getElem?_cons_succ → κm1,getElem?_nil → κn1,map_cons → κu1,map_nil → κv1,drop_succ_cons → κw1,drop_zero → κx1,take_succ_cons → κy1,take_zero → κz1,length_cons → κa2,length_nil → κb2,length_append → κc2,cons_append → κd2,nil_append → κe2,append_nil → κf2
open Option renaming map_some → κo1,map_none → κp1,bind_some → κq1,isSome_some → κr1,isSome_none → κs1
open Nat renaming reduceEqDiff → κt1,reduceAdd → κg2,reduceMul → κh2,reduceLeDiff → κi2,reduceBEq → κj2,zero_le → κk2,le_refl → κl2,zero_add → κm2,add_zero → κn2
open Bool renaming not_true → κo2,not_false → κp2,false_eq_true → κq2,true_eq_false → κc3
open Int renaming reduceBEq → κr2,reduceBNe → κs2,reduceLT → κt2,reduceLE → κu2,reduceAdd → κv2,reduceToNat → κw2,toNat_zero → κx2,reduceEq → κy2,toNat_natCast → κz2,le_refl → κb3
set_option linter.unusedVariables false
set_option linter.unusedSimpArgs false
set_option maxHeartbeats 16000000
set_option maxRecDepth 100000
theorem valid_rng {p : Pg} (h : validS p = 0) : rngP p = true := by
  unfold validS at h
  split at h
  · omega
  · split at h
    · omega
    · rename_i h'; simpa using h'
theorem shaders_rngs {p : Pl} (h : shadersB p = true) : rngs p = true := by
  simp only [shadersB,Bool.and_eq_true] at h
  obtain ⟨h1,h2,h3⟩ := h
  have v1 := valid_rng (of_decide_eq_true h1).2
  simp only [rngs,v1,Bool.true_and]
  cases hg : p.hg with
  | false => rfl
  | true =>
    rw [hg,if_pos rfl] at h3
    simp [valid_rng (of_decide_eq_true h3).2]
theorem vatsS_eq (l : List At) : fetch_Valid.S [.c (.sl 4 (l.map At.cs))] = some (rBool (attsB l)) := cSpec_eq encAts_inj l
def atsB (p : Pl) : Bool := attsB p.ats && (compsL p.ats == p.v.inp)
def kdB (p : Pl) : Bool := decide (1 ≤ p.topo ∧ p.topo ≤ 3 ∧ 1 ≤ p.cull ∧ p.cull ≤ 3)
def vptB (p : Pl) : Bool := vpB p.vx p.vy p.vw p.vh p.vn p.vm
def sxB (p : Pl) : Bool := dsB p.dc p.db && (stB p.f1 p.f2 p.f3 p.f4 p.b1 p.b2 p.b3 p.b4 p.sr p.sm p.sw && blB p.c1 p.c2 p.c3 p.c4 p.c5 p.c6 p.bm)
def fmB (p : Pl) : Bool := decide (1 ≤ p.fmt ∧ p.fmt ≤ 6 ∧ 0 ≤ bitsF p.dfm)
def validP (p : Pl) : Int := if shadersB p = false then 17 else if atsB p = false then 11 else if linkB p = false then 18 else if kdB p = false then 10 else if vptB p = false then 6 else if sxB p = false then 16 else if fmB p = false then 14 else if sampB p.smp = false then 15 else 0
noncomputable def pl_Validate.S : Am.Spec := cSpec encPl fun p => some (rInt (validP p))
theorem vPS_eq (p : Pl) : pl_Validate.S [.agg [.int .i64 p.v.st,.int .i64 p.v.rg,.int .i64 p.v.inp,.int .i64 p.v.out,.int .i64 p.v.un,.int .i64 p.v.tx,.int .i64 p.v.bf,.sl 6 (p.v.code.map Ins.cs),.int .i64 p.g.st,.int .i64 p.g.rg,.int .i64 p.g.inp,.int .i64 p.g.out,.int .i64 p.g.un,.int .i64 p.g.tx,.int .i64 p.g.bf,.sl 6 (p.g.code.map Ins.cs),.int .i64 p.f.st,.int .i64 p.f.rg,.int .i64 p.f.inp,.int .i64 p.f.out,.int .i64 p.f.un,.int .i64 p.f.tx,.int .i64 p.f.bf,.sl 6 (p.f.code.map Ins.cs),.bool p.hg,.sl 4 (p.ats.map At.cs),.int .i64 p.topo,.int .i64 p.cull,.bool p.fc,.int .i64 p.vx,.int .i64 p.vy,.int .i64 p.vw,.int .i64 p.vh,.int .i64 p.vn,.int .i64 p.vm,.bool p.dt,.bool p.dw,.int .i64 p.dc,.int .i64 p.db,.bool p.se,.int .i64 p.f1,.int .i64 p.f2,.int .i64 p.f3,.int .i64 p.f4,.int .i64 p.b1,.int .i64 p.b2,.int .i64 p.b3,.int .i64 p.b4,.int .i64 p.sr,.int .i64 p.sm,.int .i64 p.sw,.bool p.be,.int .i64 p.c1,.int .i64 p.c2,.int .i64 p.c3,.int .i64 p.c4,.int .i64 p.c5,.int .i64 p.c6,.int .i64 p.bm,.int .i64 p.smp,.int .i64 p.fmt,.int .i64 p.dfm]] = some (rInt (validP p)) := cSpec_eq encPl_inj p
theorem pl_Validate.ok : SpecOK Try.prog 7 pl_Validate.S := cSpec_ok fun p r h => by
  cases h
  have qsh := shadersS_eq p
  have qlk := linkS_eq p
  have qva := vatsS_eq p.ats
  have qco := compsS_eq p.ats
  have sub0 : ∀ σ T b,σ.tm 1 = some (.box 1 0) → σ.tm T = some (rBool b) → σ.hp 1 = some p.xs → σ.nt = 0 → Sub (St.of [(1,.box 1 0),(T,rBool b)] [(1,p.xs)] [] 0) σ := fun σ T b h1 h2 h3 h4 => sub_of (all_cons h1 (all_cons h2 all_nil)) (all_cons h3 all_nil) all_nil (Nat.le_of_eq h4)
  refine fnLaw Try.func7 pl_Validate.tr rfl hE (ok_cons pl_shaders.ok (ok_cons fetch_Valid.ok (ok_cons fetch_Components.ok (ok_cons pl_linked.ok (ok_cons vp_Valid.ok (ok_cons depth_ValidState.ok (ok_cons st_Valid.ok (ok_cons bl_Valid.ok (ok_cons depth_Bits.ok (ok_cons cov_ValidSamples.ok ok_nil)))))))))) ?_
  unfold pl_Validate.m
  refine seq_ex (σ'' := St.of [(1,.box 1 0)] [(1,p.xs)] [] 0) ⟨_,by simp -implicitDefEqProofs only [pl_Validate.r0,encPl,Pl.cs,κa,κb,κc,κd,κe,κf,κg,κh,κi,κj,κk,κl,κm,κn,κo,κp,κq,κr,κs,κt,κu,κv,κw,κx,κy,κz,κa1,κb1,κc1,κd1,κe1,κf1,κg1,κh1,κi1,κj1,κk1,κl1,κm1,κn1,κo1,κp1,κq1,κr1,κs1,if_true,if_false,reduceIte,κt1,κu1,κv1,κw1,κx1,κy1,κz1,κa2,κb2,κc2,κd2,κe2,κf2,κg2,κh2,κi2,κj2,κk2,κl2,κm2,κn2,κo2,κp2,κq2,reduceCtorEq,κr2,κs2,κt2,κu2,κv2,κw2,κx2,κy2,κz2,κa3,eq_self,κb3,κc3,zL]; rfl,sub_of (all_cons rfl all_nil) (all_cons rfl all_nil) all_nil (Nat.le_refl _)⟩ ?_
  refine seq_ (block_ ?_)
  refine seq_ex (σ'' := St.of [(1,.box 1 0),(3,rBool (!shadersB p))] [(1,p.xs)] [] 0) ?_ ?_
  · cases hb : shadersB p
    all_goals exact ⟨_,by simp -implicitDefEqProofs only [pl_Validate.r1,Pl.xs,rBool,rInt,ge_iff_le,gt_iff_lt,qsh,hb,κa,κb,κc,κd,κe,κf,κg,κh,κi,κj,κk,κl,κm,κn,κo,κp,κq,κr,κs,κt,κu,κv,κw,κx,κy,κz,κa1,κb1,κc1,κd1,κe1,κf1,κg1,κh1,κi1,κj1,κk1,κl1,κm1,κn1,κo1,κp1,κq1,κr1,κs1,if_true,if_false,reduceIte,κt1,κu1,κv1,κw1,κx1,κy1,κz1,κa2,κb2,κc2,κd2,κe2,κf2,κg2,κh2,κi2,κj2,κk2,κl2,κm2,κn2,κo2,κp2,κq2,reduceCtorEq,κr2,κs2,κt2,κu2,κv2,κw2,κx2,κy2,κz2,κa3,eq_self,κb3,κc3,zL]; rfl,sub0 _ _ _ rfl rfl rfl rfl⟩
  cases h0 : shadersB p with
  | false =>
    have hV : validP p = 17 := by unfold validP; rw [if_pos h0]
    rw [hV]
    refine cond_ rfl (fun _ => ?_) (fun h => by simp at h)
    refine seq_reg (σ' := ?_) ?_ ?_
    rotate_left
    · simp -implicitDefEqProofs only [pl_Validate.r2,κa,κb,κc,κd,κe,κf,κg,κh,κi,κj,κk,κl,κm,κn,κo,κp,κq,κr,κs,κt,κu,κv,κw,κx,κy,κz,κa1,κb1,κc1,κd1,κe1,κf1,κg1,κh1,κi1,κj1,κk1,κl1,κm1,κn1,κo1,κp1,κq1,κr1,κs1,if_true,if_false,reduceIte,κt1,κu1,κv1,κw1,κx1,κy1,κz1,κa2,κb2,κc2,κd2,κe2,κf2,κg2,κh2,κi2,κj2,κk2,κl2,κm2,κn2,κo2,κp2,κq2,reduceCtorEq,κr2,κs2,κt2,κu2,κv2,κw2,κx2,κy2,κz2,κa3,eq_self,κb3,κc3,zL]; rfl
    exact ret_ ⟨.inl rfl,_,rfl,AVle.refl _⟩
  | true =>
  refine cond_ rfl (fun h => by simp at h) (fun _ => ?_)
  have hrg := shaders_rngs h0
  replace qlk := qlk hrg
  refine seq_ex (σ'' := St.of [(1,.box 1 0),(7,rBool (!atsB p))] [(1,p.xs)] [] 0) ?_ ?_
  · unfold atsB
    cases hb : attsB p.ats with
    | false =>
      exact ⟨_,by simp -implicitDefEqProofs only [pl_Validate.r3,Pl.xs,rBool,rInt,ge_iff_le,gt_iff_lt,qva,hb,κa,κb,κc,κd,κe,κf,κg,κh,κi,κj,κk,κl,κm,κn,κo,κp,κq,κr,κs,κt,κu,κv,κw,κx,κy,κz,κa1,κb1,κc1,κd1,κe1,κf1,κg1,κh1,κi1,κj1,κk1,κl1,κm1,κn1,κo1,κp1,κq1,κr1,κs1,if_true,if_false,reduceIte,κt1,κu1,κv1,κw1,κx1,κy1,κz1,κa2,κb2,κc2,κd2,κe2,κf2,κg2,κh2,κi2,κj2,κk2,κl2,κm2,κn2,κo2,κp2,κq2,reduceCtorEq,κr2,κs2,κt2,κu2,κv2,κw2,κx2,κy2,κz2,κa3,eq_self,κb3,κc3,zL]; rfl,sub0 _ _ _ rfl rfl rfl rfl⟩
    | true =>
      have hl := (of_decide_eq_true hb).1
      by_cases hc : compsL p.ats = p.v.inp
      · have g1 : (compsL p.ats == p.v.inp) = true := by simpa using hc
        have g2 : (compsL p.ats != p.v.inp) = false := by simpa using hc
        rw [g1]
        exact ⟨_,by simp -implicitDefEqProofs only [pl_Validate.r3,Pl.xs,rBool,rInt,ge_iff_le,gt_iff_lt,qva,hb,qco hl,g2,κa,κb,κc,κd,κe,κf,κg,κh,κi,κj,κk,κl,κm,κn,κo,κp,κq,κr,κs,κt,κu,κv,κw,κx,κy,κz,κa1,κb1,κc1,κd1,κe1,κf1,κg1,κh1,κi1,κj1,κk1,κl1,κm1,κn1,κo1,κp1,κq1,κr1,κs1,if_true,if_false,reduceIte,κt1,κu1,κv1,κw1,κx1,κy1,κz1,κa2,κb2,κc2,κd2,κe2,κf2,κg2,κh2,κi2,κj2,κk2,κl2,κm2,κn2,κo2,κp2,κq2,reduceCtorEq,κr2,κs2,κt2,κu2,κv2,κw2,κx2,κy2,κz2,κa3,eq_self,κb3,κc3,zL]; rfl,sub0 _ _ _ rfl rfl rfl rfl⟩
      · have g1 : (compsL p.ats == p.v.inp) = false := by simpa using hc
        have g2 : (compsL p.ats != p.v.inp) = true := by simpa using hc
        rw [g1]
        exact ⟨_,by simp -implicitDefEqProofs only [pl_Validate.r3,Pl.xs,rBool,rInt,ge_iff_le,gt_iff_lt,qva,hb,qco hl,g2,κa,κb,κc,κd,κe,κf,κg,κh,κi,κj,κk,κl,κm,κn,κo,κp,κq,κr,κs,κt,κu,κv,κw,κx,κy,κz,κa1,κb1,κc1,κd1,κe1,κf1,κg1,κh1,κi1,κj1,κk1,κl1,κm1,κn1,κo1,κp1,κq1,κr1,κs1,if_true,if_false,reduceIte,κt1,κu1,κv1,κw1,κx1,κy1,κz1,κa2,κb2,κc2,κd2,κe2,κf2,κg2,κh2,κi2,κj2,κk2,κl2,κm2,κn2,κo2,κp2,κq2,reduceCtorEq,κr2,κs2,κt2,κu2,κv2,κw2,κx2,κy2,κz2,κa3,eq_self,κb3,κc3,zL]; rfl,sub0 _ _ _ rfl rfl rfl rfl⟩
  cases h1 : atsB p with
  | false =>
    have hV : validP p = 11 := by unfold validP; rw [if_neg (by rw [h0]; simp),if_pos h1]
    rw [hV]
    refine cond_ rfl (fun _ => ?_) (fun h => by simp at h)
    refine seq_reg (σ' := ?_) ?_ ?_
    rotate_left
    · simp -implicitDefEqProofs only [pl_Validate.r4,κa,κb,κc,κd,κe,κf,κg,κh,κi,κj,κk,κl,κm,κn,κo,κp,κq,κr,κs,κt,κu,κv,κw,κx,κy,κz,κa1,κb1,κc1,κd1,κe1,κf1,κg1,κh1,κi1,κj1,κk1,κl1,κm1,κn1,κo1,κp1,κq1,κr1,κs1,if_true,if_false,reduceIte,κt1,κu1,κv1,κw1,κx1,κy1,κz1,κa2,κb2,κc2,κd2,κe2,κf2,κg2,κh2,κi2,κj2,κk2,κl2,κm2,κn2,κo2,κp2,κq2,reduceCtorEq,κr2,κs2,κt2,κu2,κv2,κw2,κx2,κy2,κz2,κa3,eq_self,κb3,κc3,zL]; rfl
    exact ret_ ⟨.inl rfl,_,rfl,AVle.refl _⟩
  | true =>
  refine cond_ rfl (fun h => by simp at h) (fun _ => ?_)
  refine seq_ex (σ'' := St.of [(1,.box 1 0),(21,rBool (!linkB p))] [(1,p.xs)] [] 0) ?_ ?_
  · cases hb : linkB p
    all_goals exact ⟨_,by simp -implicitDefEqProofs only [pl_Validate.r5,Pl.xs,rBool,rInt,ge_iff_le,gt_iff_lt,qlk,hb,κa,κb,κc,κd,κe,κf,κg,κh,κi,κj,κk,κl,κm,κn,κo,κp,κq,κr,κs,κt,κu,κv,κw,κx,κy,κz,κa1,κb1,κc1,κd1,κe1,κf1,κg1,κh1,κi1,κj1,κk1,κl1,κm1,κn1,κo1,κp1,κq1,κr1,κs1,if_true,if_false,reduceIte,κt1,κu1,κv1,κw1,κx1,κy1,κz1,κa2,κb2,κc2,κd2,κe2,κf2,κg2,κh2,κi2,κj2,κk2,κl2,κm2,κn2,κo2,κp2,κq2,reduceCtorEq,κr2,κs2,κt2,κu2,κv2,κw2,κx2,κy2,κz2,κa3,eq_self,κb3,κc3,zL]; rfl,sub0 _ _ _ rfl rfl rfl rfl⟩
  cases h2 : linkB p with
  | false =>
    have hV : validP p = 18 := by unfold validP; rw [if_neg (by rw [h0]; simp),if_neg (by rw [h1]; simp),if_pos h2]
    rw [hV]
    refine cond_ rfl (fun _ => ?_) (fun h => by simp at h)
    refine seq_reg (σ' := ?_) ?_ ?_
    rotate_left
    · simp -implicitDefEqProofs only [pl_Validate.r6,κa,κb,κc,κd,κe,κf,κg,κh,κi,κj,κk,κl,κm,κn,κo,κp,κq,κr,κs,κt,κu,κv,κw,κx,κy,κz,κa1,κb1,κc1,κd1,κe1,κf1,κg1,κh1,κi1,κj1,κk1,κl1,κm1,κn1,κo1,κp1,κq1,κr1,κs1,if_true,if_false,reduceIte,κt1,κu1,κv1,κw1,κx1,κy1,κz1,κa2,κb2,κc2,κd2,κe2,κf2,κg2,κh2,κi2,κj2,κk2,κl2,κm2,κn2,κo2,κp2,κq2,reduceCtorEq,κr2,κs2,κt2,κu2,κv2,κw2,κx2,κy2,κz2,κa3,eq_self,κb3,κc3,zL]; rfl
    exact ret_ ⟨.inl rfl,_,rfl,AVle.refl _⟩
  | true =>
  refine cond_ rfl (fun h => by simp at h) (fun _ => ?_)
  refine seq_ex (σ'' := St.of [(1,.box 1 0),(25,rBool (!kdB p))] [(1,p.xs)] [] 0) ?_ ?_
  · by_cases c0 : p.topo < 1
    · have hp : kdB p = false := decide_eq_false (fun h => by have := h.1; omega)
      rw [hp]
      exact ⟨_,by simp -implicitDefEqProofs only [pl_Validate.r7,Pl.xs,rBool,rInt,ge_iff_le,gt_iff_lt,c0,κa,κb,κc,κd,κe,κf,κg,κh,κi,κj,κk,κl,κm,κn,κo,κp,κq,κr,κs,κt,κu,κv,κw,κx,κy,κz,κa1,κb1,κc1,κd1,κe1,κf1,κg1,κh1,κi1,κj1,κk1,κl1,κm1,κn1,κo1,κp1,κq1,κr1,κs1,if_true,if_false,reduceIte,κt1,κu1,κv1,κw1,κx1,κy1,κz1,κa2,κb2,κc2,κd2,κe2,κf2,κg2,κh2,κi2,κj2,κk2,κl2,κm2,κn2,κo2,κp2,κq2,reduceCtorEq,κr2,κs2,κt2,κu2,κv2,κw2,κx2,κy2,κz2,κa3,eq_self,κb3,κc3,zL]; rfl,sub0 _ _ _ rfl rfl rfl rfl⟩
    by_cases c1 : 3 < p.topo
    · have hp : kdB p = false := decide_eq_false (fun h => by have := h.2.1; omega)
      rw [hp]
      exact ⟨_,by simp -implicitDefEqProofs only [pl_Validate.r7,Pl.xs,rBool,rInt,ge_iff_le,gt_iff_lt,c0,c1,κa,κb,κc,κd,κe,κf,κg,κh,κi,κj,κk,κl,κm,κn,κo,κp,κq,κr,κs,κt,κu,κv,κw,κx,κy,κz,κa1,κb1,κc1,κd1,κe1,κf1,κg1,κh1,κi1,κj1,κk1,κl1,κm1,κn1,κo1,κp1,κq1,κr1,κs1,if_true,if_false,reduceIte,κt1,κu1,κv1,κw1,κx1,κy1,κz1,κa2,κb2,κc2,κd2,κe2,κf2,κg2,κh2,κi2,κj2,κk2,κl2,κm2,κn2,κo2,κp2,κq2,reduceCtorEq,κr2,κs2,κt2,κu2,κv2,κw2,κx2,κy2,κz2,κa3,eq_self,κb3,κc3,zL]; rfl,sub0 _ _ _ rfl rfl rfl rfl⟩
    by_cases c2 : p.cull < 1
    · have hp : kdB p = false := decide_eq_false (fun h => by have := h.2.2.1; omega)
      rw [hp]
      exact ⟨_,by simp -implicitDefEqProofs only [pl_Validate.r7,Pl.xs,rBool,rInt,ge_iff_le,gt_iff_lt,c0,c1,c2,κa,κb,κc,κd,κe,κf,κg,κh,κi,κj,κk,κl,κm,κn,κo,κp,κq,κr,κs,κt,κu,κv,κw,κx,κy,κz,κa1,κb1,κc1,κd1,κe1,κf1,κg1,κh1,κi1,κj1,κk1,κl1,κm1,κn1,κo1,κp1,κq1,κr1,κs1,if_true,if_false,reduceIte,κt1,κu1,κv1,κw1,κx1,κy1,κz1,κa2,κb2,κc2,κd2,κe2,κf2,κg2,κh2,κi2,κj2,κk2,κl2,κm2,κn2,κo2,κp2,κq2,reduceCtorEq,κr2,κs2,κt2,κu2,κv2,κw2,κx2,κy2,κz2,κa3,eq_self,κb3,κc3,zL]; rfl,sub0 _ _ _ rfl rfl rfl rfl⟩
    by_cases c3 : 3 < p.cull
    · have hp : kdB p = false := decide_eq_false (fun h => by have := h.2.2.2; omega)
      rw [hp]
      exact ⟨_,by simp -implicitDefEqProofs only [pl_Validate.r7,Pl.xs,rBool,rInt,ge_iff_le,gt_iff_lt,c0,c1,c2,c3,κa,κb,κc,κd,κe,κf,κg,κh,κi,κj,κk,κl,κm,κn,κo,κp,κq,κr,κs,κt,κu,κv,κw,κx,κy,κz,κa1,κb1,κc1,κd1,κe1,κf1,κg1,κh1,κi1,κj1,κk1,κl1,κm1,κn1,κo1,κp1,κq1,κr1,κs1,if_true,if_false,reduceIte,κt1,κu1,κv1,κw1,κx1,κy1,κz1,κa2,κb2,κc2,κd2,κe2,κf2,κg2,κh2,κi2,κj2,κk2,κl2,κm2,κn2,κo2,κp2,κq2,reduceCtorEq,κr2,κs2,κt2,κu2,κv2,κw2,κx2,κy2,κz2,κa3,eq_self,κb3,κc3,zL]; rfl,sub0 _ _ _ rfl rfl rfl rfl⟩
    have hp : kdB p = true := decide_eq_true ⟨by omega,by omega,by omega,by omega⟩
    rw [hp]
    exact ⟨_,by simp -implicitDefEqProofs only [pl_Validate.r7,Pl.xs,rBool,rInt,ge_iff_le,gt_iff_lt,c0,c1,c2,c3,κa,κb,κc,κd,κe,κf,κg,κh,κi,κj,κk,κl,κm,κn,κo,κp,κq,κr,κs,κt,κu,κv,κw,κx,κy,κz,κa1,κb1,κc1,κd1,κe1,κf1,κg1,κh1,κi1,κj1,κk1,κl1,κm1,κn1,κo1,κp1,κq1,κr1,κs1,if_true,if_false,reduceIte,κt1,κu1,κv1,κw1,κx1,κy1,κz1,κa2,κb2,κc2,κd2,κe2,κf2,κg2,κh2,κi2,κj2,κk2,κl2,κm2,κn2,κo2,κp2,κq2,reduceCtorEq,κr2,κs2,κt2,κu2,κv2,κw2,κx2,κy2,κz2,κa3,eq_self,κb3,κc3,zL]; rfl,sub0 _ _ _ rfl rfl rfl rfl⟩
  cases h3 : kdB p with
  | false =>
    have hV : validP p = 10 := by unfold validP; rw [if_neg (by rw [h0]; simp),if_neg (by rw [h1]; simp),if_neg (by rw [h2]; simp),if_pos h3]
    rw [hV]
    refine cond_ rfl (fun _ => ?_) (fun h => by simp at h)
    refine seq_reg (σ' := ?_) ?_ ?_
    rotate_left
    · simp -implicitDefEqProofs only [pl_Validate.r8,κa,κb,κc,κd,κe,κf,κg,κh,κi,κj,κk,κl,κm,κn,κo,κp,κq,κr,κs,κt,κu,κv,κw,κx,κy,κz,κa1,κb1,κc1,κd1,κe1,κf1,κg1,κh1,κi1,κj1,κk1,κl1,κm1,κn1,κo1,κp1,κq1,κr1,κs1,if_true,if_false,reduceIte,κt1,κu1,κv1,κw1,κx1,κy1,κz1,κa2,κb2,κc2,κd2,κe2,κf2,κg2,κh2,κi2,κj2,κk2,κl2,κm2,κn2,κo2,κp2,κq2,reduceCtorEq,κr2,κs2,κt2,κu2,κv2,κw2,κx2,κy2,κz2,κa3,eq_self,κb3,κc3,zL]; rfl
    exact ret_ ⟨.inl rfl,_,rfl,AVle.refl _⟩
  | true =>
  refine cond_ rfl (fun h => by simp at h) (fun _ => ?_)
  refine seq_ex (σ'' := St.of [(1,.box 1 0),(44,rBool (!vptB p))] [(1,p.xs)] [] 0) ?_ ?_
  · unfold vptB
    cases hb : vpB p.vx p.vy p.vw p.vh p.vn p.vm
    all_goals exact ⟨_,by simp -implicitDefEqProofs only [pl_Validate.r9,Pl.xs,rBool,rInt,ge_iff_le,gt_iff_lt,vp_Valid.S,hb,κa,κb,κc,κd,κe,κf,κg,κh,κi,κj,κk,κl,κm,κn,κo,κp,κq,κr,κs,κt,κu,κv,κw,κx,κy,κz,κa1,κb1,κc1,κd1,κe1,κf1,κg1,κh1,κi1,κj1,κk1,κl1,κm1,κn1,κo1,κp1,κq1,κr1,κs1,if_true,if_false,reduceIte,κt1,κu1,κv1,κw1,κx1,κy1,κz1,κa2,κb2,κc2,κd2,κe2,κf2,κg2,κh2,κi2,κj2,κk2,κl2,κm2,κn2,κo2,κp2,κq2,reduceCtorEq,κr2,κs2,κt2,κu2,κv2,κw2,κx2,κy2,κz2,κa3,eq_self,κb3,κc3,zL]; rfl,sub0 _ _ _ rfl rfl rfl rfl⟩
  cases h4 : vptB p with
  | false =>
    have hV : validP p = 6 := by unfold validP; rw [if_neg (by rw [h0]; simp),if_neg (by rw [h1]; simp),if_neg (by rw [h2]; simp),if_neg (by rw [h3]; simp),if_pos h4]
    rw [hV]
    refine cond_ rfl (fun _ => ?_) (fun h => by simp at h)
    refine seq_reg (σ' := ?_) ?_ ?_
    rotate_left
    · simp -implicitDefEqProofs only [pl_Validate.r10,κa,κb,κc,κd,κe,κf,κg,κh,κi,κj,κk,κl,κm,κn,κo,κp,κq,κr,κs,κt,κu,κv,κw,κx,κy,κz,κa1,κb1,κc1,κd1,κe1,κf1,κg1,κh1,κi1,κj1,κk1,κl1,κm1,κn1,κo1,κp1,κq1,κr1,κs1,if_true,if_false,reduceIte,κt1,κu1,κv1,κw1,κx1,κy1,κz1,κa2,κb2,κc2,κd2,κe2,κf2,κg2,κh2,κi2,κj2,κk2,κl2,κm2,κn2,κo2,κp2,κq2,reduceCtorEq,κr2,κs2,κt2,κu2,κv2,κw2,κx2,κy2,κz2,κa3,eq_self,κb3,κc3,zL]; rfl
    exact ret_ ⟨.inl rfl,_,rfl,AVle.refl _⟩
  | true =>
  refine cond_ rfl (fun h => by simp at h) (fun _ => ?_)
  refine seq_ex (σ'' := St.of [(1,.box 1 0),(49,rBool (!sxB p))] [(1,p.xs)] [] 0) ?_ ?_
  · unfold sxB
    cases hb : dsB p.dc p.db <;> cases hc : stB p.f1 p.f2 p.f3 p.f4 p.b1 p.b2 p.b3 p.b4 p.sr p.sm p.sw <;> cases hd : blB p.c1 p.c2 p.c3 p.c4 p.c5 p.c6 p.bm
    all_goals exact ⟨_,by simp -implicitDefEqProofs only [pl_Validate.r11,Pl.xs,rBool,rInt,ge_iff_le,gt_iff_lt,depth_ValidState.S,st_Valid.S,bl_Valid.S,hb,hc,hd,κa,κb,κc,κd,κe,κf,κg,κh,κi,κj,κk,κl,κm,κn,κo,κp,κq,κr,κs,κt,κu,κv,κw,κx,κy,κz,κa1,κb1,κc1,κd1,κe1,κf1,κg1,κh1,κi1,κj1,κk1,κl1,κm1,κn1,κo1,κp1,κq1,κr1,κs1,if_true,if_false,reduceIte,κt1,κu1,κv1,κw1,κx1,κy1,κz1,κa2,κb2,κc2,κd2,κe2,κf2,κg2,κh2,κi2,κj2,κk2,κl2,κm2,κn2,κo2,κp2,κq2,reduceCtorEq,κr2,κs2,κt2,κu2,κv2,κw2,κx2,κy2,κz2,κa3,eq_self,κb3,κc3,zL]; rfl,sub0 _ _ _ rfl rfl rfl rfl⟩
  cases h5 : sxB p with
  | false =>
    have hV : validP p = 16 := by unfold validP; rw [if_neg (by rw [h0]; simp),if_neg (by rw [h1]; simp),if_neg (by rw [h2]; simp),if_neg (by rw [h3]; simp),if_neg (by rw [h4]; simp),if_pos h5]
    rw [hV]
    refine cond_ rfl (fun _ => ?_) (fun h => by simp at h)
    refine seq_reg (σ' := ?_) ?_ ?_
    rotate_left
    · simp -implicitDefEqProofs only [pl_Validate.r12,κa,κb,κc,κd,κe,κf,κg,κh,κi,κj,κk,κl,κm,κn,κo,κp,κq,κr,κs,κt,κu,κv,κw,κx,κy,κz,κa1,κb1,κc1,κd1,κe1,κf1,κg1,κh1,κi1,κj1,κk1,κl1,κm1,κn1,κo1,κp1,κq1,κr1,κs1,if_true,if_false,reduceIte,κt1,κu1,κv1,κw1,κx1,κy1,κz1,κa2,κb2,κc2,κd2,κe2,κf2,κg2,κh2,κi2,κj2,κk2,κl2,κm2,κn2,κo2,κp2,κq2,reduceCtorEq,κr2,κs2,κt2,κu2,κv2,κw2,κx2,κy2,κz2,κa3,eq_self,κb3,κc3,zL]; rfl
    exact ret_ ⟨.inl rfl,_,rfl,AVle.refl _⟩
  | true =>
  refine cond_ rfl (fun h => by simp at h) (fun _ => ?_)
  refine seq_ex (σ'' := St.of [(1,.box 1 0),(66,rBool (!fmB p))] [(1,p.xs)] [] 0) ?_ ?_
  · by_cases c0 : p.fmt < 1
    · have hp : fmB p = false := decide_eq_false (fun h => by have := h.1; omega)
      rw [hp]
      exact ⟨_,by simp -implicitDefEqProofs only [pl_Validate.r13,Pl.xs,rBool,rInt,ge_iff_le,gt_iff_lt,depth_Bits.S,c0,κa,κb,κc,κd,κe,κf,κg,κh,κi,κj,κk,κl,κm,κn,κo,κp,κq,κr,κs,κt,κu,κv,κw,κx,κy,κz,κa1,κb1,κc1,κd1,κe1,κf1,κg1,κh1,κi1,κj1,κk1,κl1,κm1,κn1,κo1,κp1,κq1,κr1,κs1,if_true,if_false,reduceIte,κt1,κu1,κv1,κw1,κx1,κy1,κz1,κa2,κb2,κc2,κd2,κe2,κf2,κg2,κh2,κi2,κj2,κk2,κl2,κm2,κn2,κo2,κp2,κq2,reduceCtorEq,κr2,κs2,κt2,κu2,κv2,κw2,κx2,κy2,κz2,κa3,eq_self,κb3,κc3,zL]; rfl,sub0 _ _ _ rfl rfl rfl rfl⟩
    by_cases c1 : 6 < p.fmt
    · have hp : fmB p = false := decide_eq_false (fun h => by have := h.2.1; omega)
      rw [hp]
      exact ⟨_,by simp -implicitDefEqProofs only [pl_Validate.r13,Pl.xs,rBool,rInt,ge_iff_le,gt_iff_lt,depth_Bits.S,c0,c1,κa,κb,κc,κd,κe,κf,κg,κh,κi,κj,κk,κl,κm,κn,κo,κp,κq,κr,κs,κt,κu,κv,κw,κx,κy,κz,κa1,κb1,κc1,κd1,κe1,κf1,κg1,κh1,κi1,κj1,κk1,κl1,κm1,κn1,κo1,κp1,κq1,κr1,κs1,if_true,if_false,reduceIte,κt1,κu1,κv1,κw1,κx1,κy1,κz1,κa2,κb2,κc2,κd2,κe2,κf2,κg2,κh2,κi2,κj2,κk2,κl2,κm2,κn2,κo2,κp2,κq2,reduceCtorEq,κr2,κs2,κt2,κu2,κv2,κw2,κx2,κy2,κz2,κa3,eq_self,κb3,κc3,zL]; rfl,sub0 _ _ _ rfl rfl rfl rfl⟩
    by_cases c2 : bitsF p.dfm < 0
    · have hp : fmB p = false := decide_eq_false (fun h => by have := h.2.2; omega)
      rw [hp]
      exact ⟨_,by simp -implicitDefEqProofs only [pl_Validate.r13,Pl.xs,rBool,rInt,ge_iff_le,gt_iff_lt,depth_Bits.S,c0,c1,c2,κa,κb,κc,κd,κe,κf,κg,κh,κi,κj,κk,κl,κm,κn,κo,κp,κq,κr,κs,κt,κu,κv,κw,κx,κy,κz,κa1,κb1,κc1,κd1,κe1,κf1,κg1,κh1,κi1,κj1,κk1,κl1,κm1,κn1,κo1,κp1,κq1,κr1,κs1,if_true,if_false,reduceIte,κt1,κu1,κv1,κw1,κx1,κy1,κz1,κa2,κb2,κc2,κd2,κe2,κf2,κg2,κh2,κi2,κj2,κk2,κl2,κm2,κn2,κo2,κp2,κq2,reduceCtorEq,κr2,κs2,κt2,κu2,κv2,κw2,κx2,κy2,κz2,κa3,eq_self,κb3,κc3,zL]; rfl,sub0 _ _ _ rfl rfl rfl rfl⟩
    have hp : fmB p = true := decide_eq_true ⟨by omega,by omega,by omega⟩
    rw [hp]
    exact ⟨_,by simp -implicitDefEqProofs only [pl_Validate.r13,Pl.xs,rBool,rInt,ge_iff_le,gt_iff_lt,depth_Bits.S,c0,c1,c2,κa,κb,κc,κd,κe,κf,κg,κh,κi,κj,κk,κl,κm,κn,κo,κp,κq,κr,κs,κt,κu,κv,κw,κx,κy,κz,κa1,κb1,κc1,κd1,κe1,κf1,κg1,κh1,κi1,κj1,κk1,κl1,κm1,κn1,κo1,κp1,κq1,κr1,κs1,if_true,if_false,reduceIte,κt1,κu1,κv1,κw1,κx1,κy1,κz1,κa2,κb2,κc2,κd2,κe2,κf2,κg2,κh2,κi2,κj2,κk2,κl2,κm2,κn2,κo2,κp2,κq2,reduceCtorEq,κr2,κs2,κt2,κu2,κv2,κw2,κx2,κy2,κz2,κa3,eq_self,κb3,κc3,zL]; rfl,sub0 _ _ _ rfl rfl rfl rfl⟩
  cases h6 : fmB p with
  | false =>
    have hV : validP p = 14 := by unfold validP; rw [if_neg (by rw [h0]; simp),if_neg (by rw [h1]; simp),if_neg (by rw [h2]; simp),if_neg (by rw [h3]; simp),if_neg (by rw [h4]; simp),if_neg (by rw [h5]; simp),if_pos h6]
    rw [hV]
    refine cond_ rfl (fun _ => ?_) (fun h => by simp at h)
    refine seq_reg (σ' := ?_) ?_ ?_
    rotate_left
    · simp -implicitDefEqProofs only [pl_Validate.r14,κa,κb,κc,κd,κe,κf,κg,κh,κi,κj,κk,κl,κm,κn,κo,κp,κq,κr,κs,κt,κu,κv,κw,κx,κy,κz,κa1,κb1,κc1,κd1,κe1,κf1,κg1,κh1,κi1,κj1,κk1,κl1,κm1,κn1,κo1,κp1,κq1,κr1,κs1,if_true,if_false,reduceIte,κt1,κu1,κv1,κw1,κx1,κy1,κz1,κa2,κb2,κc2,κd2,κe2,κf2,κg2,κh2,κi2,κj2,κk2,κl2,κm2,κn2,κo2,κp2,κq2,reduceCtorEq,κr2,κs2,κt2,κu2,κv2,κw2,κx2,κy2,κz2,κa3,eq_self,κb3,κc3,zL]; rfl
    exact ret_ ⟨.inl rfl,_,rfl,AVle.refl _⟩
  | true =>
  refine cond_ rfl (fun h => by simp at h) (fun _ => ?_)
  refine seq_ex (σ'' := St.of [(1,.box 1 0),(81,rBool (!sampB p.smp))] [(1,p.xs)] [] 0) ?_ ?_
  · cases hb : sampB p.smp
    all_goals exact ⟨_,by simp -implicitDefEqProofs only [pl_Validate.r15,Pl.xs,rBool,rInt,ge_iff_le,gt_iff_lt,cov_ValidSamples.S,hb,κa,κb,κc,κd,κe,κf,κg,κh,κi,κj,κk,κl,κm,κn,κo,κp,κq,κr,κs,κt,κu,κv,κw,κx,κy,κz,κa1,κb1,κc1,κd1,κe1,κf1,κg1,κh1,κi1,κj1,κk1,κl1,κm1,κn1,κo1,κp1,κq1,κr1,κs1,if_true,if_false,reduceIte,κt1,κu1,κv1,κw1,κx1,κy1,κz1,κa2,κb2,κc2,κd2,κe2,κf2,κg2,κh2,κi2,κj2,κk2,κl2,κm2,κn2,κo2,κp2,κq2,reduceCtorEq,κr2,κs2,κt2,κu2,κv2,κw2,κx2,κy2,κz2,κa3,eq_self,κb3,κc3,zL]; rfl,sub0 _ _ _ rfl rfl rfl rfl⟩
  cases h7 : sampB p.smp with
  | false =>
    have hV : validP p = 15 := by unfold validP; rw [if_neg (by rw [h0]; simp),if_neg (by rw [h1]; simp),if_neg (by rw [h2]; simp),if_neg (by rw [h3]; simp),if_neg (by rw [h4]; simp),if_neg (by rw [h5]; simp),if_neg (by rw [h6]; simp),if_pos h7]
    rw [hV]
    refine cond_ rfl (fun _ => ?_) (fun h => by simp at h)
    refine seq_reg (σ' := ?_) ?_ ?_
    rotate_left
    · simp -implicitDefEqProofs only [pl_Validate.r16,κa,κb,κc,κd,κe,κf,κg,κh,κi,κj,κk,κl,κm,κn,κo,κp,κq,κr,κs,κt,κu,κv,κw,κx,κy,κz,κa1,κb1,κc1,κd1,κe1,κf1,κg1,κh1,κi1,κj1,κk1,κl1,κm1,κn1,κo1,κp1,κq1,κr1,κs1,if_true,if_false,reduceIte,κt1,κu1,κv1,κw1,κx1,κy1,κz1,κa2,κb2,κc2,κd2,κe2,κf2,κg2,κh2,κi2,κj2,κk2,κl2,κm2,κn2,κo2,κp2,κq2,reduceCtorEq,κr2,κs2,κt2,κu2,κv2,κw2,κx2,κy2,κz2,κa3,eq_self,κb3,κc3,zL]; rfl
    exact ret_ ⟨.inl rfl,_,rfl,AVle.refl _⟩
  | true =>
  refine cond_ rfl (fun h => by simp at h) (fun _ => ?_)
  refine skip_ (norm_ ?_)
  have hV : validP p = 0 := by unfold validP; rw [if_neg (by rw [h0]; simp),if_neg (by rw [h1]; simp),if_neg (by rw [h2]; simp),if_neg (by rw [h3]; simp),if_neg (by rw [h4]; simp),if_neg (by rw [h5]; simp),if_neg (by rw [h6]; simp),if_neg (by rw [h7]; simp)]
  rw [hV]
  refine seq_reg (σ' := ?_) ?_ ?_
  rotate_left
  · simp -implicitDefEqProofs only [pl_Validate.r17,κa,κb,κc,κd,κe,κf,κg,κh,κi,κj,κk,κl,κm,κn,κo,κp,κq,κr,κs,κt,κu,κv,κw,κx,κy,κz,κa1,κb1,κc1,κd1,κe1,κf1,κg1,κh1,κi1,κj1,κk1,κl1,κm1,κn1,κo1,κp1,κq1,κr1,κs1,if_true,if_false,reduceIte,κt1,κu1,κv1,κw1,κx1,κy1,κz1,κa2,κb2,κc2,κd2,κe2,κf2,κg2,κh2,κi2,κj2,κk2,κl2,κm2,κn2,κo2,κp2,κq2,reduceCtorEq,κr2,κs2,κt2,κu2,κv2,κw2,κx2,κy2,κz2,κa3,eq_self,κb3,κc3,zL]; rfl
  exact ret_ ⟨.inl rfl,_,rfl,AVle.refl _⟩
end Go.Proofs.Ytjbhhdocbejccaa.Pl
