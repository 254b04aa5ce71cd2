/- Chapter 43: the reference's stack: loops, next. No condition beyond those that each theorem states. -/
import Derived.Test.YtjbhhdocbejccaaJ
import Derived.Test.YtjbhhdocbejccaaSt6
namespace Go.Proofs.Ytjbhhdocbejccaa.Pl
open Go Go.RowKit Go.Proofs.Ytjbhhdocbejccaa.Am
open Go.Proofs.Ytjbhhdocbejccaa.Am renaming ex_nil → κa,ex_cons → κb,exK_some → κc,st_n → κd,st_g → κe,gd_b → κf,gd_u → κg,rn_v → κh,rn_m → κi,rn_s → κj,rn_a → κk,think → κl,prep → κm,mkDsts → κn,ev → κp,upd → κq,init → κr,forgetBox → κu,pvs → κx,fillX → κy,chunks → κz,binV → κa1,xints → κb1,ldX → κc1,baseOk → κe1,fg_p → κf1,fg_tk → κg1,mkG → κh1,tab → κj1,c3 → κa3
open Go.Proofs.Ytjbhhdocbejccaa.Am.St renaming clear → κo,put → κt,of → κk1
open Go.Proofs.Ytjbhhdocbejccaa.Am.PV renaming av → κs
open Go.Proofs.Ytjbhhdocbejccaa.Am.AV renaming cells → κv,pv → κw,plain → κd1
open Go.Proofs.Ytjbhhdocbejccaa.Am.Sig renaming spec → κi1
open List renaming getElem?_cons_zero → κl1,getElem?_cons_succ → κm1,getElem?_nil → κn1,map_cons → κu1,map_nil → κv1,drop_succ_cons → κw1,drop_zero → κx1,take_succ_cons → κy1,take_zero → κz1,length_cons → κa2,length_nil → κb2,length_append → κc2,cons_append → κd2,nil_append → κe2,append_nil → κf2
open Option renaming map_some → κo1,map_none → κp1,bind_some → κq1,isSome_some → κr1,isSome_none → κs1
open Nat renaming reduceEqDiff → κt1,reduceAdd → κg2,reduceMul → κh2,reduceLeDiff → κi2,reduceBEq → κj2,zero_le → κk2,le_refl → κl2,zero_add → κm2,add_zero → κn2
open Bool renaming not_true → κo2,not_false → κp2,false_eq_true → κq2,true_eq_false → κc3
open Int renaming reduceBEq → κr2,reduceBNe → κs2,reduceLT → κt2,reduceLE → κu2,reduceAdd → κv2,reduceToNat → κw2,toNat_zero → κx2,reduceEq → κy2,toNat_natCast → κz2,le_refl → κb3
set_option linter.unusedVariables false
set_option linter.unusedSimpArgs false
set_option maxHeartbeats 16000000
set_option maxRecDepth 100000
def eI (n : Int) : List CV := [.int .i64 n]
theorem eI_inj (a b : Int) (h : eI a = eI b) : a = b := by
  simp only [eI,List.cons.injEq,CV.int.injEq,true_and,and_true] at h; exact h
def encIs (l : List Int) : List PV := [.c (.sl 1 (l.map eI))]
theorem encIs_inj (a b : List Int) (h : encIs a = encIs b) : a = b := by
  simp only [encIs,List.cons.injEq,PV.c.injEq,CV.sl.injEq,true_and,and_true] at h
  exact map_inj eI_inj h
noncomputable def r22_loops.S : Am.Spec := cSpec encIs fun l => if l.length ≤ 20000 then some (rInt (l.count 3 : Nat)) else none
theorem loopsS_eq (l : List Int) (h : l.length ≤ 20000) : r22_loops.S [.c (.sl 1 (l.map eI))] = some (rInt (l.count 3 : Nat)) := by
  have := cSpec_eq (res := fun l => if l.length ≤ 20000 then some (rInt (l.count 3 : Nat)) else none) encIs_inj l
  rw [if_pos h] at this
  exact this
theorem eI_get (l : List Int) (j : Nat) (h : j < l.length) : (l.map eI)[j]? = some [.int .i64 l[j]] := by simp [h,eI]
theorem r22_loops.ok : SpecOK Try.prog 86 r22_loops.S := cSpec_ok fun l r h => by
  (try simp only at h)
  split at h
  case isFalse => cases h
  rename_i hl
  cases h
  refine fnLaw Try.func86 r22_loops.tr rfl hE ok_nil ?_
  unfold r22_loops.m
  refine seq_reg (σ' := ?_) ?_ ?_
  rotate_left
  · simp -implicitDefEqProofs only [r22_loops.r0,κa,κb,κc,κd,κe,κf,κg,κh,κi,κj,κk,κl,κm,κn,κo,κp,κq,κr,κs,κt,κu,κv,κw,κx,κy,κz,κa1,κb1,κc1,κd1,κe1,κf1,κg1,κh1,κi1,κj1,κk1,κl1,κm1,κn1,κo1,κp1,κq1,κr1,κs1,if_true,if_false,reduceIte,κt1,κu1,κv1,κw1,κx1,κy1,κz1,κa2,κb2,κc2,κd2,κe2,κf2,κg2,κh2,κi2,κj2,κk2,κl2,κm2,κn2,κo2,κp2,κq2,reduceCtorEq,κr2,κs2,κt2,κu2,κv2,κw2,κx2,κy2,κz2,κa3,eq_self,κb3,κc3,zL]; rfl
  refine seq_reg (σ' := ?_) ?_ ?_
  rotate_left
  · simp -implicitDefEqProofs only [r22_loops.r1,κa,κb,κc,κd,κe,κf,κg,κh,κi,κj,κk,κl,κm,κn,κo,κp,κq,κr,κs,κt,κu,κv,κw,κx,κy,κz,κa1,κb1,κc1,κd1,κe1,κf1,κg1,κh1,κi1,κj1,κk1,κl1,κm1,κn1,κo1,κp1,κq1,κr1,κs1,if_true,if_false,reduceIte,κt1,κu1,κv1,κw1,κx1,κy1,κz1,κa2,κb2,κc2,κd2,κe2,κf2,κg2,κh2,κi2,κj2,κk2,κl2,κm2,κn2,κo2,κp2,κq2,reduceCtorEq,κr2,κs2,κt2,κu2,κv2,κw2,κx2,κy2,κz2,κa3,eq_self,κb3,κc3,zL]; rfl
  refine seq_ (seq_ ?_)
  refine seq_ex (σ'' := St.of [(0,.c (.p (.sl 1 (l.map eI)))),(3,rInt 0),(4,rInt 0)] [] [] (0)) ⟨_,by simp -implicitDefEqProofs only [r22_loops.r2,κa,κb,κc,κd,κe,κf,κg,κh,κi,κj,κk,κl,κm,κn,κo,κp,κq,κr,κs,κt,κu,κv,κw,κx,κy,κz,κa1,κb1,κc1,κd1,κe1,κf1,κg1,κh1,κi1,κj1,κk1,κl1,κm1,κn1,κo1,κp1,κq1,κr1,κs1,if_true,if_false,reduceIte,κt1,κu1,κv1,κw1,κx1,κy1,κz1,κa2,κb2,κc2,κd2,κe2,κf2,κg2,κh2,κi2,κj2,κk2,κl2,κm2,κn2,κo2,κp2,κq2,reduceCtorEq,κr2,κs2,κt2,κu2,κv2,κw2,κx2,κy2,κz2,κa3,eq_self,κb3,κc3,zL,encIs]; rfl,sub_of (all_cons rfl (all_cons rfl (all_cons rfl all_nil))) all_nil all_nil (Nat.le_refl _)⟩ ?_
  refine block_ ?_
  refine loop_ (fun n σ => ∃ j : Nat,j ≤ l.length ∧ n = l.length - j ∧ σ = St.of [(0,.c (.p (.sl 1 (l.map eI)))),(3,rInt ((l.take j).count 3 : Nat)),(4,rInt j)] [] [] 0)
    l.length _ (Sub.refl _) ⟨0,Nat.zero_le _,rfl,rfl⟩ ?_
  rintro n σ ⟨j,hj,rfl,rfl⟩
  unfold r22_loops.b7
  refine seq_ (seq_ ?_)
  refine seq_reg (σ' := ?_) ?_ ?_
  rotate_left
  · simp -implicitDefEqProofs only [r22_loops.r3,κa,κb,κc,κd,κe,κf,κg,κh,κi,κj,κk,κl,κm,κn,κo,κp,κq,κr,κs,κt,κu,κv,κw,κx,κy,κz,κa1,κb1,κc1,κd1,κe1,κf1,κg1,κh1,κi1,κj1,κk1,κl1,κm1,κn1,κo1,κp1,κq1,κr1,κs1,if_true,if_false,reduceIte,κt1,κu1,κv1,κw1,κx1,κy1,κz1,κa2,κb2,κc2,κd2,κe2,κf2,κg2,κh2,κi2,κj2,κk2,κl2,κm2,κn2,κo2,κp2,κq2,reduceCtorEq,κr2,κs2,κt2,κu2,κv2,κw2,κx2,κy2,κz2,κa3,eq_self,κb3,κc3,zL,rInt,List.length_map]; rfl
  refine cond_ rfl (fun h => skip_ (norm_ ?_)) (fun h => ?_)
  · have hlt : j < l.length := by have := of_decide_eq_true h; omega
    have hg := eI_get l j hlt
    have hc : (l.take (j + 1)).count 3 = (l.take j).count 3 + (if l[j] = 3 then 1 else 0) := by
      rw [List.take_add_one,List.getElem?_eq_getElem hlt,List.count_append]
      simp [List.count_cons]
    have hb : (l.take j).count 3 ≤ j := Nat.le_trans List.count_le_length (by simp; omega)
    have hwr : IntKind.i64.wrap ((j : Int) + 1) = ((j + 1 : Nat) : Int) := by rw [i64_w' (by omega) (by omega)]; omega
    have hj0 : (0 : Int) ≤ (j : Int) := by omega
    refine seq_ (block_ (seq_ ?_))
    have fin : ∀ σ : St,σ.tm 0 = some (.c (.p (.sl 1 (l.map eI)))) → σ.tm 3 = some (rInt ((l.take (j + 1)).count 3 : Nat)) → σ.tm 4 = some (rInt j) → σ.nt = 0 → mwp (mkG []) (.reg r22_loops.r6) (outSeq (fun σ' => ∃ m σ'',m < l.length - j ∧ Sub σ'' σ' ∧ ∃ j' : Nat,j' ≤ l.length ∧ m = l.length - j' ∧ σ'' = St.of [(0,.c (.p (.sl 1 (l.map eI)))),(3,rInt ((l.take j').count 3 : Nat)),(4,rInt j')] [] [] 0) (outBlock 0 (outSeq (fun σ' => ∃ σ'',Sub σ'' σ' ∧ mwp (mkG []) (.seq (.reg r22_loops.r8) .ret) (fun e σ => (e = .ret ∨ e = .normal) ∧ ∃ r',result σ (.tmp 2) = some r' ∧ AVle r' (rInt (l.count 3 : Nat))) σ'') (fun e σ => (e = .ret ∨ e = .normal) ∧ ∃ r',result σ (.tmp 2) = some r' ∧ AVle r' (rInt (l.count 3 : Nat)))))) σ := fun σ h0 h3 h4 h5 => by
      refine last_reg (σ' := ?_) ?_ ?_
      rotate_left
      · simp -implicitDefEqProofs only [r22_loops.r6,κa,κb,κc,κd,κe,κf,κg,κh,κi,κj,κk,κl,κm,κn,κo,κp,κq,κr,κs,κt,κu,κv,κw,κx,κy,κz,κa1,κb1,κc1,κd1,κe1,κf1,κg1,κh1,κi1,κj1,κk1,κl1,κm1,κn1,κo1,κp1,κq1,κr1,κs1,if_true,if_false,reduceIte,κt1,κu1,κv1,κw1,κx1,κy1,κz1,κa2,κb2,κc2,κd2,κe2,κf2,κg2,κh2,κi2,κj2,κk2,κl2,κm2,κn2,κo2,κp2,κq2,reduceCtorEq,κr2,κs2,κt2,κu2,κv2,κw2,κx2,κy2,κz2,κa3,eq_self,κb3,κc3,zL,h4,rInt,hwr]; rfl
      exact round_ (m := l.length - (j + 1)) (σ'' := St.of [(0,.c (.p (.sl 1 (l.map eI)))),(3,rInt ((l.take (j + 1)).count 3 : Nat)),(4,rInt ((j + 1 : Nat) : Int))] [] [] 0) (by omega) (sub_of (all_cons h0 (all_cons h3 (all_cons rfl all_nil))) all_nil all_nil (Nat.le_of_eq h5)) ⟨j + 1,hlt,rfl,rfl⟩
    by_cases h3 : l[j] = 3
    · have g3 : (l[j] == 3) = true := by simpa using h3
      rw [if_pos h3] at hc
      have hw3 : IntKind.i64.wrap (((l.take j).count 3 : Nat) + 1 : Int) = ((l.take (j + 1)).count 3 : Nat) := by rw [hc,i64_w' (by omega) (by omega)]; omega
      refine seq_reg (σ' := ?_) ?_ ?_
      rotate_left
      · simp -implicitDefEqProofs only [r22_loops.r4,κa,κb,κc,κd,κe,κf,κg,κh,κi,κj,κk,κl,κm,κn,κo,κp,κq,κr,κs,κt,κu,κv,κw,κx,κy,κz,κa1,κb1,κc1,κd1,κe1,κf1,κg1,κh1,κi1,κj1,κk1,κl1,κm1,κn1,κo1,κp1,κq1,κr1,κs1,if_true,if_false,reduceIte,κt1,κu1,κv1,κw1,κx1,κy1,κz1,κa2,κb2,κc2,κd2,κe2,κf2,κg2,κh2,κi2,κj2,κk2,κl2,κm2,κn2,κo2,κp2,κq2,reduceCtorEq,κr2,κs2,κt2,κu2,κv2,κw2,κx2,κy2,κz2,κa3,eq_self,κb3,κc3,zL,hg,hj0,rInt,g3]; rfl
      refine cond_ rfl (fun _ => ?_) (fun h => by cases h)
      refine last_reg (σ' := ?_) ?_ ?_
      rotate_left
      · simp -implicitDefEqProofs only [r22_loops.r5,κa,κb,κc,κd,κe,κf,κg,κh,κi,κj,κk,κl,κm,κn,κo,κp,κq,κr,κs,κt,κu,κv,κw,κx,κy,κz,κa1,κb1,κc1,κd1,κe1,κf1,κg1,κh1,κi1,κj1,κk1,κl1,κm1,κn1,κo1,κp1,κq1,κr1,κs1,if_true,if_false,reduceIte,κt1,κu1,κv1,κw1,κx1,κy1,κz1,κa2,κb2,κc2,κd2,κe2,κf2,κg2,κh2,κi2,κj2,κk2,κl2,κm2,κn2,κo2,κp2,κq2,reduceCtorEq,κr2,κs2,κt2,κu2,κv2,κw2,κx2,κy2,κz2,κa3,eq_self,κb3,κc3,zL,rInt,hw3]; rfl
      exact ⟨_,Sub.refl _,fin _ rfl rfl rfl rfl⟩
    · have g3 : (l[j] == 3) = false := by simpa using h3
      have hc' : (l.take (j + 1)).count 3 = (l.take j).count 3 := by rw [hc,if_neg h3]; rfl
      refine seq_reg (σ' := ?_) ?_ ?_
      rotate_left
      · simp -implicitDefEqProofs only [r22_loops.r4,κa,κb,κc,κd,κe,κf,κg,κh,κi,κj,κk,κl,κm,κn,κo,κp,κq,κr,κs,κt,κu,κv,κw,κx,κy,κz,κa1,κb1,κc1,κd1,κe1,κf1,κg1,κh1,κi1,κj1,κk1,κl1,κm1,κn1,κo1,κp1,κq1,κr1,κs1,if_true,if_false,reduceIte,κt1,κu1,κv1,κw1,κx1,κy1,κz1,κa2,κb2,κc2,κd2,κe2,κf2,κg2,κh2,κi2,κj2,κk2,κl2,κm2,κn2,κo2,κp2,κq2,reduceCtorEq,κr2,κs2,κt2,κu2,κv2,κw2,κx2,κy2,κz2,κa3,eq_self,κb3,κc3,zL,hg,hj0,rInt,g3]; rfl
      refine cond_ rfl (fun h => by cases h) (fun _ => skip_ ?_)
      exact ⟨_,Sub.refl _,fin _ rfl (by rw [hc']; rfl) rfl rfl⟩
  · have hge : j = l.length := by have := of_decide_eq_false h; omega
    subst hge
    refine exit_ (norm_ ?_)
    refine seq_reg (σ' := ?_) ?_ ?_
    rotate_left
    · simp -implicitDefEqProofs only [r22_loops.r8,κa,κb,κc,κd,κe,κf,κg,κh,κi,κj,κk,κl,κm,κn,κo,κp,κq,κr,κs,κt,κu,κv,κw,κx,κy,κz,κa1,κb1,κc1,κd1,κe1,κf1,κg1,κh1,κi1,κj1,κk1,κl1,κm1,κn1,κo1,κp1,κq1,κr1,κs1,if_true,if_false,reduceIte,κt1,κu1,κv1,κw1,κx1,κy1,κz1,κa2,κb2,κc2,κd2,κe2,κf2,κg2,κh2,κi2,κj2,κk2,κl2,κm2,κn2,κo2,κp2,κq2,reduceCtorEq,κr2,κs2,κt2,κu2,κv2,κw2,κx2,κy2,κz2,κa3,eq_self,κb3,κc3,zL,rInt,List.take_length]; rfl
    exact ret_ ⟨.inl rfl,_,rfl,AVle.refl _⟩
/-! ### next -/
def nextL (st op : Int) (M : List Int) : List Int := if op = 43 then M ++ [1] else if op = 44 then M.dropLast ++ [2] else if op = 45 then M.dropLast else if op = 46 then M ++ [3] else if op = 49 then M.dropLast else M
def nextB (st op : Int) (M : List Int) : Bool := if op = 43 then true else if op = 44 then (M.getLast?.getD 0 == 1) else if op = 45 then (M.getLast?.getD 0 == 1 || M.getLast?.getD 0 == 2) else if op = 46 then decide (((M.count 3 : Nat) : Int) < 3) else if op = 49 then (M.getLast?.getD 0 == 3) else if op = 47 ∨ op = 48 then decide (((M.count 3 : Nat) : Int) > 0) else if op = 50 then (st == 3) else if op = 51 ∨ op = 52 then (st == 2) else true
def encNx (a : Int × Int × List Int) : List PV := [.c (.int .i64 a.1),.c (.int .i64 a.2.1),.c (.sl 1 (a.2.2.map eI))]
theorem encNx_inj (a b : Int × Int × List Int) (h : encNx a = encNx b) : a = b := by
  obtain ⟨a1,a2,a3⟩ := a; obtain ⟨b1,b2,b3⟩ := b
  simp only [encNx,List.cons.injEq,PV.c.injEq,CV.int.injEq,CV.sl.injEq,true_and,and_true] at h
  rw [h.1,h.2.1,map_inj eI_inj h.2.2]
noncomputable def r22_next.S : Am.Spec := cSpec encNx fun a => if a.2.2.length ≤ 20000 then some (.tup [.sl 1 ((nextL a.1 a.2.1 a.2.2).map eI),.bool (nextB a.1 a.2.1 a.2.2)]) else none
theorem nextS_eq (st op : Int) (M : List Int) (h : M.length ≤ 20000) : r22_next.S [.c (.int .i64 st),.c (.int .i64 op),.c (.sl 1 (M.map eI))] = some (.tup [.sl 1 ((nextL st op M).map eI),.bool (nextB st op M)]) := by
  have := cSpec_eq (res := fun a : Int × Int × List Int => if a.2.2.length ≤ 20000 then some (AV.tup [.sl 1 ((nextL a.1 a.2.1 a.2.2).map eI),.bool (nextB a.1 a.2.1 a.2.2)]) else none) encNx_inj (st,op,M)
  simp only at this
  rw [if_pos h] at this
  exact this
theorem r22_next.ok : SpecOK Try.prog 73 r22_next.S := cSpec_ok fun a r h => by
  obtain ⟨st,op,M⟩ := a
  (try simp only at h)
  split at h
  case isFalse => cases h
  rename_i hl
  cases h
  refine fnLaw Try.func73 r22_next.tr rfl hE (ok_cons r22_loops.ok ok_nil) ?_
  have qlo := loopsS_eq M hl
  unfold r22_next.m
  refine seq_reg (σ' := ?_) ?_ ?_
  rotate_left
  · simp -implicitDefEqProofs only [r22_next.r0,κa,κb,κc,κd,κe,κf,κg,κh,κi,κj,κk,κl,κm,κn,κo,κp,κq,κr,κs,κt,κu,κv,κw,κx,κy,κz,κa1,κb1,κc1,κd1,κe1,κf1,κg1,κh1,κi1,κj1,κk1,κl1,κm1,κn1,κo1,κp1,κq1,κr1,κs1,if_true,if_false,reduceIte,κt1,κu1,κv1,κw1,κx1,κy1,κz1,κa2,κb2,κc2,κd2,κe2,κf2,κg2,κh2,κi2,κj2,κk2,κl2,κm2,κn2,κo2,κp2,κq2,reduceCtorEq,κr2,κs2,κt2,κu2,κv2,κw2,κx2,κy2,κz2,κa3,eq_self,κb3,κc3,zL,encNx]; rfl
  refine seq_reg (σ' := ?_) ?_ ?_
  rotate_left
  · simp -implicitDefEqProofs only [r22_next.r1,κa,κb,κc,κd,κe,κf,κg,κh,κi,κj,κk,κl,κm,κn,κo,κp,κq,κr,κs,κt,κu,κv,κw,κx,κy,κz,κa1,κb1,κc1,κd1,κe1,κf1,κg1,κh1,κi1,κj1,κk1,κl1,κm1,κn1,κo1,κp1,κq1,κr1,κs1,if_true,if_false,reduceIte,κt1,κu1,κv1,κw1,κx1,κy1,κz1,κa2,κb2,κc2,κd2,κe2,κf2,κg2,κh2,κi2,κj2,κk2,κl2,κm2,κn2,κo2,κp2,κq2,reduceCtorEq,κr2,κs2,κt2,κu2,κv2,κw2,κx2,κy2,κz2,κa3,eq_self,κb3,κc3,zL]; rfl
  refine seq_reg (σ' := ?_) ?_ ?_
  rotate_left
  · simp -implicitDefEqProofs only [r22_next.r2,κa,κb,κc,κd,κe,κf,κg,κh,κi,κj,κk,κl,κm,κn,κo,κp,κq,κr,κs,κt,κu,κv,κw,κx,κy,κz,κa1,κb1,κc1,κd1,κe1,κf1,κg1,κh1,κi1,κj1,κk1,κl1,κm1,κn1,κo1,κp1,κq1,κr1,κs1,if_true,if_false,reduceIte,κt1,κu1,κv1,κw1,κx1,κy1,κz1,κa2,κb2,κc2,κd2,κe2,κf2,κg2,κh2,κi2,κj2,κk2,κl2,κm2,κn2,κo2,κp2,κq2,reduceCtorEq,κr2,κs2,κt2,κu2,κv2,κw2,κx2,κy2,κz2,κa3,eq_self,κb3,κc3,zL]; rfl
  suffices H : ∀ (X : XV) (σ : St),X = .tk .tight 1 (M.dropLast.map eI) ∧ M = [] ∨ X = .tk (.live 0) 1 (M.dropLast.map eI) ∧ σ.lv 0 = true ∧ σ.nt = 1 → σ.tm 0 = some (.c (.p (.int .i64 st))) → σ.tm 1 = some (.c (.p (.int .i64 op))) → σ.tm 2 = some (.c (.p (.sl 1 (M.map eI)))) → σ.tm 8 = some (rInt (M.getLast?.getD 0)) → σ.tm 9 = some (.c X) → mwp _ _ (fun e σ => (e = Exit.ret ∨ e = Exit.normal) ∧ ∃ r',result σ (.tup [6,7]) = some r' ∧ AVle r' (.tup [.sl 1 ((nextL st op M).map eI),.bool (nextB st op M)])) σ by
    refine seq_ (seq_ ?_)
    rcases nil_or_snoc M with rfl | ⟨L,x,rfl⟩
    · refine seq_reg (σ' := ?_) ?_ ?_
      rotate_left
      · simp -implicitDefEqProofs only [r22_next.r3,κa,κb,κc,κd,κe,κf,κg,κh,κi,κj,κk,κl,κm,κn,κo,κp,κq,κr,κs,κt,κu,κv,κw,κx,κy,κz,κa1,κb1,κc1,κd1,κe1,κf1,κg1,κh1,κi1,κj1,κk1,κl1,κm1,κn1,κo1,κp1,κq1,κr1,κs1,if_true,if_false,reduceIte,κt1,κu1,κv1,κw1,κx1,κy1,κz1,κa2,κb2,κc2,κd2,κe2,κf2,κg2,κh2,κi2,κj2,κk2,κl2,κm2,κn2,κo2,κp2,κq2,reduceCtorEq,κr2,κs2,κt2,κu2,κv2,κw2,κx2,κy2,κz2,κa3,eq_self,κb3,κc3,zL,List.map_nil,List.length_nil,Int.natCast_zero,gt_iff_lt,Int.lt_irrefl]; rfl
      refine cond_ rfl (fun h => by cases h) (fun _ => skip_ ?_)
      exact ⟨_,Sub.refl _,H _ _ (.inl ⟨rfl,rfl⟩) rfl rfl rfl rfl rfl⟩
    · have hlen : ((L ++ [x]).map eI).length = L.length + 1 := by simp
      have hgt : (((L.length + 1 : Nat) : Int) > 0) := by omega
      have hw : IntKind.i64.wrap (((L.length + 1 : Nat) : Int) - 1) = (L.length : Int) := by
        simp only [List.length_append,List.length_singleton] at hl
        rw [i64_w' (by omega) (by omega)]; omega
      have hg : ((L ++ [x]).map eI)[L.length]? = some [.int .i64 x] := by simp [eI]
      have hL0 : (0 : Int) ≤ (L.length : Int) := by omega
      have hL1 : (L.length : Int) ≤ ((L.length + 1 : Nat) : Int) := by omega
      have htk : ((L ++ [x]).map eI).take L.length = L.map eI := by simp
      have hb1 : (L.map eI).length = L.length := by simp
      have hb2 : L.length * 8 ≤ 140737488355328 := by
        simp only [List.length_append,List.length_singleton] at hl; omega
      have hb3 : L.length ≤ maxLen := by
        simp only [List.length_append,List.length_singleton] at hl; unfold maxLen; omega
      generalize hR : (L ++ [x]).map eI = R at *
      refine seq_reg (σ' := ?_) ?_ ?_
      rotate_left
      · simp -implicitDefEqProofs only [r22_next.r3,κa,κb,κc,κd,κe,κf,κg,κh,κi,κj,κk,κl,κm,κn,κo,κp,κq,κr,κs,κt,κu,κv,κw,κx,κy,κz,κa1,κb1,κc1,κd1,κe1,κf1,κg1,κh1,κi1,κj1,κk1,κl1,κm1,κn1,κo1,κp1,κq1,κr1,κs1,if_true,if_false,reduceIte,κt1,κu1,κv1,κw1,κx1,κy1,κz1,κa2,κb2,κc2,κd2,κe2,κf2,κg2,κh2,κi2,κj2,κk2,κl2,κm2,κn2,κo2,κp2,κq2,reduceCtorEq,κr2,κs2,κt2,κu2,κv2,κw2,κx2,κy2,κz2,κa3,eq_self,κb3,κc3,zL,hlen,hgt]; rfl
      refine cond_ rfl (fun _ => ?_) (fun h => by cases h)
      refine seq_reg (σ' := ?_) ?_ ?_
      rotate_left
      · simp -implicitDefEqProofs only [r22_next.r4,κa,κb,κc,κd,κe,κf,κg,κh,κi,κj,κk,κl,κm,κn,κo,κp,κq,κr,κs,κt,κu,κv,κw,κx,κy,κz,κa1,κb1,κc1,κd1,κe1,κf1,κg1,κh1,κi1,κj1,κk1,κl1,κm1,κn1,κo1,κp1,κq1,κr1,κs1,if_true,if_false,reduceIte,κt1,κu1,κv1,κw1,κx1,κy1,κz1,κa2,κb2,κc2,κd2,κe2,κf2,κg2,κh2,κi2,κj2,κk2,κl2,κm2,κn2,κo2,κp2,κq2,reduceCtorEq,κr2,κs2,κt2,κu2,κv2,κw2,κx2,κy2,κz2,κa3,eq_self,κb3,κc3,zL,hlen,hw,hL0,hg]; rfl
      refine last_reg (σ' := ?_) ?_ ?_
      rotate_left
      · simp -implicitDefEqProofs only [r22_next.r5,κa,κb,κc,κd,κe,κf,κg,κh,κi,κj,κk,κl,κm,κn,κo,κp,κq,κr,κs,κt,κu,κv,κw,κx,κy,κz,κa1,κb1,κc1,κd1,κe1,κf1,κg1,κh1,κi1,κj1,κk1,κl1,κm1,κn1,κo1,κp1,κq1,κr1,κs1,if_true,if_false,reduceIte,κt1,κu1,κv1,κw1,κx1,κy1,κz1,κa2,κb2,κc2,κd2,κe2,κf2,κg2,κh2,κi2,κj2,κk2,κl2,κm2,κn2,κo2,κp2,κq2,reduceCtorEq,κr2,κs2,κt2,κu2,κv2,κw2,κx2,κy2,κz2,κa3,eq_self,κb3,κc3,zL,hlen,hw,hL0,hL1,htk,hb1,hb2,hb3]; rfl
      subst hR
      refine ⟨_,Sub.refl _,H (.tk (.live 0) 1 (L.map eI)) _ (.inr ⟨by simp,rfl,rfl⟩) rfl rfl rfl (by simp [rInt]; rfl) rfl⟩
  intro X σ hX h0 h1 h2 h8 h9
  have hm : (M.map eI).length = M.length := by simp
  have hm1 : M.length * 8 ≤ 140737488355328 := by omega
  have hm2 : M.length ≤ maxLen := by unfold maxLen; omega
  have hm3 : (M.length + 1) * 8 ≤ 140737488355328 := by omega
  have hm4 : M.length + 1 ≤ maxLen := by unfold maxLen; omega
  have hd : (M.dropLast.map eI).length = M.dropLast.length := by simp
  have hdl : M.dropLast.length ≤ M.length := by simp
  have hd1 : (M.dropLast.length + 1) * 8 ≤ 140737488355328 := by omega
  have hd2 : M.dropLast.length + 1 ≤ maxLen := by unfold maxLen; omega
  obtain ⟨top,htop⟩ : ∃ t,M.getLast?.getD 0 = t := ⟨_,rfl⟩
  rw [htop] at h8
  by_cases e43 : op = 43
  · subst e43
    have hL : (nextL st 43 M).map eI = M.map eI ++ [[.int .i64 1]] := by simp [nextL,eI]
    have hB : nextB st 43 M = true := rfl
    simp only [hL,hB]
    refine mrun_mwp (n := 0) _ _ _ .ret _ (by simp -implicitDefEqProofs only [mrun,Option.map,r22_next.r6,r22_next.r7,r22_next.r8,r22_next.r9,r22_next.r10,r22_next.r11,r22_next.r12,r22_next.r13,r22_next.r14,r22_next.r15,r22_next.r16,r22_next.r17,r22_next.r18,r22_next.r19,r22_next.r20,r22_next.r21,r22_next.r22,r22_next.r23,r22_next.r24,r22_next.r25,r22_next.r26,r22_next.r27,r22_next.r28,r22_next.r29,r22_next.r30,κa,κb,κc,κd,κe,κf,κg,κh,κi,κj,κk,κl,κm,κn,κo,κp,κq,κr,κs,κt,κu,κv,κw,κx,κy,κz,κa1,κb1,κc1,κd1,κe1,κf1,κg1,κh1,κi1,κj1,κk1,κl1,κm1,κn1,κo1,κp1,κq1,κr1,κs1,if_true,if_false,reduceIte,κt1,κu1,κv1,κw1,κx1,κy1,κz1,κa2,κb2,κc2,κd2,κe2,κf2,κg2,κh2,κi2,κj2,κk2,κl2,κm2,κn2,κo2,κp2,κq2,reduceCtorEq,κr2,κs2,κt2,κu2,κv2,κw2,κx2,κy2,κz2,κa3,eq_self,κb3,κc3,zL,h0,h1,h2,h8,h9,hd,hd1,hd2,Bool.true_or,rInt,rBool,hm,hm1,hm2,hm3,hm4]; rfl) ?_
    exact ⟨.inl rfl,_,rfl,AVle.refl _⟩
  by_cases e44 : op = 44
  · subst e44
    by_cases c1 : top = 1
    · subst c1
      have hL : (nextL st 44 M).map eI = M.dropLast.map eI ++ [[.int .i64 2]] := by simp [nextL,eI]
      have hB : nextB st 44 M = true := by simp [nextB,htop]
      simp only [hL,hB]
      rcases hX with ⟨rfl,rfl⟩ | ⟨rfl,hlv,hnt⟩
      · refine mrun_mwp (n := 0) _ _ _ .ret _ (by simp -implicitDefEqProofs only [mrun,Option.map,r22_next.r6,r22_next.r7,r22_next.r8,r22_next.r9,r22_next.r10,r22_next.r11,r22_next.r12,r22_next.r13,r22_next.r14,r22_next.r15,r22_next.r16,r22_next.r17,r22_next.r18,r22_next.r19,r22_next.r20,r22_next.r21,r22_next.r22,r22_next.r23,r22_next.r24,r22_next.r25,r22_next.r26,r22_next.r27,r22_next.r28,r22_next.r29,r22_next.r30,κa,κb,κc,κd,κe,κf,κg,κh,κi,κj,κk,κl,κm,κn,κo,κp,κq,κr,κs,κt,κu,κv,κw,κx,κy,κz,κa1,κb1,κc1,κd1,κe1,κf1,κg1,κh1,κi1,κj1,κk1,κl1,κm1,κn1,κo1,κp1,κq1,κr1,κs1,if_true,if_false,reduceIte,κt1,κu1,κv1,κw1,κx1,κy1,κz1,κa2,κb2,κc2,κd2,κe2,κf2,κg2,κh2,κi2,κj2,κk2,κl2,κm2,κn2,κo2,κp2,κq2,reduceCtorEq,κr2,κs2,κt2,κu2,κv2,κw2,κx2,κy2,κz2,κa3,eq_self,κb3,κc3,zL,h0,h1,h2,h8,h9,hd,hd1,hd2,Bool.true_or,rInt,rBool]; rfl) ?_
        exact ⟨.inl rfl,_,rfl,AVle.refl _⟩
      · refine mrun_mwp (n := 0) _ _ _ .ret _ (by simp -implicitDefEqProofs only [mrun,Option.map,r22_next.r6,r22_next.r7,r22_next.r8,r22_next.r9,r22_next.r10,r22_next.r11,r22_next.r12,r22_next.r13,r22_next.r14,r22_next.r15,r22_next.r16,r22_next.r17,r22_next.r18,r22_next.r19,r22_next.r20,r22_next.r21,r22_next.r22,r22_next.r23,r22_next.r24,r22_next.r25,r22_next.r26,r22_next.r27,r22_next.r28,r22_next.r29,r22_next.r30,κa,κb,κc,κd,κe,κf,κg,κh,κi,κj,κk,κl,κm,κn,κo,κp,κq,κr,κs,κt,κu,κv,κw,κx,κy,κz,κa1,κb1,κc1,κd1,κe1,κf1,κg1,κh1,κi1,κj1,κk1,κl1,κm1,κn1,κo1,κp1,κq1,κr1,κs1,if_true,if_false,reduceIte,κt1,κu1,κv1,κw1,κx1,κy1,κz1,κa2,κb2,κc2,κd2,κe2,κf2,κg2,κh2,κi2,κj2,κk2,κl2,κm2,κn2,κo2,κp2,κq2,reduceCtorEq,κr2,κs2,κt2,κu2,κv2,κw2,κx2,κy2,κz2,κa3,eq_self,κb3,κc3,zL,h0,h1,h2,h8,h9,hlv,hnt,hd,hd1,hd2,rInt,rBool]; rfl) ?_
        exact ⟨.inl rfl,_,rfl,AVle.refl _⟩
    · have g1 : (top == 1) = false := by simpa using c1
      have hL : (nextL st 44 M).map eI = M.dropLast.map eI ++ [[.int .i64 2]] := by simp [nextL,eI]
      have hB : nextB st 44 M = false := by simp [nextB,htop,c1]
      simp only [hL,hB]
      rcases hX with ⟨rfl,rfl⟩ | ⟨rfl,hlv,hnt⟩
      · refine mrun_mwp (n := 0) _ _ _ .ret _ (by simp -implicitDefEqProofs only [mrun,Option.map,r22_next.r6,r22_next.r7,r22_next.r8,r22_next.r9,r22_next.r10,r22_next.r11,r22_next.r12,r22_next.r13,r22_next.r14,r22_next.r15,r22_next.r16,r22_next.r17,r22_next.r18,r22_next.r19,r22_next.r20,r22_next.r21,r22_next.r22,r22_next.r23,r22_next.r24,r22_next.r25,r22_next.r26,r22_next.r27,r22_next.r28,r22_next.r29,r22_next.r30,κa,κb,κc,κd,κe,κf,κg,κh,κi,κj,κk,κl,κm,κn,κo,κp,κq,κr,κs,κt,κu,κv,κw,κx,κy,κz,κa1,κb1,κc1,κd1,κe1,κf1,κg1,κh1,κi1,κj1,κk1,κl1,κm1,κn1,κo1,κp1,κq1,κr1,κs1,if_true,if_false,reduceIte,κt1,κu1,κv1,κw1,κx1,κy1,κz1,κa2,κb2,κc2,κd2,κe2,κf2,κg2,κh2,κi2,κj2,κk2,κl2,κm2,κn2,κo2,κp2,κq2,reduceCtorEq,κr2,κs2,κt2,κu2,κv2,κw2,κx2,κy2,κz2,κa3,eq_self,κb3,κc3,zL,h0,h1,h2,h8,h9,hd,hd1,hd2,Bool.true_or,rInt,rBool,g1]; rfl) ?_
        exact ⟨.inl rfl,_,rfl,AVle.refl _⟩
      · refine mrun_mwp (n := 0) _ _ _ .ret _ (by simp -implicitDefEqProofs only [mrun,Option.map,r22_next.r6,r22_next.r7,r22_next.r8,r22_next.r9,r22_next.r10,r22_next.r11,r22_next.r12,r22_next.r13,r22_next.r14,r22_next.r15,r22_next.r16,r22_next.r17,r22_next.r18,r22_next.r19,r22_next.r20,r22_next.r21,r22_next.r22,r22_next.r23,r22_next.r24,r22_next.r25,r22_next.r26,r22_next.r27,r22_next.r28,r22_next.r29,r22_next.r30,κa,κb,κc,κd,κe,κf,κg,κh,κi,κj,κk,κl,κm,κn,κo,κp,κq,κr,κs,κt,κu,κv,κw,κx,κy,κz,κa1,κb1,κc1,κd1,κe1,κf1,κg1,κh1,κi1,κj1,κk1,κl1,κm1,κn1,κo1,κp1,κq1,κr1,κs1,if_true,if_false,reduceIte,κt1,κu1,κv1,κw1,κx1,κy1,κz1,κa2,κb2,κc2,κd2,κe2,κf2,κg2,κh2,κi2,κj2,κk2,κl2,κm2,κn2,κo2,κp2,κq2,reduceCtorEq,κr2,κs2,κt2,κu2,κv2,κw2,κx2,κy2,κz2,κa3,eq_self,κb3,κc3,zL,h0,h1,h2,h8,h9,hlv,hnt,hd,hd1,hd2,rInt,rBool,g1]; rfl) ?_
        exact ⟨.inl rfl,_,rfl,AVle.refl _⟩
  by_cases e45 : op = 45
  · subst e45
    by_cases c1 : top = 1
    · subst c1
      have hL : (nextL st 45 M).map eI = M.dropLast.map eI := by simp [nextL]
      have hB : nextB st 45 M = true := by simp [nextB,htop]
      simp only [hL,hB]
      rcases hX with ⟨rfl,rfl⟩ | ⟨rfl,hlv,hnt⟩
      · refine mrun_mwp (n := 0) _ _ _ .ret _ (by simp -implicitDefEqProofs only [mrun,Option.map,r22_next.r6,r22_next.r7,r22_next.r8,r22_next.r9,r22_next.r10,r22_next.r11,r22_next.r12,r22_next.r13,r22_next.r14,r22_next.r15,r22_next.r16,r22_next.r17,r22_next.r18,r22_next.r19,r22_next.r20,r22_next.r21,r22_next.r22,r22_next.r23,r22_next.r24,r22_next.r25,r22_next.r26,r22_next.r27,r22_next.r28,r22_next.r29,r22_next.r30,κa,κb,κc,κd,κe,κf,κg,κh,κi,κj,κk,κl,κm,κn,κo,κp,κq,κr,κs,κt,κu,κv,κw,κx,κy,κz,κa1,κb1,κc1,κd1,κe1,κf1,κg1,κh1,κi1,κj1,κk1,κl1,κm1,κn1,κo1,κp1,κq1,κr1,κs1,if_true,if_false,reduceIte,κt1,κu1,κv1,κw1,κx1,κy1,κz1,κa2,κb2,κc2,κd2,κe2,κf2,κg2,κh2,κi2,κj2,κk2,κl2,κm2,κn2,κo2,κp2,κq2,reduceCtorEq,κr2,κs2,κt2,κu2,κv2,κw2,κx2,κy2,κz2,κa3,eq_self,κb3,κc3,zL,h0,h1,h2,h8,h9,hd,hd1,hd2,Bool.true_or,rInt,rBool]; rfl) ?_
        exact ⟨.inl rfl,_,rfl,AVle.refl _⟩
      · refine mrun_mwp (n := 0) _ _ _ .ret _ (by simp -implicitDefEqProofs only [mrun,Option.map,r22_next.r6,r22_next.r7,r22_next.r8,r22_next.r9,r22_next.r10,r22_next.r11,r22_next.r12,r22_next.r13,r22_next.r14,r22_next.r15,r22_next.r16,r22_next.r17,r22_next.r18,r22_next.r19,r22_next.r20,r22_next.r21,r22_next.r22,r22_next.r23,r22_next.r24,r22_next.r25,r22_next.r26,r22_next.r27,r22_next.r28,r22_next.r29,r22_next.r30,κa,κb,κc,κd,κe,κf,κg,κh,κi,κj,κk,κl,κm,κn,κo,κp,κq,κr,κs,κt,κu,κv,κw,κx,κy,κz,κa1,κb1,κc1,κd1,κe1,κf1,κg1,κh1,κi1,κj1,κk1,κl1,κm1,κn1,κo1,κp1,κq1,κr1,κs1,if_true,if_false,reduceIte,κt1,κu1,κv1,κw1,κx1,κy1,κz1,κa2,κb2,κc2,κd2,κe2,κf2,κg2,κh2,κi2,κj2,κk2,κl2,κm2,κn2,κo2,κp2,κq2,reduceCtorEq,κr2,κs2,κt2,κu2,κv2,κw2,κx2,κy2,κz2,κa3,eq_self,κb3,κc3,zL,h0,h1,h2,h8,h9,hlv,hnt,hd,hd1,hd2,rInt,rBool]; rfl) ?_
        exact ⟨.inl rfl,_,rfl,AVle.refl _⟩
    · have g1 : (top == 1) = false := by simpa using c1
      by_cases c2 : top = 2
      · subst c2
        have hL : (nextL st 45 M).map eI = M.dropLast.map eI := by simp [nextL]
        have hB : nextB st 45 M = true := by simp [nextB,htop]
        simp only [hL,hB]
        rcases hX with ⟨rfl,rfl⟩ | ⟨rfl,hlv,hnt⟩
        · refine mrun_mwp (n := 0) _ _ _ .ret _ (by simp -implicitDefEqProofs only [mrun,Option.map,r22_next.r6,r22_next.r7,r22_next.r8,r22_next.r9,r22_next.r10,r22_next.r11,r22_next.r12,r22_next.r13,r22_next.r14,r22_next.r15,r22_next.r16,r22_next.r17,r22_next.r18,r22_next.r19,r22_next.r20,r22_next.r21,r22_next.r22,r22_next.r23,r22_next.r24,r22_next.r25,r22_next.r26,r22_next.r27,r22_next.r28,r22_next.r29,r22_next.r30,κa,κb,κc,κd,κe,κf,κg,κh,κi,κj,κk,κl,κm,κn,κo,κp,κq,κr,κs,κt,κu,κv,κw,κx,κy,κz,κa1,κb1,κc1,κd1,κe1,κf1,κg1,κh1,κi1,κj1,κk1,κl1,κm1,κn1,κo1,κp1,κq1,κr1,κs1,if_true,if_false,reduceIte,κt1,κu1,κv1,κw1,κx1,κy1,κz1,κa2,κb2,κc2,κd2,κe2,κf2,κg2,κh2,κi2,κj2,κk2,κl2,κm2,κn2,κo2,κp2,κq2,reduceCtorEq,κr2,κs2,κt2,κu2,κv2,κw2,κx2,κy2,κz2,κa3,eq_self,κb3,κc3,zL,h0,h1,h2,h8,h9,hd,hd1,hd2,Bool.true_or,rInt,rBool]; rfl) ?_
          exact ⟨.inl rfl,_,rfl,AVle.refl _⟩
        · refine mrun_mwp (n := 0) _ _ _ .ret _ (by simp -implicitDefEqProofs only [mrun,Option.map,r22_next.r6,r22_next.r7,r22_next.r8,r22_next.r9,r22_next.r10,r22_next.r11,r22_next.r12,r22_next.r13,r22_next.r14,r22_next.r15,r22_next.r16,r22_next.r17,r22_next.r18,r22_next.r19,r22_next.r20,r22_next.r21,r22_next.r22,r22_next.r23,r22_next.r24,r22_next.r25,r22_next.r26,r22_next.r27,r22_next.r28,r22_next.r29,r22_next.r30,κa,κb,κc,κd,κe,κf,κg,κh,κi,κj,κk,κl,κm,κn,κo,κp,κq,κr,κs,κt,κu,κv,κw,κx,κy,κz,κa1,κb1,κc1,κd1,κe1,κf1,κg1,κh1,κi1,κj1,κk1,κl1,κm1,κn1,κo1,κp1,κq1,κr1,κs1,if_true,if_false,reduceIte,κt1,κu1,κv1,κw1,κx1,κy1,κz1,κa2,κb2,κc2,κd2,κe2,κf2,κg2,κh2,κi2,κj2,κk2,κl2,κm2,κn2,κo2,κp2,κq2,reduceCtorEq,κr2,κs2,κt2,κu2,κv2,κw2,κx2,κy2,κz2,κa3,eq_self,κb3,κc3,zL,h0,h1,h2,h8,h9,hlv,hnt,hd,hd1,hd2,rInt,rBool]; rfl) ?_
          exact ⟨.inl rfl,_,rfl,AVle.refl _⟩
      · have g2 : (top == 2) = false := by simpa using c2
        have hL : (nextL st 45 M).map eI = M.dropLast.map eI := by simp [nextL]
        have hB : nextB st 45 M = false := by simp [nextB,htop,c1,c2]
        simp only [hL,hB]
        rcases hX with ⟨rfl,rfl⟩ | ⟨rfl,hlv,hnt⟩
        · refine mrun_mwp (n := 0) _ _ _ .ret _ (by simp -implicitDefEqProofs only [mrun,Option.map,r22_next.r6,r22_next.r7,r22_next.r8,r22_next.r9,r22_next.r10,r22_next.r11,r22_next.r12,r22_next.r13,r22_next.r14,r22_next.r15,r22_next.r16,r22_next.r17,r22_next.r18,r22_next.r19,r22_next.r20,r22_next.r21,r22_next.r22,r22_next.r23,r22_next.r24,r22_next.r25,r22_next.r26,r22_next.r27,r22_next.r28,r22_next.r29,r22_next.r30,κa,κb,κc,κd,κe,κf,κg,κh,κi,κj,κk,κl,κm,κn,κo,κp,κq,κr,κs,κt,κu,κv,κw,κx,κy,κz,κa1,κb1,κc1,κd1,κe1,κf1,κg1,κh1,κi1,κj1,κk1,κl1,κm1,κn1,κo1,κp1,κq1,κr1,κs1,if_true,if_false,reduceIte,κt1,κu1,κv1,κw1,κx1,κy1,κz1,κa2,κb2,κc2,κd2,κe2,κf2,κg2,κh2,κi2,κj2,κk2,κl2,κm2,κn2,κo2,κp2,κq2,reduceCtorEq,κr2,κs2,κt2,κu2,κv2,κw2,κx2,κy2,κz2,κa3,eq_self,κb3,κc3,zL,h0,h1,h2,h8,h9,hd,hd1,hd2,Bool.true_or,rInt,rBool,g1,g2]; rfl) ?_
          exact ⟨.inl rfl,_,rfl,AVle.refl _⟩
        · refine mrun_mwp (n := 0) _ _ _ .ret _ (by simp -implicitDefEqProofs only [mrun,Option.map,r22_next.r6,r22_next.r7,r22_next.r8,r22_next.r9,r22_next.r10,r22_next.r11,r22_next.r12,r22_next.r13,r22_next.r14,r22_next.r15,r22_next.r16,r22_next.r17,r22_next.r18,r22_next.r19,r22_next.r20,r22_next.r21,r22_next.r22,r22_next.r23,r22_next.r24,r22_next.r25,r22_next.r26,r22_next.r27,r22_next.r28,r22_next.r29,r22_next.r30,κa,κb,κc,κd,κe,κf,κg,κh,κi,κj,κk,κl,κm,κn,κo,κp,κq,κr,κs,κt,κu,κv,κw,κx,κy,κz,κa1,κb1,κc1,κd1,κe1,κf1,κg1,κh1,κi1,κj1,κk1,κl1,κm1,κn1,κo1,κp1,κq1,κr1,κs1,if_true,if_false,reduceIte,κt1,κu1,κv1,κw1,κx1,κy1,κz1,κa2,κb2,κc2,κd2,κe2,κf2,κg2,κh2,κi2,κj2,κk2,κl2,κm2,κn2,κo2,κp2,κq2,reduceCtorEq,κr2,κs2,κt2,κu2,κv2,κw2,κx2,κy2,κz2,κa3,eq_self,κb3,κc3,zL,h0,h1,h2,h8,h9,hlv,hnt,hd,hd1,hd2,rInt,rBool,g1,g2]; rfl) ?_
          exact ⟨.inl rfl,_,rfl,AVle.refl _⟩
  by_cases e46 : op = 46
  · subst e46
    have hL : (nextL st 46 M).map eI = M.map eI ++ [[.int .i64 3]] := by simp [nextL,eI]
    have hB : nextB st 46 M = decide (((M.count 3 : Nat) : Int) < 3) := by simp [nextB]
    simp only [hL,hB]
    refine mrun_mwp (n := 0) _ _ _ .ret _ (by simp -implicitDefEqProofs only [mrun,Option.map,r22_next.r6,r22_next.r7,r22_next.r8,r22_next.r9,r22_next.r10,r22_next.r11,r22_next.r12,r22_next.r13,r22_next.r14,r22_next.r15,r22_next.r16,r22_next.r17,r22_next.r18,r22_next.r19,r22_next.r20,r22_next.r21,r22_next.r22,r22_next.r23,r22_next.r24,r22_next.r25,r22_next.r26,r22_next.r27,r22_next.r28,r22_next.r29,r22_next.r30,κa,κb,κc,κd,κe,κf,κg,κh,κi,κj,κk,κl,κm,κn,κo,κp,κq,κr,κs,κt,κu,κv,κw,κx,κy,κz,κa1,κb1,κc1,κd1,κe1,κf1,κg1,κh1,κi1,κj1,κk1,κl1,κm1,κn1,κo1,κp1,κq1,κr1,κs1,if_true,if_false,reduceIte,κt1,κu1,κv1,κw1,κx1,κy1,κz1,κa2,κb2,κc2,κd2,κe2,κf2,κg2,κh2,κi2,κj2,κk2,κl2,κm2,κn2,κo2,κp2,κq2,reduceCtorEq,κr2,κs2,κt2,κu2,κv2,κw2,κx2,κy2,κz2,κa3,eq_self,κb3,κc3,zL,h0,h1,h2,h8,h9,hd,hd1,hd2,Bool.true_or,rInt,rBool,hm,hm1,hm2,hm3,hm4,qlo]; rfl) ?_
    exact ⟨.inl rfl,_,rfl,AVle.refl _⟩
  by_cases e49 : op = 49
  · subst e49
    by_cases c1 : top = 3
    · subst c1
      have hL : (nextL st 49 M).map eI = M.dropLast.map eI := by simp [nextL]
      have hB : nextB st 49 M = true := by simp [nextB,htop]
      simp only [hL,hB]
      rcases hX with ⟨rfl,rfl⟩ | ⟨rfl,hlv,hnt⟩
      · refine mrun_mwp (n := 0) _ _ _ .ret _ (by simp -implicitDefEqProofs only [mrun,Option.map,r22_next.r6,r22_next.r7,r22_next.r8,r22_next.r9,r22_next.r10,r22_next.r11,r22_next.r12,r22_next.r13,r22_next.r14,r22_next.r15,r22_next.r16,r22_next.r17,r22_next.r18,r22_next.r19,r22_next.r20,r22_next.r21,r22_next.r22,r22_next.r23,r22_next.r24,r22_next.r25,r22_next.r26,r22_next.r27,r22_next.r28,r22_next.r29,r22_next.r30,κa,κb,κc,κd,κe,κf,κg,κh,κi,κj,κk,κl,κm,κn,κo,κp,κq,κr,κs,κt,κu,κv,κw,κx,κy,κz,κa1,κb1,κc1,κd1,κe1,κf1,κg1,κh1,κi1,κj1,κk1,κl1,κm1,κn1,κo1,κp1,κq1,κr1,κs1,if_true,if_false,reduceIte,κt1,κu1,κv1,κw1,κx1,κy1,κz1,κa2,κb2,κc2,κd2,κe2,κf2,κg2,κh2,κi2,κj2,κk2,κl2,κm2,κn2,κo2,κp2,κq2,reduceCtorEq,κr2,κs2,κt2,κu2,κv2,κw2,κx2,κy2,κz2,κa3,eq_self,κb3,κc3,zL,h0,h1,h2,h8,h9,hd,hd1,hd2,Bool.true_or,rInt,rBool]; rfl) ?_
        exact ⟨.inl rfl,_,rfl,AVle.refl _⟩
      · refine mrun_mwp (n := 0) _ _ _ .ret _ (by simp -implicitDefEqProofs only [mrun,Option.map,r22_next.r6,r22_next.r7,r22_next.r8,r22_next.r9,r22_next.r10,r22_next.r11,r22_next.r12,r22_next.r13,r22_next.r14,r22_next.r15,r22_next.r16,r22_next.r17,r22_next.r18,r22_next.r19,r22_next.r20,r22_next.r21,r22_next.r22,r22_next.r23,r22_next.r24,r22_next.r25,r22_next.r26,r22_next.r27,r22_next.r28,r22_next.r29,r22_next.r30,κa,κb,κc,κd,κe,κf,κg,κh,κi,κj,κk,κl,κm,κn,κo,κp,κq,κr,κs,κt,κu,κv,κw,κx,κy,κz,κa1,κb1,κc1,κd1,κe1,κf1,κg1,κh1,κi1,κj1,κk1,κl1,κm1,κn1,κo1,κp1,κq1,κr1,κs1,if_true,if_false,reduceIte,κt1,κu1,κv1,κw1,κx1,κy1,κz1,κa2,κb2,κc2,κd2,κe2,κf2,κg2,κh2,κi2,κj2,κk2,κl2,κm2,κn2,κo2,κp2,κq2,reduceCtorEq,κr2,κs2,κt2,κu2,κv2,κw2,κx2,κy2,κz2,κa3,eq_self,κb3,κc3,zL,h0,h1,h2,h8,h9,hlv,hnt,hd,hd1,hd2,rInt,rBool]; rfl) ?_
        exact ⟨.inl rfl,_,rfl,AVle.refl _⟩
    · have g1 : (top == 3) = false := by simpa using c1
      have hL : (nextL st 49 M).map eI = M.dropLast.map eI := by simp [nextL]
      have hB : nextB st 49 M = false := by simp [nextB,htop,c1]
      simp only [hL,hB]
      rcases hX with ⟨rfl,rfl⟩ | ⟨rfl,hlv,hnt⟩
      · refine mrun_mwp (n := 0) _ _ _ .ret _ (by simp -implicitDefEqProofs only [mrun,Option.map,r22_next.r6,r22_next.r7,r22_next.r8,r22_next.r9,r22_next.r10,r22_next.r11,r22_next.r12,r22_next.r13,r22_next.r14,r22_next.r15,r22_next.r16,r22_next.r17,r22_next.r18,r22_next.r19,r22_next.r20,r22_next.r21,r22_next.r22,r22_next.r23,r22_next.r24,r22_next.r25,r22_next.r26,r22_next.r27,r22_next.r28,r22_next.r29,r22_next.r30,κa,κb,κc,κd,κe,κf,κg,κh,κi,κj,κk,κl,κm,κn,κo,κp,κq,κr,κs,κt,κu,κv,κw,κx,κy,κz,κa1,κb1,κc1,κd1,κe1,κf1,κg1,κh1,κi1,κj1,κk1,κl1,κm1,κn1,κo1,κp1,κq1,κr1,κs1,if_true,if_false,reduceIte,κt1,κu1,κv1,κw1,κx1,κy1,κz1,κa2,κb2,κc2,κd2,κe2,κf2,κg2,κh2,κi2,κj2,κk2,κl2,κm2,κn2,κo2,κp2,κq2,reduceCtorEq,κr2,κs2,κt2,κu2,κv2,κw2,κx2,κy2,κz2,κa3,eq_self,κb3,κc3,zL,h0,h1,h2,h8,h9,hd,hd1,hd2,Bool.true_or,rInt,rBool,g1]; rfl) ?_
        exact ⟨.inl rfl,_,rfl,AVle.refl _⟩
      · refine mrun_mwp (n := 0) _ _ _ .ret _ (by simp -implicitDefEqProofs only [mrun,Option.map,r22_next.r6,r22_next.r7,r22_next.r8,r22_next.r9,r22_next.r10,r22_next.r11,r22_next.r12,r22_next.r13,r22_next.r14,r22_next.r15,r22_next.r16,r22_next.r17,r22_next.r18,r22_next.r19,r22_next.r20,r22_next.r21,r22_next.r22,r22_next.r23,r22_next.r24,r22_next.r25,r22_next.r26,r22_next.r27,r22_next.r28,r22_next.r29,r22_next.r30,κa,κb,κc,κd,κe,κf,κg,κh,κi,κj,κk,κl,κm,κn,κo,κp,κq,κr,κs,κt,κu,κv,κw,κx,κy,κz,κa1,κb1,κc1,κd1,κe1,κf1,κg1,κh1,κi1,κj1,κk1,κl1,κm1,κn1,κo1,κp1,κq1,κr1,κs1,if_true,if_false,reduceIte,κt1,κu1,κv1,κw1,κx1,κy1,κz1,κa2,κb2,κc2,κd2,κe2,κf2,κg2,κh2,κi2,κj2,κk2,κl2,κm2,κn2,κo2,κp2,κq2,reduceCtorEq,κr2,κs2,κt2,κu2,κv2,κw2,κx2,κy2,κz2,κa3,eq_self,κb3,κc3,zL,h0,h1,h2,h8,h9,hlv,hnt,hd,hd1,hd2,rInt,rBool,g1]; rfl) ?_
        exact ⟨.inl rfl,_,rfl,AVle.refl _⟩
  by_cases e47 : op = 47
  · subst e47
    have hL : (nextL st 47 M).map eI = M.map eI := by simp [nextL]
    have hB : nextB st 47 M = decide (((M.count 3 : Nat) : Int) > 0) := by simp [nextB]
    simp only [hL,hB]
    refine mrun_mwp (n := 0) _ _ _ .ret _ (by simp -implicitDefEqProofs only [mrun,Option.map,r22_next.r6,r22_next.r7,r22_next.r8,r22_next.r9,r22_next.r10,r22_next.r11,r22_next.r12,r22_next.r13,r22_next.r14,r22_next.r15,r22_next.r16,r22_next.r17,r22_next.r18,r22_next.r19,r22_next.r20,r22_next.r21,r22_next.r22,r22_next.r23,r22_next.r24,r22_next.r25,r22_next.r26,r22_next.r27,r22_next.r28,r22_next.r29,r22_next.r30,κa,κb,κc,κd,κe,κf,κg,κh,κi,κj,κk,κl,κm,κn,κo,κp,κq,κr,κs,κt,κu,κv,κw,κx,κy,κz,κa1,κb1,κc1,κd1,κe1,κf1,κg1,κh1,κi1,κj1,κk1,κl1,κm1,κn1,κo1,κp1,κq1,κr1,κs1,if_true,if_false,reduceIte,κt1,κu1,κv1,κw1,κx1,κy1,κz1,κa2,κb2,κc2,κd2,κe2,κf2,κg2,κh2,κi2,κj2,κk2,κl2,κm2,κn2,κo2,κp2,κq2,reduceCtorEq,κr2,κs2,κt2,κu2,κv2,κw2,κx2,κy2,κz2,κa3,eq_self,κb3,κc3,zL,h0,h1,h2,h8,h9,hd,hd1,hd2,Bool.true_or,rInt,rBool,qlo]; rfl) ?_
    exact ⟨.inl rfl,_,rfl,AVle.refl _⟩
  by_cases e48 : op = 48
  · subst e48
    have hL : (nextL st 48 M).map eI = M.map eI := by simp [nextL]
    have hB : nextB st 48 M = decide (((M.count 3 : Nat) : Int) > 0) := by simp [nextB]
    simp only [hL,hB]
    refine mrun_mwp (n := 0) _ _ _ .ret _ (by simp -implicitDefEqProofs only [mrun,Option.map,r22_next.r6,r22_next.r7,r22_next.r8,r22_next.r9,r22_next.r10,r22_next.r11,r22_next.r12,r22_next.r13,r22_next.r14,r22_next.r15,r22_next.r16,r22_next.r17,r22_next.r18,r22_next.r19,r22_next.r20,r22_next.r21,r22_next.r22,r22_next.r23,r22_next.r24,r22_next.r25,r22_next.r26,r22_next.r27,r22_next.r28,r22_next.r29,r22_next.r30,κa,κb,κc,κd,κe,κf,κg,κh,κi,κj,κk,κl,κm,κn,κo,κp,κq,κr,κs,κt,κu,κv,κw,κx,κy,κz,κa1,κb1,κc1,κd1,κe1,κf1,κg1,κh1,κi1,κj1,κk1,κl1,κm1,κn1,κo1,κp1,κq1,κr1,κs1,if_true,if_false,reduceIte,κt1,κu1,κv1,κw1,κx1,κy1,κz1,κa2,κb2,κc2,κd2,κe2,κf2,κg2,κh2,κi2,κj2,κk2,κl2,κm2,κn2,κo2,κp2,κq2,reduceCtorEq,κr2,κs2,κt2,κu2,κv2,κw2,κx2,κy2,κz2,κa3,eq_self,κb3,κc3,zL,h0,h1,h2,h8,h9,hd,hd1,hd2,Bool.true_or,rInt,rBool,qlo]; rfl) ?_
    exact ⟨.inl rfl,_,rfl,AVle.refl _⟩
  by_cases e50 : op = 50
  · subst e50
    obtain ⟨bb,hbb⟩ : ∃ b,(st == 3) = b := ⟨_,rfl⟩
    have hL : (nextL st 50 M).map eI = M.map eI := by simp [nextL]
    have hB : nextB st 50 M = (st == 3) := by simp [nextB]
    simp only [hL,hB]
    refine mrun_mwp (n := 0) _ _ _ .ret _ (by simp -implicitDefEqProofs only [mrun,Option.map,r22_next.r6,r22_next.r7,r22_next.r8,r22_next.r9,r22_next.r10,r22_next.r11,r22_next.r12,r22_next.r13,r22_next.r14,r22_next.r15,r22_next.r16,r22_next.r17,r22_next.r18,r22_next.r19,r22_next.r20,r22_next.r21,r22_next.r22,r22_next.r23,r22_next.r24,r22_next.r25,r22_next.r26,r22_next.r27,r22_next.r28,r22_next.r29,r22_next.r30,κa,κb,κc,κd,κe,κf,κg,κh,κi,κj,κk,κl,κm,κn,κo,κp,κq,κr,κs,κt,κu,κv,κw,κx,κy,κz,κa1,κb1,κc1,κd1,κe1,κf1,κg1,κh1,κi1,κj1,κk1,κl1,κm1,κn1,κo1,κp1,κq1,κr1,κs1,if_true,if_false,reduceIte,κt1,κu1,κv1,κw1,κx1,κy1,κz1,κa2,κb2,κc2,κd2,κe2,κf2,κg2,κh2,κi2,κj2,κk2,κl2,κm2,κn2,κo2,κp2,κq2,reduceCtorEq,κr2,κs2,κt2,κu2,κv2,κw2,κx2,κy2,κz2,κa3,eq_self,κb3,κc3,zL,h0,h1,h2,h8,h9,hd,hd1,hd2,Bool.true_or,rInt,rBool]; rfl) ?_
    exact ⟨.inl rfl,_,rfl,AVle.refl _⟩
  by_cases e51 : op = 51
  · subst e51
    obtain ⟨bb,hbb⟩ : ∃ b,(st == 2) = b := ⟨_,rfl⟩
    have hL : (nextL st 51 M).map eI = M.map eI := by simp [nextL]
    have hB : nextB st 51 M = (st == 2) := by simp [nextB]
    simp only [hL,hB]
    refine mrun_mwp (n := 0) _ _ _ .ret _ (by simp -implicitDefEqProofs only [mrun,Option.map,r22_next.r6,r22_next.r7,r22_next.r8,r22_next.r9,r22_next.r10,r22_next.r11,r22_next.r12,r22_next.r13,r22_next.r14,r22_next.r15,r22_next.r16,r22_next.r17,r22_next.r18,r22_next.r19,r22_next.r20,r22_next.r21,r22_next.r22,r22_next.r23,r22_next.r24,r22_next.r25,r22_next.r26,r22_next.r27,r22_next.r28,r22_next.r29,r22_next.r30,κa,κb,κc,κd,κe,κf,κg,κh,κi,κj,κk,κl,κm,κn,κo,κp,κq,κr,κs,κt,κu,κv,κw,κx,κy,κz,κa1,κb1,κc1,κd1,κe1,κf1,κg1,κh1,κi1,κj1,κk1,κl1,κm1,κn1,κo1,κp1,κq1,κr1,κs1,if_true,if_false,reduceIte,κt1,κu1,κv1,κw1,κx1,κy1,κz1,κa2,κb2,κc2,κd2,κe2,κf2,κg2,κh2,κi2,κj2,κk2,κl2,κm2,κn2,κo2,κp2,κq2,reduceCtorEq,κr2,κs2,κt2,κu2,κv2,κw2,κx2,κy2,κz2,κa3,eq_self,κb3,κc3,zL,h0,h1,h2,h8,h9,hd,hd1,hd2,Bool.true_or,rInt,rBool]; rfl) ?_
    exact ⟨.inl rfl,_,rfl,AVle.refl _⟩
  by_cases e52 : op = 52
  · subst e52
    obtain ⟨bb,hbb⟩ : ∃ b,(st == 2) = b := ⟨_,rfl⟩
    have hL : (nextL st 52 M).map eI = M.map eI := by simp [nextL]
    have hB : nextB st 52 M = (st == 2) := by simp [nextB]
    simp only [hL,hB]
    refine mrun_mwp (n := 0) _ _ _ .ret _ (by simp -implicitDefEqProofs only [mrun,Option.map,r22_next.r6,r22_next.r7,r22_next.r8,r22_next.r9,r22_next.r10,r22_next.r11,r22_next.r12,r22_next.r13,r22_next.r14,r22_next.r15,r22_next.r16,r22_next.r17,r22_next.r18,r22_next.r19,r22_next.r20,r22_next.r21,r22_next.r22,r22_next.r23,r22_next.r24,r22_next.r25,r22_next.r26,r22_next.r27,r22_next.r28,r22_next.r29,r22_next.r30,κa,κb,κc,κd,κe,κf,κg,κh,κi,κj,κk,κl,κm,κn,κo,κp,κq,κr,κs,κt,κu,κv,κw,κx,κy,κz,κa1,κb1,κc1,κd1,κe1,κf1,κg1,κh1,κi1,κj1,κk1,κl1,κm1,κn1,κo1,κp1,κq1,κr1,κs1,if_true,if_false,reduceIte,κt1,κu1,κv1,κw1,κx1,κy1,κz1,κa2,κb2,κc2,κd2,κe2,κf2,κg2,κh2,κi2,κj2,κk2,κl2,κm2,κn2,κo2,κp2,κq2,reduceCtorEq,κr2,κs2,κt2,κu2,κv2,κw2,κx2,κy2,κz2,κa3,eq_self,κb3,κc3,zL,h0,h1,h2,h8,h9,hd,hd1,hd2,Bool.true_or,rInt,rBool]; rfl) ?_
    exact ⟨.inl rfl,_,rfl,AVle.refl _⟩
  have f43 : (op == 43) = false := by simpa using e43
  have f44 : (op == 44) = false := by simpa using e44
  have f45 : (op == 45) = false := by simpa using e45
  have f46 : (op == 46) = false := by simpa using e46
  have f49 : (op == 49) = false := by simpa using e49
  have f47 : (op == 47) = false := by simpa using e47
  have f48 : (op == 48) = false := by simpa using e48
  have f50 : (op == 50) = false := by simpa using e50
  have f51 : (op == 51) = false := by simpa using e51
  have f52 : (op == 52) = false := by simpa using e52
  have hL : (nextL st op M).map eI = M.map eI := by simp [nextL,e43,e44,e45,e46,e49,e47,e48,e50,e51,e52]
  have hB : nextB st op M = true := by simp [nextB,e43,e44,e45,e46,e49,e47,e48,e50,e51,e52]
  simp only [hL,hB]
  refine mrun_mwp (n := 0) _ _ _ .ret _ (by simp -implicitDefEqProofs only [mrun,Option.map,r22_next.r6,r22_next.r7,r22_next.r8,r22_next.r9,r22_next.r10,r22_next.r11,r22_next.r12,r22_next.r13,r22_next.r14,r22_next.r15,r22_next.r16,r22_next.r17,r22_next.r18,r22_next.r19,r22_next.r20,r22_next.r21,r22_next.r22,r22_next.r23,r22_next.r24,r22_next.r25,r22_next.r26,r22_next.r27,r22_next.r28,r22_next.r29,r22_next.r30,κa,κb,κc,κd,κe,κf,κg,κh,κi,κj,κk,κl,κm,κn,κo,κp,κq,κr,κs,κt,κu,κv,κw,κx,κy,κz,κa1,κb1,κc1,κd1,κe1,κf1,κg1,κh1,κi1,κj1,κk1,κl1,κm1,κn1,κo1,κp1,κq1,κr1,κs1,if_true,if_false,reduceIte,κt1,κu1,κv1,κw1,κx1,κy1,κz1,κa2,κb2,κc2,κd2,κe2,κf2,κg2,κh2,κi2,κj2,κk2,κl2,κm2,κn2,κo2,κp2,κq2,reduceCtorEq,κr2,κs2,κt2,κu2,κv2,κw2,κx2,κy2,κz2,κa3,eq_self,κb3,κc3,zL,h0,h1,h2,h8,h9,hd,hd1,hd2,Bool.true_or,rInt,rBool,f43,f44,f45,f46,f49,f47,f48,f50,f51,f52]; rfl) ?_
  exact ⟨.inl rfl,_,rfl,AVle.refl _⟩
end Go.Proofs.Ytjbhhdocbejccaa.Pl
