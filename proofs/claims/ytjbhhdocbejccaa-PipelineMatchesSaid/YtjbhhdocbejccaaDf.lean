/- Chapter 43: the default pipeline. No condition beyond those that each theorem states. -/
import Derived.Test.YtjbhhdocbejccaaEx
import Derived.Test.YtjbhhdocbejccaaP3
namespace Go.Proofs.Ytjbhhdocbejccaa.Pl
open Go Go.RowKit Go.Proofs.Ytjbhhdocbejccaa.Am
open Go.Proofs.Ytjbhhdocbejccaa.Am renaming ex_nil → κa,ex_cons → κb,exK_some → κc,st_n → κd,st_g → κe,gd_b → κf,gd_u → κg,rn_v → κh,rn_m → κi,rn_s → κj,rn_a → κk,think → κl,prep → κm,mkDsts → κn,ev → κp,upd → κq,init → κr,forgetBox → κu,pvs → κx,fillX → κy,chunks → κz,binV → κa1,xints → κb1,ldX → κc1,baseOk → κe1,fg_p → κf1,fg_tk → κg1,mkG → κh1,tab → κj1,c3 → κa3
open Go.Proofs.Ytjbhhdocbejccaa.Am.St renaming clear → κo,put → κt,of → κk1
open Go.Proofs.Ytjbhhdocbejccaa.Am.PV renaming av → κs
open Go.Proofs.Ytjbhhdocbejccaa.Am.AV renaming cells → κv,pv → κw,plain → κd1
open Go.Proofs.Ytjbhhdocbejccaa.Am.Sig renaming spec → κi1
open List renaming getElem?_cons_zero → κl1,getElem?_cons_succ → κm1,getElem?_nil → κn1,map_cons → κu1,map_nil → κv1,drop_succ_cons → κw1,drop_zero → κx1,take_succ_cons → κy1,take_zero → κz1,length_cons → κa2,length_nil → κb2,length_append → κc2,cons_append → κd2,nil_append → κe2,append_nil → κf2
open Option renaming map_some → κo1,map_none → κp1,bind_some → κq1,isSome_some → κr1,isSome_none → κs1
open Nat renaming reduceEqDiff → κt1,reduceAdd → κg2,reduceMul → κh2,reduceLeDiff → κi2,reduceBEq → κj2,zero_le → κk2,le_refl → κl2,zero_add → κm2,add_zero → κn2
open Bool renaming not_true → κo2,not_false → κp2,false_eq_true → κq2,true_eq_false → κc3
open Int renaming reduceBEq → κr2,reduceBNe → κs2,reduceLT → κt2,reduceLE → κu2,reduceAdd → κv2,reduceToNat → κw2,toNat_zero → κx2,reduceEq → κy2,toNat_natCast → κz2,le_refl → κb3
set_option linter.unusedVariables false
set_option linter.unusedSimpArgs false
set_option maxRecDepth 100000
def defPl : Pl := ⟨⟨1,4,4,4,0,0,0,[⟨37,0,0,0,0,0⟩,⟨39,0,0,0,0,0⟩,⟨37,1,0,0,0,1⟩,⟨39,0,1,0,0,1⟩,⟨37,2,0,0,0,2⟩,⟨39,0,2,0,0,2⟩,⟨37,3,0,0,0,3⟩,⟨39,0,3,0,0,3⟩]⟩,⟨0,0,0,0,0,0,0,[]⟩,⟨3,1,0,4,0,0,0,[⟨1,0,0,0,0,65536⟩,⟨39,0,0,0,0,0⟩,⟨39,0,0,0,0,1⟩,⟨39,0,0,0,0,2⟩,⟨39,0,0,0,0,3⟩]⟩,[⟨0,0,16,4⟩],false,false,false,false,false,false,1,1,0,0,64,64,0,65536,8,0,8,1,1,1,8,1,1,1,0,255,255,2,1,1,2,1,1,15,1,2,1⟩
def pl_Default.S : Am.Spec := fun args => match args with
  | [] => some (.agg defPl.xs)
  | _ => none
def frustumlaw43_example.S : Am.Spec := fun args => match args with
  | [] => some (rBool true)
  | _ => none
theorem frustumlaw43_example.ok : SpecOK Try.prog 9 frustumlaw43_example.S := fun args r h => by
  unfold frustumlaw43_example.S at h
  split at h
  · cases h; exact example_ok
  · cases h
def defRaw : List XV := [.p (.int .i64 1),.p (.int .i64 4),.p (.int .i64 4),.p (.int .i64 4),.p (.int .i64 0),.p (.int .i64 0),.p (.int .i64 0),.p (.sl 6 [[.int .i64 37,.int .i64 0,.int .i64 0,.int .i64 0,.int .i64 0,.int .i64 0],[.int .i64 39,.int .i64 0,.int .i64 0,.int .i64 0,.int .i64 0,.int .i64 0],[.int .i64 37,.int .i64 1,.int .i64 0,.int .i64 0,.int .i64 0,.int .i64 1],[.int .i64 39,.int .i64 0,.int .i64 1,.int .i64 0,.int .i64 0,.int .i64 1],[.int .i64 37,.int .i64 2,.int .i64 0,.int .i64 0,.int .i64 0,.int .i64 2],[.int .i64 39,.int .i64 0,.int .i64 2,.int .i64 0,.int .i64 0,.int .i64 2],[.int .i64 37,.int .i64 3,.int .i64 0,.int .i64 0,.int .i64 0,.int .i64 3],[.int .i64 39,.int .i64 0,.int .i64 3,.int .i64 0,.int .i64 0,.int .i64 3]]),.p (.int .i64 0),.p (.int .i64 0),.p (.int .i64 0),.p (.int .i64 0),.p (.int .i64 0),.p (.int .i64 0),.p (.int .i64 0),.tk .tight 0 [],.p (.int .i64 3),.p (.int .i64 1),.p (.int .i64 0),.p (.int .i64 4),.p (.int .i64 0),.p (.int .i64 0),.p (.int .i64 0),.p (.sl 6 [[.int .i64 1,.int .i64 0,.int .i64 0,.int .i64 0,.int .i64 0,.int .i64 65536],[.int .i64 39,.int .i64 0,.int .i64 0,.int .i64 0,.int .i64 0,.int .i64 0],[.int .i64 39,.int .i64 0,.int .i64 0,.int .i64 0,.int .i64 0,.int .i64 1],[.int .i64 39,.int .i64 0,.int .i64 0,.int .i64 0,.int .i64 0,.int .i64 2],[.int .i64 39,.int .i64 0,.int .i64 0,.int .i64 0,.int .i64 0,.int .i64 3]]),.p (.bool false),.tk .tight 4 [[.int .i64 0,.int .i64 0,.int .i64 16,.int .i64 4]],.p (.int .i64 1),.p (.int .i64 1),.p (.bool false),.p (.int .i64 0),.p (.int .i64 0),.p (.int .i64 64),.p (.int .i64 64),.p (.int .i64 0),.p (.int .i64 65536),.p (.bool false),.p (.bool false),.p (.int .i64 8),.p (.int .i64 0),.p (.bool false),.p (.int .i64 8),.p (.int .i64 1),.p (.int .i64 1),.p (.int .i64 1),.p (.int .i64 8),.p (.int .i64 1),.p (.int .i64 1),.p (.int .i64 1),.p (.int .i64 0),.p (.int .i64 255),.p (.int .i64 255),.p (.bool false),.p (.int .i64 2),.p (.int .i64 1),.p (.int .i64 1),.p (.int .i64 2),.p (.int .i64 1),.p (.int .i64 1),.p (.int .i64 15),.p (.int .i64 1),.p (.int .i64 2),.p (.int .i64 1)]
theorem def_ev : evalF tb 300 30 10 [] = some (.agg defRaw) := by kernel_rfl
theorem def_le : XVsle defRaw defPl.xs := by
  unfold defRaw defPl Pl.xs
  exact ⟨XVle.refl _,XVle.refl _,XVle.refl _,XVle.refl _,XVle.refl _,XVle.refl _,XVle.refl _,XVle.refl _,XVle.refl _,XVle.refl _,XVle.refl _,XVle.refl _,XVle.refl _,XVle.refl _,XVle.refl _,XVle.tk0 _ _ _,XVle.refl _,XVle.refl _,XVle.refl _,XVle.refl _,XVle.refl _,XVle.refl _,XVle.refl _,XVle.refl _,XVle.refl _,XVle.tk _ _ _,XVle.refl _,XVle.refl _,XVle.refl _,XVle.refl _,XVle.refl _,XVle.refl _,XVle.refl _,XVle.refl _,XVle.refl _,XVle.refl _,XVle.refl _,XVle.refl _,XVle.refl _,XVle.refl _,XVle.refl _,XVle.refl _,XVle.refl _,XVle.refl _,XVle.refl _,XVle.refl _,XVle.refl _,XVle.refl _,XVle.refl _,XVle.refl _,XVle.refl _,XVle.refl _,XVle.refl _,XVle.refl _,XVle.refl _,XVle.refl _,XVle.refl _,XVle.refl _,XVle.refl _,XVle.refl _,XVle.refl _,XVle.refl _,trivial⟩
theorem pl_Default.ok : SpecOK Try.prog 10 pl_Default.S := fun args r h => by
  unfold pl_Default.S at h
  split at h
  · cases h
    exact CA.le (evalF_ok hE tb 300 30 10 [] _ def_ev) (AVle.agg def_le)
  · cases h
theorem def_valid : validP defPl = 0 := by kernel_rfl
end Go.Proofs.Ytjbhhdocbejccaa.Pl
