/- Chapter 43: the default pipeline. No condition beyond those that each theorem states. -/
import Derived.Test.YtjbhhdocbejccaaEx
import Derived.Test.YtjbhhdocbejccaaP3
namespace Go.Proofs.Ytjbhhdocbejccaa.Pl
open Go Go.RowKit Go.Proofs.Ytjbhhdocbejccaa.Am
open List renaming getElem?_cons_zero → κa, getElem?_cons_succ → κb, getElem?_nil → κc, map_cons → κj, map_nil → κk, drop_succ_cons → κl, drop_zero → κm, take_succ_cons → κn, take_zero → κo, length_cons → κp, length_nil → κq, length_append → κr, cons_append → κs, nil_append → κt, append_nil → κu
open Option renaming map_some → κd, map_none → κe, bind_some → κf, isSome_some → κg, isSome_none → κh
open Nat renaming reduceEqDiff → κi, reduceAdd → κv, reduceMul → κw, reduceLeDiff → κx, reduceBEq → κy, zero_le → κz, le_refl → κa1, zero_add → κb1, add_zero → κc1
open Bool renaming not_true → κd1, not_false → κe1, false_eq_true → κf1, true_eq_false → κq1
open Int renaming reduceBEq → κg1, reduceBNe → κh1, reduceLT → κi1, reduceLE → κj1, reduceAdd → κk1, reduceToNat → κl1, toNat_zero → κm1, reduceEq → κn1, toNat_natCast → κo1, le_refl → κp1
set_option linter.unusedVariables false
set_option linter.unusedSimpArgs false
set_option maxRecDepth 100000
def defPl : Pl := ⟨⟨1, 4, 4, 4, 0, 0, 0, [⟨37, 0, 0, 0, 0, 0⟩, ⟨39, 0, 0, 0, 0, 0⟩, ⟨37, 1, 0, 0, 0, 1⟩, ⟨39, 0, 1, 0, 0, 1⟩, ⟨37, 2, 0, 0, 0, 2⟩, ⟨39, 0, 2, 0, 0, 2⟩, ⟨37, 3, 0, 0, 0, 3⟩, ⟨39, 0, 3, 0, 0, 3⟩]⟩, ⟨0, 0, 0, 0, 0, 0, 0, []⟩, ⟨3, 1, 0, 4, 0, 0, 0, [⟨1, 0, 0, 0, 0, 65536⟩, ⟨39, 0, 0, 0, 0, 0⟩, ⟨39, 0, 0, 0, 0, 1⟩, ⟨39, 0, 0, 0, 0, 2⟩, ⟨39, 0, 0, 0, 0, 3⟩]⟩, [⟨0, 0, 16, 4⟩], false, false, false, false, false, false, 1, 1, 0, 0, 64, 64, 0, 65536, 8, 0, 8, 1, 1, 1, 8, 1, 1, 1, 0, 255, 255, 2, 1, 1, 2, 1, 1, 15, 1, 2, 1⟩
def pl_Default.S : Am.Spec := fun args => match args with
  | [] => some (.agg defPl.xs)
  | _ => none
def frustumlaw43_example.S : Am.Spec := fun args => match args with
  | [] => some (rBool true)
  | _ => none
theorem frustumlaw43_example.ok : SpecOK Try.prog 9 frustumlaw43_example.S := fun args r h => by
  unfold frustumlaw43_example.S at h
  split at h
  · cases h; exact example_ok
  · cases h
def defRaw : List XV := [.p (.int .i64 1), .p (.int .i64 4), .p (.int .i64 4), .p (.int .i64 4), .p (.int .i64 0), .p (.int .i64 0), .p (.int .i64 0), .p (.sl 6 [[.int .i64 37, .int .i64 0, .int .i64 0, .int .i64 0, .int .i64 0, .int .i64 0], [.int .i64 39, .int .i64 0, .int .i64 0, .int .i64 0, .int .i64 0, .int .i64 0], [.int .i64 37, .int .i64 1, .int .i64 0, .int .i64 0, .int .i64 0, .int .i64 1], [.int .i64 39, .int .i64 0, .int .i64 1, .int .i64 0, .int .i64 0, .int .i64 1], [.int .i64 37, .int .i64 2, .int .i64 0, .int .i64 0, .int .i64 0, .int .i64 2], [.int .i64 39, .int .i64 0, .int .i64 2, .int .i64 0, .int .i64 0, .int .i64 2], [.int .i64 37, .int .i64 3, .int .i64 0, .int .i64 0, .int .i64 0, .int .i64 3], [.int .i64 39, .int .i64 0, .int .i64 3, .int .i64 0, .int .i64 0, .int .i64 3]]), .p (.int .i64 0), .p (.int .i64 0), .p (.int .i64 0), .p (.int .i64 0), .p (.int .i64 0), .p (.int .i64 0), .p (.int .i64 0), .tk .tight 0 [], .p (.int .i64 3), .p (.int .i64 1), .p (.int .i64 0), .p (.int .i64 4), .p (.int .i64 0), .p (.int .i64 0), .p (.int .i64 0), .p (.sl 6 [[.int .i64 1, .int .i64 0, .int .i64 0, .int .i64 0, .int .i64 0, .int .i64 65536], [.int .i64 39, .int .i64 0, .int .i64 0, .int .i64 0, .int .i64 0, .int .i64 0], [.int .i64 39, .int .i64 0, .int .i64 0, .int .i64 0, .int .i64 0, .int .i64 1], [.int .i64 39, .int .i64 0, .int .i64 0, .int .i64 0, .int .i64 0, .int .i64 2], [.int .i64 39, .int .i64 0, .int .i64 0, .int .i64 0, .int .i64 0, .int .i64 3]]), .p (.bool false), .tk .tight 4 [[.int .i64 0, .int .i64 0, .int .i64 16, .int .i64 4]], .p (.int .i64 1), .p (.int .i64 1), .p (.bool false), .p (.int .i64 0), .p (.int .i64 0), .p (.int .i64 64), .p (.int .i64 64), .p (.int .i64 0), .p (.int .i64 65536), .p (.bool false), .p (.bool false), .p (.int .i64 8), .p (.int .i64 0), .p (.bool false), .p (.int .i64 8), .p (.int .i64 1), .p (.int .i64 1), .p (.int .i64 1), .p (.int .i64 8), .p (.int .i64 1), .p (.int .i64 1), .p (.int .i64 1), .p (.int .i64 0), .p (.int .i64 255), .p (.int .i64 255), .p (.bool false), .p (.int .i64 2), .p (.int .i64 1), .p (.int .i64 1), .p (.int .i64 2), .p (.int .i64 1), .p (.int .i64 1), .p (.int .i64 15), .p (.int .i64 1), .p (.int .i64 2), .p (.int .i64 1)]
theorem def_ev : evalF tb 300 30 10 [] = some (.agg defRaw) := by kernel_rfl
theorem def_le : XVsle defRaw defPl.xs := by
  unfold defRaw defPl Pl.xs
  exact ⟨XVle.refl _, XVle.refl _, XVle.refl _, XVle.refl _, XVle.refl _, XVle.refl _, XVle.refl _, XVle.refl _, XVle.refl _, XVle.refl _, XVle.refl _, XVle.refl _, XVle.refl _, XVle.refl _, XVle.refl _, XVle.tk0 _ _ _, XVle.refl _, XVle.refl _, XVle.refl _, XVle.refl _, XVle.refl _, XVle.refl _, XVle.refl _, XVle.refl _, XVle.refl _, XVle.tk _ _ _, XVle.refl _, XVle.refl _, XVle.refl _, XVle.refl _, XVle.refl _, XVle.refl _, XVle.refl _, XVle.refl _, XVle.refl _, XVle.refl _, XVle.refl _, XVle.refl _, XVle.refl _, XVle.refl _, XVle.refl _, XVle.refl _, XVle.refl _, XVle.refl _, XVle.refl _, XVle.refl _, XVle.refl _, XVle.refl _, XVle.refl _, XVle.refl _, XVle.refl _, XVle.refl _, XVle.refl _, XVle.refl _, XVle.refl _, XVle.refl _, XVle.refl _, XVle.refl _, XVle.refl _, XVle.refl _, XVle.refl _, XVle.refl _, trivial⟩
theorem pl_Default.ok : SpecOK Try.prog 10 pl_Default.S := fun args r h => by
  unfold pl_Default.S at h
  split at h
  · cases h
    exact CA.le (evalF_ok hE tb 300 30 10 [] _ def_ev) (AVle.agg def_le)
  · cases h
theorem def_valid : validP defPl = 0 := by kernel_rfl
end Go.Proofs.Ytjbhhdocbejccaa.Pl
