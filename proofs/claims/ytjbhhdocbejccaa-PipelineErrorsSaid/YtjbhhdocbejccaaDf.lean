/- Chapter 43: the default pipeline. No condition beyond those that each theorem states. -/
import Derived.Test.YtjbhhdocbejccaaEx
import Derived.Test.YtjbhhdocbejccaaP3
namespace Go.Proofs.Ytjbhhdocbejccaa.Pl
open Go Go.RowKit Go.Proofs.Ytjbhhdocbejccaa.Am
set_option linter.unusedVariables false
set_option linter.unusedSimpArgs false
set_option maxRecDepth 100000
def defPl : Pl := ⟨⟨1, 4, 4, 4, 0, 0, 0, [⟨37, 0, 0, 0, 0, 0⟩, ⟨39, 0, 0, 0, 0, 0⟩, ⟨37, 1, 0, 0, 0, 1⟩, ⟨39, 0, 1, 0, 0, 1⟩, ⟨37, 2, 0, 0, 0, 2⟩, ⟨39, 0, 2, 0, 0, 2⟩, ⟨37, 3, 0, 0, 0, 3⟩, ⟨39, 0, 3, 0, 0, 3⟩]⟩, ⟨0, 0, 0, 0, 0, 0, 0, []⟩, ⟨3, 1, 0, 4, 0, 0, 0, [⟨1, 0, 0, 0, 0, 65536⟩, ⟨39, 0, 0, 0, 0, 0⟩, ⟨39, 0, 0, 0, 0, 1⟩, ⟨39, 0, 0, 0, 0, 2⟩, ⟨39, 0, 0, 0, 0, 3⟩]⟩, [⟨0, 0, 16, 4⟩], false, false, false, false, false, false, 1, 1, 0, 0, 64, 64, 0, 65536, 8, 0, 8, 1, 1, 1, 8, 1, 1, 1, 0, 255, 255, 2, 1, 1, 2, 1, 1, 15, 1, 2, 1⟩
def pl_Default.S : Am.Spec := fun args => match args with
  | [] => some (.agg defPl.xs)
  | _ => none
def frustumlaw43_example.S : Am.Spec := fun args => match args with
  | [] => some (rBool true)
  | _ => none
theorem frustumlaw43_example.ok : SpecOK Try.prog 9 frustumlaw43_example.S := fun args r h => by
  unfold frustumlaw43_example.S at h
  split at h
  · cases h; exact example_ok
  · cases h
def defRaw : List XV := [.p (.int .i64 1), .p (.int .i64 4), .p (.int .i64 4), .p (.int .i64 4), .p (.int .i64 0), .p (.int .i64 0), .p (.int .i64 0), .p (.sl 6 [[.int .i64 37, .int .i64 0, .int .i64 0, .int .i64 0, .int .i64 0, .int .i64 0], [.int .i64 39, .int .i64 0, .int .i64 0, .int .i64 0, .int .i64 0, .int .i64 0], [.int .i64 37, .int .i64 1, .int .i64 0, .int .i64 0, .int .i64 0, .int .i64 1], [.int .i64 39, .int .i64 0, .int .i64 1, .int .i64 0, .int .i64 0, .int .i64 1], [.int .i64 37, .int .i64 2, .int .i64 0, .int .i64 0, .int .i64 0, .int .i64 2], [.int .i64 39, .int .i64 0, .int .i64 2, .int .i64 0, .int .i64 0, .int .i64 2], [.int .i64 37, .int .i64 3, .int .i64 0, .int .i64 0, .int .i64 0, .int .i64 3], [.int .i64 39, .int .i64 0, .int .i64 3, .int .i64 0, .int .i64 0, .int .i64 3]]), .p (.int .i64 0), .p (.int .i64 0), .p (.int .i64 0), .p (.int .i64 0), .p (.int .i64 0), .p (.int .i64 0), .p (.int .i64 0), .tk .tight 0 [], .p (.int .i64 3), .p (.int .i64 1), .p (.int .i64 0), .p (.int .i64 4), .p (.int .i64 0), .p (.int .i64 0), .p (.int .i64 0), .p (.sl 6 [[.int .i64 1, .int .i64 0, .int .i64 0, .int .i64 0, .int .i64 0, .int .i64 65536], [.int .i64 39, .int .i64 0, .int .i64 0, .int .i64 0, .int .i64 0, .int .i64 0], [.int .i64 39, .int .i64 0, .int .i64 0, .int .i64 0, .int .i64 0, .int .i64 1], [.int .i64 39, .int .i64 0, .int .i64 0, .int .i64 0, .int .i64 0, .int .i64 2], [.int .i64 39, .int .i64 0, .int .i64 0, .int .i64 0, .int .i64 0, .int .i64 3]]), .p (.bool false), .tk .tight 4 [[.int .i64 0, .int .i64 0, .int .i64 16, .int .i64 4]], .p (.int .i64 1), .p (.int .i64 1), .p (.bool false), .p (.int .i64 0), .p (.int .i64 0), .p (.int .i64 64), .p (.int .i64 64), .p (.int .i64 0), .p (.int .i64 65536), .p (.bool false), .p (.bool false), .p (.int .i64 8), .p (.int .i64 0), .p (.bool false), .p (.int .i64 8), .p (.int .i64 1), .p (.int .i64 1), .p (.int .i64 1), .p (.int .i64 8), .p (.int .i64 1), .p (.int .i64 1), .p (.int .i64 1), .p (.int .i64 0), .p (.int .i64 255), .p (.int .i64 255), .p (.bool false), .p (.int .i64 2), .p (.int .i64 1), .p (.int .i64 1), .p (.int .i64 2), .p (.int .i64 1), .p (.int .i64 1), .p (.int .i64 15), .p (.int .i64 1), .p (.int .i64 2), .p (.int .i64 1)]
theorem def_ev : evalF tb 300 30 10 [] = some (.agg defRaw) := by kernel_rfl
theorem def_le : XVsle defRaw defPl.xs := by
  unfold defRaw defPl Pl.xs
  exact ⟨XVle.refl _, XVle.refl _, XVle.refl _, XVle.refl _, XVle.refl _, XVle.refl _, XVle.refl _, XVle.refl _, XVle.refl _, XVle.refl _, XVle.refl _, XVle.refl _, XVle.refl _, XVle.refl _, XVle.refl _, XVle.tk0 _ _ _, XVle.refl _, XVle.refl _, XVle.refl _, XVle.refl _, XVle.refl _, XVle.refl _, XVle.refl _, XVle.refl _, XVle.refl _, XVle.tk _ _ _, XVle.refl _, XVle.refl _, XVle.refl _, XVle.refl _, XVle.refl _, XVle.refl _, XVle.refl _, XVle.refl _, XVle.refl _, XVle.refl _, XVle.refl _, XVle.refl _, XVle.refl _, XVle.refl _, XVle.refl _, XVle.refl _, XVle.refl _, XVle.refl _, XVle.refl _, XVle.refl _, XVle.refl _, XVle.refl _, XVle.refl _, XVle.refl _, XVle.refl _, XVle.refl _, XVle.refl _, XVle.refl _, XVle.refl _, XVle.refl _, XVle.refl _, XVle.refl _, XVle.refl _, XVle.refl _, XVle.refl _, XVle.refl _, trivial⟩
theorem pl_Default.ok : SpecOK Try.prog 10 pl_Default.S := fun args r h => by
  unfold pl_Default.S at h
  split at h
  · cases h
    exact CA.le (evalF_ok hE tb 300 30 10 [] _ def_ev) (AVle.agg def_le)
  · cases h
theorem def_valid : validP defPl = 0 := by kernel_rfl
end Go.Proofs.Ytjbhhdocbejccaa.Pl
