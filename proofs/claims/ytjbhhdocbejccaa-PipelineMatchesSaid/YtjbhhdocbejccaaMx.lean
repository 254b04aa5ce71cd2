/- Chapter 43: depth.Max. No condition beyond those that each theorem states. -/
import Derived.Test.YtjbhhdocbejccaaT2
import Derived.Test.YtjbhhdocbejccaaSt1
namespace Go.Proofs.Ytjbhhdocbejccaa.Pl
open Go Go.RowKit Go.Proofs.Ytjbhhdocbejccaa.Am
set_option linter.unusedVariables false
set_option linter.unusedSimpArgs false
theorem bits_call (w : World) (x : Int) : Calls Try.prog 24 #[.int .i64 x] w fun e w' => e = .returned (.int .i64 (bitsF x)) ∧ Below w.heap.size w w' := by
  refine ((depth_Bits.ok [.c (.int .i64 x)] _ rfl).2 w (fun _ _ => True) [.int .i64 x] ⟨RepC.int _ _, trivial⟩).mono ?_
  rintro e w' ⟨v, rfl, hB, hv⟩
  cases hv
  exact ⟨rfl, hB⟩
set_option maxRecDepth 1000000 in
set_option maxHeartbeats 2000000 in
theorem max_walk (w : World) (x : Int) : Calls Try.prog 60 #[.int .i64 x] w fun e w' => e = .returned (.int .i64 (maxF x)) ∧ Below w.heap.size w w' := by
  have hpc := fun w => bits_call w x
  have hx : (x = 1 ∧ bitsF x = 0 ∧ maxF x = 0) ∨ (x = 2 ∧ bitsF x = 16 ∧ maxF x = 65535) ∨ (x = 3 ∧ bitsF x = 24 ∧ maxF x = 16777215) ∨ (bitsF x = -1 ∧ maxF x = 0) := by
    by_cases e1 : x = 1
    · subst e1; exact .inl (by decide)
    by_cases e2 : x = 2
    · subst e2; exact .inr (.inl (by decide))
    by_cases e3 : x = 3
    · subst e3; exact .inr (.inr (.inl (by decide)))
    exact .inr (.inr (.inr ⟨by simp only [bitsF, e1, e2, e3, if_false], by simp only [maxF, e2, e3, if_false]⟩))
  generalize bitsF x = B at hx hpc
  generalize maxF x = M at hx ⊢
  rcases hx with ⟨-, rfl, rfl⟩ | ⟨-, rfl, rfl⟩ | ⟨-, rfl, rfl⟩ | ⟨rfl, rfl⟩
  all_goals
    go_enter Try.func60, Try.ntmps60
    go_wp2_with (go_at_call 24
                 refine (hpc _).mono ?_
                 rintro e w2 ⟨rfl, hB2⟩)
    go_ret
    exact ⟨rfl, hB2⟩
def depth_Max.S : Am.Spec := fun args => match args with
  | [.c (.int .i64 x)] => some (rInt (maxF x))
  | _ => none
theorem depth_Max.ok : SpecOK Try.prog 60 depth_Max.S := fun args r h => by
  unfold depth_Max.S at h
  split at h
  · cases h
    rename_i x
    refine ⟨⟨Try.f60, Try.func60, by kernel_rfl, by kernel_rfl⟩, fun w okA vs hvs => ?_⟩
    match vs, hvs with
    | [v], hvs =>
      obtain ⟨hv, _⟩ := hvs
      cases hv
      refine (max_walk w x).mono ?_
      rintro e w' ⟨rfl, hb⟩
      exact ⟨_, rfl, hb, RepC.int _ _⟩
    | [], hvs => exact hvs.elim
    | _ :: _ :: _, hvs => exact hvs.2.elim
  · cases h
end Go.Proofs.Ytjbhhdocbejccaa.Pl
