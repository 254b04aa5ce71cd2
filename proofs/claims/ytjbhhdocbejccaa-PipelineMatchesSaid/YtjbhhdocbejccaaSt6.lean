/- Chapter 43: the stack of open constructs: step, all instructions in one. What the call does to memory; conditions: the stack is the call's own (Nst), at most 20000 constructs are open, from 0 to 3 loops, one at least where the innermost construct is a loop. -/
import Derived.Test.YtjbhhdocbejccaaSt5
namespace Go.Proofs.Ytjbhhdocbejccaa.Pl
open Go Go.RowKit
set_option linter.unusedVariables false
set_option linter.unusedSimpArgs false
def stepS (st : Int) (L : List Int) (n op : Int) : Option (List Int × Int) :=
  if op = 43 then some (L ++ [43], n)
  else if op = 44 then (if L.getLast? = some 43 then some (L.dropLast ++ [44], n) else none)
  else if op = 45 then (if L.getLast? = some 43 ∨ L.getLast? = some 44 then some (L.dropLast, n) else none)
  else if op = 46 then (if 3 ≤ n then none else some (L ++ [46], n + 1))
  else if op = 49 then (if L.getLast? = some 46 then some (L.dropLast, n - 1) else none)
  else if op = 47 ∨ op = 48 then (if 0 < n then some (L, n) else none)
  else if op = 50 then (if st = 3 then some (L, n) else none)
  else if op = 51 ∨ op = 52 then (if st = 2 then some (L, n) else none)
  else some (L, n)
def StepPost (st : Int) (L : List Int) (n op : Int) (b : Nat) (w : World) (e : Ending) (w' : World) : Prop :=
  Below b w w' ∧ match stepS st L n op with
    | none => e = .returned (.bool false)
    | some (L', n') => e = .returned (.bool true) ∧ Nst w' b L' n'
theorem nil_or_snoc (L : List Int) : L = [] ∨ ∃ L' x, L = L' ++ [x] := by
  rcases List.eq_nil_or_concat L with h | ⟨L', x, h⟩
  · exact .inl h
  · exact .inr ⟨L', x, by rw [h, List.concat_eq_append]⟩
theorem step_ok (w : World) (b : Nat) (L : List Int) (n st op : Int) (c1 c2 c3 c4 c5 c6 c7 : Value) (h : Nst w b L n) (hL : L.length ≤ 20000) (h0 : 0 ≤ n) (h3 : n ≤ 3) (h46 : L.getLast? = some 46 → 1 ≤ n) :
    Calls Try.prog 83 #[.pointer (some ⟨b, 0, none⟩), .agg #[.int .i64 st, c1, c2, c3, c4, c5, c6, c7], .int .i64 op] w (StepPost st L n op b w) := by
  have no : ∀ {e : Ending} {w' : World}, stepS st L n op = none → e = .returned (.bool false) ∧ Below b w w' → StepPost st L n op b w e w' := fun hs h => ⟨h.2, by rw [hs]; exact h.1⟩
  have yes : ∀ {e : Ending} {w' : World} {L' : List Int} {n' : Int}, stepS st L n op = some (L', n') → e = .returned (.bool true) ∧ Below b w w' ∧ Nst w' b L' n' → StepPost st L n op b w e w' := fun hs h => ⟨h.2.1, by rw [hs]; exact ⟨h.1, h.2.2⟩⟩
  by_cases e43 : op = 43
  · subst e43
    exact (step_if w b L n _ _ _ _ _ _ _ _ h hL).mono fun e w' hp => yes rfl hp
  by_cases e44 : op = 44
  · subst e44
    rcases nil_or_snoc L with rfl | ⟨L, x, rfl⟩
    · exact (step_else_empty w b n _ _ _ _ _ _ _ _ h).mono fun e w' hp => no (by simp [stepS]) hp
    · by_cases hx : x = 43
      · subst hx
        exact (step_else w b L n _ _ _ _ _ _ _ _ h).mono fun e w' hp => yes (by simp [stepS]) hp
      · exact (step_else_wrong w b L x n _ _ _ _ _ _ _ _ h hx).mono fun e w' hp => no (by simp [stepS, hx]) hp
  by_cases e45 : op = 45
  · subst e45
    rcases nil_or_snoc L with rfl | ⟨L, x, rfl⟩
    · exact (step_endif_empty w b n _ _ _ _ _ _ _ _ h).mono fun e w' hp => no (by simp [stepS]) hp
    · by_cases hx : x = 43
      · subst hx
        exact (step_endif_43 w b L n _ _ _ _ _ _ _ _ h).mono fun e w' hp => yes (by simp [stepS]) hp
      · by_cases hy : x = 44
        · subst hy
          exact (step_endif_44 w b L n _ _ _ _ _ _ _ _ h).mono fun e w' hp => yes (by simp [stepS]) hp
        · exact (step_endif_wrong w b L x n _ _ _ _ _ _ _ _ h hx hy).mono fun e w' hp => no (by simp [stepS, hx, hy]) hp
  by_cases e46 : op = 46
  · subst e46
    by_cases hn : 3 ≤ n
    · exact (step_loop_full w b L n _ _ _ _ _ _ _ _ h hn).mono fun e w' hp => no (by simp [stepS, hn]) hp
    · exact (step_loop w b L n _ _ _ _ _ _ _ _ h hL h0 (by omega)).mono fun e w' hp => yes (by simp [stepS, hn]) hp
  by_cases e49 : op = 49
  · subst e49
    rcases nil_or_snoc L with rfl | ⟨L, x, rfl⟩
    · exact (step_endloop_empty w b n _ _ _ _ _ _ _ _ h).mono fun e w' hp => no (by simp [stepS]) hp
    · by_cases hx : x = 46
      · subst hx
        exact (step_endloop w b L n _ _ _ _ _ _ _ _ h (h46 (by simp)) h3).mono fun e w' hp => yes (by simp [stepS]) hp
      · exact (step_endloop_wrong w b L x n _ _ _ _ _ _ _ _ h hx).mono fun e w' hp => no (by simp [stepS, hx]) hp
  by_cases e47 : op = 47
  · subst e47
    by_cases hn : 0 < n
    · exact (step_break w b L n _ _ _ _ _ _ _ _ h).mono fun e w' hp => yes (by simp [stepS, hn]) ⟨by rw [hp.1, decide_eq_true hn], hp.2⟩
    · exact (step_break w b L n _ _ _ _ _ _ _ _ h).mono fun e w' hp => no (by simp [stepS, hn]) ⟨by rw [hp.1, decide_eq_false hn], hp.2.1⟩
  by_cases e48 : op = 48
  · subst e48
    by_cases hn : 0 < n
    · exact (step_continue w b L n _ _ _ _ _ _ _ _ h).mono fun e w' hp => yes (by simp [stepS, hn]) ⟨by rw [hp.1, decide_eq_true hn], hp.2⟩
    · exact (step_continue w b L n _ _ _ _ _ _ _ _ h).mono fun e w' hp => no (by simp [stepS, hn]) ⟨by rw [hp.1, decide_eq_false hn], hp.2.1⟩
  by_cases e50 : op = 50
  · subst e50
    by_cases hs : st = 3
    · exact (step_discard w b L st n _ _ _ _ _ _ _ _ h rfl).mono fun e w' hp => yes (by simp [stepS, hs]) ⟨by rw [hp.1]; simp [hs], hp.2⟩
    · exact (step_discard w b L st n _ _ _ _ _ _ _ _ h rfl).mono fun e w' hp => no (by simp [stepS, hs]) ⟨by rw [hp.1]; simp [hs], hp.2.1⟩
  by_cases e51 : op = 51
  · subst e51
    by_cases hs : st = 2
    · exact (step_emit w b L st n _ _ _ _ _ _ _ _ h rfl).mono fun e w' hp => yes (by simp [stepS, hs]) ⟨by rw [hp.1]; simp [hs], hp.2⟩
    · exact (step_emit w b L st n _ _ _ _ _ _ _ _ h rfl).mono fun e w' hp => no (by simp [stepS, hs]) ⟨by rw [hp.1]; simp [hs], hp.2.1⟩
  by_cases e52 : op = 52
  · subst e52
    by_cases hs : st = 2
    · exact (step_cut w b L st n _ _ _ _ _ _ _ _ h rfl).mono fun e w' hp => yes (by simp [stepS, hs]) ⟨by rw [hp.1]; simp [hs], hp.2⟩
    · exact (step_cut w b L st n _ _ _ _ _ _ _ _ h rfl).mono fun e w' hp => no (by simp [stepS, hs]) ⟨by rw [hp.1]; simp [hs], hp.2.1⟩
  exact (step_plain w b op L n _ _ _ _ _ _ _ _ h (by omega)).mono fun e w' hp => yes (by simp [stepS, e43, e44, e45, e46, e47, e48, e49, e50, e51, e52]) hp
end Go.Proofs.Ytjbhhdocbejccaa.Pl
