/- Chapter 43: PipelineErrors. No condition beyond those that each theorem states. -/
import Derived.Test.YtjbhhdocbejccaaDf
namespace Go.Proofs.Ytjbhhdocbejccaa.Pl
open Go Go.RowKit Go.Proofs.Ytjbhhdocbejccaa.Am
set_option linter.unusedVariables false
set_option linter.unusedSimpArgs false
set_option maxHeartbeats 16000000
set_option maxRecDepth 100000
/-! ### the plain law -/
def errPl (b16 b8 b4 b2 b1 b32 b64 b128 : Bool) (p : Pl) : Pl := { p with
  smp := if b16 = true then 3 else p.smp, fmt := if b8 = true then 7 else p.fmt, bm := if b4 = true then 16 else p.bm, vw := if b2 = true then 0 else p.vw, cull := if b1 = true then 4 else p.cull,
  f := if b32 = true then { p.f with inp := p.f.inp + 1 } else p.f, ats := if b64 = true then ⟨0, 0, 0, 1⟩ :: p.ats else p.ats, v := if b128 = true then { p.v with st := 3 } else p.v }
def errW (b16 b8 b4 b2 b1 b32 b64 b128 : Bool) : Int := if b128 = true then 17 else if b64 = true then 11 else if b32 = true then 18 else if b1 = true then 10 else if b2 = true then 6 else if b4 = true then 16 else if b8 = true then 14 else if b16 = true then 15 else 0
theorem valid_parts {p : Pl} (h : validP p = 0) : shadersB p = true ∧ atsB p = true ∧ linkB p = true ∧ kdB p = true ∧ vptB p = true ∧ sxB p = true ∧ fmB p = true ∧ sampB p.smp = true := by
  unfold validP at h
  repeat' split at h
  all_goals first
    | omega
    | (rename_i h1 h2 h3 h4 h5 h6 h7 h8; simp only [Bool.not_eq_false] at h1 h2 h3 h4 h5 h6 h7 h8; exact ⟨h1, h2, h3, h4, h5, h6, h7, h8⟩)
theorem valid_of {p : Pl} (h1 : shadersB p = true) (h2 : atsB p = true) (h3 : linkB p = true) (h4 : kdB p = true) (h5 : vptB p = true) (h6 : sxB p = true) (h7 : fmB p = true) : validP p = if sampB p.smp = false then 15 else 0 := by
  unfold validP
  rw [if_neg (by rw [h1]; simp), if_neg (by rw [h2]; simp), if_neg (by rw [h3]; simp), if_neg (by rw [h4]; simp), if_neg (by rw [h5]; simp), if_neg (by rw [h6]; simp), if_neg (by rw [h7]; simp)]
/-- A fragment program stays valid with one input more. -/
theorem opn_inp {p : Pg} {i : Ins} (h : opnI p i = 0) (hi : 0 ≤ p.inp) : opnI { p with inp := p.inp + 1 } i = 0 := by
  unfold opnI opnE at h ⊢
  split at h
  · rename_i h1
    rw [if_pos h1]
    split at h
    · omega
    · rename_i h2
      rw [if_neg h2]
      split at h
      · omega
      · rename_i h3
        rw [if_neg ?_]
        intro h4
        apply h3
        have h5 := of_decide_eq_true h4
        refine decide_eq_true ?_
        rcases h5 with h5 | h5 | h5 | h5 | h5
        · exact .inl h5
        · exact .inr (.inl h5)
        · exact .inr (.inr (.inl h5))
        · exact .inr (.inr (.inr (.inl h5)))
        · refine .inr (.inr (.inr (.inr ?_)))
          simp only at h5
          unfold immB at h5 ⊢
          by_cases e1 : i.op = 1
          · rw [if_pos e1] at h5 ⊢; exact h5
          rw [if_neg e1] at h5 ⊢
          by_cases e2 : i.op = 37
          · rw [if_pos e2] at h5 ⊢
            have h6 := of_decide_eq_false h5
            refine decide_eq_false ?_
            split at h6
            · rw [if_pos (by assumption)]; omega
            · rw [if_neg (by assumption)]; omega
          · rw [if_neg e2] at h5 ⊢; exact h5
  · omega
theorem loop_inp {p : Pg} (hi : 0 ≤ p.inp) : ∀ (l : List Ins) (L : List Int) (n : Int), vLoop p l L n = 0 → vLoop { p with inp := p.inp + 1 } l L n = 0
  | [], L, n, h => h
  | i :: r, L, n, h => by
    unfold vLoop at h ⊢
    split at h
    · rename_i he
      rw [if_pos (opn_inp he hi)]
      simp only
      cases hs : stepS p.st L n i.op with
      | none => rw [hs] at h; simp at h
      | some q =>
        obtain ⟨L', n'⟩ := q
        rw [hs] at h
        exact loop_inp hi r L' n' h
    · rename_i he; exact absurd h he
theorem valid_inp {p : Pg} (h : validS p = 0) (hi : p.inp ≤ 28) : validS { p with inp := p.inp + 1 } = 0 := by
  have hr := valid_rng h
  have h0 := rng_out hr
  unfold validS at h ⊢
  split at h
  · omega
  · rename_i h1
    rw [if_neg h1]
    split at h
    · omega
    · rename_i h2
      rw [if_neg ?_]
      · split at h
        · omega
        · rename_i h3
          rw [if_neg h3]
          exact loop_inp h0.2.2.1 _ _ _ h
      · intro h4
        have h5 : rngP { p with inp := p.inp + 1 } = true := by
          simp only [rngP, cmpP, resP, withinB, Bool.and_eq_true, decide_eq_true_eq] at hr ⊢
          omega
        rw [h5] at h4; cases h4
theorem varyF_le {p : Pl} (h : rngs p = true) : varyF p ≤ 28 := by
  simp only [rngs, Bool.and_eq_true, Bool.or_eq_true, Bool.not_eq_true'] at h
  unfold varyF varN outP
  have h1 := rng_out h.1
  cases hg : p.hg with
  | true =>
    have h2 := rng_out (show rngP p.g = true by rcases h.2 with h | h; rw [hg] at h; cases h; exact h)
    simp only [if_true]; split <;> omega
  | false => simp only [Bool.false_eq_true, if_false]; split <;> omega
theorem errs_law (b16 b8 b4 b2 b1 b32 b64 b128 : Bool) (p : Pl) (h : validP p = 0) : validP (errPl b16 b8 b4 b2 b1 b32 b64 b128 p) = errW b16 b8 b4 b2 b1 b32 b64 b128 := by
  obtain ⟨h1, h2, h3, h4, h5, h6, h7, h8⟩ := valid_parts h
  have hrg := shaders_rngs h1
  have hlk := of_decide_eq_true h3
  cases b128 with
  | true =>
    have e : shadersB (errPl b16 b8 b4 b2 b1 b32 b64 true p) = false := by
      have : shB { p.v with st := 3 } 1 = false := decide_eq_false (fun h => by have := h.1; simp at this)
      simp only [shadersB, errPl, if_true, this, Bool.false_and]
    unfold validP; rw [if_pos e]; rfl
  | false =>
  have q1 : shadersB (errPl b16 b8 b4 b2 b1 b32 b64 false p) = true := by
    cases b32 with
    | false => exact h1
    | true =>
      simp only [shadersB, Bool.and_eq_true] at h1 ⊢
      obtain ⟨g1, g2, g3⟩ := h1
      refine ⟨g1, ?_, g3⟩
      have g4 := of_decide_eq_true g2
      have hin : p.f.inp ≤ 28 := by rw [hlk.2.2.1]; exact varyF_le hrg
      exact decide_eq_true ⟨g4.1, valid_inp g4.2 hin⟩
  cases b64 with
  | true =>
    have e : atsB (errPl b16 b8 b4 b2 b1 b32 true false p) = false := by
      simp only [atsB, Bool.and_eq_true, beq_iff_eq] at h2
      have : (compsL (⟨0, 0, 0, 1⟩ :: p.ats) == p.v.inp) = false := by
        have hc : compsF 1 = 1 := rfl
        rw [beq_eq_false_iff_ne]
        simp only [compsL, hc]
        omega
      simp only [atsB, errPl, if_true, Bool.false_eq_true, if_false, this, Bool.and_false]
    unfold validP; rw [if_neg (by rw [q1]; simp), if_pos e]; rfl
  | false =>
  have q2 : atsB (errPl b16 b8 b4 b2 b1 b32 false false p) = true := h2
  cases b32 with
  | true =>
    have e : linkB (errPl b16 b8 b4 b2 b1 true false false p) = false := decide_eq_false (fun h => by
      have h9 : p.f.inp + 1 = varyF p := h.2.2.1
      have := hlk.2.2.1
      omega)
    unfold validP; rw [if_neg (by rw [q1]; simp), if_neg (by rw [q2]; simp), if_pos e]; rfl
  | false =>
  have q3 : linkB (errPl b16 b8 b4 b2 b1 false false false p) = true := h3
  cases b1 with
  | true =>
    have e : kdB (errPl b16 b8 b4 b2 true false false false p) = false := decide_eq_false (fun h => by
      have h9 : (4 : Int) ≤ 3 := h.2.2.2
      omega)
    unfold validP; rw [if_neg (by rw [q1]; simp), if_neg (by rw [q2]; simp), if_neg (by rw [q3]; simp), if_pos e]; rfl
  | false =>
  have q4 : kdB (errPl b16 b8 b4 b2 false false false false p) = true := h4
  cases b2 with
  | true =>
    have e : vptB (errPl b16 b8 b4 true false false false false p) = false := by
      have : insB p.vx 0 = false := decide_eq_false (fun h => by omega)
      refine decide_eq_false (fun h => ?_)
      have h9 : insB p.vx 0 = true := h.1
      rw [this] at h9; cases h9
    unfold validP; rw [if_neg (by rw [q1]; simp), if_neg (by rw [q2]; simp), if_neg (by rw [q3]; simp), if_neg (by rw [q4]; simp), if_pos e]; rfl
  | false =>
  have q5 : vptB (errPl b16 b8 b4 false false false false false p) = true := h5
  cases b4 with
  | true =>
    have e : sxB (errPl b16 b8 true false false false false false p) = false := by
      have hb : blB p.c1 p.c2 p.c3 p.c4 p.c5 p.c6 16 = false := decide_eq_false (fun h => by have := h.2.2.2.2.2.2.2; omega)
      show (dsB p.dc p.db && (stB p.f1 p.f2 p.f3 p.f4 p.b1 p.b2 p.b3 p.b4 p.sr p.sm p.sw && blB p.c1 p.c2 p.c3 p.c4 p.c5 p.c6 16)) = false
      rw [hb, Bool.and_false, Bool.and_false]
    unfold validP; rw [if_neg (by rw [q1]; simp), if_neg (by rw [q2]; simp), if_neg (by rw [q3]; simp), if_neg (by rw [q4]; simp), if_neg (by rw [q5]; simp), if_pos e]; rfl
  | false =>
  have q6 : sxB (errPl b16 b8 false false false false false false p) = true := h6
  cases b8 with
  | true =>
    have e : fmB (errPl b16 true false false false false false false p) = false := decide_eq_false (fun h => by
      have h9 : (7 : Int) ≤ 6 := h.2.1
      omega)
    unfold validP; rw [if_neg (by rw [q1]; simp), if_neg (by rw [q2]; simp), if_neg (by rw [q3]; simp), if_neg (by rw [q4]; simp), if_neg (by rw [q5]; simp), if_neg (by rw [q6]; simp), if_pos e]; rfl
  | false =>
  have q7 : fmB (errPl b16 false false false false false false false p) = true := h7
  rw [valid_of q1 q2 q3 q4 q5 q6 q7]
  cases b16 with
  | true => rfl
  | false =>
    have q8 : sampB (errPl false false false false false false false false p).smp = true := h8
    rw [q8]; rfl
end Go.Proofs.Ytjbhhdocbejccaa.Pl
