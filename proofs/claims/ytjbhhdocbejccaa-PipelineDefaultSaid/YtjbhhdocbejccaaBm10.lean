/- The abstract machine: operations that do not touch each other may change places. No condition beyond those that each theorem states. -/
import Derived.Test.YtjbhhdocbejccaaBm9
namespace Go.Proofs.Ytjbhhdocbejccaa.Bm
open Go Go.RowKit
set_option linter.unusedVariables false
set_option linter.unusedSimpArgs false

def tmpsOf : List Operand → List Nat
  | [] => []
  | .tmp t :: r => t :: tmpsOf r
  | _ :: r => tmpsOf r
def MO.operands : MO → List Operand
  | .mv x | .mkb x | .ld _ _ _ x | .adr _ x | .un _ x | .cvt _ x | .len x | .fld _ _ _ x | .ext _ x => [x]
  | .pick c x y => [c, x, y]
  | .new _ => []
  | .bad => []
  | .idxV _ _ _ x y | .take x y | .st _ _ x y | .idx _ x y | .idxA _ _ x y | .bin _ x y | .eqb _ x y | .eqa _ _ x y | .mn x y | .mx x y | .app _ _ x y => [x, y]
  | .bld _ ps | .bldS _ _ _ ps => ps.map fun p => p.2.2
  | .call _ xs => xs
  | .callv f xs => f :: xs
def MO.kind : MO → Nat
  | .ld .. => 1
  | .st .. => 2
  | .app .. => 3
  | _ => 0
def MO.base : MO → Option Nat
  | .ld _ _ b _ => b
  | .st _ b _ _ => b
  | _ => none
/-- Two operations reach for the same variable, or may. -/
def near : Option Nat → Option Nat → Bool
  | some b, some b' => b == b'
  | _, _ => true
def compat (m m' : MO) : Bool := !(m.kind == 2 && (m'.kind == 1 || m'.kind == 2) && near m.base m'.base) && !(m'.kind == 2 && m.kind == 1 && near m.base m'.base) && !(m.kind == 3 && m'.kind == 3)
def MOp.uses (m : MOp) : List Nat := (match m.gt with
  | some (g, _) => [g]
  | none => []) ++ tmpsOf m.op.operands
/-- Nothing that one names does the other write; and they do not meet in memory. -/
def indep (m m' : MOp) : Bool :=
  (match m.dst with
    | some d => !m'.uses.contains d && m'.dst != some d
    | none => true) &&
  (match m'.dst with
    | some d => !m.uses.contains d
    | none => true) && compat m.op m'.op

section
variable {G : FuncId → Spec} {σ σ1 σ' σ2 : St} {e : Eff} {dst : Option Nat}
theorem ev_after_live (hrun : e.run dst σ = some σ1) (hst : ∀ d cs, e = .st d cs → (σ.hp d).isSome = true) {x : Operand} (hx : ∀ t, x = .tmp t → dst ≠ some t) : ev σ1 x = ev σ x := by
  cases x with
  | const c => unfold ev; split <;> simp_all
  | global g => rfl
  | func f => rfl
  | tmp t =>
    have hne := hx t rfl
    cases e with
    | val v =>
      simp only [Eff.run, Option.some.injEq] at hrun
      subst hrun
      cases dst with
      | none => rfl
      | some d =>
        have : t ≠ d := fun h => hne (by rw [h])
        simp only [ev, St.put, upd, if_neg this]
        cases σ.tm t with
        | none => rfl
        | some y => cases y <;> rfl
    | mk cs =>
      cases dst with
      | none => cases hrun
      | some d =>
        have htd : t ≠ d := fun h => hne (by rw [h])
        simp only [Eff.run] at hrun
        split at hrun
        · cases hrun
        · rename_i hno
          simp only [Option.some.injEq] at hrun
          subst hrun
          simp only [ev, upd, if_neg htd, forgetBox]
          cases hm : σ.tm t with
          | none => rfl
          | some y =>
            cases y with
            | box d' o =>
              simp only
              by_cases hd : d' = d
              · subst hd; simp [hno]
              · simp [hd]
            | _ => rfl
    | st d cs =>
      cases dst with
      | some d => cases hrun
      | none =>
        simp only [Eff.run, Option.some.injEq] at hrun
        subst hrun
        have hs := hst d cs rfl
        simp only [ev]
        cases hm : σ.tm t with
        | none => rfl
        | some y =>
          cases y with
          | box d' o =>
            simp only [upd]
            by_cases hd : d' = d
            · subst hd; simp [hs]
            · simp [hd]
          | _ => rfl
    | app k sz es =>
      cases dst with
      | none => cases hrun
      | some d =>
        have htd : t ≠ d := fun h => hne (by rw [h])
        simp only [Eff.run, Option.some.injEq] at hrun
        subst hrun
        simp [ev, upd, htd]
theorem pvs_congr {xs : List Operand} (hev : ∀ x ∈ xs, ev σ1 x = ev σ x) : pvs σ1 xs = pvs σ xs := by
  induction xs with
  | nil => rfl
  | cons x xs ih =>
    simp only [pvs]
    rw [hev x (by simp), ih (fun y hy => hev y (by simp [hy]))]
theorem fillX_congr {ps : List (Nat × Nat × Operand)} (hev : ∀ p ∈ ps, ev σ1 p.2.2 = ev σ p.2.2) : ∀ z, fillX σ1 ps z = fillX σ ps z := by
  induction ps with
  | nil => intro z; rfl
  | cons p ps ih =>
    intro z
    obtain ⟨off, n, x⟩ := p
    simp only [fillX]
    rw [show ev σ1 x = ev σ x from hev (off, n, x) (by simp)]
    cases (ev σ x).bind AV.cells with
    | none => rfl
    | some xs =>
      simp only
      rw [ih (fun y hy => hev y (by simp [hy]))]
theorem ev_box_live {x : Operand} {d o : Nat} (h : ev σ x = some (.box d o)) : (σ.hp d).isSome = true := by
  cases x with
  | const c => unfold ev at h; split at h <;> simp_all
  | global g => cases h
  | func f => simp [ev] at h
  | tmp t =>
    simp only [ev] at h
    split at h
    · split at h
      · rename_i hs; cases h; exact hs
      · cases h
    · rename_i hm; exact (hm d o h).elim
/-- What an operation's effect has to do with the operation. -/
theorem think_kind {m : MO} (h : think G σ m = some e) : (∀ d cs, e = .st d cs → m.kind = 2 ∧ (σ.hp d).isSome = true ∧ baseOk m.base d = true) ∧ (∀ k sz es, e = .app k sz es → m.kind = 3) ∧ (∀ d o, e = .val (.box d o) → (σ.hp d).isSome = true) := by
  have hplain : ∀ (r : AV) (x : AV) d o, r.plain = some x → x ≠ .box d o := fun r x d o h1 h2 => by
    subst h2; cases r <;> cases h1
  have hld : ∀ n ag cs e, ldX n ag cs = some e → ∃ v, e = .val v ∧ ∀ d o, v ≠ .box d o := fun n ag cs e h => by
    unfold ldX at h
    split at h
    · split at h
      · cases h; exact ⟨_, rfl, fun d o h => by cases h⟩
      · split at h
        · split at h
          · cases h; exact ⟨_, rfl, fun d o h => by cases h⟩
          · cases h
        · cases h
    · cases h
  cases m with
  | bad => cases h
  | mv x =>
    simp only [think, Option.map_eq_some_iff] at h
    obtain ⟨v, hv, rfl⟩ := h
    exact ⟨(fun d cs h => by cases h), (fun k sz es h => by cases h), fun d o h => by cases h; exact ev_box_live hv⟩
  | pick c x y =>
    simp only [think] at h
    split at h
    · split at h
      · simp only [Option.map_eq_some_iff] at h
        obtain ⟨v, hv, rfl⟩ := h
        exact ⟨(fun d cs h => by cases h), (fun k sz es h => by cases h), fun d o h => by cases h; exact ev_box_live hv⟩
      · simp only [Option.map_eq_some_iff] at h
        obtain ⟨v, hv, rfl⟩ := h
        exact ⟨(fun d cs h => by cases h), (fun k sz es h => by cases h), fun d o h => by cases h; exact ev_box_live hv⟩
    · cases h
  | mkb x =>
    simp only [think, Option.map_eq_some_iff] at h
    obtain ⟨v, hv, rfl⟩ := h
    exact ⟨(fun d cs h => by cases h), (fun k sz es h => by cases h), fun d o h => by cases h⟩
  | new z => cases h; exact ⟨(fun d cs h => by cases h), (fun k sz es h => by cases h), fun d o h => by cases h⟩
  | ld n ag b x =>
    simp only [think] at h
    split at h
    · split at h
      case isFalse => cases h
      split at h
      · obtain ⟨v, rfl, hv⟩ := hld _ _ _ _ h
        exact ⟨(fun d cs h => by cases h), (fun k sz es h => by cases h), fun d o h => by cases h; exact (hv d o rfl).elim⟩
      · cases h
    · obtain ⟨v, rfl, hv⟩ := hld _ _ _ _ h
      exact ⟨(fun d cs h => by cases h), (fun k sz es h => by cases h), fun d o h => by cases h; exact (hv d o rfl).elim⟩
    · cases h
  | st n b x v =>
    simp only [think] at h
    split at h
    · rename_i d' o' hx
      split at h
      case isFalse => cases h
      rename_i hbase
      split at h
      · split at h
        · cases h
          exact ⟨(fun d cs h => by cases h; exact ⟨rfl, ev_box_live hx, hbase⟩), (fun k sz es h => by cases h), fun d o h => by cases h⟩
        · cases h
      · cases h
    · cases h
  | adr off x =>
    simp only [think] at h
    split at h
    · rename_i hx
      cases h
      exact ⟨(fun d cs h => by cases h), (fun k sz es h => by cases h), fun d o h => by cases h; exact ev_box_live hx⟩
    · cases h; exact ⟨(fun d cs h => by cases h), (fun k sz es h => by cases h), fun d o h => by cases h⟩
    · cases h
  | idxA len sz x i =>
    simp only [think] at h
    split at h
    · rename_i hx _
      split at h
      · cases h
        exact ⟨(fun d cs h => by cases h), (fun k sz es h => by cases h), fun d o h => by cases h; exact ev_box_live hx⟩
      · cases h
    · split at h
      · cases h; exact ⟨(fun d cs h => by cases h), (fun k sz es h => by cases h), fun d o h => by cases h⟩
      · cases h
    · cases h
  | idx sz x i =>
    simp only [think] at h
    split at h
    · split at h
      · split at h
        · simp only [Option.map_eq_some_iff] at h
          obtain ⟨v, hv, rfl⟩ := h
          exact ⟨(fun d cs h => by cases h), (fun k sz es h => by cases h), fun d o h => by cases h⟩
        · cases h
      · cases h
    · cases h
  | bld z ps =>
    simp only [think, Option.map_eq_some_iff] at h
    obtain ⟨v, hv, rfl⟩ := h
    exact ⟨(fun d cs h => by cases h), (fun k sz es h => by cases h), fun d o h => by cases h⟩
  | bldS n sz z ps =>
    simp only [think, Option.map_eq_some_iff] at h
    obtain ⟨v, hv, rfl⟩ := h
    exact ⟨(fun d cs h => by cases h), (fun k sz es h => by cases h), fun d o h => by cases h⟩
  | call f xs =>
    simp only [think, Option.bind_eq_some_iff, Option.map_eq_some_iff] at h
    obtain ⟨r, _, x, hx, rfl⟩ := h
    exact ⟨(fun d cs h => by cases h), (fun k sz es h => by cases h), fun d o h => by cases h; exact (hplain _ _ d o hx rfl).elim⟩
  | callv f xs =>
    simp only [think] at h
    split at h
    · simp only [Option.bind_eq_some_iff, Option.map_eq_some_iff] at h
      obtain ⟨r, _, x, hx, rfl⟩ := h
      exact ⟨(fun d cs h => by cases h), (fun k sz es h => by cases h), fun d o h => by cases h; exact (hplain _ _ d o hx rfl).elim⟩
    · cases h
  | fld off n ag x =>
    simp only [think] at h
    split at h
    · obtain ⟨v, rfl, hv⟩ := hld _ _ _ _ h
      exact ⟨(fun d cs h => by cases h), (fun k sz es h => by cases h), fun d o h => by cases h; exact (hv d o rfl).elim⟩
    · cases h
  | ext i x =>
    simp only [think] at h
    split at h
    · simp only [Option.map_eq_some_iff] at h
      obtain ⟨v, hv, rfl⟩ := h
      exact ⟨(fun d cs h => by cases h), (fun k sz es h => by cases h), fun d o h => by cases h⟩
    · cases h
  | idxV len sz ag x i =>
    simp only [think] at h
    split at h
    · split at h
      · obtain ⟨v, rfl, hv⟩ := hld _ _ _ _ h
        exact ⟨(fun d cs h => by cases h), (fun k sz es h => by cases h), fun d o h => by cases h; exact (hv d o rfl).elim⟩
      · cases h
    · cases h
  | take x hi =>
    simp only [think] at h
    split at h
    · split at h
      · split at h
        · cases h; exact ⟨(fun d cs h => by cases h), (fun k sz es h => by cases h), fun d o h => by cases h⟩
        · cases h
      · cases h
    · cases h
  | app sz bytes s x =>
    refine ⟨fun d cs he => ?_, fun _ _ _ _ => rfl, fun d o he => ?_⟩ <;>
    · subst he
      simp only [think] at h
      repeat' (split at h)
      all_goals cases h
  | bin op x y =>
    simp only [think] at h
    split at h
    · split at h
      · simp only [Option.map_eq_some_iff] at h
        obtain ⟨v, hv, rfl⟩ := h
        exact ⟨(fun d cs h => by cases h), (fun k sz es h => by cases h), fun d o h => by cases h⟩
      · cases h
    · cases h
  | eqb neg x y =>
    simp only [think] at h
    split at h
    · cases h; exact ⟨(fun d cs h => by cases h), (fun k sz es h => by cases h), fun d o h => by cases h⟩
    · cases h
  | eqa n neg x y =>
    simp only [think] at h
    repeat' (split at h)
    all_goals first | cases h; done | (cases h; exact ⟨(fun d cs h => by cases h), (fun k sz es h => by cases h), fun d o h => by cases h⟩)
  | un op x =>
    simp only [think] at h
    repeat' (split at h)
    all_goals first | (cases h; exact ⟨(fun d cs h => by cases h), (fun k sz es h => by cases h), fun d o h => by cases h⟩) | cases h
  | cvt k x =>
    simp only [think] at h
    repeat' (split at h)
    all_goals first | (cases h; exact ⟨(fun d cs h => by cases h), (fun k sz es h => by cases h), fun d o h => by cases h⟩) | cases h
  | len x =>
    simp only [think] at h
    repeat' (split at h)
    all_goals first | (cases h; exact ⟨(fun d cs h => by cases h), (fun k sz es h => by cases h), fun d o h => by cases h⟩) | cases h
  | mn x y =>
    simp only [think] at h
    repeat' (split at h)
    all_goals first | (cases h; exact ⟨(fun d cs h => by cases h), (fun k sz es h => by cases h), fun d o h => by cases h⟩) | cases h
  | mx x y =>
    simp only [think] at h
    repeat' (split at h)
    all_goals first | (cases h; exact ⟨(fun d cs h => by cases h), (fun k sz es h => by cases h), fun d o h => by cases h⟩) | cases h
end
end Go.Proofs.Ytjbhhdocbejccaa.Bm
