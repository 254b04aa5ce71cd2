/- The abstract machine run: what a closed call comes to, by reckoning. No condition beyond those that each theorem states. -/
import Derived.Test.YtjbhhdocbejccaaBm14
namespace Go.Proofs.Ytjbhhdocbejccaa.Bm
open Go Go.RowKit
set_option linter.unusedVariables false
set_option linter.unusedSimpArgs false
def loopN (f : St → Option (Exit × St)) : Nat → St → Option (Exit × St)
  | 0, _ => none
  | k + 1, σ => match f σ with
    | some (.normal, σ') => loopN f k σ'
    | r => r
def mrun (G : FuncId → Spec) (n : Nat) : MC → St → Option (Exit × St)
  | .skip, σ => some (.normal, σ)
  | .reg ms, σ => (execS G ms (prep ms σ)).map fun σ' => (.normal, σ')
  | .seq a b, σ => match mrun G n a σ with
    | some (.normal, σ') => mrun G n b σ'
    | r => r
  | .cond c a b, σ => match ev σ c with
    | some (.c (.p (.bool t))) => if t = true then mrun G n a σ else mrun G n b σ
    | _ => none
  | .block id a, σ => match mrun G n a σ with
    | some (.exit id', σ') => if id' = id then some (.normal, σ') else some (.exit id', σ')
    | r => r
  | .loop a, σ => loopN (mrun G n a) n σ
  | .exit id, σ => some (.exit id, σ)
  | .ret, σ => some (.ret, σ)
theorem outSeq_of {K : St → Prop} {Q : Exit → St → Prop} {e : Exit} {σ : St} (hn : e ≠ .normal) (h : Q e σ) : outSeq K Q e σ := by
  cases e with
  | normal => exact absurd rfl hn
  | exit id => exact h
  | goto l => exact h
  | ret => exact h
  | panic c => exact h
  | outgrown => exact h
theorem loopN_peel {G : FuncId → Spec} {a : MC} {f : St → Option (Exit × St)} (hf : ∀ (Q : Exit → St → Prop) σ e σ', f σ = some (e, σ') → Q e σ' → mwp G a Q σ) :
    ∀ (k : Nat) (Q : Exit → St → Prop) σ e σ', loopN f k σ = some (e, σ') → Q e σ' → peel (mwp G a) Q k σ
  | 0, Q, σ, e, σ', h, _ => by cases h
  | k + 1, Q, σ, e, σ', h, hq => by
    simp only [loopN] at h
    show mwp G a (outSeq (fun σ' => ∃ σ'', Sub σ'' σ' ∧ peel (mwp G a) Q k σ'') Q) σ
    cases hr : f σ with
    | none => rw [hr] at h; cases h
    | some p =>
      obtain ⟨e1, σ1⟩ := p
      rw [hr] at h
      by_cases hn : e1 = .normal
      · subst hn
        exact hf _ _ _ _ hr ⟨σ1, Sub.refl _, loopN_peel hf k Q σ1 e σ' h hq⟩
      · have he : e = e1 ∧ σ' = σ1 := by
          cases e1 with
          | normal => exact absurd rfl hn
          | exit id => cases h; exact ⟨rfl, rfl⟩
          | goto l => cases h; exact ⟨rfl, rfl⟩
          | ret => cases h; exact ⟨rfl, rfl⟩
          | panic c => cases h; exact ⟨rfl, rfl⟩
          | outgrown => cases h; exact ⟨rfl, rfl⟩
        obtain ⟨rfl, rfl⟩ := he
        exact hf _ _ _ _ hr (outSeq_of hn hq)
theorem mrun_mwp {G : FuncId → Spec} {n : Nat} : ∀ (m : MC) (Q : Exit → St → Prop) (σ : St) (e : Exit) (σ' : St), mrun G n m σ = some (e, σ') → Q e σ' → mwp G m Q σ := by
  intro m
  induction m with
  | skip => intro Q σ e σ' h hq; cases h; exact hq
  | reg ms =>
    intro Q σ e σ' h hq
    simp only [mrun, Option.map_eq_some_iff] at h
    obtain ⟨σ1, h1, h2⟩ := h
    cases h2
    exact ⟨_, h1, hq⟩
  | seq a b iha ihb =>
    intro Q σ e σ' h hq
    simp only [mrun] at h
    cases hr : mrun G n a σ with
    | none => rw [hr] at h; cases h
    | some p =>
      obtain ⟨e1, σ1⟩ := p
      rw [hr] at h
      by_cases hn : e1 = .normal
      · subst hn
        exact iha _ _ _ _ hr ⟨σ1, Sub.refl _, ihb Q σ1 e σ' h hq⟩
      · have he : e = e1 ∧ σ' = σ1 := by
          cases e1 with
          | normal => exact absurd rfl hn
          | exit id => cases h; exact ⟨rfl, rfl⟩
          | goto l => cases h; exact ⟨rfl, rfl⟩
          | ret => cases h; exact ⟨rfl, rfl⟩
          | panic c => cases h; exact ⟨rfl, rfl⟩
          | outgrown => cases h; exact ⟨rfl, rfl⟩
        obtain ⟨rfl, rfl⟩ := he
        exact iha _ _ _ _ hr (outSeq_of hn hq)
  | cond c a b iha ihb =>
    intro Q σ e σ' h hq
    simp only [mrun] at h
    split at h
    · rename_i t hc
      refine ⟨t, hc, fun ht => ?_, fun ht => ?_⟩
      · rw [if_pos ht] at h; exact iha Q σ e σ' h hq
      · rw [if_neg (by simp [ht])] at h; exact ihb Q σ e σ' h hq
    · cases h
  | block id a iha =>
    intro Q σ e σ' h hq
    simp only [mrun] at h
    cases hr : mrun G n a σ with
    | none => rw [hr] at h; cases h
    | some p =>
      obtain ⟨e1, σ1⟩ := p
      rw [hr] at h
      refine iha (outBlock id Q) _ _ _ hr ?_
      cases e1 with
      | exit id' =>
        simp only [outBlock]
        simp only at h
        split at h
        · rename_i hi; cases h; rw [if_pos hi]; exact hq
        · rename_i hi; cases h; rw [if_neg hi]; exact hq
      | normal => cases h; exact hq
      | goto l => cases h; exact hq
      | ret => cases h; exact hq
      | panic c => cases h; exact hq
      | outgrown => cases h; exact hq
  | loop a iha =>
    intro Q σ e σ' h hq
    exact ⟨n, loopN_peel iha n Q σ e σ' h hq⟩
  | exit id => intro Q σ e σ' h hq; cases h; exact hq
  | ret => intro Q σ e σ' h hq; cases h; exact hq
/-- A call of a function of the table: its arguments' count, its code, its result. -/
def runC (G : FuncId → Spec) (n : Nat) (c : MC) (rv : RV) (args : List PV) : Option AV := match mrun G n c (init args) with
  | some (.ret, σ) => result σ rv
  | some (.normal, σ) => result σ rv
  | _ => none
theorem runC_law {P : Program} {eqT : List TypeId} {l : List (FuncId × Spec)} {f : FuncId} {fn : Func} {m : MC} {rv : RV} {args : List PV} {r : AV} {n : Nat} (hf : P.funcs[f]? = some fn) (htr : trF P eqT fn = some (m, rv)) (hlen : args.length = fn.params.size)
    (hE : ∀ t ∈ eqT, EqOk P t) (hG : ∀ p ∈ l, SpecOK P p.1 p.2) (h : runC (mkG l) n m rv args = some r) : CA P f args r := by
  refine fnLaw hf htr hlen hE hG ?_
  unfold runC at h
  split at h
  · rename_i σ hr; exact mrun_mwp m _ _ _ _ hr ⟨.inl rfl, r, h, AVle.refl _⟩
  · rename_i σ hr; exact mrun_mwp m _ _ _ _ hr ⟨.inr rfl, r, h, AVle.refl _⟩
  · cases h
theorem fnLawG {P : Program} {eqT : List TypeId} {G : FuncId → Spec} {f : FuncId} {fn : Func} {m : MC} {rv : RV} {args : List PV} {r : AV} (hf : P.funcs[f]? = some fn) (htr : trF P eqT fn = some (m, rv)) (hlen : args.length = fn.params.size)
    (hE : ∀ t ∈ eqT, EqOk P t) (hG : GOK P G) (hm : mwp G m (fun e σ => (e = .ret ∨ e = .normal) ∧ ∃ r', result σ rv = some r' ∧ AVle r' r) (init args)) : CA P f args r := by
  unfold trF at htr
  split at htr
  · rename_i c hb
    split at htr
    · rename_i m' rv' h1 h2
      split at htr
      · rename_i hc
        cases htr
        refine ⟨⟨fn, hf, by rw [hb]; rfl, hc.1⟩, fun w okA vs hvs => ?_⟩
        exact contractQ hf hb hE hG h1 h2 (by omega) hm hvs
      · cases htr
    · cases htr
  · cases htr
/-- A row of a table of functions: number, code, result, count of arguments. -/
structure Row (P : Program) (eqT : List TypeId) where
  f : FuncId
  m : MC
  rv : RV
  n : Nat
  ok : ∃ fn, P.funcs[f]? = some fn ∧ trF P eqT fn = some (m, rv) ∧ n = fn.params.size
def rowOf {P : Program} {eqT : List TypeId} : List (Row P eqT) → FuncId → Option (MC × RV × Nat)
  | [], _ => none
  | x :: l, f => if f = x.f then some (x.m, x.rv, x.n) else rowOf l f
theorem rowOf_ok {P : Program} {eqT : List TypeId} : ∀ {l : List (Row P eqT)} {f : FuncId} {m : MC} {rv : RV} {n : Nat}, rowOf l f = some (m, rv, n) → ∃ fn, P.funcs[f]? = some fn ∧ trF P eqT fn = some (m, rv) ∧ n = fn.params.size
  | [], _, _, _, _, h => by cases h
  | x :: l, f, m, rv, n, h => by
    simp only [rowOf] at h
    split at h
    · rename_i e; subst e; cases h; exact x.ok
    · exact rowOf_ok h
def evalF {P : Program} {eqT : List TypeId} (l : List (Row P eqT)) (n : Nat) : Nat → FuncId → Spec
  | 0 => fun _ _ => none
  | k + 1 => fun f args => match rowOf l f with
    | some (m, rv, ar) => if args.length = ar then runC (evalF l n k) n m rv args else none
    | none => none
theorem evalF_ok {P : Program} {eqT : List TypeId} (hE : ∀ t ∈ eqT, EqOk P t) (l : List (Row P eqT)) (n : Nat) : ∀ k, GOK P (evalF l n k)
  | 0 => fun f args r h => by cases h
  | k + 1 => fun f args r h => by
    simp only [evalF] at h
    split at h
    · rename_i m rv ar hr
      obtain ⟨fn, h1, h2, h3⟩ := rowOf_ok hr
      split at h
      · rename_i hl
        refine fnLawG h1 h2 (hl.trans h3) hE (evalF_ok hE l n k) ?_
        unfold runC at h
        split at h
        · rename_i σ hr; exact mrun_mwp m _ _ _ _ hr ⟨.inl rfl, r, h, AVle.refl _⟩
        · rename_i σ hr; exact mrun_mwp m _ _ _ _ hr ⟨.inr rfl, r, h, AVle.refl _⟩
        · cases h
      · cases h
    · cases h
/-- Rules of logic, in one. -/
theorem zL : (∀ p : Prop, (p ∧ p) = p) ∧ (∀ p : Prop, (p ∧ True) = p) ∧ (∀ p : Prop, (True ∧ p) = p) ∧ (∀ p : Prop, (p ∨ True) = True) ∧ (∀ p : Prop, (True ∨ p) = True) ∧
    (∀ (p : Prop) [Decidable p], (decide p = true) = p) ∧ (∀ (p : Prop) [Decidable p], (decide p = false) = ¬p) ∧ ((¬True) = False) ∧ ((¬False) = True) ∧
    (∀ (i : Decidable True), @decide True i = true) ∧ (∀ (i : Decidable False), @decide False i = false) ∧
    (∀ (α : Type) [BEq α] [ReflBEq α] (a : α), (a == a) = true) :=
  ⟨fun p => and_self p, fun p => and_true p, fun p => true_and p, fun p => or_true p, fun p => true_or p, fun p _ => decide_eq_true_eq, fun p _ => propext decide_eq_false_iff_not, not_true_eq_false, not_false_eq_true,
    fun i => @decide_eq_true _ i trivial, fun i => @decide_eq_false _ i id, fun α _ _ a => beq_self_eq_true a⟩
end Go.Proofs.Ytjbhhdocbejccaa.Bm
