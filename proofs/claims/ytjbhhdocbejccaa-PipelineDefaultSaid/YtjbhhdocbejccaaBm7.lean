/- The abstract machine: each operation is sound. No condition beyond those that each theorem states. -/
import Derived.Test.YtjbhhdocbejccaaBm6
namespace Go.Proofs.Ytjbhhdocbejccaa.Bm
open Go Go.RowKit
set_option linter.unusedVariables false
set_option linter.unusedSimpArgs false

/-- What a call of function 'f' comes to: the abstract arguments 'args', the abstract result 'r'. -/
def CA (P : Program) (f : FuncId) (args : List PV) (r : AV) : Prop :=
  (∃ fn, P.funcs[f]? = some fn ∧ fn.body.isNone = false ∧ (fn.name == "runtime.NumGoroutine") = false) ∧
  ∀ (w : World) (okA : Nat → Nat → Prop) (vs : List Value), RepPs w okA args vs →
    Calls P f vs.toArray w fun e w' => ∃ v, e = .returned v ∧ Below w.heap.size w w' ∧ RepA w' (fun b i => b < w.heap.size → okA b i) 0 (fun _ => false) (fun _ => none) (fun _ => 0) r v
def GOK (P : Program) (G : FuncId → Spec) : Prop := ∀ f args r, G f args = some r → CA P f args r

theorem foldl_set_get (o : Nat) : ∀ (ys : List Value) (j : Nat) (A : Array Value) (q : Nat), ((ys.zipIdx j).foldl (fun (cs : Array Value) (p : Value × Nat) => cs.setIfInBounds (o + p.2) p.1) A)[q]? =
    if o + j ≤ q ∧ q < o + j + ys.length ∧ q < A.size then ys[q - (o + j)]? else A[q]?
  | [], j, A, q => by rw [if_neg (by simp; omega)]; rfl
  | y :: ys, j, A, q => by
    simp only [List.zipIdx_cons, List.foldl_cons]
    rw [foldl_set_get o ys (j + 1) (A.setIfInBounds (o + j) y) q]
    simp only [Array.size_setIfInBounds, List.length_cons]
    by_cases h0 : q = o + j
    · subst h0
      rw [if_neg (by omega), Array.getElem?_setIfInBounds_self]
      by_cases h1 : o + j < A.size
      · rw [if_pos h1, if_pos (by omega)]; simp
      · rw [if_neg h1, if_neg (by omega)]; exact (Array.getElem?_eq_none (by omega)).symm
    · rw [Array.getElem?_setIfInBounds_ne (Ne.symm h0)]
      by_cases h1 : o + (j + 1) ≤ q ∧ q < o + (j + 1) + ys.length ∧ q < A.size
      · rw [if_pos h1, if_pos (by omega)]
        rw [show q - (o + j) = q - (o + (j + 1)) + 1 by omega, List.getElem?_cons_succ]
      · rw [if_neg h1, if_neg (by omega)]
theorem foldl_set (o : Nat) (ys zs : List Value) (h : o + ys.length ≤ zs.length) : ys.zipIdx.foldl (fun (cs : Array Value) (p : Value × Nat) => cs.setIfInBounds (o + p.2) p.1) zs.toArray = (zs.take o ++ ys ++ zs.drop (o + ys.length)).toArray := by
  apply Array.ext_getElem?
  intro q
  rw [foldl_set_get o ys 0 zs.toArray q]
  simp only [Nat.add_zero, List.size_toArray, List.getElem?_toArray, List.append_assoc]
  have hl : (zs.take o).length = o := by simp; omega
  by_cases h1 : q < o
  · rw [if_neg (by omega), List.getElem?_append_left (by omega), List.getElem?_take, if_pos h1]
  · rw [List.getElem?_append_right (by omega), hl]
    by_cases h2 : q < o + ys.length
    · rw [if_pos (by omega), List.getElem?_append_left (by omega)]
    · rw [if_neg (by omega), List.getElem?_append_right (by omega), List.getElem?_drop]
      congr 1; omega
section
variable {P : Program} {w0 : World} {okA : Nat → Nat → Prop} {N : Nat} {σ σ' : St} {a : Act} {w : World} {β : Nat → Nat} {tip : Tip} {eqT : List TypeId} {o : Oper} {Q : Exit → Act → World → Prop} {G : FuncId → Spec}
theorem ev_int (hR : RelB w0 okA N σ a w β tip) {x : Operand} {k : IntKind} {n : Int} (h : ev σ x = some (.c (.p (.int k n)))) : a.eval x = .int k n := by
  have := (ev_rep hR h).1
  cases hv : a.eval x <;> rw [hv] at this <;> cases this
  rfl
theorem ev_bool (hR : RelB w0 okA N σ a w β tip) {x : Operand} {b : Bool} (h : ev σ x = some (.c (.p (.bool b)))) : a.eval x = .bool b := by
  have := (ev_rep hR h).1
  cases hv : a.eval x <;> rw [hv] at this <;> cases this
  rfl
theorem ev_fn (hR : RelB w0 okA N σ a w β tip) {x : Operand} {f : FuncId} (h : ev σ x = some (.c (.p (.fn f)))) : a.eval x = .func (.func f) #[] #[] := by
  have := (ev_rep hR h).1
  cases hv : a.eval x <;> rw [hv] at this <;> cases this
  rfl
theorem ev_box (hR : RelB w0 okA N σ a w β tip) {x : Operand} {d off : Nat} (h : ev σ x = some (.box d off)) : a.eval x = .pointer (some ⟨β d, off, none⟩) ∧ ∃ cs, σ.hp d = some cs := ⟨(ev_rep hR h).1, (ev_rep hR h).2 d off rfl⟩
theorem RepA.cells {ok : Nat → Nat → Prop} {nt : Nat} {lv : Nat → Bool} {x : AV} {v : Value} {xs : List XV} (h : RepA w ok nt lv tip β x v) (hx : x.cells = some xs) : RepXs w ok nt lv tip xs v.cells.toList := by
  cases x with
  | c x =>
    cases hx
    have h1 : v.cells.toList = [v] := by
      have := RepX.one h
      cases v <;> first | rfl | cases this
    rw [h1]; exact ⟨h, trivial⟩
  | agg ys => cases hx; obtain ⟨vs, rfl, h⟩ := h; simpa [Value.cells] using h
  | box d o => cases hx
  | elt A cs => cases hx
  | tup cs => cases hx
  | undef => cases hx
theorem RepA.pv {ok : Nat → Nat → Prop} {nt : Nat} {lv : Nat → Bool} {x : AV} {v : Value} {p : PV} (h : RepA w ok nt lv tip β x v) (hx : x.pv = some p) : RepP w ok p v := by
  cases x with
  | c x => cases hx; exact RepX.forget h
  | agg ys => cases hx; obtain ⟨vs, rfl, h⟩ := h; exact ⟨vs, rfl, RepXs.forget h⟩
  | box d o => cases hx; cases h; exact RepC.any _ rfl
  | elt A cs => cases hx
  | tup cs => cases hx
  | undef => cases hx
theorem pvs_rep (hR : RelB w0 okA N σ a w β tip) : ∀ {xs : List Operand} {ps : List PV}, pvs σ xs = some ps → RepPs w (okOf w0 okA σ β tip) ps (xs.map a.eval)
  | [], ps, h => by cases h; trivial
  | x :: xs, ps, h => by
    simp only [pvs] at h
    split at h
    · rename_i v vs hv hvs
      cases h
      simp only [Option.bind_eq_some_iff] at hv
      obtain ⟨y, hy, hv⟩ := hv
      exact ⟨RepA.pv (ev_rep hR hy).1 hv, pvs_rep hR hvs⟩
    · cases h
theorem fill_rep (hR : RelB w0 okA N σ a w β tip) {pl : Nat → Option (Nat × Nat)} : ∀ {ps : List (Nat × Operand)} {qs : List (Nat × Nat × Operand)} {z cs : List XV} {vs : List Value}, places pl ps = some qs → fillX σ qs z = some cs →
    RepXs w (okOf w0 okA σ β tip) σ.nt σ.lv tip z vs → ∃ us : List Value, Instr.fill pl vs.toArray (ps.map fun (i, x) => (i, a.eval x)) = some us.toArray ∧ RepXs w (okOf w0 okA σ β tip) σ.nt σ.lv tip cs us
  | [], qs, z, cs, vs, h, hf, hr => by cases h; cases hf; exact ⟨vs, rfl, hr⟩
  | (i, x) :: r, qs, z, cs, vs, h, hf, hr => by
    simp only [places] at h
    split at h
    · rename_i o s l hpl hps
      cases h
      simp only [fillX] at hf
      split at hf
      · rename_i xs hx
        split at hf
        · rename_i hc
          simp only [Option.bind_eq_some_iff] at hx
          obtain ⟨y, hy, hxs⟩ := hx
          have hcr := RepA.cells (ev_rep hR hy).1 hxs
          have hlen := RepXs.length hcr
          have hlz := RepXs.length hr
          have hfold : (a.eval x).cells.zipIdx.foldl (fun cs (c, j) => cs.setIfInBounds (o + j) c) vs.toArray = (vs.take o ++ (a.eval x).cells.toList ++ vs.drop (o + s)).toArray := by
            have := foldl_set o (a.eval x).cells.toList vs (by rw [hlen]; omega)
            rw [hlen, hc.1] at this
            rw [← this, ← Array.foldl_toList, Array.toList_zipIdx]
          have hsz : (a.eval x).cells.size = s := by rw [← Array.length_toList, hlen]; exact hc.1
          obtain ⟨us, hu, hru⟩ := fill_rep hR hps hf (RepXs.append (RepXs.append (RepXs.take o hr) hcr) (RepXs.drop (o + s) hr))
          refine ⟨us, ?_, hru⟩
          simp only [List.map_cons, Instr.fill, hpl, hsz]
          rw [if_neg (by simp [hlz]; omega)]
          rw [hfold]; exact hu
        · cases hf
      · cases hf
    · cases h
theorem zxs_rep (ok : Nat → Nat → Prop) (nt : Nat) (lv : Nat → Bool) : ∀ {vs : List Value} {xs : List XV}, zxs vs = some xs → RepXs w ok nt lv tip xs vs
  | [], xs, h => by cases h; trivial
  | v :: vs, xs, h => by
    simp only [zxs] at h
    split at h
    · rename_i x ys hx hys
      cases h
      refine ⟨?_, zxs_rep ok nt lv hys⟩
      unfold zx at hx
      split at hx
      · cases hx; exact RepC.int _ _
      · cases hx; exact RepC.bool _
      · cases hx; exact ⟨RepC.nil 0 none, none, rfl⟩
      · cases hx; exact RepC.nilfn
      · cases hx
    · cases h
theorem xints_rep {ok : Nat → Nat → Prop} {nt : Nat} {lv : Nat → Bool} : ∀ {xs : List XV} {us : List Pr} {vs : List Value}, xints xs = some us → RepXs w ok nt lv tip xs vs → vs = us.map Pr.val
  | [], us, vs, h, hr => by cases h; cases vs with
    | nil => rfl
    | cons v vs => exact hr.elim
  | x :: xs, us, vs, h, hr => by
    unfold xints at h
    split at h
    · rename_i e; cases e
    · rename_i k n r e
      cases e
      simp only [Option.map_eq_some_iff] at h
      obtain ⟨us', hu, rfl⟩ := h
      cases vs with
      | nil => exact hr.elim
      | cons v vs =>
        have h1 := hr.1
        cases v <;> cases h1
        rw [xints_rep hu hr.2]; rfl
    · rename_i b r e
      cases e
      simp only [Option.map_eq_some_iff] at h
      obtain ⟨us', hu, rfl⟩ := h
      cases vs with
      | nil => exact hr.elim
      | cons v vs =>
        have h1 := hr.1
        cases v <;> cases h1
        rw [xints_rep hu hr.2]; rfl
    · cases h
end
end Go.Proofs.Ytjbhhdocbejccaa.Bm
