/- An abstract machine over the model: values as lists, memory by names; what it says of values and memory. Laws of the model, for any program; no condition beyond those that each theorem states. -/
import Derived.Tactics2
import Derived.Below
import Derived.Deep.MidRow
import Derived.Laws.AppendOwn
import Derived.Laws.StructEq
import Derived.Laws.Small
import Derived.KernelRfl
namespace Go.Proofs.Ytjbhhdocbejccaa.Bm
open Go Go.RowKit
set_option linter.unusedVariables false
set_option linter.unusedSimpArgs false

inductive CV where
  | int (k : IntKind) (n : Int)
  | bool (b : Bool)
  | fn (f : FuncId)
  | nilfn
  | any
  | sl (sz : Nat) (es : List (List CV))
  | raw (v : Value)
inductive Tok where
  | tight
  | live (k : Nat)
inductive XV where
  | p (c : CV)
  | tk (t : Tok) (sz : Nat) (es : List (List CV))
inductive AV where
  | c (x : XV)
  | agg (xs : List XV)
  | box (d off : Nat)
  | elt (A : Option (Nat × Nat)) (cs : List CV)
  | tup (us : List CV)
  | undef
inductive PV where
  | c (x : CV)
  | agg (xs : List CV)
def XV.forget : XV → CV
  | .p c => c
  | .tk _ sz es => .sl sz es
structure St where
  tm : Nat → Option AV
  hp : Nat → Option (List XV)
  lv : Nat → Bool
  nt : Nat
abbrev Tip := Nat → Option (Nat × Nat × Nat)

/-- A cell of a row that no string shares. -/
def cz (w : World) (a : Addr) : Option Value := match w.heap[a.block]? with
  | some (.cells c _ (0, 0)) => if a.spot.isSome then none else c[a.off]?
  | _ => none
theorem cz_cell {w : World} {a : Addr} {u : Value} (h : cz w a = some u) : w.cell? a = some u := by
  unfold cz at h
  unfold World.cell?
  split at h
  · rename_i c e hc; rw [hc]; exact h
  · cases h
theorem cz_lt (w : World) (a : Addr) {u : Value} (h : cz w a = some u) : a.block < w.heap.size := World.block_lt_of_cell? w a (cz_cell h)
theorem cz_of_block {w w' : World} {a : Addr} (h : w'.heap[a.block]? = w.heap[a.block]?) : cz w' a = cz w a := by unfold cz; rw [h]
theorem cz_frozen {w : World} {a : Addr} {u : Value} (h : cz w a = some u) : w.frozen? a = false := by
  unfold cz at h
  unfold World.frozen?
  split at h
  · rename_i c e hc; rw [hc]; simp
  · cases h
/-- A cell's value is told by an abstract one; what is read of memory lies in cells that nobody writes any more ('ok'). -/
inductive RepC (w : World) (ok : Nat → Nat → Prop) : CV → Value → Prop
  | int (k : IntKind) (n : Int) : RepC w ok (.int k n) (.int k n)
  | bool (b : Bool) : RepC w ok (.bool b) (.bool b)
  | fn (f : FuncId) : RepC w ok (.fn f) (.func (.func f) #[] #[])
  | nilfn : RepC w ok .nilfn .nilFunc
  | any (v : Value) (h : v.oneCell' = true) : RepC w ok .any v
  | raw (v : Value) (h : v.oneCell' = true) : RepC w ok (.raw v) v
  | nil (sz : Nat) (A : Option Addr) : RepC w ok (.sl sz []) (.slice A 0 0)
  | sl (sz : Nat) (es : List (List CV)) (b off cap : Nat) (f : Nat → Nat → Value) (hc : es.length ≤ cap)
      (hsz : ∀ e ∈ es, e.length = sz)
      (hcell : ∀ i j, i < es.length → j < sz → cz w ⟨b, off + i * sz + j, none⟩ = some (f i j) ∧ ok b (off + i * sz + j))
      (hrep : ∀ i e j c, es[i]? = some e → e[j]? = some c → RepC w ok c (f i j)) :
      RepC w ok (.sl sz es) (.slice (some ⟨b, off, none⟩) es.length cap)
theorem RepC.one {w : World} {ok : Nat → Nat → Prop} {c : CV} {v : Value} (h : RepC w ok c v) : v.oneCell' = true := by
  cases h <;> first | rfl | assumption
theorem RepC.mono {w w' : World} {ok ok' : Nat → Nat → Prop} {c : CV} {v : Value} (h : RepC w ok c v)
    (hm : ∀ b i u, ok b i → cz w ⟨b, i, none⟩ = some u → cz w' ⟨b, i, none⟩ = some u ∧ ok' b i) : RepC w' ok' c v := by
  induction h with
  | int k n => exact .int k n
  | bool b => exact .bool b
  | fn f => exact .fn f
  | nilfn => exact .nilfn
  | any v h => exact .any v h
  | raw v h => exact .raw v h
  | nil sz A => exact .nil sz A
  | sl sz es b off cap f hc hsz hcell hrep ih =>
    exact .sl sz es b off cap f hc hsz (fun i j hi hj => hm b _ _ (hcell i j hi hj).2 (hcell i j hi hj).1) ih
/-- How a slice may be appended to. -/
def TokOk (nt : Nat) (lv : Nat → Bool) (tip : Tip) (t : Tok) (sz n : Nat) (v : Value) : Prop :=
  match t with
  | .tight => ∃ A, v = .slice A n n
  | .live k => k < nt ∧ (lv k = true → match tip k with
      | none => ∃ A, v = .slice A n n
      | some (b, p, l) => ∃ cap, v = .slice (some ⟨b, 0, none⟩) n cap ∧ p = n * sz ∧ l = cap * sz)
def RepX (w : World) (ok : Nat → Nat → Prop) (nt : Nat) (lv : Nat → Bool) (tip : Tip) : XV → Value → Prop
  | .p c, v => RepC w ok c v
  | .tk t sz es, v => RepC w ok (.sl sz es) v ∧ TokOk nt lv tip t sz es.length v
def RepXs (w : World) (ok : Nat → Nat → Prop) (nt : Nat) (lv : Nat → Bool) (tip : Tip) : List XV → List Value → Prop
  | [], [] => True
  | x :: xs, v :: vs => RepX w ok nt lv tip x v ∧ RepXs w ok nt lv tip xs vs
  | _, _ => False
def RepCs (w : World) (ok : Nat → Nat → Prop) : List CV → List Value → Prop
  | [], [] => True
  | x :: xs, v :: vs => RepC w ok x v ∧ RepCs w ok xs vs
  | _, _ => False
def RepA (w : World) (ok : Nat → Nat → Prop) (nt : Nat) (lv : Nat → Bool) (tip : Tip) (β : Nat → Nat) : AV → Value → Prop
  | .c x, v => RepX w ok nt lv tip x v
  | .agg xs, v => ∃ vs : List Value, v = .agg vs.toArray ∧ RepXs w ok nt lv tip xs vs
  | .box d off, v => v = .pointer (some ⟨β d, off, none⟩)
  | .elt A cs, v => ∃ b off vs, v = .pointer (some ⟨b, off, none⟩) ∧ (∀ p, A = some p → p = (b, off)) ∧ (∀ j u, vs[j]? = some u → cz w ⟨b, off + j, none⟩ = some u ∧ ok b (off + j)) ∧ RepCs w ok cs vs
  | .tup us, v => ∃ vs : List Value, v = .tuple vs.toArray ∧ RepCs w ok us vs
  | .undef, v => v = Go.undef
def RepP (w : World) (ok : Nat → Nat → Prop) : PV → Value → Prop
  | .c x, v => RepC w ok x v
  | .agg xs, v => ∃ vs : List Value, v = .agg vs.toArray ∧ RepCs w ok xs vs
def RepPs (w : World) (ok : Nat → Nat → Prop) : List PV → List Value → Prop
  | [], [] => True
  | x :: xs, v :: vs => RepP w ok x v ∧ RepPs w ok xs vs
  | _, _ => False

section
variable {w w' : World} {ok ok' : Nat → Nat → Prop} {nt nt' : Nat} {lv lv' : Nat → Bool} {tip tip' : Tip} {β β' : Nat → Nat}
theorem RepX.forget {x : XV} {v : Value} (h : RepX w ok nt lv tip x v) : RepC w ok x.forget v := by
  cases x with
  | p c => exact h
  | tk t sz es => exact h.1
theorem RepX.one {x : XV} {v : Value} (h : RepX w ok nt lv tip x v) : v.oneCell' = true := h.forget.one
/-- What is kept from one state to another. -/
structure Kept (w w' : World) (ok ok' : Nat → Nat → Prop) (nt nt' : Nat) (lv lv' : Nat → Bool) (tip tip' : Tip) : Prop where
  mem : ∀ b i u, ok b i → cz w ⟨b, i, none⟩ = some u → cz w' ⟨b, i, none⟩ = some u ∧ ok' b i
  le : nt ≤ nt'
  tips : ∀ k, k < nt → lv' k = true → lv k = true ∧ tip' k = tip k
theorem Kept.refl : Kept w w ok ok nt nt lv lv tip tip := ⟨fun _ _ _ h h' => ⟨h', h⟩, Nat.le_refl _, fun _ _ h => ⟨h, rfl⟩⟩
variable (K : Kept w w' ok ok' nt nt' lv lv' tip tip')
include K
theorem TokOk.kept {t : Tok} {sz n : Nat} {v : Value} (h : TokOk nt lv tip t sz n v) : TokOk nt' lv' tip' t sz n v := by
  cases t with
  | tight => exact h
  | live k =>
    refine ⟨Nat.lt_of_lt_of_le h.1 K.le, fun hk => ?_⟩
    obtain ⟨h1, h2⟩ := K.tips k h.1 hk
    rw [h2]; exact h.2 h1
theorem RepX.kept {x : XV} {v : Value} (h : RepX w ok nt lv tip x v) : RepX w' ok' nt' lv' tip' x v := by
  cases x with
  | p c => exact RepC.mono h K.mem
  | tk t sz es => exact ⟨RepC.mono h.1 K.mem, TokOk.kept K h.2⟩
theorem RepXs.kept : ∀ {xs : List XV} {vs : List Value}, RepXs w ok nt lv tip xs vs → RepXs w' ok' nt' lv' tip' xs vs
  | [], [], _ => trivial
  | _ :: _, _ :: _, h => ⟨RepX.kept K h.1, RepXs.kept h.2⟩
  | [], _ :: _, h => h.elim
  | _ :: _, [], h => h.elim
omit K
theorem RepCs.mono (hm : ∀ b i u, ok b i → cz w ⟨b, i, none⟩ = some u → cz w' ⟨b, i, none⟩ = some u ∧ ok' b i) : ∀ {xs : List CV} {vs : List Value}, RepCs w ok xs vs → RepCs w' ok' xs vs
  | [], [], _ => trivial
  | _ :: _, _ :: _, h => ⟨RepC.mono h.1 hm, RepCs.mono hm h.2⟩
  | [], _ :: _, h => h.elim
  | _ :: _, [], h => h.elim
include K
theorem RepA.kept {x : AV} {v : Value} (hβ : ∀ d off, x = .box d off → β' d = β d) (h : RepA w ok nt lv tip β x v) : RepA w' ok' nt' lv' tip' β' x v := by
  cases x with
  | c x => exact RepX.kept K h
  | agg xs => obtain ⟨vs, e, h⟩ := h; exact ⟨vs, e, RepXs.kept K h⟩
  | box d off => simp only [RepA] at h ⊢; rw [hβ d off rfl]; exact h
  | elt A cs =>
    obtain ⟨b, off, vs, e, hA, hc, h⟩ := h
    exact ⟨b, off, vs, e, hA, fun j u hu => K.mem _ _ _ (hc j u hu).2 (hc j u hu).1, RepCs.mono K.mem h⟩
  | tup us => obtain ⟨vs, e, h⟩ := h; exact ⟨vs, e, RepCs.mono K.mem h⟩
  | undef => exact h
omit K
theorem RepXs.length : ∀ {xs : List XV} {vs : List Value}, RepXs w ok nt lv tip xs vs → vs.length = xs.length
  | [], [], _ => rfl
  | _ :: _, _ :: _, h => by simp [RepXs.length h.2]
  | [], _ :: _, h => h.elim
  | _ :: _, [], h => h.elim
theorem RepCs.length : ∀ {xs : List CV} {vs : List Value}, RepCs w ok xs vs → vs.length = xs.length
  | [], [], _ => rfl
  | _ :: _, _ :: _, h => by simp [RepCs.length h.2]
  | [], _ :: _, h => h.elim
  | _ :: _, [], h => h.elim
theorem RepXs.one : ∀ {xs : List XV} {vs : List Value}, RepXs w ok nt lv tip xs vs → ∀ v ∈ vs, v.oneCell' = true
  | [], [], _, v, hv => by cases hv
  | _ :: _, _ :: _, h, v, hv => by
    cases hv with
    | head => exact RepX.one h.1
    | tail _ hv => exact RepXs.one h.2 v hv
  | [], _ :: _, h, _, _ => h.elim
  | _ :: _, [], h, _, _ => h.elim
theorem RepXs.append : ∀ {xs : List XV} {vs : List Value} {xs' : List XV} {vs' : List Value}, RepXs w ok nt lv tip xs vs → RepXs w ok nt lv tip xs' vs' → RepXs w ok nt lv tip (xs ++ xs') (vs ++ vs')
  | [], [], _, _, _, h => h
  | _ :: _, _ :: _, _, _, h, h' => ⟨h.1, RepXs.append h.2 h'⟩
  | [], _ :: _, _, _, h, _ => h.elim
  | _ :: _, [], _, _, h, _ => h.elim
theorem RepXs.take : ∀ (n : Nat) {xs : List XV} {vs : List Value}, RepXs w ok nt lv tip xs vs → RepXs w ok nt lv tip (xs.take n) (vs.take n)
  | 0, _, _, _ => by simp [RepXs]
  | n + 1, [], [], _ => by simp [RepXs]
  | n + 1, _ :: _, _ :: _, h => ⟨h.1, RepXs.take n h.2⟩
  | _ + 1, [], _ :: _, h => h.elim
  | _ + 1, _ :: _, [], h => h.elim
theorem RepXs.drop : ∀ (n : Nat) {xs : List XV} {vs : List Value}, RepXs w ok nt lv tip xs vs → RepXs w ok nt lv tip (xs.drop n) (vs.drop n)
  | 0, _, _, h => h
  | n + 1, [], [], _ => by simp [RepXs]
  | n + 1, _ :: _, _ :: _, h => RepXs.drop n h.2
  | _ + 1, [], _ :: _, h => h.elim
  | _ + 1, _ :: _, [], h => h.elim
theorem RepCs.drop : ∀ (n : Nat) {xs : List CV} {vs : List Value}, RepCs w ok xs vs → RepCs w ok (xs.drop n) (vs.drop n)
  | 0, _, _, h => h
  | n + 1, [], [], _ => by simp [RepCs]
  | n + 1, _ :: _, _ :: _, h => RepCs.drop n h.2
  | _ + 1, [], _ :: _, h => h.elim
  | _ + 1, _ :: _, [], h => h.elim
theorem RepXs.p : ∀ {xs : List CV} {vs : List Value}, RepCs w ok xs vs → RepXs w ok nt lv tip (xs.map .p) vs
  | [], [], _ => trivial
  | _ :: _, _ :: _, h => ⟨h.1, RepXs.p h.2⟩
  | [], _ :: _, h => h.elim
  | _ :: _, [], h => h.elim
theorem RepXs.forget : ∀ {xs : List XV} {vs : List Value}, RepXs w ok nt lv tip xs vs → RepCs w ok (xs.map XV.forget) vs
  | [], [], _ => trivial
  | _ :: _, _ :: _, h => ⟨RepX.forget h.1, RepXs.forget h.2⟩
  | [], _ :: _, h => h.elim
  | _ :: _, [], h => h.elim
theorem RepCs.get : ∀ {xs : List CV} {vs : List Value}, RepCs w ok xs vs → ∀ {i : Nat} {c : CV}, xs[i]? = some c → ∃ v, vs[i]? = some v ∧ RepC w ok c v
  | [], [], _, _, _, h => by simp at h
  | _ :: _, v :: _, h, 0, c, hc => by simp at hc; subst hc; exact ⟨v, by simp, h.1⟩
  | _ :: _, _ :: _, h, i + 1, c, hc => by simpa using RepCs.get h.2 (i := i) (by simpa using hc)
  | [], _ :: _, h, _, _, _ => h.elim
  | _ :: _, [], h, _, _, _ => h.elim
theorem RepCs.of_get : ∀ {xs : List CV} {vs : List Value}, vs.length = xs.length → (∀ (i : Nat) (c : CV) (v : Value), xs[i]? = some c → vs[i]? = some v → RepC w ok c v) → RepCs w ok xs vs
  | [], [], _, _ => trivial
  | x :: xs, v :: vs, hl, h => ⟨h 0 x v (by simp) (by simp), RepCs.of_get (by simpa using hl) (fun i c u hc hu => h (i + 1) c u (by simpa using hc) (by simpa using hu))⟩
  | [], _ :: _, hl, _ => by simp at hl
  | _ :: _, [], hl, _ => by simp at hl
end
end Go.Proofs.Ytjbhhdocbejccaa.Bm
