/- The abstract machine's operations. No condition beyond those that each theorem states. -/
import Derived.Test.YtjbhhdocbejccaaBm1
namespace Go.Proofs.Ytjbhhdocbejccaa.Bm
open Go Go.RowKit
set_option linter.unusedVariables false
set_option linter.unusedSimpArgs false

inductive MO where
  | mv (x : Operand)
  | pick (c a b : Operand)
  | mkb (x : Operand)
  | new (zero : List XV)
  | ld (n : Nat) (ag : Bool) (b : Option Nat) (x : Operand)
  | st (n : Nat) (b : Option Nat) (x v : Operand)
  | adr (off : Nat) (x : Operand)
  | idx (sz : Nat) (x i : Operand)
  | idxA (len sz : Nat) (x i : Operand)
  | bld (zero : List XV) (ps : List (Nat × Nat × Operand))
  | bldS (n sz : Nat) (zero : List XV) (ps : List (Nat × Nat × Operand))
  | bin (op : BinOp) (x y : Operand)
  | eqb (neg : Bool) (x y : Operand)
  | eqa (n : List Bool) (neg : Bool) (x y : Operand)
  | un (op : UnOp) (x : Operand)
  | cvt (k : IntKind) (x : Operand)
  | call (f : FuncId) (xs : List Operand)
  | callv (f : Operand) (xs : List Operand)
  | len (x : Operand)
  | mn (x y : Operand)
  | mx (x y : Operand)
  | app (sz bytes : Nat) (s x : Operand)
  | fld (off n : Nat) (ag : Bool) (x : Operand)
  | ext (i : Nat) (x : Operand)
  | idxV (len sz : Nat) (ag : Bool) (x i : Operand)
  | take (x hi : Operand)
  | bad
structure MOp where
  dst : Option Nat
  op : MO
  gt : Option (Nat × Bool)

def upd {α : Type} (f : Nat → α) (d : Nat) (v : α) : Nat → α := fun t => if t = d then v else f t
def St.put (σ : St) : Option Nat → AV → St
  | some d, v => { σ with tm := upd σ.tm d (some v) }
  | none, _ => σ
def ev (σ : St) : Operand → Option AV
  | .tmp t => match σ.tm t with
    | some (.box d o) => if (σ.hp d).isSome then some (.box d o) else none
    | r => r
  | .const (.int k n) => some (.c (.p (.int k n)))
  | .const (.bool b) => some (.c (.p (.bool b)))
  | .const (.slice none 0 0) => some (.c (.tk .tight 0 []))
  | .func f => some (.c (.p (.fn f)))
  | _ => none
def AV.cells : AV → Option (List XV)
  | .c x => some [x]
  | .agg xs => some xs
  | _ => none
def AV.pv : AV → Option PV
  | .c x => some (.c x.forget)
  | .agg xs => some (.agg (xs.map XV.forget))
  | .box _ _ => some (.c .any)
  | _ => none
def pvs (σ : St) : List Operand → Option (List PV)
  | [] => some []
  | x :: xs => match (ev σ x).bind AV.pv, pvs σ xs with
    | some v, some vs => some (v :: vs)
    | _, _ => none
/-- The cells of an aggregate, parts put in. -/
def fillX (σ : St) : List (Nat × Nat × Operand) → List XV → Option (List XV)
  | [], cs => some cs
  | (off, n, x) :: r, cs => match (ev σ x).bind AV.cells with
    | some xs => if xs.length = n ∧ off + n ≤ cs.length then fillX σ r (cs.take off ++ xs ++ cs.drop (off + n)) else none
    | none => none
def chunks {α : Type} (sz : Nat) : Nat → List α → List (List α)
  | 0, _ => []
  | n + 1, xs => xs.take sz :: chunks sz n (xs.drop sz)
def binV (op : BinOp) (k : IntKind) (a b : Int) : Option CV :=
  match op with
  | .add => some (.int k (k.wrap (a + b)))
  | .sub => some (.int k (k.wrap (a - b)))
  | .mul => some (.int k (k.wrap (a * b)))
  | .quo => if b = 0 then none else some (.int k (k.wrap (a.tdiv b)))
  | .rem => if b = 0 then none else some (.int k (a.tmod b))
  | .eql => some (.bool (a == b))
  | .neq => some (.bool (a != b))
  | .lss => some (.bool (decide (a < b)))
  | .leq => some (.bool (decide (a ≤ b)))
  | .gtr => some (.bool (decide (a > b)))
  | .geq => some (.bool (decide (a ≥ b)))
  | .and => some (.int k (k.wrap ((BitVec.ofInt k.bits a &&& BitVec.ofInt k.bits b).toNat)))
  | _ => none
inductive Pr where
  | i (k : IntKind) (n : Int)
  | b (b : Bool)
def Pr.val : Pr → Value
  | .i k n => .int k n
  | .b q => .bool q
def Pr.kd : Pr → Option IntKind
  | .i k _ => some k
  | .b _ => none
def Pr.same : Pr → Pr → Bool
  | .i _ n, .i _ m => n == m
  | .b a, .b c => a == c
  | _, _ => false
def prsEq : List Pr → List Pr → Bool
  | [], [] => true
  | a :: u, c :: v => Pr.same a c && prsEq u v
  | _, _ => false
def shOf (u : List Pr) : List Bool := u.map fun p => p.kd.isNone
def xints : List XV → Option (List Pr)
  | [] => some []
  | .p (.int k n) :: r => (xints r).map (.i k n :: ·)
  | .p (.bool b) :: r => (xints r).map (.b b :: ·)
  | _ => none
inductive Eff where
  | val (v : AV)
  | mk (cs : List XV)
  | st (d : Nat) (cs : List XV)
  | app (k : Option Nat) (sz : Nat) (es : List (List CV))
def ldX (n : Nat) (ag : Bool) (cs : List XV) : Option Eff :=
  if n ≤ cs.length then (if ag then some (.val (.agg (cs.take n))) else match cs with
    | x :: _ => if n = 1 then some (.val (.c x)) else none
    | [] => none) else none
abbrev Spec := List PV → Option AV
def AV.plain : AV → Option AV
  | .c x => some (.c x)
  | .agg xs => some (.agg xs)
  | .tup us => some (.tup us)
  | _ => none
/-- The variable that a pointer is told to point into. -/
def baseOk : Option Nat → Nat → Bool
  | none, _ => true
  | some b, d => b == d
/-- What an operation comes to. -/
def think (G : FuncId → Spec) (σ : St) : MO → Option Eff
  | .mv x => (ev σ x).map .val
  | .pick c a b => match ev σ c with
    | some (.c (.p (.bool t))) => if t = true then (ev σ a).map .val else (ev σ b).map .val
    | _ => none
  | .mkb x => ((ev σ x).bind AV.cells).map .mk
  | .new zero => some (.mk zero)
  | .ld n ag b x => match ev σ x with
    | some (.box d o) => if baseOk b d = true then match σ.hp d with
      | some cs => ldX n ag (cs.drop o)
      | none => none
      else none
    | some (.elt _ cs) => ldX n ag (cs.map .p)
    | _ => none
  | .st n b x v => match ev σ x with
    | some (.box d o) => if baseOk b d = true then match σ.hp d, (ev σ v).bind AV.cells with
      | some cs, some xs => if xs.length = n ∧ o + n ≤ cs.length then some (.st d (cs.take o ++ xs ++ cs.drop (o + n))) else none
      | _, _ => none
      else none
    | _ => none
  | .adr off x => match ev σ x with
    | some (.box d o) => some (.val (.box d (o + off)))
    | some (.elt A cs) => some (.val (.elt (A.map fun p => (p.1, p.2 + off)) (cs.drop off)))
    | _ => none
  | .idx sz x i => match ev σ x, ev σ i with
    | some (.c X), some (.c (.p (.int _ n))) => match X.forget with
      | .sl sz' es => if sz' = sz ∧ 0 ≤ n then (es[n.toNat]?).map fun e => .val (.elt none e) else none
      | _ => none
    | _, _ => none
  | .idxA len sz x i => match ev σ x, ev σ i with
    | some (.box d o), some (.c (.p (.int _ n))) => if 0 ≤ n ∧ n < len then some (.val (.box d (o + n.toNat * sz))) else none
    | some (.elt _ cs), some (.c (.p (.int _ n))) => if 0 ≤ n ∧ n < len then some (.val (.elt none (cs.drop (n.toNat * sz)))) else none
    | _, _ => none
  | .bld zero ps => (fillX σ ps zero).map fun cs => .val (.agg cs)
  | .bldS n sz zero ps => (fillX σ ps zero).map fun cs => .val (.c (.tk .tight sz (chunks sz n (cs.map XV.forget))))
  | .bin op x y => match ev σ x, ev σ y with
    | some (.c (.p (.int k a))), some (.c (.p (.int k' b))) => if k = k' then (binV op k a b).map fun c => .val (.c (.p c)) else none
    | _, _ => none
  | .eqb neg x y => match ev σ x, ev σ y with
    | some (.c (.p (.bool a))), some (.c (.p (.bool b))) => some (.val (.c (.p (.bool (if neg then !(a == b) else a == b)))))
    | _, _ => none
  | .eqa n neg x y => match ev σ x, ev σ y with
    | some (.agg a), some (.agg b) => match xints a, xints b with
      | some u, some v => if shOf u = n ∧ u.map Pr.kd = v.map Pr.kd then some (.val (.c (.p (.bool (if neg then !(prsEq u v) else prsEq u v))))) else none
      | _, _ => none
    | _, _ => none
  | .un op x => match op, ev σ x with
    | .neg, some (.c (.p (.int k n))) => some (.val (.c (.p (.int k (k.wrap (0 - n))))))
    | .not, some (.c (.p (.bool b))) => some (.val (.c (.p (.bool !b))))
    | _, _ => none
  | .cvt k x => match ev σ x with
    | some (.c (.p (.int _ n))) => some (.val (.c (.p (.int k (k.wrap n)))))
    | _ => none
  | .call f xs => ((pvs σ xs).bind (G f)).bind fun r => r.plain.map .val
  | .callv f xs => match ev σ f with
    | some (.c (.p (.fn f))) => ((pvs σ xs).bind (G f)).bind fun r => r.plain.map .val
    | _ => none
  | .len x => match ev σ x with
    | some (.c X) => match X.forget with
      | .sl _ es => some (.val (.c (.p (.int .i64 es.length))))
      | _ => none
    | _ => none
  | .mn x y => match ev σ x, ev σ y with
    | some (.c (.p (.int k a))), some (.c (.p (.int _ b))) => some (.val (.c (.p (.int k (if b < a then b else a)))))
    | _, _ => none
  | .mx x y => match ev σ x, ev σ y with
    | some (.c (.p (.int k a))), some (.c (.p (.int _ b))) => some (.val (.c (.p (.int k (if b > a then b else a)))))
    | _, _ => none
  | .app sz bytes s x => match ev σ s, ev σ x with
    | some (.c (.tk t szs es)), some (.c X) => match X.forget with
      | .sl szx ex => if (szx = sz ∨ ex = []) ∧ (es.length + ex.length) * bytes ≤ 140737488355328 ∧ es.length + ex.length ≤ maxLen then
          match t with
          | .tight => if szs = sz ∨ es = [] then some (.app none sz (es ++ ex)) else none
          | .live k => if szs = sz ∧ σ.lv k = true then some (.app (some k) sz (es ++ ex)) else none
        else none
      | _ => none
    | _, _ => none
  | .fld off n ag x => match ev σ x with
    | some (.agg cs) => ldX n ag (cs.drop off)
    | _ => none
  | .ext i x => match ev σ x with
    | some (.tup us) => (us[i]?).map fun c => .val (.c (.p c))
    | _ => none
  | .idxV len sz ag x i => match ev σ x, ev σ i with
    | some (.agg cs), some (.c (.p (.int _ n))) => if 0 ≤ n ∧ n < len then ldX sz ag (cs.drop (n.toNat * sz)) else none
    | _, _ => none
  | .take x hi => match ev σ x, ev σ hi with
    | some (.c X), some (.c (.p (.int _ n))) => match X.forget with
      | .sl sz es => if 0 ≤ n ∧ n ≤ es.length then some (.val (.c (.p (.sl sz (es.take n.toNat))))) else none
      | _ => none
    | _, _ => none
  | .bad => none
def forgetBox (d : Nat) (tm : Nat → Option AV) : Nat → Option AV := fun t => match tm t with
  | some (.box d' o) => if d' = d then none else some (.box d' o)
  | r => r
def Eff.run (dst : Option Nat) (σ : St) : Eff → Option St
  | .val v => some (σ.put dst v)
  | .mk cs => match dst with
    | some d => if (σ.hp d).isSome then none else some { σ with tm := upd (forgetBox d σ.tm) d (some (.box d 0)), hp := upd σ.hp d (some cs) }
    | none => none
  | .st d cs => match dst with
    | none => some { σ with hp := upd σ.hp d (some cs) }
    | some _ => none
  | .app k sz es => match dst with
    | some d => some { σ with tm := upd σ.tm d (some (.c (.tk (.live σ.nt) sz es))), lv := fun j => (j == σ.nt) || (σ.lv j && !(some j == k)), nt := σ.nt + 1 }
    | none => none
/-- One operation of a region: its guard first. -/
def step1 (G : FuncId → Spec) (m : MOp) (σ : St) : Option St :=
  match m.gt with
  | none => (think G σ m.op).bind fun e => e.run m.dst σ
  | some (g, want) => match ev σ (.tmp g) with
    | some (.c (.p (.bool b))) => if b = want then (think G σ m.op).bind fun e => e.run m.dst σ else some (σ.put m.dst .undef)
    | some .undef => some (σ.put m.dst .undef)
    | _ => none

/-! ### The relation to the model's state -/
def okOf (w0 : World) (okA : Nat → Nat → Prop) (σ : St) (β : Nat → Nat) (tip : Tip) (b i : Nat) : Prop :=
  (b < w0.heap.size → okA b i) ∧ (∀ d cs, σ.hp d = some cs → β d ≠ b) ∧ (∀ k p l, σ.lv k = true → tip k = some (b, p, l) → i < p)
structure RelB (w0 : World) (okA : Nat → Nat → Prop) (N : Nat) (σ : St) (a : Act) (w : World) (β : Nat → Nat) (tip : Tip) : Prop where
  bel : Below w0.heap.size w0 w
  hpB : ∀ d cs, σ.hp d = some cs → w0.heap.size ≤ β d ∧ ∃ vs ty, w.heap[β d]? = some (.cells (List.toArray vs) ty (0, 0)) ∧ RepXs w (okOf w0 okA σ β tip) σ.nt σ.lv tip cs vs
  inj : ∀ d d' cs cs', σ.hp d = some cs → σ.hp d' = some cs' → β d = β d' → d = d'
  tipB : ∀ k b p l, σ.lv k = true → tip k = some (b, p, l) → w0.heap.size ≤ b ∧ (∀ d cs, σ.hp d = some cs → β d ≠ b) ∧ ∃ arr ty, w.heap[b]? = some (.cells arr ty (0, 0)) ∧ l ≤ arr.size
  lvB : ∀ k, σ.lv k = true → k < σ.nt
  tinj : ∀ k k' b p l p' l', σ.lv k = true → σ.lv k' = true → tip k = some (b, p, l) → tip k' = some (b, p', l') → k = k'
  tmB : ∀ t x, σ.tm t = some x → ∃ v, a.tmps[t]? = some v ∧ RepA w (okOf w0 okA σ β tip) σ.nt σ.lv tip β x v
  size : a.tmps.size = N
  dfs : a.defers = []
def Rel (w0 : World) (okA : Nat → Nat → Prop) (N : Nat) (σ : St) (a : Act) (w : World) : Prop := ∃ β tip, RelB w0 okA N σ a w β tip

section
variable {P : Program} {w0 : World} {okA : Nat → Nat → Prop} {N : Nat} {σ : St} {a : Act} {w : World} {β : Nat → Nat} {tip : Tip}
theorem ev_rep (h : RelB w0 okA N σ a w β tip) {x : Operand} {v : AV} (hx : ev σ x = some v) : RepA w (okOf w0 okA σ β tip) σ.nt σ.lv tip β v (a.eval x) ∧ (∀ d o, v = .box d o → ∃ cs, σ.hp d = some cs) := by
  cases x with
  | tmp t =>
    simp only [ev] at hx
    cases hm : σ.tm t with
    | none => rw [hm] at hx; cases hx
    | some y =>
      rw [hm] at hx
      obtain ⟨u, hu, hr⟩ := h.tmB t y hm
      have he : a.eval (.tmp t) = u := by simp [Act.eval, Array.getD_eq_getD_getElem?, hu]
      rw [he]
      cases y with
      | box d o =>
        simp only at hx
        split at hx
        · rename_i hs
          cases hx
          exact ⟨hr, fun d' o' e => by cases e; exact Option.isSome_iff_exists.1 hs⟩
        · cases hx
      | c x => cases hx; exact ⟨hr, fun _ _ e => by cases e⟩
      | agg x => cases hx; exact ⟨hr, fun _ _ e => by cases e⟩
      | elt A x => cases hx; exact ⟨hr, fun _ _ e => by cases e⟩
      | tup x => cases hx; exact ⟨hr, fun _ _ e => by cases e⟩
      | undef => cases hx; exact ⟨hr, fun _ _ e => by cases e⟩
  | const c =>
    unfold ev at hx
    split at hx
    · rename_i e; cases e
    · rename_i e; cases e; cases hx; exact ⟨RepC.int _ _, fun _ _ e => by cases e⟩
    · rename_i e; cases e; cases hx; exact ⟨RepC.bool _, fun _ _ e => by cases e⟩
    · rename_i e; cases e; cases hx; exact ⟨⟨RepC.nil 0 none, ⟨none, rfl⟩⟩, fun _ _ e => by cases e⟩
    · rename_i e; cases e
    · cases hx
  | global g => simp [ev] at hx
  | func f => simp [ev] at hx; subst hx; exact ⟨RepC.fn f, fun _ _ e => by cases e⟩
theorem RelB.put (h : RelB w0 okA N σ a w β tip) (dst : Option Nat) (hd : ∀ d, dst = some d → d < N) {x : AV} {v : Value} (hr : RepA w (okOf w0 okA σ β tip) σ.nt σ.lv tip β x v) :
    RelB w0 okA N (σ.put dst x) (a.put dst v) w β tip := by
  cases dst with
  | none => exact h
  | some d =>
    have hdN := hd d rfl
    refine ⟨h.bel, h.hpB, h.inj, h.tipB, h.lvB, h.tinj, fun t y hy => ?_, by simp [Act.put, h.size], h.dfs⟩
    simp only [St.put, upd] at hy
    split at hy
    · rename_i e; subst e; cases hy
      exact ⟨v, by simp [Act.put, h.size, hdN], hr⟩
    · rename_i hne
      obtain ⟨u, hu, hr'⟩ := h.tmB t y hy
      exact ⟨u, by simp only [Act.put]; rw [Array.getElem?_setIfInBounds_ne (Ne.symm hne)]; exact hu, hr'⟩
theorem RelB.putN (h : RelB w0 okA N σ a w β tip) (hd : ∀ v : Value, a.put none v = a) : True := trivial
end
end Go.Proofs.Ytjbhhdocbejccaa.Bm
