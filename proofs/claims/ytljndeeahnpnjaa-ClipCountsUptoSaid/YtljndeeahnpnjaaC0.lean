/- Chapter 31: vertices as data; how arguments are read. No condition beyond those that each theorem states. -/
import Derived.Test.YtljndeeahnpnjaaAm14
import Derived.Test.YtljndeeahnpnjaaProg
namespace Go.Proofs.Ytljndeeahnpnjaa.Cl
open Go Go.RowKit Go.Proofs.Ytljndeeahnpnjaa.Am
set_option linter.unusedVariables false
set_option linter.unusedSimpArgs false
theorem hE : ∀ t ∈ [23], EqOk Try.prog t := fun t ht => by
  have : t = 23 := by simpa using ht
  subst this
  exact eqOk_of (by kernel_rfl)
/-! ### Data -/
structure V where
  x : Int
  y : Int
  z : Int
  w : Int
  vs : List Int
  deriving DecidableEq, Inhabited
def cInt (n : Int) : CV := .int .i64 n
def cInts (vs : List Int) : CV := .sl 1 (vs.map fun n => [cInt n])
def V.cs (v : V) : List CV := [.int .i64 v.x, .int .i64 v.y, .int .i64 v.z, .int .i64 v.w, cInts v.vs]
def cVs (l : List V) : CV := .sl 5 (l.map V.cs)
abbrev T3 := V × V × V
def T3.cs (t : T3) : List CV := t.1.cs ++ t.2.1.cs ++ t.2.2.cs
def cTs (l : List T3) : CV := .sl 15 (l.map T3.cs)
/-- One cell tells no more than another. -/
def CVle (x y : CV) : Prop := ∀ (w : World) (ok : Nat → Nat → Prop) (v : Value), RepC w ok x v → RepC w ok y v
theorem CVle.refl (x : CV) : CVle x x := fun _ _ _ h => h
def CVsle : List CV → List CV → Prop
  | [], [] => True
  | x :: xs, y :: ys => CVle x y ∧ CVsle xs ys
  | _, _ => False
theorem CVsle.rep : ∀ {xs ys : List CV}, CVsle xs ys → ∀ (w : World) (ok : Nat → Nat → Prop) (vs : List Value), RepCs w ok xs vs → RepCs w ok ys vs
  | [], [], _, _, _, _, h => h
  | _ :: _, _ :: _, h, w, ok, [], hr => hr.elim
  | _ :: _, _ :: _, h, w, ok, v :: vs, hr => ⟨h.1 w ok v hr.1, CVsle.rep h.2 w ok vs hr.2⟩
  | [], _ :: _, h, _, _, _, _ => h.elim
  | _ :: _, [], h, _, _, _, _ => h.elim
theorem CVsle.append : ∀ {xs ys us vs : List CV}, CVsle xs ys → CVsle us vs → CVsle (xs ++ us) (ys ++ vs)
  | [], [], _, _, _, h => h
  | _ :: _, _ :: _, _, _, h, h' => ⟨h.1, CVsle.append h.2 h'⟩
  | [], _ :: _, _, _, h, _ => h.elim
  | _ :: _, [], _, _, h, _ => h.elim
theorem CVsle.length : ∀ {xs ys : List CV}, CVsle xs ys → xs.length = ys.length
  | [], [], _ => rfl
  | _ :: _, _ :: _, h => by simp [CVsle.length h.2]
  | [], _ :: _, h => h.elim
  | _ :: _, [], h => h.elim
/-- Rows of cells, row by row. -/
def Rle : List (List CV) → List (List CV) → Prop
  | [], [] => True
  | x :: xs, y :: ys => CVsle x y ∧ Rle xs ys
  | _, _ => False
theorem Rle.length : ∀ {xs ys : List (List CV)}, Rle xs ys → xs.length = ys.length
  | [], [], _ => rfl
  | _ :: _, _ :: _, h => by simp [Rle.length h.2]
  | [], _ :: _, h => h.elim
  | _ :: _, [], h => h.elim
theorem Rle.flatten : ∀ {xs ys : List (List CV)}, Rle xs ys → CVsle xs.flatten ys.flatten
  | [], [], _ => trivial
  | _ :: _, _ :: _, h => by simp only [List.flatten_cons]; exact CVsle.append h.1 (Rle.flatten h.2)
  | [], _ :: _, h => h.elim
  | _ :: _, [], h => h.elim
theorem Rle.mem : ∀ {xs ys : List (List CV)} {sz : Nat}, Rle xs ys → (∀ e ∈ xs, e.length = sz) → ∀ e ∈ ys, e.length = sz
  | [], [], _, _, _, e, he => by cases he
  | x :: xs, y :: ys, sz, h, hx, e, he => by
    cases he with
    | head => rw [← CVsle.length h.1]; exact hx x (by simp)
    | tail _ he => exact Rle.mem h.2 (fun e he => hx e (by simp [he])) e he
  | [], _ :: _, _, h, _, _, _ => h.elim
  | _ :: _, [], _, h, _, _, _ => h.elim
theorem CVle.sl {s sz : Nat} {es es' : List (List CV)} (hs : s = sz ∨ es = []) (h : Rle es es') : CVle (.sl s es) (.sl sz es') := fun w ok v hv => by
  have hv' := RepC.resz hv hs
  rcases RepC.flat hv' with ⟨A, rfl, rfl⟩ | ⟨b, off, cap, us, rfl, hcap, hse, hus, hcu, hru⟩
  · cases es' with
    | nil => exact .nil _ A
    | cons _ _ => exact h.elim
  · have hl := Rle.length h
    rw [hl]
    exact RepC.unflat (by omega) (Rle.mem h hse) (by rw [← hl]; exact hus) hcu (CVsle.rep (Rle.flatten h) w ok us hru)
/-! ### Reading -/
def dInts : List (List CV) → Option (List Int)
  | [] => some []
  | [.int .i64 n] :: r => (dInts r).map (n :: ·)
  | _ => none
@[simp] theorem dInts_enc (vs : List Int) : dInts (vs.map fun n => [cInt n]) = some vs := by
  induction vs with
  | nil => rfl
  | cons n vs ih => simp [dInts, cInt] at ih ⊢; simp [ih]
theorem dInts_enc' (vs : List Int) : dInts (vs.map fun n => [CV.int .i64 n]) = some vs := dInts_enc vs
theorem dInts_le : ∀ {es : List (List CV)} {vs : List Int}, dInts es = some vs → Rle es (vs.map fun n => [cInt n])
  | [], vs, h => by cases h; trivial
  | e :: es, vs, h => by
    unfold dInts at h
    split at h
    · rename_i e'; cases e'
    · rename_i n r e'
      cases e'
      simp only [Option.map_eq_some_iff] at h
      obtain ⟨vs', hv, rfl⟩ := h
      exact ⟨⟨CVle.refl _, trivial⟩, dInts_le hv⟩
    · cases h
def dV : List CV → Option V
  | [.int .i64 x, .int .i64 y, .int .i64 z, .int .i64 w, .sl s es] => if s = 1 ∨ es = [] then (dInts es).map fun vs => ⟨x, y, z, w, vs⟩ else none
  | _ => none
@[simp] theorem dV_enc (v : V) : dV v.cs = some v := by simp [dV, V.cs, cInts]
theorem dV_le {cs : List CV} {v : V} (h : dV cs = some v) : CVsle cs v.cs := by
  unfold dV at h
  split at h
  · split at h
    · rename_i hs
      simp only [Option.map_eq_some_iff] at h
      obtain ⟨vs, hv, rfl⟩ := h
      exact ⟨CVle.refl _, CVle.refl _, CVle.refl _, CVle.refl _, CVle.sl hs (dInts_le hv), trivial⟩
    · cases h
  · cases h
def dVs : List (List CV) → Option (List V)
  | [] => some []
  | e :: r => match dV e, dVs r with
    | some v, some l => some (v :: l)
    | _, _ => none
@[simp] theorem dVs_enc (l : List V) : dVs (l.map V.cs) = some l := by
  induction l with
  | nil => rfl
  | cons v l ih => simp [dVs, ih]
theorem dVs_le : ∀ {es : List (List CV)} {l : List V}, dVs es = some l → Rle es (l.map V.cs)
  | [], l, h => by cases h; trivial
  | e :: es, l, h => by
    simp only [dVs] at h
    split at h
    · rename_i v l' hv hl; cases h; exact ⟨dV_le hv, dVs_le hl⟩
    · cases h
def dT : List CV → Option T3
  | [a, b, c, d, e, f, g, h, i, j, k, l, m, n, o] => match dV [a, b, c, d, e], dV [f, g, h, i, j], dV [k, l, m, n, o] with
    | some u, some v, some w => some (u, v, w)
    | _, _, _ => none
  | _ => none
theorem dV_five {v : V} : v.cs = [.int .i64 v.x, .int .i64 v.y, .int .i64 v.z, .int .i64 v.w, cInts v.vs] := rfl
@[simp] theorem dT_enc (t : T3) : dT t.cs = some t := by
  obtain ⟨u, v, w⟩ := t
  have h1 := dV_enc u; have h2 := dV_enc v; have h3 := dV_enc w
  simp only [dV_five] at h1 h2 h3
  simp only [T3.cs, dV_five, List.cons_append, List.nil_append, dT, h1, h2, h3]
theorem dT_le {cs : List CV} {t : T3} (h : dT cs = some t) : CVsle cs t.cs := by
  unfold dT at h
  split at h
  · rename_i a b c d e f g hh i j k l m n o
    split at h
    · rename_i u v w h1 h2 h3
      cases h
      exact CVsle.append (CVsle.append (dV_le h1) (dV_le h2)) (dV_le h3)
    · cases h
  · cases h
def dTs : List (List CV) → Option (List T3)
  | [] => some []
  | e :: r => match dT e, dTs r with
    | some v, some l => some (v :: l)
    | _, _ => none
@[simp] theorem dTs_enc (l : List T3) : dTs (l.map T3.cs) = some l := by
  induction l with
  | nil => rfl
  | cons v l ih => simp [dTs, ih]
theorem dTs_le : ∀ {es : List (List CV)} {l : List T3}, dTs es = some l → Rle es (l.map T3.cs)
  | [], l, h => by cases h; trivial
  | e :: es, l, h => by
    simp only [dTs] at h
    split at h
    · rename_i v l' hv hl; cases h; exact ⟨dT_le hv, dTs_le hl⟩
    · cases h
/-! ### Arguments -/
/-- One argument: read, and what it says. -/
structure Arg (α : Type) where
  enc : α → PV
  dec : PV → Option α
  imp : ∀ p a, dec p = some a → ∀ (w : World) (ok : Nat → Nat → Prop) (v : Value), RepP w ok p v → RepP w ok (enc a) v
def aInt : Arg Int where
  enc := fun n => .c (.int .i64 n)
  dec := fun
    | .c (.int .i64 n) => some n
    | _ => none
  imp := fun p a h w ok v hr => by
    split at h
    · cases h; exact hr
    · cases h
def aInts : Arg (List Int) where
  enc := fun vs => .c (cInts vs)
  dec := fun
    | .c (.sl s es) => if s = 1 ∨ es = [] then dInts es else none
    | _ => none
  imp := fun p a h w ok v hr => by
    split at h
    · split at h
      · rename_i hs; exact CVle.sl hs (dInts_le h) w ok v hr
      · cases h
    · cases h
def aV : Arg V where
  enc := fun v => .agg v.cs
  dec := fun
    | .agg cs => dV cs
    | _ => none
  imp := fun p a h w ok v hr => by
    split at h
    · obtain ⟨vs, e, hr⟩ := hr; exact ⟨vs, e, CVsle.rep (dV_le h) w ok vs hr⟩
    · cases h
def aT : Arg T3 where
  enc := fun v => .agg v.cs
  dec := fun
    | .agg cs => dT cs
    | _ => none
  imp := fun p a h w ok v hr => by
    split at h
    · obtain ⟨vs, e, hr⟩ := hr; exact ⟨vs, e, CVsle.rep (dT_le h) w ok vs hr⟩
    · cases h
def aVs : Arg (List V) where
  enc := fun l => .c (cVs l)
  dec := fun
    | .c (.sl s es) => if s = 5 ∨ es = [] then dVs es else none
    | _ => none
  imp := fun p a h w ok v hr => by
    split at h
    · split at h
      · rename_i hs; exact CVle.sl hs (dVs_le h) w ok v hr
      · cases h
    · cases h
def aTs : Arg (List T3) where
  enc := fun l => .c (cTs l)
  dec := fun
    | .c (.sl s es) => if s = 15 ∨ es = [] then dTs es else none
    | _ => none
  imp := fun p a h w ok v hr => by
    split at h
    · split at h
      · rename_i hs; exact CVle.sl hs (dTs_le h) w ok v hr
      · cases h
    · cases h
/-- A vector of four numbers. -/
abbrev P4 := Int × Int × Int × Int
def P4.cs (p : P4) : List CV := [.int .i64 p.1, .int .i64 p.2.1, .int .i64 p.2.2.1, .int .i64 p.2.2.2]
def aP : Arg P4 where
  enc := fun v => .agg v.cs
  dec := fun
    | .agg [.int .i64 x, .int .i64 y, .int .i64 z, .int .i64 w] => some (x, y, z, w)
    | _ => none
  imp := fun p a h w ok v hr => by
    split at h
    · cases h; exact hr
    · cases h
def sig0 : Sig Unit where
  enc := fun _ => []
  dec := fun
    | [] => some ()
    | _ => none
  imp := fun args a h w ok vs hr => by
    split at h
    · exact hr
    · cases h
def sig1 {α : Type} (A : Arg α) : Sig α where
  enc := fun a => [A.enc a]
  dec := fun
    | [p] => A.dec p
    | _ => none
  imp := fun args a h w ok vs hr => by
    split at h
    · match vs, hr with
      | [v], hr => exact ⟨A.imp _ _ h w ok v hr.1, trivial⟩
    · cases h
def sig2 {α β : Type} (A : Arg α) (B : Arg β) : Sig (α × β) where
  enc := fun a => [A.enc a.1, B.enc a.2]
  dec := fun
    | [p, q] => match A.dec p, B.dec q with
      | some a, some b => some (a, b)
      | _, _ => none
    | _ => none
  imp := fun args a h w ok vs hr => by
    split at h
    · split at h
      · rename_i h1 h2
        cases h
        match vs, hr with
        | [v, u], hr => exact ⟨A.imp _ _ h1 w ok v hr.1, B.imp _ _ h2 w ok u hr.2.1, trivial⟩
      · cases h
    · cases h
def sig3 {α β γ : Type} (A : Arg α) (B : Arg β) (C : Arg γ) : Sig (α × β × γ) where
  enc := fun a => [A.enc a.1, B.enc a.2.1, C.enc a.2.2]
  dec := fun
    | [p, q, r] => match A.dec p, B.dec q, C.dec r with
      | some a, some b, some c => some (a, b, c)
      | _, _, _ => none
    | _ => none
  imp := fun args a h w ok vs hr => by
    split at h
    · split at h
      · rename_i h1 h2 h3
        cases h
        match vs, hr with
        | [v, u, t], hr => exact ⟨A.imp _ _ h1 w ok v hr.1, B.imp _ _ h2 w ok u hr.2.1, C.imp _ _ h3 w ok t hr.2.2.1, trivial⟩
      · cases h
    · cases h
/-! ### Results -/
def rInt (n : Int) : AV := .c (.p (.int .i64 n))
def rBool (b : Bool) : AV := .c (.p (.bool b))
def rV (v : V) : AV := .agg (v.cs.map .p)
def rVs (l : List V) : AV := .c (.p (cVs l))
def rTs (l : List T3) : AV := .c (.p (cTs l))
end Go.Proofs.Ytljndeeahnpnjaa.Cl
