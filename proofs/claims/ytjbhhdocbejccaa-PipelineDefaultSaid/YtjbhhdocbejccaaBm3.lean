/- The abstract machine's operations are the model's. No condition beyond those that each theorem states. -/
import Derived.Test.YtjbhhdocbejccaaBm2
namespace Go.Proofs.Ytjbhhdocbejccaa.Bm
open Go Go.RowKit
set_option linter.unusedVariables false
set_option linter.unusedSimpArgs false

def zx : Value → Option XV
  | .int k n => some (.p (.int k n))
  | .bool b => some (.p (.bool b))
  | .slice none 0 0 => some (.tk .tight 0 [])
  | .nilFunc => some (.p .nilfn)
  | _ => none
def zxs : List Value → Option (List XV)
  | [] => some []
  | v :: r => match zx v, zxs r with
    | some x, some xs => some (x :: xs)
    | _, _ => none
def places (pl : Nat → Option (Nat × Nat)) : List (Nat × Operand) → Option (List (Nat × Nat × Operand))
  | [] => some []
  | (i, x) :: r => match pl i, places pl r with
    | some (o, s), some l => some ((o, s, x) :: l)
    | _, _ => none
def fieldPl (P : Program) (fs : Array Field) (i : Nat) : Option (Nat × Nat) := match fs[i]? with
  | some f => match P.info? f.type with
    | some j => some (f.offset, j.size)
    | none => none
  | none => none
/-- Which variable a temporary points into: as the code's text tells it (1000000: an element of a slice). -/
def look : List (Nat × Nat) → Nat → Option Nat
  | [], _ => none
  | (t, b) :: r, u => if t = u then some b else look r u
def baseOf (bs : List (Nat × Nat)) : Operand → Option Nat
  | .tmp t => look bs t
  | _ => none
/-- The cells of a struct: which are bools. -/
def shFs (f : TypeId → Option (List Bool)) : List Field → Nat → Option (List Bool)
  | [], _ => some []
  | fd :: r, i => if (fd.name != "_" && fd.offset == i) = true then (match f fd.type with
    | some s => (match shFs f r (i + s.length) with
      | some l => some (s ++ l)
      | none => none)
    | none => none) else none
def shT (P : Program) : Nat → TypeId → Option (List Bool)
  | 0, _ => none
  | d + 1, t => match P.underlying t with
    | some (.int _) => some [false]
    | some .bool => some [true]
    | some (.struct fs) => (match shFs (shT P d) fs.toList 0, P.info? t with
      | some l, some i => if (i.size == l.length && !P.stoodInHeld t) = true then some l else none
      | _, _ => none)
    | _ => none
/-- An operation of the model, told for the abstract machine. -/
def trOp0 (P : Program) (eqT : List TypeId) (bs : List (Nat × Nat)) (o : Oper) : Option MO :=
  match o.op with
  | .move x => some (.mv x)
  | .assign x => some (.mv x)
  | .pick c x y => some (.pick c x y)
  | .box _ x => some (.mkb x)
  | .alloc t => match P.info? t with
    | some i => match i.zero with
      | some v => (zxs v.cells.toList).map .new
      | none => none
    | none => none
  | .load t x => match P.info? t, P.underlying t with
    | some i, some d => if d.isRow = true ∨ i.size = 1 then some (.ld i.size d.isRow (baseOf bs x) x) else none
    | _, _ => none
  | .store t x v => match P.info? t with
    | some i => some (.st i.size (baseOf bs x) x v)
    | none => none
  | .fieldAddr s x f => match P.underlying s with
    | some (.struct fs) => match fs[f]? with
      | some fd => match P.info? fd.type with
        | some i => if i.size = 0 then none else some (.adr fd.offset x)
        | none => none
      | none => none
    | _ => none
  | .indexAddr t x ix => match P.underlying t with
    | some (.slice e) => match P.info? e with
      | some i => some (.idx i.size x ix)
      | none => none
    | some (.array n e) => match P.info? e with
      | some i => some (.idxA n i.size x ix)
      | none => none
    | _ => none
  | .build t ps => match P.info? t with
    | some i => match i.zero with
      | some v => match zxs v.cells.toList with
        | some z => match P.underlying t with
          | some (.struct fs) => if fs.toList.all (fun f => (P.info? f.type).isSome) then (places (fieldPl P fs) ps.toList).map (.bld z) else none
          | some (.array _ e) => match P.info? e with
            | some j => (places (fun i => some (i * j.size, j.size)) ps.toList).map (.bld z)
            | none => none
          | _ => none
        | none => none
      | none => none
    | none => none
  | .buildSlice t n ps => match P.underlying t with
    | some (.slice e) => match P.info? e with
      | some i => match i.zero with
        | some v => if 0 < i.size ∧ n * i.size ≤ 2 ^ 24 then match zxs ((Array.range (n * i.size)).map (v.cells[· % v.cells.size]!)).toList with
            | some z => (places (fun k => some (k * i.size, i.size)) ps.toList).map (.bldS n i.size z)
            | none => none
          else none
        | none => none
      | none => none
    | _ => none
  | .binOp op t x y _ => match P.underlying t with
    | some (.int _) => some (.bin op x y)
    | some .bool => match op with
      | .eql => some (.eqb false x y)
      | .neq => some (.eqb true x y)
      | _ => none
    | some (.struct _) => if t ∈ eqT then (match shT P 8 t with
      | some sh => (match op with
        | .eql => some (.eqa sh false x y)
        | .neq => some (.eqa sh true x y)
        | _ => none)
      | none => none) else none
    | _ => none
  | .unOp op _ x => some (.un op x)
  | .convert src dst x => match P.underlying src, P.underlying dst with
    | some (.int _), some (.int k) => some (.cvt k x)
    | _, _ => none
  | .call c => match c.callee with
    | .value (.func f) => some (.call f c.args.toList)
    | .value (.tmp t) => some (.callv (.tmp t) c.args.toList)
    | .builtin .len => match c.args.toList, c.argTypes.toList with
      | [x], [t] => match P.underlying t with
        | some (.slice _) => some (.len x)
        | _ => none
      | _, _ => none
    | .builtin .min => match c.args.toList with
      | [x, y] => some (.mn x y)
      | _ => none
    | .builtin .max => match c.args.toList with
      | [x, y] => some (.mx x y)
      | _ => none
    | .builtin .append => match c.args.toList, c.argTypes.toList with
      | [s, x], [t, t'] => if t = t' then match P.underlying t with
          | some (.slice e) => match P.info? e with
            | some i => match i.zero with
              | some z => if 0 < i.size ∧ z.cells.size = i.size then some (.app i.size i.bytes s x) else none
              | none => none
            | none => none
          | _ => none
        else none
      | _, _ => none
    | _ => none
  | .field t x f => match P.underlying t with
    | some (.struct fs) => match fs[f]? with
      | some fd => match P.info? fd.type, P.underlying fd.type with
        | some i, some d => if d.isRow = true ∨ i.size = 1 then some (.fld fd.offset i.size d.isRow x) else none
        | _, _ => none
      | none => none
    | _ => none
  | .nilCheck x => some (.adr 0 x)
  | .extract x i => some (.ext i x)
  | .index t x ix => match P.underlying t with
    | some (.array n e) => match P.info? e, P.underlying e with
      | some i, some d => if d.isRow = true ∨ i.size = 1 then some (.idxV n i.size d.isRow x ix) else none
      | _, _ => none
    | _ => none
  | .slice t x none (some hi) none => match P.underlying t with
    | some (.slice e) => match P.info? e with
      | some _ => some (.take x hi)
      | none => none
    | _ => none
  | _ => none
/-- What has no word here is told as what never goes through. -/
def trOp (P : Program) (eqT : List TypeId) (bs : List (Nat × Nat)) (o : Oper) : Option MO := some ((trOp0 P eqT bs o).getD .bad)
/-- Structs of whole numbers: that '==' compares their cells. -/
def EqOk (P : Program) (t : TypeId) : Prop := ∀ (sh : List Bool), shT P 8 t = some sh → (∃ fs, P.underlying t = some (.struct fs)) → ∀ (op : BinOp) (x y : Operand) (u v : List Pr) (w : World), shOf u = sh → u.map Pr.kd = v.map Pr.kd →
  op = .eql ∨ op = .neq → ((do eqGuard op t x y (.agg (u.map Pr.val).toArray) (.agg (v.map Pr.val).toArray); binOp op t (.agg (u.map Pr.val).toArray) (.agg (v.map Pr.val).toArray)) : Sem Value).run P w =
    .ok (.bool (if op = .neq then !(prsEq u v) else prsEq u v)) w

section
variable {P : Program} {w0 : World} {okA : Nat → Nat → Prop} {N : Nat} {σ : St} {a : Act} {w : World} {β : Nat → Nat} {tip : Tip} {eqT : List TypeId}
/-- A value that an operation yields while the world stands. -/
def Yields (P : Program) (a : Act) (w : World) (o : Oper) (u : Value) : Prop := (execOp a.eval o).run P w = .ok (.value u) w
theorem cell_of_blk {b : Nat} {vs : List Value} {ty : TypeId} {fr : Nat × Nat} (h : w.heap[b]? = some (.cells vs.toArray ty fr)) (j : Nat) : w.cell? ⟨b, j, none⟩ = vs[j]? := by
  simp [World.cell?, h]
theorem cz_of_blk {b : Nat} {vs : List Value} {ty : TypeId} (h : w.heap[b]? = some (.cells vs.toArray ty (0, 0))) (j : Nat) : cz w ⟨b, j, none⟩ = vs[j]? := by
  simp [cz, h]
theorem RepXs.split {ok : Nat → Nat → Prop} {nt : Nat} {lv : Nat → Bool} {xs : List XV} {vs : List Value} (h : RepXs w ok nt lv tip xs vs) (o n : Nat) : RepXs w ok nt lv tip ((xs.drop o).take n) ((vs.drop o).take n) := RepXs.take n (RepXs.drop o h)
/-- A variable is loaded: its cells lie from place 'o' of block 'b' on. -/
theorem run_load (t : TypeId) (i : TypeInfo) (d : TypeDesc) (hi : P.info? t = some i) (hu : P.underlying t = some d) (hs : d.isRow = true ∨ i.size = 1)
    (b o : Nat) (us : List Value) (hc : ∀ j u, us[j]? = some u → w.cell? ⟨b, o + j, none⟩ = some u) (hn : i.size ≤ us.length) :
    ∃ u, (Instr.loadAt t (.pointer (some ⟨b, o, none⟩))).run P w = .ok u w ∧ (d.isRow = true → u = .agg (us.take i.size).toArray) ∧ (d.isRow = false → us[0]? = some u) := by
  cases hd : d.isRow with
  | true =>
    refine ⟨_, run_loadAt_mid w b o t (us.take i.size) d (fun j v hv => hc j v ?_) hu hd (by simp [hi]; omega), fun _ => rfl, fun h => by cases h⟩
    rw [List.getElem?_take] at hv
    split at hv
    · exact hv
    · cases hv
  | false =>
    have h1 : i.size = 1 := by rcases hs with h | h; · rw [hd] at h; cases h
                               · exact h
    have hl : 0 < us.length := by omega
    refine ⟨us[0], ?_, (fun h => by cases h), fun _ => by simp [hl]⟩
    have hc0 := hc 0 us[0] (by simp [hl])
    have hagg : (isAgg t).run P w = .ok false w := by
      unfold isAgg
      rw [Sem.run_bind, run_underlying hu w]
      cases d <;> simp_all
    simp only [Instr.loadAt, Instr.sureAddr, loadVar, Sem.run_bind, Sem.run_pure, Result.andThen_ok, hagg]
    simp only [Bool.false_eq_true, if_false]
    rw [Nat.add_zero] at hc0
    simp [load, Sem.run, hc0]
theorem ldX_rep {ok : Nat → Nat → Prop} {nt : Nat} {lv : Nat → Bool} {n : Nat} {ag : Bool} {cs : List XV} {us : List Value} {e : Eff} (he : ldX n ag cs = some e) (hr : RepXs w ok nt lv tip cs us)
    {u : Value} (h1 : ag = true → u = .agg (us.take n).toArray) (h2 : ag = false → us[0]? = some u) : ∃ x, e = .val x ∧ RepA w ok nt lv tip β x u ∧ n ≤ us.length := by
  unfold ldX at he
  split at he
  · rename_i hn
    have hl := RepXs.length hr
    cases ag with
    | true =>
      simp at he; subst he
      exact ⟨_, rfl, ⟨us.take n, h1 rfl, RepXs.take n hr⟩, by omega⟩
    | false =>
      simp only [Bool.false_eq_true, if_false] at he
      cases cs with
      | nil => cases he
      | cons x r =>
        simp only at he
        split at he
        · cases he
          cases us with
          | nil => exact hr.elim
          | cons v vs =>
            have := h2 rfl
            simp at this; subst this
            exact ⟨_, rfl, hr.1, by omega⟩
        · cases he
  · cases he
theorem run_field (t f : TypeId) (fd : Field) (fs : Array Field) (i : TypeInfo) (d : TypeDesc) (ht : P.underlying t = some (.struct fs)) (hf : fs[f]? = some fd) (hi : P.info? fd.type = some i) (hu : P.underlying fd.type = some d)
    (hs : d.isRow = true ∨ i.size = 1) (vs : List Value) (hn : i.size ≤ (vs.drop fd.offset).length) :
    ∃ u, (Instr.field t (.agg vs.toArray) f).run P w = .ok u w ∧ (d.isRow = true → u = .agg ((vs.drop fd.offset).take i.size).toArray) ∧ (d.isRow = false → (vs.drop fd.offset)[0]? = some u) := by
  have hb : (Instr.field t (.agg vs.toArray) f).run P w = (part fd.type vs.toArray fd.offset).run P w := by
    simp [Instr.field, run_underlying ht, hf, asAgg]
  rw [hb]
  cases hd : d.isRow with
  | true =>
    have hagg : (isAgg fd.type).run P w = .ok true w := by
      unfold isAgg
      rw [Sem.run_bind, run_underlying hu w]
      cases d <;> simp_all
    refine ⟨_, by simp [part, Sem.run_bind, hagg, sizeOf, typeInfo, hi]; rfl, fun _ => ?_, fun h => by cases h⟩
    simp [List.extract_eq_take_drop, List.drop_take]
  | false =>
    have h1 : i.size = 1 := by rcases hs with h | h; · rw [hd] at h; cases h
                               · exact h
    have hagg : (isAgg fd.type).run P w = .ok false w := by
      unfold isAgg
      rw [Sem.run_bind, run_underlying hu w]
      cases d <;> simp_all
    have hl : fd.offset < vs.length := by simp at hn; omega
    refine ⟨vs[fd.offset], by simp [part, Sem.run_bind, hagg, hl], (fun h => by cases h), fun _ => by simp [hl]⟩
end
end Go.Proofs.Ytjbhhdocbejccaa.Bm
