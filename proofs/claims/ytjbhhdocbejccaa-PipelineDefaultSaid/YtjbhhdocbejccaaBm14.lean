/- The abstract machine: words for its use. No condition beyond those that each theorem states. -/
import Derived.Test.YtjbhhdocbejccaaBm13
namespace Go.Proofs.Ytjbhhdocbejccaa.Bm
open Go Go.RowKit
set_option linter.unusedVariables false
set_option linter.unusedSimpArgs false

theorem fg_p (c : CV) : (XV.p c).forget = c := rfl
theorem fg_tk (t : Tok) (sz : Nat) (es : List (List CV)) : (XV.tk t sz es).forget = .sl sz es := rfl
theorem c3 : ((3 : Nat) : Int) = 3 := rfl
/-! ### Rules for reckoning a region: one operation after the other -/
def execK (G : FuncId → Spec) (r : List MOp) (o : Option St) : Option St := o.bind (execS G r)
def runE (d : Option Nat) (σ : St) (o : Option Eff) : Option St := o.bind fun e => e.run d σ
def guardE (G : FuncId → Spec) (d : Option Nat) (op : MO) (want : Bool) (σ : St) : Option AV → Option St
  | some (.c (.p (.bool b))) => if b = want then runE d σ (think G σ op) else some (σ.put d .undef)
  | some .undef => some (σ.put d .undef)
  | _ => none
section
variable {G : FuncId → Spec} {σ : St} {m : MOp} {r : List MOp} {d : Nat} {dst : Option Nat} {op : MO} {v : AV} {cs : List XV} {g : Nat} {w b : Bool}
theorem ex_nil : execS G [] σ = some σ := rfl
theorem ex_cons : execS G (m :: r) σ = execK G r (step1 G m σ) := rfl
theorem exK_some : execK G r (some σ) = execS G r σ := rfl
theorem st_n : step1 G ⟨dst, op, none⟩ σ = runE dst σ (think G σ op) := rfl
theorem st_g : step1 G ⟨dst, op, some (g, w)⟩ σ = guardE G dst op w σ (ev σ (.tmp g)) := by
  unfold step1 guardE
  simp only
  cases ev σ (.tmp g) with
  | none => rfl
  | some x =>
    cases x with
    | c x => cases x with
      | p c => cases c <;> rfl
      | _ => rfl
    | _ => rfl
theorem gd_b : guardE G dst op w σ (some (.c (.p (.bool b)))) = if b = w then runE dst σ (think G σ op) else some (σ.put dst .undef) := rfl
theorem gd_u : guardE G dst op w σ (some .undef) = some (σ.put dst .undef) := rfl
theorem rn_v : runE dst σ (some (.val v)) = some (σ.put dst v) := rfl
theorem rn_m : runE (some d) σ (some (.mk cs)) = if (σ.hp d).isSome = true then none else some { σ with tm := upd (forgetBox d σ.tm) d (some (.box d 0)), hp := upd σ.hp d (some cs) } := rfl
theorem rn_s : runE none σ (some (.st d cs)) = some { σ with hp := upd σ.hp d (some cs) } := rfl
theorem rn_a {k : Option Nat} {sz : Nat} {es : List (List CV)} : runE (some d) σ (some (.app k sz es)) = some { σ with tm := upd σ.tm d (some (.c (.tk (.live σ.nt) sz es))), lv := fun j => (j == σ.nt) || (σ.lv j && !(some j == k)), nt := σ.nt + 1 } := rfl
end
/-- One abstract value tells less than another. -/
def XVle (x y : XV) : Prop := ∀ (w : World) (ok : Nat → Nat → Prop) (v : Value), RepX w ok 0 (fun _ => false) (fun _ => none) x v → RepX w ok 0 (fun _ => false) (fun _ => none) y v
def AVle (x y : AV) : Prop := ∀ (w : World) (ok : Nat → Nat → Prop) (v : Value), RepA w ok 0 (fun _ => false) (fun _ => none) (fun _ => 0) x v → RepA w ok 0 (fun _ => false) (fun _ => none) (fun _ => 0) y v
theorem XVle.refl (x : XV) : XVle x x := fun _ _ _ h => h
theorem AVle.refl (x : AV) : AVle x x := fun _ _ _ h => h
theorem XVle.tk (t : Tok) (sz : Nat) (es : List (List CV)) : XVle (.tk t sz es) (.p (.sl sz es)) := fun _ _ _ h => h.1
theorem XVle.tk0 (t : Tok) (s sz : Nat) : XVle (.tk t s []) (.p (.sl sz [])) := fun _ _ _ h => RepC.resz h.1 (.inr rfl)
theorem XVle.p0 (s sz : Nat) : XVle (.p (.sl s [])) (.p (.sl sz [])) := fun _ _ _ h => RepC.resz h (.inr rfl)
def XVsle : List XV → List XV → Prop
  | [], [] => True
  | x :: xs, y :: ys => XVle x y ∧ XVsle xs ys
  | _, _ => False
theorem XVsle.rep : ∀ {xs ys : List XV}, XVsle xs ys → ∀ (w : World) (ok : Nat → Nat → Prop) (vs : List Value), RepXs w ok 0 (fun _ => false) (fun _ => none) xs vs → RepXs w ok 0 (fun _ => false) (fun _ => none) ys vs
  | [], [], _, _, _, _, h => h
  | _ :: _, _ :: _, h, w, ok, [], hr => hr.elim
  | _ :: _, _ :: _, h, w, ok, v :: vs, hr => ⟨h.1 w ok v hr.1, XVsle.rep h.2 w ok vs hr.2⟩
  | [], _ :: _, h, _, _, _, _ => h.elim
  | _ :: _, [], h, _, _, _, _ => h.elim
theorem AVle.agg {xs ys : List XV} (h : XVsle xs ys) : AVle (.agg xs) (.agg ys) := fun w ok v ⟨vs, e, hr⟩ => ⟨vs, e, XVsle.rep h w ok vs hr⟩
theorem AVle.c {x y : XV} (h : XVle x y) : AVle (.c x) (.c y) := h
theorem CA.le {P : Program} {f : FuncId} {args : List PV} {r r' : AV} (h : CA P f args r') (hl : AVle r' r) : CA P f args r :=
  ⟨h.1, fun w okA vs hvs => (h.2 w okA vs hvs).mono fun e w' ⟨v, e1, e2, e3⟩ => ⟨v, e1, e2, hl _ _ _ e3⟩⟩
/-- What may be assumed of a function in the proofs of those that call it. -/
def SpecOK (P : Program) (f : FuncId) (s : Spec) : Prop := ∀ args r, s args = some r → CA P f args r
def mkG : List (FuncId × Spec) → FuncId → Spec
  | [], _ => fun _ => none
  | (f, s) :: r, g => if g = f then s else mkG r g
theorem mkG_ok {P : Program} : ∀ {l : List (FuncId × Spec)}, (∀ p ∈ l, SpecOK P p.1 p.2) → GOK P (mkG l)
  | [], _, f, args, r, h => by cases h
  | (f0, s) :: l, hl, f, args, r, h => by
    simp only [mkG] at h
    split at h
    · rename_i e; subst e; exact hl (f, s) (by simp) args r h
    · exact mkG_ok (fun p hp => hl p (by simp [hp])) f args r h
theorem ok_nil {P : Program} : ∀ p ∈ ([] : List (FuncId × Spec)), SpecOK P p.1 p.2 := fun p hp => by cases hp
theorem ok_cons {P : Program} {f : FuncId} {s : Spec} {l : List (FuncId × Spec)} (h : SpecOK P f s) (hl : ∀ p ∈ l, SpecOK P p.1 p.2) : ∀ p ∈ (f, s) :: l, SpecOK P p.1 p.2 := fun p hp => by
  cases hp with
  | head => exact h
  | tail _ hp => exact hl p hp
/-- Arguments told as data: how they are read, what they say. -/
structure Sig (α : Type) where
  enc : α → List PV
  dec : List PV → Option α
  imp : ∀ args a, dec args = some a → ∀ (w : World) (ok : Nat → Nat → Prop) (vs : List Value), RepPs w ok args vs → RepPs w ok (enc a) vs
def Sig.spec {α : Type} (S : Sig α) (res : α → Option AV) : Spec := fun args => (S.dec args).bind res
theorem Sig.ok {α : Type} (S : Sig α) {P : Program} {f : FuncId} {res : α → Option AV} (h : ∀ a r, res a = some r → CA P f (S.enc a) r) : SpecOK P f (S.spec res) := fun args r hr => by
  simp only [Sig.spec, Option.bind_eq_some_iff] at hr
  obtain ⟨a, ha, hr⟩ := hr
  exact ⟨(h a r hr).1, fun w okA vs hvs => (h a r hr).2 w okA vs (S.imp args a ha w okA vs hvs)⟩
/-- The law for a function, its result up to what it tells. -/
theorem fnLaw {P : Program} {eqT : List TypeId} {l : List (FuncId × Spec)} {f : FuncId} {fn : Func} {m : MC} {rv : RV} {args : List PV} {r : AV} (hf : P.funcs[f]? = some fn) (htr : trF P eqT fn = some (m, rv)) (hlen : args.length = fn.params.size)
    (hE : ∀ t ∈ eqT, EqOk P t) (hG : ∀ p ∈ l, SpecOK P p.1 p.2) (hm : mwp (mkG l) m (fun e σ => (e = .ret ∨ e = .normal) ∧ ∃ r', result σ rv = some r' ∧ AVle r' r) (init args)) : CA P f args r := by
  have key : ∀ (r' : AV), True := fun _ => trivial
  unfold trF at htr
  split at htr
  · rename_i c hb
    split at htr
    · rename_i m' rv' h1 h2
      split at htr
      · rename_i hc
        cases htr
        refine ⟨⟨fn, hf, by rw [hb]; rfl, hc.1⟩, fun w okA vs hvs => ?_⟩
        exact contractQ hf hb hE (mkG_ok hG) h1 h2 (by omega) hm hvs
      · cases htr
    · cases htr
  · cases htr
section
variable {G : FuncId → Spec} {Q : Exit → St → Prop} {σ σ' : St}
theorem seq_reg {ms : List MOp} {b : MC} (h : execS G ms (prep ms σ) = some σ') (hb : mwp G b Q σ') : mwp G (.seq (.reg ms) b) Q σ := ⟨σ', h, σ', Sub.refl _, hb⟩
theorem seq_sub {ms : List MOp} {b : MC} {σ'' : St} (h : execS G ms (prep ms σ) = some σ') (hs : Sub σ'' σ') (hb : mwp G b Q σ'') : mwp G (.seq (.reg ms) b) Q σ := ⟨σ', h, σ'', hs, hb⟩
theorem seq_ex {ms : List MOp} {b : MC} {σ'' : St} (h : ∃ σ', execS G ms (prep ms σ) = some σ' ∧ Sub σ'' σ') (hb : mwp G b Q σ'') : mwp G (.seq (.reg ms) b) Q σ := h.elim fun σ' h => ⟨σ', h.1, σ'', h.2, hb⟩
theorem last_reg {ms : List MOp} (h : execS G ms (prep ms σ) = some σ') (hb : Q .normal σ') : mwp G (.reg ms) Q σ := ⟨σ', h, hb⟩
theorem cond_ {c : Operand} {a b : MC} {t : Bool} (hc : ev σ c = some (.c (.p (.bool t)))) (ha : t = true → mwp G a Q σ) (hb : t = false → mwp G b Q σ) : mwp G (.cond c a b) Q σ := ⟨t, hc, ha, hb⟩
theorem seq_ {a b : MC} (h : mwp G a (outSeq (fun σ' => ∃ σ'', Sub σ'' σ' ∧ mwp G b Q σ'') Q) σ) : mwp G (.seq a b) Q σ := h
theorem norm_ {b : MC} {Q : Exit → St → Prop} (h : mwp G b Q σ) : outSeq (fun σ' => ∃ σ'', Sub σ'' σ' ∧ mwp G b Q σ'') Q .normal σ := ⟨σ, Sub.refl _, h⟩
theorem skip_ (h : Q .normal σ) : mwp G .skip Q σ := h
theorem ret_ (h : Q .ret σ) : mwp G .ret Q σ := h
theorem block_ {id : Nat} {a : MC} (h : mwp G a (outBlock id Q) σ) : mwp G (.block id a) Q σ := h
theorem exit_ {id : Nat} (h : Q (.exit id) σ) : mwp G (.exit id) Q σ := h
theorem loop_ {a : MC} (I : Nat → St → Prop) (n : Nat) (σ' : St) (hs : Sub σ' σ) (h0 : I n σ') (hr : ∀ n σ, I n σ → mwp G a (outSeq (fun σ' => ∃ m σ'', m < n ∧ Sub σ'' σ' ∧ I m σ'') Q) σ) : mwp G (.loop a) Q σ := ⟨0, I, ⟨n, σ', hs, h0⟩, hr⟩
theorem peel_ {a : MC} (N : Nat) (h : peel (mwp G a) Q N σ) : mwp G (.loop a) Q σ := ⟨N, h⟩
theorem peel_one {a : MC} {N : Nat} (h : mwp G a (outSeq (fun σ' => ∃ σ'', Sub σ'' σ' ∧ peel (mwp G a) Q N σ'') Q) σ) : peel (mwp G a) Q (N + 1) σ := h
theorem peel_norm {a : MC} {N : Nat} (h : peel (mwp G a) Q N σ) : outSeq (fun σ' => ∃ σ'', Sub σ'' σ' ∧ peel (mwp G a) Q N σ'') Q .normal σ := ⟨σ, Sub.refl _, h⟩
theorem peel_sub {a : MC} {N : Nat} {σ'' : St} (hs : Sub σ'' σ) (h : peel (mwp G a) Q N σ'') : outSeq (fun σ' => ∃ σ'', Sub σ'' σ' ∧ peel (mwp G a) Q N σ'') Q .normal σ := ⟨σ'', hs, h⟩
theorem norm_sub {b : MC} {σ'' : St} (hs : Sub σ'' σ) (h : mwp G b Q σ'') : outSeq (fun σ' => ∃ σ'', Sub σ'' σ' ∧ mwp G b Q σ'') Q .normal σ := ⟨σ'', hs, h⟩
theorem round_ {I : Nat → St → Prop} {n m : Nat} {σ'' : St} (hm : m < n) (hs : Sub σ'' σ) (h : I m σ'') : outSeq (fun σ' => ∃ m σ'', m < n ∧ Sub σ'' σ' ∧ I m σ'') Q .normal σ := ⟨m, σ'', hm, hs, h⟩
theorem peel_inv {a : MC} (I : Nat → St → Prop) (n : Nat) (σ' : St) (hs : Sub σ' σ) (h0 : I n σ') (hr : ∀ n σ, I n σ → mwp G a (outSeq (fun σ' => ∃ m σ'', m < n ∧ Sub σ'' σ' ∧ I m σ'') Q) σ) : peel (mwp G a) Q 0 σ := ⟨I, ⟨n, σ', hs, h0⟩, hr⟩
end
theorem all_nil {α : Type} {p : α → Prop} : ∀ x ∈ ([] : List α), p x := fun x h => by cases h
theorem all_cons {α : Type} {p : α → Prop} {x : α} {l : List α} (h : p x) (hl : ∀ y ∈ l, p y) : ∀ y ∈ x :: l, p y := fun y hy => by
  cases hy with
  | head => exact h
  | tail _ hy => exact hl y hy
theorem outSeq_mono {K K' : St → Prop} {Q Q' : Exit → St → Prop} (hK : ∀ σ, K σ → K' σ) (hQ : ∀ e σ, Q e σ → Q' e σ) (e : Exit) (σ : St) (h : outSeq K Q e σ) : outSeq K' Q' e σ := by
  cases e with
  | normal => exact hK σ h
  | exit id => exact hQ _ σ h
  | goto l => exact hQ _ σ h
  | ret => exact hQ _ σ h
  | panic c => exact hQ _ σ h
  | outgrown => exact hQ _ σ h
theorem mwp_mono {G : FuncId → Spec} : ∀ (m : MC) {Q Q' : Exit → St → Prop} {σ : St}, (∀ e σ, Q e σ → Q' e σ) → mwp G m Q σ → mwp G m Q' σ := by
  intro m
  induction m with
  | skip => intro Q Q' σ hq h; exact hq _ _ h
  | reg ms => rintro Q Q' σ hq ⟨σ', h1, h2⟩; exact ⟨σ', h1, hq _ _ h2⟩
  | seq a b iha ihb => intro Q Q' σ hq h; exact iha (outSeq_mono (fun σ ⟨σ'', hs, h⟩ => ⟨σ'', hs, ihb hq h⟩) hq) h
  | cond c a b iha ihb => rintro Q Q' σ hq ⟨t, hc, h1, h2⟩; exact ⟨t, hc, fun ht => iha hq (h1 ht), fun ht => ihb hq (h2 ht)⟩
  | block id a iha =>
    intro Q Q' σ hq h
    refine iha (fun e σ h => ?_) h
    cases e with
    | exit id' =>
      simp only [outBlock] at h ⊢
      split
      · rename_i hi; rw [if_pos hi] at h; exact hq _ _ h
      · rename_i hi; rw [if_neg hi] at h; exact hq _ _ h
    | normal => exact hq _ _ h
    | goto l => exact hq _ _ h
    | ret => exact hq _ _ h
    | panic c => exact hq _ _ h
    | outgrown => exact hq _ _ h
  | loop a iha =>
    rintro Q Q' σ hq ⟨N, h⟩
    refine ⟨N, ?_⟩
    induction N generalizing σ with
    | zero =>
      obtain ⟨I, h0, hr⟩ := h
      exact ⟨I, h0, fun n σ hi => iha (outSeq_mono (fun _ h => h) hq) (hr n σ hi)⟩
    | succ N ih => exact iha (outSeq_mono (fun σ ⟨σ'', hs, h⟩ => ⟨σ'', hs, ih h⟩) hq) h
  | exit id => intro Q Q' σ hq h; exact hq _ _ h
  | ret => intro Q Q' σ hq h; exact hq _ _ h
/-- The ways through 'a' meet in one state. -/
theorem seq_join {G : FuncId → Spec} {a b : MC} {Q : Exit → St → Prop} {σ : St} (σ0 : St) (ha : mwp G a (outSeq (fun σ' => Sub σ0 σ') Q) σ) (hb : mwp G b Q σ0) : mwp G (.seq a b) Q σ :=
  mwp_mono a (outSeq_mono (fun σ' h => ⟨σ0, h, hb⟩) (fun _ _ h => h)) ha
theorem join_ {Q : Exit → St → Prop} {σ0 σ : St} (h : Sub σ0 σ) : outSeq (fun σ' => Sub σ0 σ') Q .normal σ := h
/-- A state by its list. -/
def tab {α : Type} : List (Nat × α) → Nat → Option α
  | [], _ => none
  | (t, x) :: r, u => if u = t then some x else tab r u
def St.of (l : List (Nat × AV)) (h : List (Nat × List XV)) (ks : List Nat) (nt : Nat) : St := { tm := tab l, hp := tab h, lv := fun k => ks.contains k, nt := nt }
theorem tab_sub {α : Type} {f : Nat → Option α} : ∀ {l : List (Nat × α)}, (∀ p ∈ l, f p.1 = some p.2) → ∀ t x, tab l t = some x → f t = some x
  | [], _, t, x, h => by cases h
  | (u, y) :: r, hl, t, x, h => by
    simp only [tab] at h
    split at h
    · rename_i e; cases h; subst e; exact hl (t, y) (by simp)
    · exact tab_sub (fun p hp => hl p (by simp [hp])) t x h
theorem sub_of {l : List (Nat × AV)} {h : List (Nat × List XV)} {ks : List Nat} {nt : Nat} {σ : St} (hl : ∀ p ∈ l, σ.tm p.1 = some p.2) (hh : ∀ p ∈ h, σ.hp p.1 = some p.2) (hk : ∀ k ∈ ks, σ.lv k = true) (hn : σ.nt ≤ nt) : Sub (St.of l h ks nt) σ :=
  ⟨tab_sub hl, tab_sub hh, fun k hk' => hk k (by simpa [St.of] using hk'), hn⟩
/-! ### '==' of structs -/
def vOf (ag : Bool) (u : List Pr) : Value := if ag = true then .agg (u.map Pr.val).toArray else (u.map Pr.val).headD Go.undef
def isSt (P : Program) (t : TypeId) : Bool := match P.underlying t with
  | some (.struct _) => true
  | _ => false
theorem prsEq_append : ∀ {u v u' v' : List Pr}, u.length = v.length → prsEq (u ++ u') (v ++ v') = (prsEq u v && prsEq u' v')
  | [], [], _, _, _ => by simp [prsEq]
  | a :: u, c :: v, u', v', h => by
    simp only [List.cons_append, prsEq, prsEq_append (u := u) (v := v) (by simpa using h), Bool.and_assoc]
  | [], _ :: _, _, _, h => by simp at h
  | _ :: _, [], _, _, h => by simp at h
theorem shOf_split {u : List Pr} {s l : List Bool} (h : shOf u = s ++ l) : shOf (u.take s.length) = s ∧ shOf (u.drop s.length) = l := by
  unfold shOf at h ⊢
  rw [List.map_take, List.map_drop, h]
  exact ⟨by simp, by simp⟩
theorem part_scalar {P : Program} {w : World} {t : TypeId} (hagg : (isAgg t).run P w = .ok false w) {xs : Array Value} {o : Nat} {v : Value} (h : xs[o]? = some v) : (part t xs o).run P w = .ok v w := by
  simp only [part, Sem.run_bind, hagg, Result.andThen_ok, Bool.false_eq_true, if_false, h]; rfl
theorem eqFs_run {P : Program} {f : TypeId → Option (List Bool)} {D : Nat} {w : World}
    (hf : ∀ (t : TypeId) (s : List Bool), f t = some s → (isSt P t = true → ∃ i d, P.info? t = some i ∧ P.underlying t = some d ∧ d.isRow = true ∧ i.size = s.length) ∧ (isSt P t = false → s.length = 1 ∧ (isAgg t).run P w = .ok false w) ∧
      ∀ (u v : List Pr), shOf u = s → u.map Pr.kd = v.map Pr.kd → (Op.equalIn D t (vOf (isSt P t) u) (vOf (isSt P t) v)).run P w = .ok (prsEq u v) w) :
    ∀ (fs : List Field) (i : Nat) (l : List Bool) (pu pv u v : List Pr), shFs f fs i = some l → pu.length = i → pv.length = i → shOf u = l → u.map Pr.kd = v.map Pr.kd →
    (Op.eqFields D ((pu ++ u).map Pr.val).toArray ((pv ++ v).map Pr.val).toArray fs).run P w = .ok (prsEq u v) w
  | [], i, l, pu, pv, u, v, h, _, _, h1, h2 => by
    cases h
    have e1 : u = [] := by simpa [shOf] using h1
    subst e1
    have e2 : v = [] := by simpa using h2.symm
    subst e2; simp [Op.eqFields, prsEq]
  | fd :: fs, i, l, pu, pv, u, v, h, hp, hq, h1, h2 => by
    simp only [shFs] at h
    split at h
    · rename_i hn
      simp only [Bool.and_eq_true, bne_iff_ne, beq_iff_eq] at hn
      obtain ⟨hn, ho⟩ := hn
      split at h
      · rename_i s hs
        split at h
        · rename_i l' hl
          cases h
          obtain ⟨hst, hsc, heq⟩ := hf _ _ hs
          obtain ⟨a1, a2⟩ := shOf_split h1
          have hlen : s.length ≤ u.length := by
            have := congrArg List.length h1
            simp only [shOf, List.length_map, List.length_append] at this; omega
          have hlv : u.length = v.length := by simpa using congrArg List.length h2
          have k1 : (u.take s.length).map Pr.kd = (v.take s.length).map Pr.kd := by rw [List.map_take, List.map_take, h2]
          have k2 : (u.drop s.length).map Pr.kd = (v.drop s.length).map Pr.kd := by rw [List.map_drop, List.map_drop, h2]
          have hpart : ∀ (pr us : List Pr), pr.length = i → s.length ≤ us.length → (part fd.type ((pr ++ us).map Pr.val).toArray fd.offset).run P w = .ok (vOf (isSt P fd.type) (us.take s.length)) w := fun pr us hl hle => by
            have hdr : ((pr ++ us).map Pr.val).drop fd.offset = us.map Pr.val := by rw [ho, ← hl]; simp
            cases hi : isSt P fd.type with
            | true =>
              obtain ⟨ii, d, hi1, hi2, hi3, hi4⟩ := hst hi
              obtain ⟨r, hr1, hr2, _⟩ := run_part (P := P) (w := w) fd.type fd.offset ii d hi1 hi2 (.inl hi3) ((pr ++ us).map Pr.val) (by rw [hdr, hi4]; simpa using hle)
              rw [hr1, hr2 hi3, hdr, hi4]
              simp [vOf, List.map_take]
            | false =>
              obtain ⟨g1, g2⟩ := hsc hi
              have hne : us ≠ [] := fun e => by subst e; rw [g1] at hle; simp at hle
              obtain ⟨a, r, rfl⟩ := List.exists_cons_of_ne_nil hne
              rw [part_scalar g2 (v := a.val) (by rw [ho, ← hl]; simp)]
              simp [vOf, g1]
          have ih := eqFs_run hf fs (i + s.length) l' (pu ++ u.take s.length) (pv ++ v.take s.length) (u.drop s.length) (v.drop s.length) hl (by simp [hp]; omega) (by simp [hq]; omega) a2 k2
          rw [List.append_assoc, List.append_assoc, List.take_append_drop, List.take_append_drop] at ih
          have he := heq _ _ a1 k1
          have hpe : prsEq u v = (prsEq (u.take s.length) (v.take s.length) && prsEq (u.drop s.length) (v.drop s.length)) := by
            rw [← prsEq_append (by simp [hlv]), List.take_append_drop, List.take_append_drop]
          rw [Op.eqFields]
          simp only [if_pos hn, Sem.run_bind, hpart pu u hp hlen, hpart pv v hq (by omega), Result.andThen_ok, he]
          rw [hpe]
          cases prsEq (u.take s.length) (v.take s.length) with
          | true => simpa using ih
          | false => simp
        · cases h
      · cases h
    · cases h
theorem shOf_one {u v : List Pr} {b : Bool} (h : shOf u = [b]) (hk : u.map Pr.kd = v.map Pr.kd) : ∃ a c, u = [a] ∧ v = [c] ∧ a.kd.isNone = b ∧ a.kd = c.kd := by
  match u, v, h, hk with
  | [a], [c], h, hk => exact ⟨a, c, rfl, rfl, by simpa [shOf] using h, by simpa using hk⟩
  | [], _, h, _ => simp [shOf] at h
  | _ :: _ :: _, _, h, _ => simp [shOf] at h
  | [a], [], _, hk => simp at hk
  | [a], _ :: _ :: _, _, hk => simp at hk
theorem eqT_run {P : Program} {w : World} : ∀ (d D : Nat) (t : TypeId) (s : List Bool), shT P d t = some s →
    (isSt P t = true → ∃ i d, P.info? t = some i ∧ P.underlying t = some d ∧ d.isRow = true ∧ i.size = s.length) ∧ (isSt P t = false → s.length = 1 ∧ (isAgg t).run P w = .ok false w) ∧
      ∀ (u v : List Pr), shOf u = s → u.map Pr.kd = v.map Pr.kd → (Op.equalIn (D + d) t (vOf (isSt P t) u) (vOf (isSt P t) v)).run P w = .ok (prsEq u v) w
  | 0, D, t, s, h => by cases h
  | d + 1, D, t, s, h => by
    have hag : ∀ dd, P.underlying t = some dd → (∀ fs, dd ≠ .struct fs) → (∃ k, dd = .int k) ∨ dd = .bool → (isAgg t).run P w = .ok false w := fun dd h1 _ h2 => by
      unfold isAgg
      rw [Sem.run_bind, run_underlying h1 w]
      rcases h2 with ⟨k, rfl⟩ | rfl <;> rfl
    simp only [shT] at h
    split at h
    · rename_i k hu
      cases h
      have hst : isSt P t = false := by simp [isSt, hu]
      refine ⟨(fun h => by rw [hst] at h; cases h), fun _ => ⟨rfl, hag _ hu (fun fs => by simp) (.inl ⟨_, rfl⟩)⟩, fun u v h1 h2 => ?_⟩
      obtain ⟨a, c, rfl, rfl, e1, e2⟩ := shOf_one h1 h2
      rw [hst]
      cases a with
      | b b => cases e1
      | i k1 n =>
        cases c with
        | b b => cases e2
        | i k2 m =>
          simp only [Pr.kd, Option.some.injEq] at e2
          subst e2
          rw [← Nat.add_assoc]
          simpa [vOf, Pr.val, prsEq, Pr.same] using run_equalIn_int (P := P) w (D + d) t k1 k n m hu
    · rename_i hu
      cases h
      have hst : isSt P t = false := by simp [isSt, hu]
      refine ⟨(fun h => by rw [hst] at h; cases h), fun _ => ⟨rfl, hag _ hu (fun fs => by simp) (.inr rfl)⟩, fun u v h1 h2 => ?_⟩
      obtain ⟨a, c, rfl, rfl, e1, e2⟩ := shOf_one h1 h2
      rw [hst]
      cases a with
      | i k1 n => cases e1
      | b a =>
        cases c with
        | i k2 m => cases e2
        | b c =>
          rw [← Nat.add_assoc]
          simpa [vOf, Pr.val, prsEq, Pr.same] using run_equalIn_bool (P := P) w (D + d) t a c hu
    · rename_i fs hu
      split at h
      · rename_i l i hl hi
        split at h
        · rename_i hc
          cases h
          simp only [Bool.and_eq_true, beq_iff_eq, Bool.not_eq_true'] at hc
          have hst : isSt P t = true := by simp [isSt, hu]
          refine ⟨fun _ => ⟨i, _, hi, hu, rfl, hc.1⟩, (fun h => by rw [hst] at h; cases h), fun u v h1 h2 => ?_⟩
          have hf : P.fieldsOf t = fs := by simp [Program.fieldsOf, hu]
          rw [hst, ← Nat.add_assoc]
          show (Op.equalIn (D + d + 1) t (.agg (u.map Pr.val).toArray) (.agg (v.map Pr.val).toArray)).run P w = _
          rw [run_equalIn_struct (P := P) w (D + d) t _ _ (by rw [hf]; exact hu) hc.2, hf]
          exact eqFs_run (fun t s ht => eqT_run d D t s ht) fs.toList 0 s [] [] u v hl rfl rfl h1 h2
        · cases h
      · cases h
    · cases h
def eqSt (P : Program) (t : TypeId) : Bool := !P.eqGuardType P.depth t
theorem eqOk_of {P : Program} {t : TypeId} (h : eqSt P t = true) : EqOk P t := by
  intro sh hsh ⟨fs, hu⟩ op x y u v w h1 h2 hop
  have h4 : P.eqGuardType P.depth t = false := by simpa [eqSt] using h
  obtain ⟨_, _, key⟩ := eqT_run (P := P) (w := w) 8 9992 t sh hsh
  have hst : isSt P t = true := by simp [isSt, hu]
  have heq := key u v h1 h2
  rw [hst] at heq
  have heq : (Op.equalIn 10000 t (.agg (u.map Pr.val).toArray) (.agg (v.map Pr.val).toArray)).run P w = .ok (prsEq u v) w := heq
  rw [Sem.run_bind, run_eqGuard_agg (P := P) w op t x y _ _ h4, Result.andThen_ok]
  rcases hop with rfl | rfl
  · rw [run_eql_struct, heq]; rfl
  · rw [run_neq_struct, heq]; rfl
end Go.Proofs.Ytjbhhdocbejccaa.Bm
