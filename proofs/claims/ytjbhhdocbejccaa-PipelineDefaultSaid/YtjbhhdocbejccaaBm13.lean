/- The abstract machine: code and functions. No condition beyond those that each theorem states. -/
import Derived.Test.YtjbhhdocbejccaaBm12
namespace Go.Proofs.Ytjbhhdocbejccaa.Bm
open Go Go.RowKit
set_option linter.unusedVariables false
set_option linter.unusedSimpArgs false

inductive MC where
  | skip
  | reg (ms : List MOp)
  | seq (a b : MC)
  | cond (c : Operand) (a b : MC)
  | block (id : Nat) (a : MC)
  | loop (a : MC)
  | exit (id : Nat)
  | ret
/-- Which variables the temporaries point into. -/
def basesL : List Oper → List (Nat × Nat) → List (Nat × Nat)
  | [], bs => bs
  | o :: r, bs => basesL r (match o.dst, o.op with
    | some d, .box .. => (d, d) :: bs
    | some d, .alloc _ => (d, d) :: bs
    | some d, .fieldAddr _ (.tmp u) _ => match look bs u with
      | some b => (d, b) :: bs
      | none => bs
    | some d, .indexAddr _ (.tmp u) _ => match look bs u with
      | some b => (d, b) :: bs
      | none => (d, 1000000) :: bs
    | _, _ => bs)
def basesC : Code → List (Nat × Nat) → List (Nat × Nat)
  | .region _ ops _, bs => basesL ops.toList bs
  | .seq a b, bs => basesC b (basesC a bs)
  | .cond _ a b, bs => basesC b (basesC a bs)
  | .block _ a, bs => basesC a bs
  | .loop a, bs => basesC a bs
  | _, bs => bs
def trC (P : Program) (eqT : List TypeId) (bs : List (Nat × Nat)) (N : Nat) : Code → Option MC
  | .skip => some .skip
  | .region _ ops draw => match trL P eqT bs N ops ops.toList with
    | some ms => if (!draw || chkRegion ops ms) = true then some (.reg ms) else none
    | none => none
  | .seq x y => match trC P eqT bs N x, trC P eqT bs N y with
    | some a, some b => some (.seq a b)
    | _, _ => none
  | .cond c x y => match trC P eqT bs N x, trC P eqT bs N y with
    | some a, some b => some (.cond c a b)
    | _, _ => none
  | .block id x => (trC P eqT bs N x).map (.block id)
  | .loop x => (trC P eqT bs N x).map .loop
  | .exit id => some (.exit id)
  | .ret => some .ret
  | _ => none
def outSeq (K : St → Prop) (Q : Exit → St → Prop) : Exit → St → Prop
  | .normal, σ => K σ
  | e, σ => Q e σ
def outBlock (id : Nat) (Q : Exit → St → Prop) : Exit → St → Prop
  | .exit id', σ => if id' = id then Q .normal σ else Q (.exit id') σ
  | e, σ => Q e σ
/-- A state that tells less. -/
structure Sub (σ' σ : St) : Prop where
  tm : ∀ t x, σ'.tm t = some x → σ.tm t = some x
  hp : ∀ d cs, σ'.hp d = some cs → σ.hp d = some cs
  lv : ∀ k, σ'.lv k = true → σ.lv k = true
  nt : σ.nt ≤ σ'.nt
theorem Sub.refl (σ : St) : Sub σ σ := ⟨fun _ _ h => h, fun _ _ h => h, fun _ h => h, Nat.le_refl _⟩
theorem Rel.sub {w0 : World} {okA : Nat → Nat → Prop} {N : Nat} {σ σ' : St} {a : Act} {w : World} (h : Rel w0 okA N σ a w) (hs : Sub σ' σ) : Rel w0 okA N σ' a w := by
  obtain ⟨β, tip, h⟩ := h
  have K : Kept w w (okOf w0 okA σ β tip) (okOf w0 okA σ' β tip) σ.nt σ'.nt σ.lv σ'.lv tip tip :=
    ⟨fun b i u hok hc => ⟨hc, hok.1, fun d cs hd => hok.2.1 d cs (hs.hp d cs hd), fun k p l hk ht => hok.2.2 k p l (hs.lv k hk) ht⟩, hs.nt, fun k _ h => ⟨hs.lv k h, rfl⟩⟩
  refine ⟨β, tip, h.bel, fun d cs hd => ?_, fun d d' c c' h1 h2 => h.inj d d' c c' (hs.hp d c h1) (hs.hp d' c' h2), fun k b p l h1 h2 => ?_, fun k hk => Nat.lt_of_lt_of_le (h.lvB k (hs.lv k hk)) hs.nt, fun k k' b p l p' l' h1 h2 => h.tinj k k' b p l p' l' (hs.lv k h1) (hs.lv k' h2), fun t x hx => ?_, h.size, h.dfs⟩
  · obtain ⟨h1, vs, ty, h2, h3⟩ := h.hpB d cs (hs.hp d cs hd)
    exact ⟨h1, vs, ty, h2, RepXs.kept K h3⟩
  · obtain ⟨g1, g2, g3⟩ := h.tipB k b p l (hs.lv k h1) h2
    exact ⟨g1, fun d cs hd => g2 d cs (hs.hp d cs hd), g3⟩
  · obtain ⟨u, hu, hr⟩ := h.tmB t x (hs.tm t x hx)
    exact ⟨u, hu, RepA.kept K (fun _ _ _ => rfl) hr⟩
/-- A loop: some rounds one by one, then by what holds ahead of each round. -/
def peel (body : (Exit → St → Prop) → St → Prop) (Q : Exit → St → Prop) : Nat → St → Prop
  | 0, σ => ∃ I : Nat → St → Prop, (∃ n σ', Sub σ' σ ∧ I n σ') ∧ ∀ n σ, I n σ → body (outSeq (fun σ' => ∃ m σ'', m < n ∧ Sub σ'' σ' ∧ I m σ'') Q) σ
  | N + 1, σ => body (outSeq (fun σ' => ∃ σ'', Sub σ'' σ' ∧ peel body Q N σ'') Q) σ
/-- What is to be shown for code to end in Q. -/
def mwp (G : FuncId → Spec) : MC → (Exit → St → Prop) → St → Prop
  | .skip, Q, σ => Q .normal σ
  | .reg ms, Q, σ => ∃ σ', execS G ms (prep ms σ) = some σ' ∧ Q .normal σ'
  | .seq a b, Q, σ => mwp G a (outSeq (fun σ' => ∃ σ'', Sub σ'' σ' ∧ mwp G b Q σ'') Q) σ
  | .cond c a b, Q, σ => ∃ t, ev σ c = some (.c (.p (.bool t))) ∧ (t = true → mwp G a Q σ) ∧ (t = false → mwp G b Q σ)
  | .block id a, Q, σ => mwp G a (outBlock id Q) σ
  | .loop a, Q, σ => ∃ N, peel (mwp G a) Q N σ
  | .exit id, Q, σ => Q (.exit id) σ
  | .ret, Q, σ => Q .ret σ
theorem wp_loopW {P : Program} {Q : Exit → Act → World → Prop} {c : Code} {ι : Type} {r : ι → ι → Prop} (wf : WellFounded r) (I : ι → Act → World → Prop)
    (round : ∀ i a w, I i a w → c.wp P (Exit.then (fun a' w' => ∃ j, r j i ∧ I j a' w') Q) a w) {i : ι} {a : Act} {w : World} (h₀ : I i a w) : (Code.loop c).wp P Q a w := by
  intro b k cs
  have key : ∀ i a w, I i a w → ∃ e a' w', Q e a' w' ∧ Arrives P (lone (b.at a (.code c :: .inLoop c :: k)) cs w) b k cs e a' w' := by
    intro i
    induction i using wf.induction with
    | _ i ih =>
      intro a w hI
      obtain ⟨e, a₁, w₁, hq, harr⟩ := round i a w hI b (.inLoop c :: k) cs
      cases e with
      | normal =>
        obtain ⟨m, hlt, hI₁⟩ := hq
        obtain ⟨e₂, a₂, w₂, hq₂, harr₂⟩ := ih m hlt a₁ w₁ hI₁
        exact ⟨e₂, a₂, w₂, hq₂, .of_steps (Steps.trans harr (.one step_inLoop)) harr₂⟩
      | exit id => exact ⟨_, a₁, w₁, hq, .pass (x := .inLoop c) rfl (fun _ _ => .inl (by simp)) harr⟩
      | goto l => exact ⟨_, a₁, w₁, hq, .pass (x := .inLoop c) rfl (fun _ _ => .inl (by simp)) harr⟩
      | ret => exact ⟨_, a₁, w₁, hq, .pass (x := .inLoop c) rfl (fun _ _ => .inl (by simp)) harr⟩
      | panic ch => exact ⟨_, a₁, w₁, hq, .pass (x := .inLoop c) rfl (fun _ _ => .inl (by simp)) harr⟩
      | outgrown => exact ⟨_, a₁, w₁, hq, .pass (x := .inLoop c) rfl (fun _ _ => .inl (by simp)) harr⟩
  obtain ⟨e, a', w', hq, harr⟩ := key _ a w h₀
  exact ⟨e, a', w', hq, .of_steps (.one step_loop) harr⟩

section
variable {P : Program} {w0 : World} {okA : Nat → Nat → Prop} {N NT : Nat} {eqT : List TypeId} {G : FuncId → Spec} {bs : List (Nat × Nat)}
theorem sound_code (hG : GOK P G) (hE : ∀ t ∈ eqT, EqOk P t) : ∀ (c : Code) (m : MC) (Q : Exit → St → Prop) (σ : St) (a : Act) (w : World), trC P eqT bs NT c = some m → mwp G m Q σ → Rel w0 okA NT σ a w →
    c.wp P (fun e a' w' => ∃ σ', Rel w0 okA NT σ' a' w' ∧ Q e σ') a w := by
  intro c
  induction c with
  | skip => intro m Q σ a w ht hm hR; cases ht; exact wp_skip ⟨σ, hR, hm⟩
  | region id ops draw =>
    intro m Q σ a w ht hm hR
    simp only [trC] at ht
    split at ht
    · rename_i ms hms
      split at ht
      · rename_i hc
        cases ht
        obtain ⟨σ', hex, hq⟩ := hm
        refine sound_region hG hE hms (fun hd => ?_) hex hR (fun a w h => ⟨σ', h, hq⟩)
        subst hd; simpa using hc
      · cases ht
    · cases ht
  | seq x y ihx ihy =>
    intro m Q σ a w ht hm hR
    simp only [trC] at ht
    split at ht
    · rename_i mx my hx hy
      cases ht
      refine wp_seq (wp_mono (ihx mx _ σ a w hx hm hR) ?_)
      rintro e a' w' ⟨σ', hR', hq⟩
      cases e with
      | normal => obtain ⟨σ'', hs, hq⟩ := hq; exact ihy my Q σ'' a' w' hy hq (hR'.sub hs)
      | exit id => exact ⟨σ', hR', hq⟩
      | goto l => exact ⟨σ', hR', hq⟩
      | ret => exact ⟨σ', hR', hq⟩
      | panic ch => exact ⟨σ', hR', hq⟩
      | outgrown => exact ⟨σ', hR', hq⟩
    · cases ht
  | cond c x y ihx ihy =>
    intro m Q σ a w ht hm hR
    simp only [trC] at ht
    split at ht
    · rename_i mx my hx hy
      cases ht
      obtain ⟨t, hc, h1, h2⟩ := hm
      obtain ⟨β, tip, hRB⟩ := hR
      have hb := ev_bool hRB hc
      exact wp_cond_split hb (fun h => ihx mx Q σ a w hx (h1 h) ⟨β, tip, hRB⟩) (fun h => ihy my Q σ a w hy (h2 h) ⟨β, tip, hRB⟩)
    · cases ht
  | block id x ih =>
    intro m Q σ a w ht hm hR
    simp only [trC, Option.map_eq_some_iff] at ht
    obtain ⟨mx, hx, rfl⟩ := ht
    refine wp_block (wp_mono (ih mx _ σ a w hx hm hR) ?_)
    rintro e a' w' ⟨σ', hR', hq⟩
    cases e with
    | exit id' =>
      simp only [Exit.inBlock, outBlock] at hq ⊢
      split
      · rename_i h; rw [if_pos h] at hq; exact ⟨σ', hR', hq⟩
      · rename_i h; rw [if_neg h] at hq; exact ⟨σ', hR', hq⟩
    | normal => exact ⟨σ', hR', hq⟩
    | goto l => exact ⟨σ', hR', hq⟩
    | ret => exact ⟨σ', hR', hq⟩
    | panic ch => exact ⟨σ', hR', hq⟩
    | outgrown => exact ⟨σ', hR', hq⟩
  | loop x ih =>
    intro m Q σ a w ht hm hR
    simp only [trC, Option.map_eq_some_iff] at ht
    obtain ⟨mx, hx, rfl⟩ := ht
    obtain ⟨N, hm⟩ := hm
    let J : Nat × Nat → Act → World → Prop := fun i a w => match i with
      | (0, n) => ∃ (I : Nat → St → Prop) (σ : St), (∀ n σ, I n σ → mwp G mx (outSeq (fun σ' => ∃ m σ'', m < n ∧ Sub σ'' σ' ∧ I m σ'') Q) σ) ∧ I n σ ∧ Rel w0 okA NT σ a w
      | (N + 1, _) => ∃ σ, peel (mwp G mx) Q (N + 1) σ ∧ Rel w0 okA NT σ a w
    have start : ∀ N σ a w, peel (mwp G mx) Q N σ → Rel w0 okA NT σ a w → ∃ n, J (N, n) a w := by
      intro N σ a w hp hR
      cases N with
      | zero => obtain ⟨I, ⟨n, σ0, hs0, h0⟩, hI⟩ := hp; exact ⟨n, I, σ0, hI, h0, hR.sub hs0⟩
      | succ N => exact ⟨0, σ, hp, hR⟩
    obtain ⟨n, hJ⟩ := start N σ a w hm hR
    refine wp_loopW (Prod.lex Nat.lt_wfRel Nat.lt_wfRel).wf J ?_ hJ
    rintro ⟨N, n⟩ a w hi
    cases N with
    | zero =>
      obtain ⟨I, σ, hI, hi, hR⟩ := hi
      refine wp_mono (ih mx _ σ a w hx (hI n σ hi) hR) ?_
      rintro e a' w' ⟨σ', hR', hq⟩
      cases e with
      | normal => obtain ⟨k, σ'', hk, hs, hik⟩ := hq; exact ⟨(0, k), Prod.Lex.right _ hk, I, σ'', hI, hik, hR'.sub hs⟩
      | exit id => exact ⟨σ', hR', hq⟩
      | goto l => exact ⟨σ', hR', hq⟩
      | ret => exact ⟨σ', hR', hq⟩
      | panic ch => exact ⟨σ', hR', hq⟩
      | outgrown => exact ⟨σ', hR', hq⟩
    | succ N =>
      obtain ⟨σ, hp, hR⟩ := hi
      refine wp_mono (ih mx _ σ a w hx hp hR) ?_
      rintro e a' w' ⟨σ', hR', hq⟩
      cases e with
      | normal =>
        obtain ⟨σ'', hs, hp'⟩ := hq
        obtain ⟨n', hJ'⟩ := start N σ'' a' w' hp' (hR'.sub hs)
        exact ⟨(N, n'), Prod.Lex.left _ _ (Nat.lt_succ_self _), hJ'⟩
      | exit id => exact ⟨σ', hR', hq⟩
      | goto l => exact ⟨σ', hR', hq⟩
      | ret => exact ⟨σ', hR', hq⟩
      | panic ch => exact ⟨σ', hR', hq⟩
      | outgrown => exact ⟨σ', hR', hq⟩
  | exit id => intro m Q σ a w ht hm hR; cases ht; exact wp_exit ⟨σ, hR, hm⟩
  | ret => intro m Q σ a w ht hm hR; cases ht; exact wp_ret ⟨σ, hR, hm⟩
  | _ => intro m Q σ a w ht; cases ht

/-! ### Functions -/
def PV.av : PV → AV
  | .c x => .c (.p x)
  | .agg xs => .agg (xs.map .p)
def init (args : List PV) : St := { tm := fun t => (args[t]?).map PV.av, hp := fun _ => none, lv := fun _ => false, nt := 0 }
inductive RV where
  | tmp (t : Nat)
  | cell (t n : Nat) (ag : Bool)
  | tup (ts : List Nat)
def tmpsR : List ResultVar → Option (List Nat)
  | [] => some []
  | .tmp t :: r => (tmpsR r).map (t :: ·)
  | _ => none
def trR (P : Program) (rs : Array ResultVar) : Option RV := match rs.toList with
  | [.tmp t] => some (.tmp t)
  | [.cell t ty] => match P.info? ty, P.underlying ty with
    | some i, some d => if d.isRow = true ∨ i.size = 1 then some (.cell t i.size d.isRow) else none
    | _, _ => none
  | x :: y :: r => (tmpsR (x :: y :: r)).map .tup
  | _ => none
def XV.fin : XV → XV
  | .p c => .p c
  | .tk .tight sz es => .tk .tight sz es
  | .tk (.live _) sz es => .p (.sl sz es)
def AV.fin : AV → Option AV
  | .c x => some (.c x.fin)
  | .agg xs => some (.agg (xs.map XV.fin))
  | .tup us => some (.tup us)
  | _ => none
def tupX (σ : St) : List Nat → Option (List CV)
  | [] => some []
  | t :: r => match ev σ (.tmp t), tupX σ r with
    | some (.c x), some us => some (x.forget :: us)
    | _, _ => none
def result (σ : St) : RV → Option AV
  | .tmp t => (ev σ (.tmp t)).bind AV.fin
  | .tup ts => (tupX σ ts).map .tup
  | .cell t n ag => match ev σ (.tmp t) with
    | some (.box d o) => match σ.hp d with
      | some cs => match ldX n ag (cs.drop o) with
        | some (.val v) => v.fin
        | _ => none
      | none => none
    | _ => none
theorem RepX.fin {w : World} {ok : Nat → Nat → Prop} {nt : Nat} {lv : Nat → Bool} {tip : Tip} {x : XV} {v : Value} (h : RepX w ok nt lv tip x v) : RepX w ok 0 (fun _ => false) (fun _ => none) x.fin v := by
  cases x with
  | p c => exact h
  | tk t sz es =>
    cases t with
    | tight => exact h
    | live k => exact h.1
theorem RepXs.fin {w : World} {ok : Nat → Nat → Prop} {nt : Nat} {lv : Nat → Bool} {tip : Tip} : ∀ {xs : List XV} {vs : List Value}, RepXs w ok nt lv tip xs vs → RepXs w ok 0 (fun _ => false) (fun _ => none) (xs.map XV.fin) vs
  | [], [], _ => trivial
  | _ :: _, _ :: _, h => ⟨RepX.fin h.1, RepXs.fin h.2⟩
  | [], _ :: _, h => h.elim
  | _ :: _, [], h => h.elim
theorem RepA.fin {w : World} {ok : Nat → Nat → Prop} {nt : Nat} {lv : Nat → Bool} {tip : Tip} {β : Nat → Nat} {x y : AV} {v : Value} (h : RepA w ok nt lv tip β x v) (hy : x.fin = some y) : RepA w ok 0 (fun _ => false) (fun _ => none) (fun _ => 0) y v := by
  cases x with
  | c x => cases hy; exact RepX.fin h
  | agg xs => cases hy; obtain ⟨vs, e, h⟩ := h; exact ⟨vs, e, RepXs.fin h⟩
  | box d o => cases hy
  | elt A cs => cases hy
  | tup us => cases hy; exact h
  | undef => cases hy
def resV (tmps : Array Value) : ResultVar → Sem Value
  | .tmp t => pure (tmps.getD t Go.undef)
  | .cell q t => do loadVar t (← asAddr (tmps.getD q Go.undef))
theorem results_eq (fn : Func) (tmps : Array Value) : results fn tmps = (do let vs ← fn.results.mapM (resV tmps); pure (if h : vs.size = 1 then vs[0] else .tuple vs)) := by
  unfold results
  have : (fun (x : ResultVar) => match x with
    | .tmp t => (pure (tmps.getD t Go.undef) : Sem Value)
    | .cell a t => do loadVar t (← asAddr (tmps.getD a Go.undef))) = resV tmps := by funext x; cases x <;> rfl
  rw [← this]
  rfl
theorem tupX_rep {σ : St} {a : Act} {w : World} {β : Nat → Nat} {tip : Tip} (hR : RelB w0 okA N σ a w β tip) : ∀ {rs : List ResultVar} {ts : List Nat} {us : List CV}, tmpsR rs = some ts → tupX σ ts = some us →
    ∃ vs : List Value, (rs.mapM (resV a.tmps)).run P w = .ok vs w ∧ RepCs w (okOf w0 okA σ β tip) us vs
  | [], ts, us, h, hu => by cases h; cases hu; exact ⟨[], by simp, trivial⟩
  | .cell q t :: r, ts, us, h, hu => by cases h
  | .tmp t :: r, ts, us, h, hu => by
    simp only [tmpsR, Option.map_eq_some_iff] at h
    obtain ⟨ts', h', rfl⟩ := h
    simp only [tupX] at hu
    split at hu
    · rename_i x us' hx hus
      cases hu
      obtain ⟨vs, h1, h2⟩ := tupX_rep hR h' hus
      refine ⟨a.eval (.tmp t) :: vs, ?_, RepX.forget (ev_rep hR hx).1, h2⟩
      rw [List.mapM_cons]
      simp only [resV, Sem.run_bind, Sem.run_pure, Result.andThen_ok, h1]
      rfl
    · cases hu
theorem tmpsR_length : ∀ {rs : List ResultVar} {ts : List Nat}, tmpsR rs = some ts → ts.length = rs.length
  | [], _, h => by cases h; rfl
  | .cell q t :: r, _, h => by cases h
  | .tmp t :: r, _, h => by
    simp only [tmpsR, Option.map_eq_some_iff] at h
    obtain ⟨ts', h', rfl⟩ := h
    simp [tmpsR_length h']
theorem tupX_length {σ : St} : ∀ {ts : List Nat} {us : List CV}, tupX σ ts = some us → us.length = ts.length
  | [], _, h => by cases h; rfl
  | t :: r, _, h => by
    simp only [tupX] at h
    split at h
    · rename_i x us' hx hus; cases h; simp [tupX_length hus]
    · cases h
theorem result_rep {σ : St} {a : Act} {w : World} {β : Nat → Nat} {tip : Tip} (hR : RelB w0 okA N σ a w β tip) {fn : Func} {rv : RV} {r : AV} (hrv : trR P fn.results = some rv) (hr : result σ rv = some r) :
    ∃ v, (results fn a.tmps).run P w = .ok v w ∧ RepA w (okOf w0 okA σ β tip) 0 (fun _ => false) (fun _ => none) (fun _ => 0) r v := by
  unfold trR at hrv
  split at hrv
  · rename_i t h
    cases hrv
    have hres : fn.results = #[.tmp t] := by rw [← Array.toArray_toList (xs := fn.results), h]
    simp only [result, Option.bind_eq_some_iff] at hr
    obtain ⟨x, hx, hf⟩ := hr
    refine ⟨_, ?_, RepA.fin (ev_rep hR hx).1 hf⟩
    simp [results, hres, Act.eval]
  · rename_i t ty h
    have hres : fn.results = #[.cell t ty] := by rw [← Array.toArray_toList (xs := fn.results), h]
    split at hrv
    · rename_i i d hi hu
      split at hrv
      · rename_i hs
        cases hrv
        simp only [result] at hr
        split at hr
        · rename_i db off hx
          split at hr
          · rename_i cs hcs
            split at hr
            · rename_i x hld
              obtain ⟨hp, _⟩ := ev_box hR hx
              obtain ⟨_, vs, ty', hv, hrp⟩ := hR.hpB db cs hcs
              have hr' := RepXs.drop off hrp
              have hl := RepXs.length hr'
              have hlen : i.size ≤ (vs.drop off).length := by
                unfold ldX at hld
                split at hld
                · rw [hl]; assumption
                · cases hld
              obtain ⟨u, hu1, hu2, hu3⟩ := run_load (P := P) (w := w) ty i d hi hu hs (β db) off (vs.drop off) (fun j u hj => by rw [cell_of_blk hv]; rw [List.getElem?_drop] at hj; exact hj) hlen
              obtain ⟨x', he, hx', _⟩ := ldX_rep (β := β) hld hr' hu2 hu3
              cases he
              refine ⟨u, ?_, RepA.fin hx' hr⟩
              have hpe : a.tmps.getD t Go.undef = .pointer (some ⟨β db, off, none⟩) := hp
              rw [Array.getD_eq_getD_getElem?] at hpe
              have : (loadVar ty ⟨β db, off, none⟩).run P w = .ok u w := by simpa [Instr.loadAt, Instr.sureAddr] using hu1
              simp [results, hres, hpe, asAddr, this]
            · cases hr
          · cases hr
        · cases hr
      · cases hrv
    · cases hrv
  · rename_i x y r h
    simp only [Option.map_eq_some_iff] at hrv
    obtain ⟨ts, hts, rfl⟩ := hrv
    simp only [result, Option.map_eq_some_iff] at hr
    obtain ⟨us, hus, rfl⟩ := hr
    obtain ⟨vs, h1, h2⟩ := tupX_rep (P := P) hR hts hus
    have hl : vs.length = r.length + 2 := by rw [RepCs.length h2, tupX_length hus, tmpsR_length hts]; rfl
    refine ⟨.tuple vs.toArray, ?_, vs, rfl, h2⟩
    rw [results_eq, Array.mapM_eq_mapM_toList, h]
    have hne : ¬ vs.toArray.size = 1 := by simp; omega
    simp only [Sem.run_bind, Sem.run_map, h1]
    show Result.ok _ _ = _
    simp only [List.size_toArray] at hne ⊢
    rw [dif_neg hne]
  · cases hrv
theorem RepPs.length {w : World} {ok : Nat → Nat → Prop} : ∀ {xs : List PV} {vs : List Value}, RepPs w ok xs vs → vs.length = xs.length
  | [], [], _ => rfl
  | _ :: _, _ :: _, h => by simp [RepPs.length h.2]
  | [], _ :: _, h => h.elim
  | _ :: _, [], h => h.elim
theorem RepPs.get {w : World} {ok : Nat → Nat → Prop} : ∀ {xs : List PV} {vs : List Value}, RepPs w ok xs vs → ∀ {i : Nat} {c : PV}, xs[i]? = some c → ∃ v, vs[i]? = some v ∧ RepP w ok c v
  | [], [], _, _, _, h => by simp at h
  | _ :: _, v :: _, h, 0, c, hc => by simp at hc; subst hc; exact ⟨v, by simp, h.1⟩
  | _ :: _, _ :: _, h, i + 1, c, hc => by simpa using RepPs.get h.2 (i := i) (by simpa using hc)
  | [], _ :: _, h, _, _, _ => h.elim
  | _ :: _, [], h, _, _, _ => h.elim
/-- THE LAW: what is shown of a function's code in the abstract machine is so. -/
theorem contractQ {f : FuncId} {fn : Func} {c : Code} {m : MC} {rv : RV} {args : List PV} {r : AV} (hf : P.funcs[f]? = some fn) (hb : fn.body = some c)
    (hE : ∀ t ∈ eqT, EqOk P t) (hG : GOK P G) (htr : trC P eqT bs fn.ntmps c = some m) (hrv : trR P fn.results = some rv) (hlen : args.length ≤ fn.ntmps)
    (hm : mwp G m (fun e σ => (e = .ret ∨ e = .normal) ∧ ∃ r', result σ rv = some r' ∧ ∀ (w : World) (ok : Nat → Nat → Prop) (v : Value), RepA w ok 0 (fun _ => false) (fun _ => none) (fun _ => 0) r' v → RepA w ok 0 (fun _ => false) (fun _ => none) (fun _ => 0) r v) (init args))
    {w : World} {okA : Nat → Nat → Prop} {vs : List Value} (hvs : RepPs w okA args vs) :
    Calls P f vs.toArray w fun e w' => ∃ v, e = .returned v ∧ Below w.heap.size w w' ∧ RepA w' (fun b i => b < w.heap.size → okA b i) 0 (fun _ => false) (fun _ => none) (fun _ => 0) r v := by
  have hl := RepPs.length hvs
  refine calls_of_wp hf hb ?_
  have hR0 : Rel w okA fn.ntmps (init args) { tmps := vs.toArray ++ Array.replicate (fn.ntmps - vs.toArray.size) Go.undef, defers := [] } w := by
    refine ⟨fun _ => 0, fun _ => none, ⟨Below.refl _ _, (fun d cs h => by cases h), (fun d d' cs cs' h => by cases h), (fun k b p l h => by cases h), (fun k h => by cases h), (fun k k' b p l p' l' h => by cases h), fun t x hx => ?_, by simp; omega, rfl⟩⟩
    simp only [init, Option.map_eq_some_iff] at hx
    obtain ⟨p, hp, rfl⟩ := hx
    obtain ⟨v, hv, hr⟩ := RepPs.get hvs hp
    have hlt : t < vs.length := (List.getElem?_eq_some_iff.1 hv).1
    refine ⟨v, by rw [Array.getElem?_append_left (by simpa using hlt)]; simpa using hv, ?_⟩
    have hmem : ∀ b i u, okA b i → cz w ⟨b, i, none⟩ = some u → cz w ⟨b, i, none⟩ = some u ∧ okOf w okA (init args) (fun _ => 0) (fun _ => none) b i := fun b i u h hc => ⟨hc, fun _ => h, (fun d cs h => by cases h), (fun k p l h => by cases h)⟩
    cases p with
    | c x => exact RepC.mono hr hmem
    | agg xs => obtain ⟨us, e, h⟩ := hr; exact ⟨us, e, RepXs.p (RepCs.mono hmem h)⟩
  refine wp_mono (sound_code hG hE c m _ _ _ _ htr hm hR0) ?_
  rintro e a' w' ⟨σ', ⟨β, tip, hR'⟩, he, r', hr, hle⟩
  obtain ⟨v, hv1, hv2⟩ := result_rep hR' hrv hr
  have hfin : RepA w' (fun b i => b < w.heap.size → okA b i) 0 (fun _ => false) (fun _ => none) (fun _ => 0) r v := by
    have K : Kept w' w' (okOf w okA σ' β tip) (fun b i => b < w.heap.size → okA b i) 0 0 (fun _ => false) (fun _ => false) (fun _ => none) (fun _ => none) := ⟨fun b i u hok hc => ⟨hc, hok.1⟩, Nat.le_refl _, fun k _ h => ⟨h, rfl⟩⟩
    exact hle _ _ _ (RepA.kept K (fun _ _ _ => rfl) hv2)
  rcases he with rfl | rfl
  · exact ⟨hR'.dfs, v, hv1, v, rfl, hR'.bel, hfin⟩
  · exact ⟨hR'.dfs, v, hv1, v, rfl, hR'.bel, hfin⟩
theorem contract {f : FuncId} {fn : Func} {c : Code} {m : MC} {rv : RV} {args : List PV} {r : AV} (hf : P.funcs[f]? = some fn) (hb : fn.body = some c) (hname : (fn.name == "runtime.NumGoroutine") = false)
    (hE : ∀ t ∈ eqT, EqOk P t) (hG : GOK P G) (htr : trC P eqT bs fn.ntmps c = some m) (hrv : trR P fn.results = some rv) (hlen : args.length ≤ fn.ntmps)
    (hm : mwp G m (fun e σ => (e = .ret ∨ e = .normal) ∧ ∃ r', result σ rv = some r' ∧ ∀ (w : World) (ok : Nat → Nat → Prop) (v : Value), RepA w ok 0 (fun _ => false) (fun _ => none) (fun _ => 0) r' v → RepA w ok 0 (fun _ => false) (fun _ => none) (fun _ => 0) r v) (init args)) : CA P f args r :=
  ⟨⟨fn, hf, by rw [hb]; rfl, hname⟩, fun w okA vs hvs => contractQ hf hb hE hG htr hrv hlen hm hvs⟩
end
/-- A function, told for the abstract machine. -/
def trF (P : Program) (eqT : List TypeId) (fn : Func) : Option (MC × RV) := match fn.body with
  | some c => match trC P eqT (basesC c []) fn.ntmps c, trR P fn.results with
    | some m, some rv => if (fn.name == "runtime.NumGoroutine") = false ∧ fn.params.size ≤ fn.ntmps then some (m, rv) else none
    | _, _ => none
  | none => none
end Go.Proofs.Ytjbhhdocbejccaa.Bm
