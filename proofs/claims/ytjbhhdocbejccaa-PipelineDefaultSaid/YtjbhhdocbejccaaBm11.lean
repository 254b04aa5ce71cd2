/- The abstract machine: operations that do not touch each other may change places. No condition beyond those that each theorem states. -/
import Derived.Test.YtjbhhdocbejccaaBm10
namespace Go.Proofs.Ytjbhhdocbejccaa.Bm
open Go Go.RowKit
set_option linter.unusedVariables false
set_option linter.unusedSimpArgs false

theorem mem_tmpsOf {t : Nat} : ∀ {l : List Operand}, .tmp t ∈ l → t ∈ tmpsOf l
  | x :: r, h => by
    cases h with
    | head => simp [tmpsOf]
    | tail _ h =>
      have := mem_tmpsOf h
      cases x <;> simp [tmpsOf, this]
section
variable {G : FuncId → Spec} {σ σ1 σ' σ2 : St} {e e' : Eff} {dst dst' : Option Nat}
theorem hp_after {d : Nat} (hrun : e.run dst σ = some σ1) (hst : ∀ d' cs, e = .st d' cs → d' ≠ d) (hd : (σ.hp d).isSome = true) : σ1.hp d = σ.hp d := by
  cases e with
  | val v => simp only [Eff.run, Option.some.injEq] at hrun; subst hrun; cases dst <;> rfl
  | mk cs =>
    cases dst with
    | none => cases hrun
    | some d' =>
      simp only [Eff.run] at hrun
      split at hrun
      · cases hrun
      · rename_i hno
        simp only [Option.some.injEq] at hrun
        subst hrun
        have : d ≠ d' := fun h => by subst h; exact hno hd
        simp [upd, this]
  | st d' cs =>
    cases dst with
    | some _ => cases hrun
    | none =>
      simp only [Eff.run, Option.some.injEq] at hrun; subst hrun
      simp [upd, Ne.symm (hst d' cs rfl)]
  | app k sz es =>
    cases dst with
    | none => cases hrun
    | some d' => simp only [Eff.run, Option.some.injEq] at hrun; subst hrun; rfl
theorem lv_after (hrun : e.run dst σ = some σ1) (hap : ∀ k sz es, e ≠ .app k sz es) : σ1.lv = σ.lv ∧ σ1.nt = σ.nt := by
  cases e with
  | val v => simp only [Eff.run, Option.some.injEq] at hrun; subst hrun; cases dst <;> exact ⟨rfl, rfl⟩
  | mk cs =>
    cases dst with
    | none => cases hrun
    | some d' =>
      simp only [Eff.run] at hrun
      split at hrun
      · cases hrun
      · simp only [Option.some.injEq] at hrun; subst hrun; exact ⟨rfl, rfl⟩
  | st d' cs =>
    cases dst with
    | some d' => cases hrun
    | none => simp only [Eff.run, Option.some.injEq] at hrun; subst hrun; exact ⟨rfl, rfl⟩
  | app k sz es => exact (hap k sz es rfl).elim
/-- What another operation comes to does not hang on an effect that it does not meet. -/
theorem think_after {m' : MO} {dst : Option Nat} (hev : ∀ x ∈ m'.operands, ev σ1 x = ev σ x) (hhp : m'.kind = 1 ∨ m'.kind = 2 → ∀ d, baseOk m'.base d = true → (σ.hp d).isSome = true → σ1.hp d = σ.hp d) (hlv : m'.kind = 3 → σ1.lv = σ.lv) : think G σ1 m' = think G σ m' := by
  cases m' with
  | bad => rfl
  | mv x => simp only [think]; rw [hev x (by simp [MO.operands])]
  | pick c x y => simp only [think]; rw [hev c (by simp [MO.operands]), hev x (by simp [MO.operands]), hev y (by simp [MO.operands])]
  | mkb x => simp only [think]; rw [hev x (by simp [MO.operands])]
  | new z => rfl
  | ld n ag b x =>
    simp only [think]; rw [hev x (by simp [MO.operands])]
    cases h : ev σ x with
    | none => rfl
    | some v =>
      cases v with
      | box d o =>
        simp only
        by_cases hb : baseOk b d = true
        · rw [if_pos hb, if_pos hb, hhp (.inl rfl) d hb (ev_box_live h)]
        · rw [if_neg hb, if_neg hb]
      | _ => rfl
  | st n b x v =>
    simp only [think]; rw [hev x (by simp [MO.operands]), hev v (by simp [MO.operands])]
    cases h : ev σ x with
    | none => rfl
    | some v =>
      cases v with
      | box d o =>
        simp only
        by_cases hb : baseOk b d = true
        · rw [if_pos hb, if_pos hb, hhp (.inr rfl) d hb (ev_box_live h)]
        · rw [if_neg hb, if_neg hb]
      | _ => rfl
  | adr off x => simp only [think]; rw [hev x (by simp [MO.operands])]
  | idx sz x i => simp only [think]; rw [hev x (by simp [MO.operands]), hev i (by simp [MO.operands])]
  | idxA l sz x i => simp only [think]; rw [hev x (by simp [MO.operands]), hev i (by simp [MO.operands])]
  | bld z ps => simp only [think]; rw [fillX_congr (fun p hp => hev p.2.2 (by simp only [MO.operands, List.mem_map]; exact ⟨p, hp, rfl⟩))]
  | bldS n sz z ps => simp only [think]; rw [fillX_congr (fun p hp => hev p.2.2 (by simp only [MO.operands, List.mem_map]; exact ⟨p, hp, rfl⟩))]
  | bin op x y => simp only [think]; rw [hev x (by simp [MO.operands]), hev y (by simp [MO.operands])]
  | eqb neg x y => simp only [think]; rw [hev x (by simp [MO.operands]), hev y (by simp [MO.operands])]
  | eqa n neg x y => simp only [think]; rw [hev x (by simp [MO.operands]), hev y (by simp [MO.operands])]
  | un op x => simp only [think]; rw [hev x (by simp [MO.operands])]
  | cvt k x => simp only [think]; rw [hev x (by simp [MO.operands])]
  | call f xs => simp only [think]; rw [pvs_congr (fun x hx => hev x (by simpa [MO.operands] using hx))]
  | callv f xs => simp only [think]; rw [hev f (by simp [MO.operands]), pvs_congr (fun x hx => hev x (by simp [MO.operands, hx]))]
  | len x => simp only [think]; rw [hev x (by simp [MO.operands])]
  | mn x y => simp only [think]; rw [hev x (by simp [MO.operands]), hev y (by simp [MO.operands])]
  | mx x y => simp only [think]; rw [hev x (by simp [MO.operands]), hev y (by simp [MO.operands])]
  | app sz b s x => simp only [think]; rw [hev s (by simp [MO.operands]), hev x (by simp [MO.operands]), hlv rfl]
  | fld off n ag x => simp only [think]; rw [hev x (by simp [MO.operands])]
  | ext i x => simp only [think]; rw [hev x (by simp [MO.operands])]
  | idxV len sz ag x i => simp only [think]; rw [hev x (by simp [MO.operands]), hev i (by simp [MO.operands])]
  | take x hi => simp only [think]; rw [hev x (by simp [MO.operands]), hev hi (by simp [MO.operands])]
/-- An operation's guard and effect. -/
def want1 (σ : St) : Option (Nat × Bool) → Option Bool
  | none => some true
  | some (g, want) => match ev σ (.tmp g) with
    | some (.c (.p (.bool b))) => some (b == want)
    | some .undef => some false
    | _ => none
def eff1 (G : FuncId → Spec) (m : MOp) (σ : St) : Option Eff := match want1 σ m.gt with
  | some true => think G σ m.op
  | some false => some (.val .undef)
  | none => none
theorem step1_eff (m : MOp) : step1 G m σ = (eff1 G m σ).bind fun e => e.run m.dst σ := by
  unfold step1 eff1 want1
  cases m.gt with
  | none => rfl
  | some gw =>
    obtain ⟨g, want⟩ := gw
    simp only
    cases h : ev σ (.tmp g) with
    | none => rfl
    | some v =>
      cases v with
      | c x =>
        cases x with
        | p c =>
          cases c with
          | bool b =>
            simp only
            by_cases hb : b = want
            · simp [hb]
            · have : (b == want) = false := by simpa using hb
              simp [hb, this, Eff.run]
          | _ => rfl
        | _ => rfl
      | _ => rfl
theorem eff1_kind {m : MOp} (h : eff1 G m σ = some e) : (∀ d cs, e = .st d cs → m.op.kind = 2 ∧ (σ.hp d).isSome = true ∧ baseOk m.op.base d = true) ∧ (∀ k sz es, e = .app k sz es → m.op.kind = 3) ∧ (∀ d o, e = .val (.box d o) → (σ.hp d).isSome = true) := by
  unfold eff1 at h
  split at h
  · exact think_kind h
  · cases h; exact ⟨(fun d cs h => by cases h), (fun k sz es h => by cases h), fun d o h => by cases h⟩
  · cases h
theorem eff1_after {m m' : MOp} (h : eff1 G m σ = some e) (hrun : e.run m.dst σ = some σ1) (hd : ∀ d, m.dst = some d → d ∉ m'.uses) (hk : compat m.op m'.op = true) : eff1 G m' σ1 = eff1 G m' σ := by
  obtain ⟨k1, k2, k3⟩ := eff1_kind h
  have hlive : ∀ d cs, e = .st d cs → (σ.hp d).isSome = true := fun d cs h => (k1 d cs h).2.1
  have hev : ∀ t ∈ m'.uses, ev σ1 (.tmp t) = ev σ (.tmp t) := fun t ht => ev_after_live hrun hlive (fun t' ht' hdd => by cases ht'; exact hd t hdd ht)
  have hw : want1 σ1 m'.gt = want1 σ m'.gt := by
    cases hg : m'.gt with
    | none => rfl
    | some gw =>
      obtain ⟨g, want⟩ := gw
      simp only [want1]
      rw [hev g (by simp [MOp.uses, hg])]
  unfold eff1
  rw [hw]
  have ht : think G σ1 m'.op = think G σ m'.op := by
    refine think_after (dst := m.dst) (fun x hx => ?_) (fun hk' d hbb hdd => ?_) (fun hk' => ?_)
    · exact ev_after_live hrun hlive (fun t ht hdd => by subst ht; exact hd t hdd (by simp [MOp.uses, mem_tmpsOf hx]))
    · refine hp_after hrun (fun d' cs he hdd' => ?_) hdd
      obtain ⟨q1, _, q2⟩ := k1 d' cs he
      subst hdd'
      have hnear : near m.op.base m'.op.base = true := by
        cases hb1 : m.op.base with
        | none => rfl
        | some b1 =>
          cases hb2 : m'.op.base with
          | none => rfl
          | some b2 =>
            rw [hb1] at q2; rw [hb2] at hbb
            simp only [baseOk, beq_iff_eq] at q2 hbb
            simp [near, q2, hbb]
      rcases hk' with h | h <;> simp [compat, q1, h, hnear] at hk
    · refine (lv_after hrun (fun k sz es he => ?_)).1
      have := k2 k sz es he
      simp [compat, this, hk'] at hk
  rw [ht]
theorem near_symm (a b : Option Nat) : near a b = near b a := by
  cases a <;> cases b <;> simp [near, eq_comm, BEq.comm]
theorem compat_symm (m m' : MO) : compat m m' = compat m' m := by
  unfold compat
  rw [near_symm m'.base m.base]
  generalize near m.base m'.base = n
  generalize (m.kind == 2) = a; generalize (m'.kind == 2) = b; generalize (m.kind == 1) = c; generalize (m'.kind == 1) = d; generalize (m.kind == 3) = f; generalize (m'.kind == 3) = g
  revert a b c d f g n; decide
theorem swap {m m' : MOp} (hi : indep m m' = true) (h1 : step1 G m σ = some σ1) (h2 : step1 G m' σ1 = some σ2) : ∃ σ', step1 G m' σ = some σ' ∧ step1 G m σ' = some σ2 := by
  simp only [indep, Bool.and_eq_true] at hi
  obtain ⟨⟨i1, i2⟩, hk⟩ := hi
  have hd : ∀ d, m.dst = some d → d ∉ m'.uses ∧ m'.dst ≠ some d := fun d h => by
    rw [h] at i1; simpa using i1
  have hd' : ∀ d, m'.dst = some d → d ∉ m.uses := fun d h => by
    rw [h] at i2; simpa using i2
  rw [step1_eff] at h1 h2
  simp only [Option.bind_eq_some_iff] at h1 h2
  obtain ⟨e, he, hr⟩ := h1
  obtain ⟨e', he', hr'⟩ := h2
  have hE := eff1_after he hr (fun d h => (hd d h).1) hk
  rw [hE] at he'
  obtain ⟨k1, k2, k3⟩ := eff1_kind he
  obtain ⟨l1, l2, l3⟩ := eff1_kind he'
  have hss : ∀ d cs d' cs', e = .st d cs → e' = .st d' cs' → d ≠ d' := fun d cs d' cs' h h' hdd => by
    obtain ⟨q1, _, q2⟩ := k1 d cs h
    obtain ⟨p1, _, p2⟩ := l1 d' cs' h'
    subst hdd
    have hnear : near m.op.base m'.op.base = true := by
      cases hb1 : m.op.base with
      | none => rfl
      | some b1 =>
        cases hb2 : m'.op.base with
        | none => rfl
        | some b2 =>
          rw [hb1] at q2; rw [hb2] at p2
          simp only [baseOk, beq_iff_eq] at q2 p2
          simp [near, q2, p2]
    simp [compat, q1, p1, hnear] at hk
  have haa : ∀ k sz es k' sz' es', e = .app k sz es → e' = .app k' sz' es' → False := fun k sz es k' sz' es' h h' => by
    simp [compat, k2 k sz es h, l2 k' sz' es' h'] at hk
  -- the second one, from the first state
  have hgo : ∃ σ', e'.run m'.dst σ = some σ' ∧ e.run m.dst σ' = some σ2 := by
    cases e with
    | val v =>
      simp only [Eff.run, Option.some.injEq] at hr
      subst hr
      cases e' with
      | val v' =>
        simp only [Eff.run, Option.some.injEq] at hr' ⊢
        refine ⟨_, rfl, ?_⟩
        rw [← hr']
        cases hm : m.dst with
        | none => cases m'.dst <;> rfl
        | some d =>
          cases hm' : m'.dst with
          | none => rfl
          | some d' =>
            have hne : d' ≠ d := fun h => (hd d hm).2 (by rw [hm', h])
            simp only [St.put]
            congr 1
            funext t
            simp only [upd]
            by_cases a : t = d
            · have : t ≠ d' := fun h => hne (by rw [← h, a])
              simp [a, Ne.symm hne]
            · simp [a]
      | mk cs =>
        cases hm' : m'.dst with
        | none => rw [hm'] at hr'; cases hr'
        | some d' =>
          rw [hm'] at hr'
          simp only [Eff.run] at hr' ⊢
          have hhp : (σ.put m.dst v).hp = σ.hp := by cases m.dst <;> rfl
          rw [hhp] at hr'
          split at hr'
          · cases hr'
          · rename_i hno
            rw [if_neg hno]
            refine ⟨_, rfl, ?_⟩
            simp only [Option.some.injEq] at hr' ⊢
            rw [← hr']
            cases hm : m.dst with
            | none => rfl
            | some d =>
              have hne : d' ≠ d := fun h => (hd d hm).2 (by rw [hm', h])
              simp only [St.put]
              congr 1
              funext t
              simp only [upd, forgetBox]
              by_cases a : t = d
              · subst a
                rw [if_pos rfl, if_neg (Ne.symm hne), if_pos rfl]
                cases v with
                | box d2 o2 =>
                  have hl := k3 d2 o2 rfl
                  have : d2 ≠ d' := fun h => by subst h; exact hno hl
                  simp [this]
                | _ => rfl
              · simp only [if_neg a]
      | st d' cs =>
        cases hm' : m'.dst with
        | some _ => rw [hm'] at hr'; cases hr'
        | none =>
          rw [hm'] at hr'
          simp only [Eff.run, Option.some.injEq] at hr' ⊢
          refine ⟨_, rfl, ?_⟩
          rw [← hr']
          cases m.dst <;> rfl
      | app k sz es =>
        cases hm' : m'.dst with
        | none => rw [hm'] at hr'; cases hr'
        | some d' =>
          rw [hm'] at hr'
          simp only [Eff.run, Option.some.injEq] at hr' ⊢
          refine ⟨_, rfl, ?_⟩
          rw [← hr']
          cases hm : m.dst with
          | none => rfl
          | some d =>
            have hne : d' ≠ d := fun h => (hd d hm).2 (by rw [hm', h])
            simp only [St.put]
            congr 1
            funext t
            simp only [upd]
            by_cases a : t = d
            · simp [a, Ne.symm hne]
            · simp [a]
    | mk cs0 =>
      cases hm : m.dst with
      | none => rw [hm] at hr; cases hr
      | some d =>
        rw [hm] at hr
        simp only [Eff.run] at hr ⊢
        split at hr
        · cases hr
        · rename_i hno
          simp only [Option.some.injEq] at hr
          subst hr
          cases e' with
          | val v' =>
            simp only [Eff.run, Option.some.injEq] at hr' ⊢
            refine ⟨_, rfl, ?_⟩
            have hhp : (σ.put m'.dst v').hp = σ.hp := by cases m'.dst <;> rfl
            rw [hhp, if_neg hno]
            simp only [Option.some.injEq]
            rw [← hr']
            cases hm' : m'.dst with
            | none => rfl
            | some d' =>
              have hne : d' ≠ d := fun h => (hd d hm).2 (by rw [hm', h])
              simp only [St.put]
              congr 1
              funext t
              simp only [upd, forgetBox]
              by_cases a : t = d'
              · subst a
                rw [if_neg hne, if_pos rfl, if_pos rfl]
                cases v' with
                | box d2 o2 =>
                  have hl := l3 d2 o2 rfl
                  have : d2 ≠ d := fun h => by subst h; exact hno hl
                  simp [this]
                | _ => rfl
              · simp only [if_neg a]
          | mk cs =>
            cases hm' : m'.dst with
            | none => rw [hm'] at hr'; cases hr'
            | some d' =>
              have hne : d' ≠ d := fun h => (hd d hm).2 (by rw [hm', h])
              rw [hm'] at hr'
              simp only [Eff.run, upd, if_neg hne] at hr' ⊢
              split at hr'
              · cases hr'
              · rename_i hno'
                rw [if_neg hno']
                refine ⟨_, rfl, ?_⟩
                have hz : (upd σ.hp d' (some cs) d) = σ.hp d := by simp [upd, Ne.symm hne]
                rw [if_neg (by show ¬ (upd σ.hp d' (some cs) d).isSome = true; rw [hz]; exact hno)]
                simp only [Option.some.injEq] at hr' ⊢
                rw [← hr']
                congr 1
                · funext t
                  simp only [upd, forgetBox]
                  by_cases a : t = d
                  · subst a; simp [Ne.symm hne]
                  · by_cases b : t = d'
                    · subst b; simp [hne, a]
                    · simp only [if_neg a, if_neg b]
                      cases σ.tm t with
                      | none => rfl
                      | some y =>
                        cases y with
                        | box d2 o2 =>
                          by_cases p : d2 = d
                          · by_cases q : d2 = d'
                            · exact (hne (q.symm.trans p)).elim
                            · simp [p, Ne.symm hne]
                          · by_cases q : d2 = d'
                            · simp [q, hne]
                            · simp [p, q]
                        | _ => rfl
                · funext t
                  simp only [upd]
                  by_cases a : t = d
                  · subst a; simp [Ne.symm hne]
                  · simp [a]
          | st d' cs =>
            cases hm' : m'.dst with
            | some _ => rw [hm'] at hr'; cases hr'
            | none =>
              rw [hm'] at hr'
              have hl := (l1 d' cs rfl).2.1
              have hdd : d ≠ d' := fun h => by subst h; exact hno hl
              simp only [Eff.run, Option.some.injEq] at hr' ⊢
              refine ⟨_, rfl, ?_⟩
              simp only [upd, if_neg hdd]
              rw [if_neg hno]
              simp only [Option.some.injEq]
              rw [← hr']
              congr 1
              funext t
              simp only [upd]
              by_cases a : t = d
              · subst a; simp [hdd]
              · simp [a]
          | app k sz es =>
            cases hm' : m'.dst with
            | none => rw [hm'] at hr'; cases hr'
            | some d' =>
              have hne : d' ≠ d := fun h => (hd d hm).2 (by rw [hm', h])
              rw [hm'] at hr'
              simp only [Eff.run, Option.some.injEq] at hr' ⊢
              refine ⟨_, rfl, ?_⟩
              simp only
              rw [if_neg hno]
              simp only [Option.some.injEq]
              rw [← hr']
              congr 1
              funext t
              simp only [upd, forgetBox]
              by_cases a : t = d'
              · subst a; simp [hne]
              · simp only [if_neg a]
    | st d0 cs0 =>
      cases hm : m.dst with
      | some _ => rw [hm] at hr; cases hr
      | none =>
        rw [hm] at hr
        have hl0 := (k1 d0 cs0 rfl).2.1
        simp only [Eff.run, Option.some.injEq] at hr ⊢
        subst hr
        cases e' with
        | val v' =>
          simp only [Eff.run, Option.some.injEq] at hr' ⊢
          refine ⟨_, rfl, ?_⟩
          rw [← hr']
          cases m'.dst <;> rfl
        | mk cs =>
          cases hm' : m'.dst with
          | none => rw [hm'] at hr'; cases hr'
          | some d' =>
            rw [hm'] at hr'
            simp only [Eff.run, upd] at hr' ⊢
            by_cases hdd : d' = d0
            · subst hdd; simp at hr'
            · simp only [if_neg hdd] at hr'
              split at hr'
              · cases hr'
              · rename_i hno'
                rw [if_neg hno']
                refine ⟨_, rfl, ?_⟩
                simp only [Option.some.injEq] at hr' ⊢
                rw [← hr']
                congr 1
                funext t
                simp only [upd]
                by_cases a : t = d0
                · subst a; simp [Ne.symm hdd]
                · simp [a]
        | st d' cs =>
          have hdd := hss _ _ _ _ rfl rfl
          cases hm' : m'.dst with
          | some _ => rw [hm'] at hr'; cases hr'
          | none =>
            rw [hm'] at hr'
            simp only [Eff.run, Option.some.injEq] at hr' ⊢
            refine ⟨_, rfl, ?_⟩
            rw [← hr']
            congr 1
            funext t
            simp only [upd]
            by_cases a : t = d0
            · subst a; simp [hdd]
            · simp [a]
        | app k sz es =>
          cases hm' : m'.dst with
          | none => rw [hm'] at hr'; cases hr'
          | some d' =>
            rw [hm'] at hr'
            simp only [Eff.run, Option.some.injEq] at hr' ⊢
            exact ⟨_, rfl, hr'⟩
    | app k0 sz0 es0 =>
      cases hm : m.dst with
      | none => rw [hm] at hr; cases hr
      | some d =>
        rw [hm] at hr
        simp only [Eff.run, Option.some.injEq] at hr ⊢
        subst hr
        cases e' with
        | val v' =>
          simp only [Eff.run, Option.some.injEq] at hr' ⊢
          refine ⟨_, rfl, ?_⟩
          rw [← hr']
          cases hm' : m'.dst with
          | none => rfl
          | some d' =>
            have hne : d' ≠ d := fun h => (hd d hm).2 (by rw [hm', h])
            simp only [St.put]
            congr 1
            funext t
            simp only [upd]
            by_cases a : t = d
            · simp [a, Ne.symm hne]
            · simp [a]
        | mk cs =>
          cases hm' : m'.dst with
          | none => rw [hm'] at hr'; cases hr'
          | some d' =>
            have hne : d' ≠ d := fun h => (hd d hm).2 (by rw [hm', h])
            rw [hm'] at hr'
            simp only [Eff.run] at hr' ⊢
            split at hr'
            · cases hr'
            · rename_i hno'
              rw [if_neg hno']
              refine ⟨_, rfl, ?_⟩
              simp only [Option.some.injEq] at hr' ⊢
              rw [← hr']
              congr 1
              funext t
              simp only [upd, forgetBox]
              by_cases a : t = d
              · subst a; simp [Ne.symm hne]
              · simp only [if_neg a]
        | st d' cs =>
          cases hm' : m'.dst with
          | some _ => rw [hm'] at hr'; cases hr'
          | none =>
            rw [hm'] at hr'
            simp only [Eff.run, Option.some.injEq] at hr' ⊢
            exact ⟨_, rfl, hr'⟩
        | app k sz es => exact (haa _ _ _ _ _ _ rfl rfl).elim
  obtain ⟨σ', hs1, hs2⟩ := hgo
  have hE2 := eff1_after (m := m') (m' := m) he' hs1 (fun d h => hd' d h) (by rw [compat_symm]; exact hk)
  refine ⟨σ', ?_, ?_⟩
  · rw [step1_eff, he']; exact hs1
  · rw [step1_eff, hE2, he]; exact hs2
end
end Go.Proofs.Ytjbhhdocbejccaa.Bm
