/- The abstract machine: append. No condition beyond those that each theorem states. -/
import Derived.Test.YtjbhhdocbejccaaBm4
namespace Go.Proofs.Ytjbhhdocbejccaa.Bm
open Go Go.RowKit
set_option linter.unusedVariables false
set_option linter.unusedSimpArgs false

theorem flatten_get {sz : Nat} : ∀ {es : List (List CV)}, (∀ e ∈ es, e.length = sz) → ∀ {i j : Nat} {e : List CV} {c : CV}, es[i]? = some e → e[j]? = some c → es.flatten[i * sz + j]? = some c
  | [], _, i, j, e, c, h, _ => by simp at h
  | e0 :: es, hs, 0, j, e, c, h, hc => by
    simp at h; subst h
    have hj : j < e0.length := (List.getElem?_eq_some_iff.1 hc).1
    simp only [List.flatten_cons, Nat.zero_mul, Nat.zero_add]
    rw [List.getElem?_append_left hj]; exact hc
  | e0 :: es, hs, i + 1, j, e, c, h, hc => by
    have h0 : e0.length = sz := hs e0 (by simp)
    have ih := flatten_get (sz := sz) (es := es) (fun e he => hs e (by simp [he])) (i := i) (j := j) (e := e) (c := c) (by simpa using h) hc
    simp only [List.flatten_cons]
    rw [List.getElem?_append_right (by rw [h0, Nat.add_mul]; omega), h0]
    rw [show (i + 1) * sz + j - sz = i * sz + j by rw [Nat.add_mul]; omega]
    exact ih
theorem flatten_div {sz : Nat} : ∀ {es : List (List CV)}, (∀ e ∈ es, e.length = sz) → ∀ {q : Nat} {c : CV}, es.flatten[q]? = some c → ∃ e, es[q / sz]? = some e ∧ e[q % sz]? = some c
  | [], _, q, c, h => by simp at h
  | e0 :: es, hs, q, c, h => by
    have h0 : e0.length = sz := hs e0 (by simp)
    simp only [List.flatten_cons] at h
    by_cases hq : q < sz
    · rw [List.getElem?_append_left (by omega)] at h
      exact ⟨e0, by rw [Nat.div_eq_of_lt hq]; rfl, by rw [Nat.mod_eq_of_lt hq]; exact h⟩
    · rw [List.getElem?_append_right (by omega), h0] at h
      obtain ⟨e, he, hc⟩ := flatten_div (sz := sz) (es := es) (fun e he => hs e (by simp [he])) h
      have hpos : 0 < sz := by
        rcases Nat.eq_zero_or_pos sz with hz | hz
        · exfalso
          subst hz
          have : es.flatten = [] := by
            rw [List.flatten_eq_nil_iff]; intro e he; exact List.eq_nil_of_length_eq_zero (hs e (by simp [he]))
          rw [this] at h; simp at h
        · exact hz
      refine ⟨e, ?_, ?_⟩
      · have : q / sz = (q - sz) / sz + 1 := by rw [← Nat.add_div_right _ hpos]; congr 1; omega
        rw [this]; simpa using he
      · have : q % sz = (q - sz) % sz := by
          rw [← Nat.add_mod_right (q - sz) sz]; congr 1; omega
        rw [this]; exact hc
theorem flatten_length {sz : Nat} : ∀ {es : List (List CV)}, (∀ e ∈ es, e.length = sz) → es.flatten.length = es.length * sz
  | [], _ => by simp
  | e0 :: es, hs => by
    have ih := flatten_length (sz := sz) (es := es) (fun e he => hs e (by simp [he]))
    simp only [List.flatten_cons, List.length_append, List.length_cons, ih, hs e0 (by simp), Nat.add_mul]; omega
theorem RepC.flat {w : World} {ok : Nat → Nat → Prop} {sz : Nat} {es : List (List CV)} {v : Value} (h : RepC w ok (.sl sz es) v) :
    (∃ A, v = .slice A 0 0 ∧ es = []) ∨ ∃ b off cap us, v = .slice (some ⟨b, off, none⟩) es.length cap ∧ es.length ≤ cap ∧ (∀ e ∈ es, e.length = sz) ∧ us.length = es.length * sz ∧
      (∀ j u, us[j]? = some u → cz w ⟨b, off + j, none⟩ = some u ∧ ok b (off + j)) ∧ RepCs w ok es.flatten us := by
  cases h with
  | nil sz A => exact .inl ⟨A, rfl, rfl⟩
  | sl sz es b off cap f hc hsz hcell hrep =>
    have hlen := flatten_length hsz
    refine .inr ⟨b, off, cap, (List.range (es.length * sz)).map fun q => f (q / sz) (q % sz), rfl, hc, hsz, by simp, fun j u hu => ?_, ?_⟩
    · simp only [List.getElem?_map, Option.map_eq_some_iff, List.getElem?_range] at hu
      obtain ⟨q, hq, rfl⟩ := hu
      have hjl : j < es.length * sz := by
        have := (List.getElem?_eq_some_iff.1 hq).1; simpa using this
      have hqe : q = j := by rw [List.getElem?_range hjl] at hq; simpa using hq.symm
      subst hqe
      have hpos : 0 < sz := by
        rcases Nat.eq_zero_or_pos sz with hz | hz
        · subst hz; simp at hjl
        · exact hz
      have := hcell (q / sz) (q % sz) ((Nat.div_lt_iff_lt_mul hpos).2 hjl) (Nat.mod_lt _ hpos)
      rw [Nat.add_assoc, Nat.div_add_mod'] at this
      exact this
    · refine RepCs.of_get (by simp [hlen]) fun q c v hq hv => ?_
      obtain ⟨e, he, hc'⟩ := flatten_div hsz hq
      have hql : q < es.length * sz := by rw [← hlen]; exact (List.getElem?_eq_some_iff.1 hq).1
      simp only [List.getElem?_map, List.getElem?_range hql, Option.map_some, Option.some.injEq] at hv
      subst hv
      exact hrep _ e _ c he hc'
theorem RepC.unflat {w : World} {ok : Nat → Nat → Prop} {sz : Nat} {es : List (List CV)} {b off cap : Nat} {us : List Value} (hc : es.length ≤ cap) (hsz : ∀ e ∈ es, e.length = sz) (hl : us.length = es.length * sz)
    (hcell : ∀ j u, us[j]? = some u → cz w ⟨b, off + j, none⟩ = some u ∧ ok b (off + j)) (hr : RepCs w ok es.flatten us) : RepC w ok (.sl sz es) (.slice (some ⟨b, off, none⟩) es.length cap) := by
  refine .sl sz es b off cap (fun i j => us.getD (i * sz + j) Go.undef) hc hsz (fun i j hi hj => ?_) (fun i e j c he hc' => ?_)
  · have hlt : i * sz + j < us.length := by
      rw [hl]
      calc i * sz + j < i * sz + sz := by omega
        _ = (i + 1) * sz := by rw [Nat.add_mul]; omega
        _ ≤ es.length * sz := Nat.mul_le_mul_right _ hi
    rw [Nat.add_assoc]
    exact hcell (i * sz + j) _ (by simp [List.getD, hlt])
  · obtain ⟨v, hv, hr'⟩ := RepCs.get hr (flatten_get hsz he hc')
    have : us.getD (i * sz + j) Go.undef = v := by simp [List.getD, hv]
    rw [this]; exact hr'
theorem RepCs.append {w : World} {ok : Nat → Nat → Prop} : ∀ {xs : List CV} {vs : List Value} {xs' : List CV} {vs' : List Value}, RepCs w ok xs vs → RepCs w ok xs' vs' → RepCs w ok (xs ++ xs') (vs ++ vs')
  | [], [], _, _, _, h => h
  | _ :: _, _ :: _, _, _, h, h' => ⟨h.1, RepCs.append h.2 h'⟩
  | [], _ :: _, _, _, h, _ => h.elim
  | _ :: _, [], _, _, h, _ => h.elim
theorem RepCs.one {w : World} {ok : Nat → Nat → Prop} : ∀ {xs : List CV} {vs : List Value}, RepCs w ok xs vs → ∀ v ∈ vs, v.oneCell' = true
  | [], [], _, v, hv => by cases hv
  | _ :: _, _ :: _, h, v, hv => by
    cases hv with
    | head => exact RepC.one h.1
    | tail _ hv => exact RepCs.one h.2 v hv
  | [], _ :: _, h, _, _ => h.elim
  | _ :: _, [], h, _, _ => h.elim

section
variable {P : Program} {w0 : World} {okA : Nat → Nat → Prop} {N : Nat} {σ σ' : St} {a : Act} {w : World} {β : Nat → Nat} {tip : Tip} {eqT : List TypeId} {o : Oper} {Q : Exit → Act → World → Prop}
/-- The state behind an append. -/
def St.app (σ : St) (d : Nat) (k : Option Nat) (sz : Nat) (es : List (List CV)) : St :=
  { σ with tm := upd σ.tm d (some (.c (.tk (.live σ.nt) sz es))), lv := fun j => (j == σ.nt) || (σ.lv j && !(some j == k)), nt := σ.nt + 1 }
/-- Behind an append, however it came about: where the new token's tip lies, and what was kept. -/
theorem sound_app_at (hR : RelB w0 okA N σ a w β tip) {d : Nat} (hd : d < N) {k : Option Nat} {sz : Nat} {es : List (List CV)} {v : Value} {w' : World} {T : Option (Nat × Nat × Nat)}
    (hbel : Below w0.heap.size w w') (hsize : w.heap.size ≤ w'.heap.size)
    (hboxes : ∀ d cs, σ.hp d = some cs → w'.heap[β d]? = w.heap[β d]?)
    (hblk : ∀ k' b p l, σ.lv k' = true → some k' ≠ k → tip k' = some (b, p, l) → w'.heap[b]? = w.heap[b]?)
    (hmem : ∀ b i u, okOf w0 okA σ β tip b i → cz w ⟨b, i, none⟩ = some u → cz w' ⟨b, i, none⟩ = some u)
    (hTok : ∀ b p l, T = some (b, p, l) → (∀ i u, okOf w0 okA σ β tip b i → cz w ⟨b, i, none⟩ = some u → i < p) ∧ w0.heap.size ≤ b ∧ (∀ d cs, σ.hp d = some cs → β d ≠ b) ∧ (∃ arr ty, w'.heap[b]? = some (.cells arr ty (0, 0)) ∧ l ≤ arr.size) ∧
      (∀ k' p' l', σ.lv k' = true → some k' ≠ k → tip k' ≠ some (b, p', l')))
    (hv : RepX w' (okOf w0 okA (σ.app d k sz es) β (upd tip σ.nt T)) (σ.nt + 1) (σ.app d k sz es).lv (upd tip σ.nt T) (.tk (.live σ.nt) sz es) v) :
    RelB w0 okA N (σ.app d k sz es) (a.put (some d) v) w' β (upd tip σ.nt T) := by
  have hlv : ∀ j, (σ.app d k sz es).lv j = true → j = σ.nt ∨ (j ≠ σ.nt ∧ σ.lv j = true ∧ some j ≠ k) := fun j h => by
    simp only [St.app, Bool.or_eq_true, beq_iff_eq, Bool.and_eq_true, Bool.not_eq_true', beq_eq_false_iff_ne] at h
    rcases h with h | ⟨h1, h2⟩
    · exact .inl h
    · by_cases e : j = σ.nt
      · exact .inl e
      · exact .inr ⟨e, h1, h2⟩
  have hne : ∀ j, σ.lv j = true → j ≠ σ.nt := fun j h e => by have := hR.lvB j h; omega
  have K : Kept w w' (okOf w0 okA σ β tip) (okOf w0 okA (σ.app d k sz es) β (upd tip σ.nt T)) σ.nt (σ.nt + 1) σ.lv (σ.app d k sz es).lv tip (upd tip σ.nt T) := by
    refine ⟨fun b i u hok hc => ⟨hmem b i u hok hc, hok.1, hok.2.1, fun k' p l hk ht => ?_⟩, Nat.le_succ _, fun k' hk h => ?_⟩
    · rcases hlv k' hk with e | ⟨e, h1, h2⟩
      · subst e; simp only [upd, if_pos] at ht
        exact (hTok b p l ht).1 i u hok hc
      · simp only [upd, if_neg e] at ht; exact hok.2.2 k' p l h1 ht
    · rcases hlv k' h with e | ⟨e, h1, h2⟩
      · omega
      · exact ⟨h1, by simp [upd, e]⟩
  refine ⟨hR.bel.trans hbel, fun d' cs h => ?_, hR.inj, fun k' b p l hk ht => ?_, fun k' hk => ?_, fun k1 k2 b p l p' l' h1 h2 t1 t2 => ?_, fun t x hx => ?_, by simp [Act.put, hR.size], hR.dfs⟩
  · obtain ⟨h1, vs, ty, h2, h3⟩ := hR.hpB d' cs h
    exact ⟨h1, vs, ty, by rw [hboxes d' cs h]; exact h2, RepXs.kept K h3⟩
  · rcases hlv k' hk with e | ⟨e, h1, h2⟩
    · subst e; simp only [upd, if_pos] at ht
      obtain ⟨_, g1, g2, g3, _⟩ := hTok b p l ht
      exact ⟨g1, g2, g3⟩
    · simp only [upd, if_neg e] at ht
      obtain ⟨g1, g2, arr, ty, g3, g4⟩ := hR.tipB k' b p l h1 ht
      exact ⟨g1, g2, arr, ty, by rw [hblk k' b p l h1 h2 ht]; exact g3, g4⟩
  · rcases hlv k' hk with e | ⟨e, h1, h2⟩
    · simp only [St.app]; omega
    · have := hR.lvB k' h1; simp only [St.app]; omega
  · rcases hlv k1 h1 with e1 | ⟨e1, g1, n1⟩
    · rcases hlv k2 h2 with e2 | ⟨e2, g2, n2⟩
      · rw [e1, e2]
      · subst e1; simp only [upd, if_pos] at t1; simp only [upd, if_neg e2] at t2
        exact ((hTok b p l t1).2.2.2.2 k2 p' l' g2 n2 t2).elim
    · rcases hlv k2 h2 with e2 | ⟨e2, g2, n2⟩
      · subst e2; simp only [upd, if_pos] at t2; simp only [upd, if_neg e1] at t1
        exact ((hTok b p' l' t2).2.2.2.2 k1 p l g1 n1 t1).elim
      · simp only [upd, if_neg e1] at t1; simp only [upd, if_neg e2] at t2
        exact hR.tinj k1 k2 b p l p' l' g1 g2 t1 t2
  · simp only [St.app, upd] at hx
    by_cases e : t = d
    · subst e; rw [if_pos rfl] at hx; cases hx
      exact ⟨v, by simp [Act.put, hR.size, hd], hv⟩
    · rw [if_neg e] at hx
      obtain ⟨u, hu, hr⟩ := hR.tmB t x hx
      exact ⟨u, by simp only [Act.put]; rw [Array.getElem?_setIfInBounds_ne (Ne.symm e)]; exact hu, RepA.kept K (fun _ _ _ => rfl) hr⟩
theorem run_append_zero {t ty e : TypeId} {i : TypeInfo} (ht : P.underlying t = some (.slice e)) (hi : P.info? e = some i) (A B : Option Addr) (n c m : Nat) (hn : n ≤ c) :
    (Builtin.append_ #[t, t] ty #[.slice A n c, .slice B 0 m]).run P w = .ok (.slice A n c) w := by
  cases A <;> cases B <;> simp [Builtin.append_, run_underlying ht, sizeOf, typeInfo, hi, Builtin.lenOf, hn, Builtin.firstCells, loadCells, loadCellsFrom, storeCells]
end
end Go.Proofs.Ytjbhhdocbejccaa.Bm
