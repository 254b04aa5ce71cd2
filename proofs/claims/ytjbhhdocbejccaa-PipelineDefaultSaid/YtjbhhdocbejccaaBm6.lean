/- The abstract machine: append, its cases. No condition beyond those that each theorem states. -/
import Derived.Test.YtjbhhdocbejccaaBm5
namespace Go.Proofs.Ytjbhhdocbejccaa.Bm
open Go Go.RowKit
set_option linter.unusedVariables false
set_option linter.unusedSimpArgs false

section
variable {P : Program} {w0 : World} {okA : Nat → Nat → Prop} {N : Nat} {σ σ' : St} {a : Act} {w : World} {β : Nat → Nat} {tip : Tip} {eqT : List TypeId} {o : Oper} {Q : Exit → Act → World → Prop}
theorem app_lv (hR : RelB w0 okA N σ a w β tip) {d sz : Nat} {k : Option Nat} {es : List (List CV)} {j : Nat} (h : (σ.app d k sz es).lv j = true) : j = σ.nt ∨ (j ≠ σ.nt ∧ σ.lv j = true ∧ some j ≠ k) := by
  simp only [St.app, Bool.or_eq_true, beq_iff_eq, Bool.and_eq_true, Bool.not_eq_true', beq_eq_false_iff_ne] at h
  rcases h with h | ⟨h1, h2⟩
  · exact .inl h
  · by_cases e : j = σ.nt
    · exact .inl e
    · exact .inr ⟨e, h1, h2⟩
theorem app_ok (hR : RelB w0 okA N σ a w β tip) {d sz : Nat} {k : Option Nat} {es : List (List CV)} {T : Option (Nat × Nat × Nat)} {b i : Nat} (hok : okOf w0 okA σ β tip b i) (hT : ∀ p l, T = some (b, p, l) → i < p) :
    okOf w0 okA (σ.app d k sz es) β (upd tip σ.nt T) b i := by
  refine ⟨hok.1, hok.2.1, fun k' p l hk ht => ?_⟩
  rcases app_lv hR hk with e | ⟨e, h1, h2⟩
  · subst e; simp only [upd, if_pos] at ht; exact hT p l ht
  · simp only [upd, if_neg e] at ht; exact hok.2.2 k' p l h1 ht
theorem RepC.resz {ok : Nat → Nat → Prop} {s s' : Nat} {es : List (List CV)} {v : Value} (h : RepC w ok (.sl s es) v) (hs : s = s' ∨ es = []) : RepC w ok (.sl s' es) v := by
  rcases hs with rfl | rfl
  · exact h
  · cases h with
    | nil _ A => exact .nil _ A
    | sl sz es b off cap f hc hsz hcell hrep => exact .sl _ [] b off cap f hc (fun e he => by cases he) (fun i j hi => by simp at hi) (fun i e j c he => by simp at he)
theorem RepC.slice_ {ok : Nat → Nat → Prop} {s : Nat} {es : List (List CV)} {v : Value} (h : RepC w ok (.sl s es) v) : ∃ A c, v = .slice A es.length c ∧ es.length ≤ c := by
  cases h with
  | nil _ A => exact ⟨A, 0, rfl, Nat.le_refl _⟩
  | sl sz es b off cap f hc => exact ⟨_, cap, rfl, hc⟩
/-- Nothing is appended. -/
theorem app_zero (hR : RelB w0 okA N σ a w β tip) {d : Nat} (hd : d < N) {t : Tok} {szs sz : Nat} {es : List (List CV)} {S : Value} (hS : RepX w (okOf w0 okA σ β tip) σ.nt σ.lv tip (.tk t szs es) S) {k : Option Nat}
    (hk : (t = .tight ∧ k = none ∧ (szs = sz ∨ es = [])) ∨ ∃ k', t = .live k' ∧ k = some k' ∧ σ.lv k' = true ∧ szs = sz) :
    ∃ T, RelB w0 okA N (σ.app d k sz es) (a.put (some d) S) w β (upd tip σ.nt T) := by
  rcases hk with ⟨rfl, rfl, hs⟩ | ⟨k', rfl, rfl, hlv, rfl⟩
  · refine ⟨none, sound_app_at hR hd (Below.refl _ _) (Nat.le_refl _) (fun _ _ _ => rfl) (fun _ _ _ _ _ _ _ => rfl) (fun _ _ _ _ h => h) (fun _ _ _ h => by cases h) ⟨?_, ?_⟩⟩
    · exact RepC.mono (RepC.resz hS.1 hs) fun b i u hok hc => ⟨hc, app_ok hR hok (fun _ _ h => by cases h)⟩
    · refine ⟨Nat.lt_succ_self _, fun _ => ?_⟩
      simp only [upd, if_pos]
      exact hS.2
  · refine ⟨tip k', sound_app_at hR hd (Below.refl _ _) (Nat.le_refl _) (fun _ _ _ => rfl) (fun _ _ _ _ _ _ _ => rfl) (fun _ _ _ _ h => h) (fun b p l hT => ?_) ⟨?_, ?_⟩⟩
    · obtain ⟨g1, g2, g3⟩ := hR.tipB k' b p l hlv hT
      refine ⟨fun i u hok hc => hok.2.2 k' p l hlv hT, g1, g2, g3, fun k2 p' l' h2 hne ht => hne ?_⟩
      rw [hR.tinj k2 k' b p' l' p l h2 hlv ht hT]
    · exact RepC.mono hS.1 fun b i u hok hc => ⟨hc, app_ok hR hok (fun p l h => hok.2.2 k' p l hlv h)⟩
    · refine ⟨Nat.lt_succ_self _, fun _ => ?_⟩
      simp only [upd, if_pos]
      exact hS.2.2 hlv
/-- A new block is made for it. -/
theorem app_grown (hR : RelB w0 okA N σ a w β tip) {d : Nat} (hd : d < N) {k : Option Nat} {sz : Nat} {es ex : List (List CV)} {us news : List Value} {zs : Array Value} {e : TypeId} {C : Nat}
    (hse : ∀ e ∈ es, e.length = sz) (hsx : ∀ e ∈ ex, e.length = sz) (hus : us.length = es.length * sz) (hnews : news.length = ex.length * sz)
    (hru : RepCs w (okOf w0 okA σ β tip) es.flatten us) (hrn : RepCs w (okOf w0 okA σ β tip) ex.flatten news) (hC : es.length + ex.length ≤ C) (hz : zs.size = (C - (es.length + ex.length)) * sz) :
    ∃ T, RelB w0 okA N (σ.app d k sz (es ++ ex)) (a.put (some d) (.slice (some ⟨w.heap.size, 0, none⟩) (es.length + ex.length) C)) (w.drew.alloc (.cells (us.toArray ++ news.toArray ++ zs) e)) β (upd tip σ.nt T) := by
  have hsz := hR.bel.size
  have hold : ∀ b, b < w.heap.size → (w.drew.alloc (.cells (us.toArray ++ news.toArray ++ zs) e)).heap[b]? = w.heap[b]? := fun b hb => Below.heap_alloc w.drew _ b hb
  have hnew : (w.drew.alloc (.cells (us.toArray ++ news.toArray ++ zs) e)).heap[w.heap.size]? = some (.cells (us.toArray ++ news.toArray ++ zs) e (0, 0)) := heap_push w.drew _
  have hmem : ∀ b i u, okOf w0 okA σ β tip b i → cz w ⟨b, i, none⟩ = some u → cz (w.drew.alloc (.cells (us.toArray ++ news.toArray ++ zs) e)) ⟨b, i, none⟩ = some u := fun b i u _ hc => by
    rw [cz_of_block (w := w) (hold b (cz_lt w _ hc))]; exact hc
  have htipne : ∀ k' p l, σ.lv k' = true → tip k' ≠ some (w.heap.size, p, l) := fun k' p l h1 h2 => by
    obtain ⟨_, _, arr, ty, h3, _⟩ := hR.tipB k' _ p l h1 h2
    have := (Array.getElem?_eq_some_iff.1 h3).1; omega
  have hboxne : ∀ d cs, σ.hp d = some cs → β d ≠ w.heap.size := fun d cs h1 h2 => by
    obtain ⟨_, vs, ty, h3, _⟩ := hR.hpB d cs h1
    rw [h2] at h3; have := (Array.getElem?_eq_some_iff.1 h3).1; omega
  have hlen : (us ++ news).length = (es ++ ex).length * sz := by simp [hus, hnews, Nat.add_mul]
  refine ⟨some (w.heap.size, (es.length + ex.length) * sz, C * sz), sound_app_at hR hd ?_ (by simp) ?_ ?_ hmem ?_ ⟨?_, ?_⟩⟩
  · exact (Below.refl _ _).drew.alloc hsz _
  · intro d' cs h'
    obtain ⟨_, vs, ty, h3, _⟩ := hR.hpB d' cs h'
    exact hold _ (Array.getElem?_eq_some_iff.1 h3).1
  · intro k' b p l h1 _ h2
    obtain ⟨_, _, arr, ty, h3, _⟩ := hR.tipB k' b p l h1 h2
    exact hold _ (Array.getElem?_eq_some_iff.1 h3).1
  · intro b p l hT
    cases hT
    refine ⟨fun i u _ hc => by have := cz_lt w _ hc; simp at this, hsz, hboxne, ⟨_, e, hnew, ?_⟩, fun k' p' l' h1 _ => htipne k' p' l' h1⟩
    simp only [Array.size_append, List.size_toArray, hus, hnews, hz, ← Nat.add_mul]
    exact Nat.mul_le_mul_right _ (by omega)
  · have hrep : RepC (w.drew.alloc (.cells (us.toArray ++ news.toArray ++ zs) e)) (okOf w0 okA (σ.app d k sz (es ++ ex)) β (upd tip σ.nt (some (w.heap.size, (es.length + ex.length) * sz, C * sz)))) (.sl sz (es ++ ex)) (.slice (some ⟨w.heap.size, 0, none⟩) (es ++ ex).length C) := by
      refine RepC.unflat (us := us ++ news) (by simpa using hC) (fun e he => ?_) hlen (fun j u hu => ⟨?_, ?_⟩) ?_
      · rcases List.mem_append.1 he with h | h
        · exact hse e h
        · exact hsx e h
      · have hj : j < (us ++ news).length := (List.getElem?_eq_some_iff.1 hu).1
        simp only [cz, hnew, Option.isSome_none, Nat.zero_add, Bool.false_eq_true, if_false]
        rw [Array.getElem?_append_left (by simpa using hj)]
        simpa using hu
      · have hj : j < (us ++ news).length := (List.getElem?_eq_some_iff.1 hu).1
        rw [hlen] at hj
        refine ⟨fun hb => by omega, fun d' cs h' => hboxne d' cs h', fun k' p l hk ht => ?_⟩
        rcases app_lv hR hk with e' | ⟨e', h1, h2⟩
        · subst e'; simp only [upd, if_pos] at ht; cases ht
          simpa using hj
        · simp only [upd, if_neg e'] at ht; exact (htipne k' p l h1 ht).elim
      · rw [List.flatten_append]
        refine RepCs.mono (fun b i u hok hc => ⟨hmem b i u hok hc, app_ok hR hok (fun p l hT => ?_)⟩) (RepCs.append hru hrn)
        cases hT
        have := cz_lt w _ hc; simp at this
    simpa using hrep
  · refine ⟨Nat.lt_succ_self _, fun _ => ?_⟩
    simp only [upd, if_pos]
    exact ⟨C, by simp, by simp, rfl⟩
/-- The new elements are put behind the old ones, in place. -/
theorem app_room (hR : RelB w0 okA N σ a w β tip) {d : Nat} (hd : d < N) {k sz : Nat} {es ex : List (List CV)} {news : List Value} {b p l cap : Nat} {arr : Array Value} {ty : TypeId}
    (hlv : σ.lv k = true) (htip : tip k = some (b, p, l)) (hp : p = es.length * sz) (hl : l = cap * sz) (hb : w.heap[b]? = some (.cells arr ty (0, 0))) (hla : l ≤ arr.size)
    (hS : RepC w (okOf w0 okA σ β tip) (.sl sz es) (.slice (some ⟨b, 0, none⟩) es.length cap))
    (hsx : ∀ e ∈ ex, e.length = sz) (hnews : news.length = ex.length * sz) (hrn : RepCs w (okOf w0 okA σ β tip) ex.flatten news) (hC : es.length + ex.length ≤ cap) :
    ∃ T, RelB w0 okA N (σ.app d (some k) sz (es ++ ex)) (a.put (some d) (.slice (some ⟨b, 0, none⟩) (es.length + ex.length) cap)) (w.setRow b (arr.toList.take (es.length * sz) ++ news ++ arr.toList.drop (es.length * sz + news.length)).toArray) β (upd tip σ.nt T) := by
  obtain ⟨hb0, hbx, _⟩ := hR.tipB k b p l hlv htip
  have hother : ∀ b', b' ≠ b → (w.setRow b (arr.toList.take (es.length * sz) ++ news ++ arr.toList.drop (es.length * sz + news.length)).toArray).heap[b']? = w.heap[b']? := fun b' h => setRow_other w b b' _ h
  have hsame := setRow_heap w b arr (arr.toList.take (es.length * sz) ++ news ++ arr.toList.drop (es.length * sz + news.length)).toArray ty (0, 0) hb
  have hroom : es.length * sz + news.length ≤ arr.size := by
    rw [hnews, ← Nat.add_mul]; exact Nat.le_trans (Nat.mul_le_mul_right _ hC) (by omega)
  have hcellb : ∀ i, cz (w.setRow b (arr.toList.take (es.length * sz) ++ news ++ arr.toList.drop (es.length * sz + news.length)).toArray) ⟨b, i, none⟩ = (arr.toList.take (es.length * sz) ++ news ++ arr.toList.drop (es.length * sz + news.length))[i]? := fun i => cz_of_blk hsame i
  have hcellw : ∀ i, cz w ⟨b, i, none⟩ = arr[i]? := fun i => by simp [cz, hb]
  have htl : (arr.toList.take (es.length * sz)).length = es.length * sz := by simp; omega
  have hmem : ∀ b' i u, okOf w0 okA σ β tip b' i → cz w ⟨b', i, none⟩ = some u → cz (w.setRow b (arr.toList.take (es.length * sz) ++ news ++ arr.toList.drop (es.length * sz + news.length)).toArray) ⟨b', i, none⟩ = some u := fun b' i u hok hc => by
    by_cases hbb : b' = b
    · subst hbb
      have hi : i < es.length * sz := by rw [← hp]; exact hok.2.2 k p l hlv htip
      rw [hcellb i, List.append_assoc, List.getElem?_append_left (by rw [htl]; exact hi), List.getElem?_take, if_pos hi]
      rw [hcellw] at hc; simpa using hc
    · rw [cz_of_block (w := w) (hother b' hbb)]; exact hc
  refine ⟨some (b, (es.length + ex.length) * sz, l), sound_app_at hR hd ?_ ?_ ?_ ?_ hmem ?_ ⟨?_, ?_⟩⟩
  · exact ⟨rfl, rfl, rfl, by simp [World.setRow], fun i hi => hother i (by omega)⟩
  · simp [World.setRow]
  · intro d' cs h'; exact hother _ (hbx d' cs h')
  · intro k' b' p' l' h1 hne h2
    refine hother b' (fun e => hne ?_)
    subst e
    rw [hR.tinj k' k b' p' l' p l h1 hlv h2 htip]
  · intro b' p' l' hT
    cases hT
    refine ⟨fun i u hok hc => ?_, hb0, hbx, ⟨_, ty, hsame, ?_⟩, fun k' p'' l'' h1 hne h2 => hne ?_⟩
    · have := hok.2.2 k p l hlv htip
      rw [hp] at this
      exact Nat.lt_of_lt_of_le this (Nat.mul_le_mul_right _ (by omega))
    · simp only [List.size_toArray, List.length_append, List.length_take, List.length_drop, Array.length_toList]; omega
    · rw [hR.tinj k' k b p'' l'' p l h1 hlv h2 htip]
  · have hrep : RepC (w.setRow b (arr.toList.take (es.length * sz) ++ news ++ arr.toList.drop (es.length * sz + news.length)).toArray) (okOf w0 okA (σ.app d (some k) sz (es ++ ex)) β (upd tip σ.nt (some (b, (es.length + ex.length) * sz, l)))) (.sl sz (es ++ ex)) (.slice (some ⟨b, 0, none⟩) (es ++ ex).length cap) := by
      have hmono : ∀ b' i u, okOf w0 okA σ β tip b' i → cz w ⟨b', i, none⟩ = some u → cz (w.setRow b (arr.toList.take (es.length * sz) ++ news ++ arr.toList.drop (es.length * sz + news.length)).toArray) ⟨b', i, none⟩ = some u ∧
          okOf w0 okA (σ.app d (some k) sz (es ++ ex)) β (upd tip σ.nt (some (b, (es.length + ex.length) * sz, l))) b' i := fun b' i u hok hc => ⟨hmem b' i u hok hc, app_ok hR hok (fun p' l' hT => by
            cases hT
            have := hok.2.2 k p l hlv htip
            rw [hp] at this
            exact Nat.lt_of_lt_of_le this (Nat.mul_le_mul_right _ (by omega)))⟩
      rcases RepC.flat hS with ⟨A0, h, he⟩ | ⟨b2, off2, cap2, us, h, _, hse, hus, hcu, hru⟩
      · simp only [Value.slice.injEq] at h
        obtain ⟨_, _, hcap0⟩ := h
        have hx : ex = [] := List.eq_nil_of_length_eq_zero (by omega)
        rw [he, hx, hcap0]
        exact RepC.nil _ _
      · cases h
        have hlen : (us ++ news).length = (es ++ ex).length * sz := by simp [hus, hnews, Nat.add_mul]
        have huse : us = arr.toList.take (es.length * sz) := by
          apply List.ext_getElem?
          intro i
          rw [List.getElem?_take]
          by_cases hi : i < es.length * sz
          · rw [if_pos hi]
            have h1 : us[i]? = some us[i] := List.getElem?_eq_getElem (by omega)
            have := (hcu i _ h1).1
            rw [Nat.zero_add, hcellw] at this
            rw [h1, ← this]; simp
          · rw [if_neg hi]; exact List.getElem?_eq_none (by omega)
        refine RepC.unflat (us := us ++ news) (by simpa using hC) (fun e he => ?_) hlen (fun j u hu => ⟨?_, ?_⟩) ?_
        · rcases List.mem_append.1 he with h | h
          · exact hse e h
          · exact hsx e h
        · rw [Nat.zero_add, hcellb, ← huse, List.getElem?_append_left (List.getElem?_eq_some_iff.1 hu).1]; exact hu
        · have hj : j < (us ++ news).length := (List.getElem?_eq_some_iff.1 hu).1
          rw [hlen] at hj
          rw [Nat.zero_add]
          refine ⟨fun h => by omega, fun d' cs h' => hbx d' cs h', fun k' p' l' hk ht => ?_⟩
          rcases app_lv hR hk with e' | ⟨e', h1, h2⟩
          · subst e'; simp only [upd, if_pos] at ht; cases ht
            simpa using hj
          · simp only [upd, if_neg e'] at ht
            exact (h2 (by rw [hR.tinj k' k b p' l' p l h1 hlv ht htip])).elim
        · rw [List.flatten_append]
          exact RepCs.mono hmono (RepCs.append hru hrn)
    simpa using hrep
  · refine ⟨Nat.lt_succ_self _, fun _ => ?_⟩
    simp only [upd, if_pos]
    exact ⟨cap, by simp, by simp, hl⟩
end
end Go.Proofs.Ytjbhhdocbejccaa.Bm
