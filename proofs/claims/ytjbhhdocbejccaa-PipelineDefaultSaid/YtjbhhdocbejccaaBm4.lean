/- The abstract machine's effects are the model's. No condition beyond those that each theorem states. -/
import Derived.Test.YtjbhhdocbejccaaBm3
namespace Go.Proofs.Ytjbhhdocbejccaa.Bm
open Go Go.RowKit
set_option linter.unusedVariables false
set_option linter.unusedSimpArgs false

section
variable {P : Program} {w0 : World} {okA : Nat → Nat → Prop} {N : Nat} {σ σ' : St} {a : Act} {w : World} {β : Nat → Nat} {tip : Tip} {eqT : List TypeId} {o : Oper} {Q : Exit → Act → World → Prop}
theorem sound_val (hR : RelB w0 okA N σ a w β tip) {x : AV} {u : Value} (hx : RepA w (okOf w0 okA σ β tip) σ.nt σ.lv tip β x u) (hy : Yields P a w o u)
    (hrun : (Eff.val x).run o.dst σ = some σ') (hdst : ∀ d, o.dst = some d → d < N) : o.wp P a w (fun a' w' => Rel w0 okA N σ' a' w') Q := by
  unfold Oper.wp
  rw [show (execOp a.eval o).run P w = .ok (.value u) w from hy]
  simp only [Eff.run, Option.some.injEq] at hrun
  subst hrun
  exact ⟨β, tip, hR.put o.dst hdst hx⟩
theorem heap_push (w : World) (ob : Obj) : (w.alloc ob).heap[w.heap.size]? = some ob := heap_alloc_new w ob
theorem Kept.alloc (hR : RelB w0 okA N σ a w β tip) (ob : Obj) {d : Nat} (cs : List XV) (tm' : Nat → Option AV) :
    Kept w (w.alloc ob) (okOf w0 okA σ β tip) (okOf w0 okA { σ with tm := tm', hp := upd σ.hp d (some cs) } (upd β d w.heap.size) tip) σ.nt σ.nt σ.lv σ.lv tip tip := by
  refine ⟨fun b i u hok hc => ?_, Nat.le_refl _, fun k _ h => ⟨h, rfl⟩⟩
  have hb : b < w.heap.size := cz_lt w _ hc
  refine ⟨?_, hok.1, fun d' cs' hd' => ?_, hok.2.2⟩
  · rw [cz_of_block (w := w) (w' := w.alloc ob) (Below.heap_alloc w ob b hb)]; exact hc
  · simp only [upd] at hd' ⊢
    split
    · omega
    · rename_i hne; rw [if_neg hne] at hd'; exact hok.2.1 d' cs' hd'
theorem sound_mk (hR : RelB w0 okA N σ a w β tip) {cs : List XV} {vs : List Value} {ty : TypeId} (hx : RepXs w (okOf w0 okA σ β tip) σ.nt σ.lv tip cs vs)
    (hy : (execOp a.eval o).run P w = .ok (.value (.pointer (some ⟨w.heap.size, 0, none⟩))) (w.alloc (.cells vs.toArray ty (0, 0))))
    (hrun : (Eff.mk cs).run o.dst σ = some σ') (hdst : ∀ d, o.dst = some d → d < N) : o.wp P a w (fun a' w' => Rel w0 okA N σ' a' w') Q := by
  unfold Oper.wp
  rw [hy]
  simp only [Eff.run] at hrun
  cases hd : o.dst with
  | none => rw [hd] at hrun; cases hrun
  | some d =>
    rw [hd] at hrun
    simp only at hrun
    split at hrun
    · cases hrun
    · rename_i hno
      have hno' : σ.hp d = none := by simpa using hno
      simp only [Option.some.injEq] at hrun
      subst hrun
      have hlt := hdst d hd
      have hsz := hR.bel.size
      have K := Kept.alloc hR (.cells vs.toArray ty (0, 0)) (d := d) cs (upd (forgetBox d σ.tm) d (some (.box d 0)))
      have hβ : ∀ d', d' ≠ d → upd β d w.heap.size d' = β d' := fun d' h => by simp [upd, h]
      have hltB : ∀ d' cs', σ.hp d' = some cs' → β d' < w.heap.size := fun d' cs' h' => by
        obtain ⟨_, vs', ty', hv, _⟩ := hR.hpB d' cs' h'
        exact (Array.getElem?_eq_some_iff.1 hv).1
      simp only [Oper.upon_value, hd, Act.put]
      refine ⟨upd β d w.heap.size, tip, ⟨hR.bel.alloc hsz _, ?_, ?_, ?_, hR.lvB, hR.tinj, ?_, by simp [hR.size], hR.dfs⟩⟩
      · intro d' cs' h'
        simp only [upd] at h' ⊢
        by_cases e : d' = d
        · rw [if_pos e] at h' ⊢
          cases h'
          exact ⟨hsz, vs, ty, heap_push w _, RepXs.kept K hx⟩
        · rw [if_neg e] at h' ⊢
          obtain ⟨h1, vs', ty', hv, hr⟩ := hR.hpB d' cs' h'
          exact ⟨h1, vs', ty', by rw [Below.heap_alloc _ _ _ (hltB d' cs' h')]; exact hv, RepXs.kept K hr⟩
      · intro d1 d2 c1 c2 h1 h2 he
        simp only [upd] at h1 h2 he
        by_cases e1 : d1 = d
        · by_cases e2 : d2 = d
          · rw [e1, e2]
          · rw [if_neg e2] at h2; rw [if_pos e1, if_neg e2] at he
            have := hltB d2 c2 h2; omega
        · by_cases e2 : d2 = d
          · rw [if_neg e1] at h1; rw [if_neg e1, if_pos e2] at he
            have := hltB d1 c1 h1; omega
          · rw [if_neg e1] at h1; rw [if_neg e2] at h2; rw [if_neg e1, if_neg e2] at he
            exact hR.inj d1 d2 c1 c2 h1 h2 he
      · intro k b p l hk ht
        obtain ⟨h1, h2, arr, ty', h3, h4⟩ := hR.tipB k b p l hk ht
        have hb : b < w.heap.size := (Array.getElem?_eq_some_iff.1 h3).1
        refine ⟨h1, fun d' cs' h' => ?_, arr, ty', by rw [Below.heap_alloc _ _ _ hb]; exact h3, h4⟩
        simp only [upd] at h' ⊢
        by_cases e : d' = d
        · rw [if_pos e]; omega
        · rw [if_neg e] at h' ⊢; exact h2 d' cs' h'
      · intro t x hx'
        simp only [upd, forgetBox] at hx'
        by_cases e : t = d
        · subst e
          simp only [if_pos] at hx'; cases hx'
          exact ⟨.pointer (some ⟨w.heap.size, 0, none⟩), by simp [hR.size, hlt], by simp [RepA, upd]⟩
        · rw [if_neg e] at hx'
          have : ∃ y, σ.tm t = some y ∧ x = y ∧ ∀ d' o', x = .box d' o' → d' ≠ d := by
            split at hx'
            · rename_i d' o' hm
              split at hx'
              · cases hx'
              · rename_i hne; cases hx'; exact ⟨_, hm, rfl, fun d2 o2 e2 => by cases e2; exact hne⟩
            · rename_i hm; exact ⟨x, hx', rfl, fun d2 o2 e2 => (hm d2 o2 (by rw [hx', e2])).elim⟩
          obtain ⟨y, hy', rfl, hne⟩ := this
          obtain ⟨v, hv, hr⟩ := hR.tmB t x hy'
          refine ⟨v, by rw [Array.getElem?_setIfInBounds_ne (Ne.symm e)]; exact hv, RepA.kept K (fun d' o' e2 => hβ d' (hne d' o' e2)) hr⟩
theorem sound_st (hR : RelB w0 okA N σ a w β tip) {d : Nat} {cs cs' : List XV} {vs vs' : List Value} {ty : TypeId} (hd : σ.hp d = some cs) (hv : w.heap[β d]? = some (.cells vs.toArray ty (0, 0)))
    (hx : RepXs w (okOf w0 okA σ β tip) σ.nt σ.lv tip cs' vs')
    (hy : (execOp a.eval o).run P w = .ok .skip (w.setRow (β d) vs'.toArray))
    (hrun : (Eff.st d cs').run o.dst σ = some σ') : o.wp P a w (fun a' w' => Rel w0 okA N σ' a' w') Q := by
  unfold Oper.wp
  rw [hy]
  simp only [Eff.run] at hrun
  cases hdd : o.dst with
  | some d' => rw [hdd] at hrun; cases hrun
  | none =>
    rw [hdd] at hrun
    simp only [Option.some.injEq] at hrun
    subst hrun
    obtain ⟨hb0, _⟩ := hR.hpB d cs hd
    have hdom : ∀ d' c, upd σ.hp d (some cs') d' = some c → ∃ c', σ.hp d' = some c' := fun d' c h => by
      simp only [upd] at h
      split at h
      · rename_i e; exact ⟨cs, by rw [e]; exact hd⟩
      · exact ⟨c, h⟩
    have K : Kept w (w.setRow (β d) vs'.toArray) (okOf w0 okA σ β tip) (okOf w0 okA { σ with hp := upd σ.hp d (some cs') } β tip) σ.nt σ.nt σ.lv σ.lv tip tip := by
      refine ⟨fun b i u hok hc => ⟨?_, hok.1, fun d' c h => ?_, hok.2.2⟩, Nat.le_refl _, fun k _ h => ⟨h, rfl⟩⟩
      · have hne : b ≠ β d := fun e => hok.2.1 d cs hd e.symm
        have := setRow_other w (β d) b vs'.toArray hne
        simp only [cz] at hc ⊢
        rw [this]; exact hc
      · obtain ⟨c', h'⟩ := hdom d' c h; exact hok.2.1 d' c' h'
    simp only [Oper.upon_skip, hdd, Act.put]
    refine ⟨β, tip, ⟨?_, ?_, ?_, ?_, hR.lvB, hR.tinj, ?_, hR.size, hR.dfs⟩⟩
    · refine hR.bel.trans ⟨rfl, rfl, rfl, ?_, fun k hk => setRow_other w (β d) k _ (by omega)⟩
      simp [World.setRow]
    · intro d' c h
      simp only [upd] at h
      by_cases e : d' = d
      · subst e
        rw [if_pos rfl] at h; cases h
        exact ⟨hb0, vs', ty, setRow_heap w (β d') vs.toArray vs'.toArray ty (0, 0) hv, RepXs.kept K hx⟩
      · rw [if_neg e] at h
        obtain ⟨h1, us, ty', hu, hr⟩ := hR.hpB d' c h
        exact ⟨h1, us, ty', by rw [setRow_other w (β d) (β d') _ (fun e' => e (hR.inj d' d c cs h hd e'))]; exact hu, RepXs.kept K hr⟩
    · intro d1 d2 c1 c2 h1 h2 he
      obtain ⟨c1', h1'⟩ := hdom d1 c1 h1
      obtain ⟨c2', h2'⟩ := hdom d2 c2 h2
      exact hR.inj d1 d2 _ _ h1' h2' he
    · intro k b p l hk ht
      obtain ⟨h1, h2, arr, ty', h3, h4⟩ := hR.tipB k b p l hk ht
      refine ⟨h1, fun d' c h => ?_, arr, ty', by rw [setRow_other w (β d) b _ (fun e => h2 d cs hd e.symm)]; exact h3, h4⟩
      obtain ⟨c', h'⟩ := hdom d' c h
      exact h2 d' c' h'
    · intro t x hx'
      obtain ⟨v, hv', hr⟩ := hR.tmB t x hx'
      exact ⟨v, hv', RepA.kept K (fun _ _ _ => rfl) hr⟩
end
end Go.Proofs.Ytjbhhdocbejccaa.Bm
