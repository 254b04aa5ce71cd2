/- The abstract machine: every operation. No condition beyond those that each theorem states. -/
import Derived.Test.YtjbhhdocbejccaaBm7
namespace Go.Proofs.Ytjbhhdocbejccaa.Bm
open Go Go.RowKit
set_option linter.unusedVariables false
set_option linter.unusedSimpArgs false

section
variable {P : Program} {w0 : World} {okA : Nat → Nat → Prop} {N : Nat} {σ σ' : St} {a : Act} {w : World} {β : Nat → Nat} {tip : Tip} {eqT : List TypeId} {o : Oper} {Q : Exit → Act → World → Prop} {G : FuncId → Spec}
/-- A call of a function whose contract is known. -/
theorem sound_call (hR : RelB w0 okA N σ a w β tip) (hG : GOK P G) {f : FuncId} {xs : List Operand} {ps : List PV} {r x : AV} (hps : pvs σ xs = some ps) (hr : G f ps = some r) (hx : r.plain = some x)
    (hy : (execOp a.eval o).run P w = .ok (.enter f (xs.map a.eval).toArray) w) (hrun : (Eff.val x).run o.dst σ = some σ') (hdst : ∀ d, o.dst = some d → d < N) : o.wp P a w (fun a' w' => Rel w0 okA N σ' a' w') Q := by
  obtain ⟨_, hc⟩ := hG f ps r hr
  unfold Oper.wp
  rw [hy, Oper.upon_enter]
  refine (hc w (okOf w0 okA σ β tip) _ (pvs_rep hR hps)).mono ?_
  rintro e w' ⟨v, rfl, hb, hv⟩
  simp only [Eff.run, Option.some.injEq] at hrun
  subst hrun
  have hltB : ∀ d cs, σ.hp d = some cs → β d < w.heap.size := fun d cs h => by
    obtain ⟨_, vs, ty, h3, _⟩ := hR.hpB d cs h
    exact (Array.getElem?_eq_some_iff.1 h3).1
  have hltT : ∀ k b p l, σ.lv k = true → tip k = some (b, p, l) → b < w.heap.size := fun k b p l h1 h2 => by
    obtain ⟨_, _, arr, ty, h3, _⟩ := hR.tipB k b p l h1 h2
    exact (Array.getElem?_eq_some_iff.1 h3).1
  have K : Kept w w' (okOf w0 okA σ β tip) (okOf w0 okA σ β tip) σ.nt σ.nt σ.lv σ.lv tip tip := by
    refine ⟨fun b i u hok hc => ⟨?_, hok⟩, Nat.le_refl _, fun k _ h => ⟨h, rfl⟩⟩
    rw [cz_of_block (w := w) (hb.block b (cz_lt w _ hc))]; exact hc
  have hR' : RelB w0 okA N σ a w' β tip := by
    have hs := hR.bel.size
    refine ⟨hR.bel.trans (hb.mono hs), fun d cs h => ?_, hR.inj, fun k b p l h1 h2 => ?_, hR.lvB, hR.tinj, fun t y h => ?_, hR.size, hR.dfs⟩
    · obtain ⟨h1, vs, ty, h2, h3⟩ := hR.hpB d cs h
      exact ⟨h1, vs, ty, by rw [hb.block _ (hltB d cs h)]; exact h2, RepXs.kept K h3⟩
    · obtain ⟨g1, g2, arr, ty, g3, g4⟩ := hR.tipB k b p l h1 h2
      exact ⟨g1, g2, arr, ty, by rw [hb.block _ (hltT k b p l h1 h2)]; exact g3, g4⟩
    · obtain ⟨u, hu, hr⟩ := hR.tmB t y h
      exact ⟨u, hu, RepA.kept K (fun _ _ _ => rfl) hr⟩
  have K2 : Kept w' w' (fun b i => b < w.heap.size → okOf w0 okA σ β tip b i) (okOf w0 okA σ β tip) 0 σ.nt (fun _ => false) σ.lv (fun _ => none) tip := by
    refine ⟨fun b i u hok hc => ⟨hc, ?_⟩, Nat.zero_le _, fun k hk => by omega⟩
    by_cases hbl : b < w.heap.size
    · exact hok hbl
    · have hs := hR.bel.size
      refine ⟨fun h => by omega, fun d cs h e => by have := hltB d cs h; omega, fun k p l h1 h2 => by have := hltT k b p l h1 h2; omega⟩
  have hrx : RepA w' (okOf w0 okA σ β tip) σ.nt σ.lv tip β x v := by
    cases r with
    | c y => cases hx; exact RepX.kept K2 hv
    | agg ys => cases hx; obtain ⟨vs, e, h⟩ := hv; exact ⟨vs, e, RepXs.kept K2 h⟩
    | box d o => cases hx
    | elt A cs => cases hx
    | tup us => cases hx; obtain ⟨vs, e, h⟩ := hv; exact ⟨vs, e, RepCs.mono K2.mem h⟩
    | undef => cases hx
  exact ⟨β, tip, hR'.put o.dst hdst hrx⟩
theorem run_append_room' (w : World) (t ty e e' : TypeId) (i : TypeInfo) (ht : P.underlying t = some (.slice e)) (hi : P.info? e = some i)
    (g sLen sCap : Nat) (cur : Array Value) (hg : w.heap[g]? = some (.cells cur e' (0, 0)))
    (a : Addr) (m c : Nat) (news : List Value) (hl : news.length = m * i.size) (hnews : ∀ j u, news[j]? = some u → w.cell? (a.add j) = some u) (h1 : ∀ u ∈ news, u.oneCell' = true)
    (hroom : sLen + m ≤ sCap) (hfit : sLen * i.size + news.length ≤ cur.size) :
    (Builtin.append_ #[t, t] ty #[.slice (some ⟨g, 0, none⟩) sLen sCap, .slice (some a) m c]).run P w =
      .ok (.slice (some ⟨g, 0, none⟩) (sLen + m) sCap) (w.setRow g (cur.toList.take (sLen * i.size) ++ news ++ cur.toList.drop (sLen * i.size + news.length)).toArray) := by
  have hf := run_firstCells_some (P := P) w i.size m a m c news hl hnews
  have hst := run_storeCells_at P g (sLen * i.size) e' news 0 cur w hg (by simpa using hfit) h1
  simp only [Nat.add_zero] at hst
  simp [Builtin.append_, run_underlying ht, sizeOf, typeInfo, hi, Builtin.lenOf, hroom, hf, Addr.add_lit, hst]
theorem sound_app (hR : RelB w0 okA N σ a w β tip) {s x : Operand} {t e : TypeId} {i : TypeInfo} {z : Value} (ho : o.op = .call { callee := .builtin .append, args := #[s, x], argTypes := #[t, t] })
    (htt : P.underlying t = some (.slice e)) (hi : P.info? e = some i) (hz : i.zero = some z) (hpos : 0 < i.size) (hzs : z.cells.size = i.size)
    {tk : Tok} {szs szx : Nat} {es ex : List (List CV)} {X : XV} (hs : ev σ s = some (.c (.tk tk szs es))) (hx : ev σ x = some (.c X)) (hX : X.forget = .sl szx ex)
    (hsx : szx = i.size ∨ ex = []) (hb : (es.length + ex.length) * i.bytes ≤ 140737488355328) (hm : es.length + ex.length ≤ maxLen) {k : Option Nat}
    (hk : (tk = .tight ∧ k = none ∧ (szs = i.size ∨ es = [])) ∨ ∃ k', tk = .live k' ∧ k = some k' ∧ σ.lv k' = true ∧ szs = i.size)
    (hrun : (Eff.app k i.size (es ++ ex)).run o.dst σ = some σ') (hdst : ∀ d, o.dst = some d → d < N) : o.wp P a w (fun a' w' => Rel w0 okA N σ' a' w') Q := by
  cases hd : o.dst with
  | none => rw [hd] at hrun; cases hrun
  | some d =>
    rw [hd] at hrun
    simp only [Eff.run, Option.some.injEq] at hrun
    have hσ : σ.app d k i.size (es ++ ex) = σ' := hrun
    subst hσ
    have hdN := hdst d hd
    have hS : RepX w (okOf w0 okA σ β tip) σ.nt σ.lv tip (.tk tk szs es) (a.eval s) := (ev_rep hR hs).1
    have hXr : RepC w (okOf w0 okA σ β tip) (.sl szx ex) (a.eval x) := by
      have := RepX.forget (show RepX w (okOf w0 okA σ β tip) σ.nt σ.lv tip X (a.eval x) from (ev_rep hR hx).1)
      rw [hX] at this; exact this
    have hexec : ∀ v' w', (Builtin.append_ #[t, t] o.type #[a.eval s, a.eval x]).run P w = .ok v' w' → (execOp a.eval o).run P w = .ok (.value v') w' := fun v' w' h => by
      unfold execOp
      simp only [ho, resolve, invoke, builtin, Sem.run_bind, Sem.run_pure, Result.andThen_ok, List.map_toArray, List.map_cons, List.map_nil, h]
    have fin : ∀ v' w' T, (Builtin.append_ #[t, t] o.type #[a.eval s, a.eval x]).run P w = .ok v' w' → RelB w0 okA N (σ.app d k i.size (es ++ ex)) (a.put (some d) v') w' β (upd tip σ.nt T) → o.wp P a w (fun a' w' => Rel w0 okA N (σ.app d k i.size (es ++ ex)) a' w') Q := fun v' w' T h1 h2 => by
      unfold Oper.wp
      rw [hexec v' w' h1, Oper.upon_value, hd]
      exact ⟨β, _, h2⟩
    have hsmall : es.length + ex.length ≤ 9223372036854775807 := by simp only [maxLen] at hm; omega
    have hszs : szs = i.size ∨ es = [] := by
      rcases hk with ⟨_, _, h⟩ | ⟨_, _, _, _, h⟩
      · exact h
      · exact .inl h
    by_cases hex : ex = []
    · subst hex
      obtain ⟨A, c, hA, hc⟩ := RepC.slice_ hS.1
      obtain ⟨B, c', hB, hc'⟩ := RepC.slice_ hXr
      obtain ⟨T, hT⟩ := app_zero hR hdN hS hk
      have hr := run_append_zero (P := P) (w := w) (ty := o.type) htt hi A B es.length c c' hc
      rw [← hA] at hr
      simp only [List.length_nil] at hB
      rw [← hB] at hr
      rw [List.append_nil]
      rw [List.append_nil] at fin
      exact fin _ _ T hr hT
    · have hszx : szx = i.size := by rcases hsx with h | h; · exact h
                                     · exact (hex h).elim
      rcases RepC.flat hXr with ⟨_, _, h⟩ | ⟨b', o', c', news, hV, hVc, hVs, hnl, hnc, hnr⟩
      · exact (hex h).elim
      · rw [hszx] at hVs hnl
        have hnews : ∀ j u, news[j]? = some u → w.cell? ((⟨b', o', none⟩ : Addr).add j) = some u := fun j u h => by rw [Addr.add_mid]; exact cz_cell (hnc j u h).1
        have hm0 : 0 < ex.length := List.length_pos_iff.2 hex
        have hS' : RepC w (okOf w0 okA σ β tip) (.sl i.size es) (a.eval s) := RepC.resz hS.1 hszs
        have grow : ∀ A c, a.eval s = .slice A es.length c → c < es.length + ex.length → o.wp P a w (fun a' w' => Rel w0 okA N (σ.app d k i.size (es ++ ex)) a' w') Q := fun A c hA hlt => by
          rcases RepC.flat hS' with ⟨A0, h1, h2⟩ | ⟨b, off, cap, us, h1, hcap, hse, hus, huc, hur⟩
          · subst h2
            cases A0 with
            | some ad =>
              have hr := run_append_grow (P := P) w t o.type e i z htt hi hz ad 0 0 [] (by simp) (fun j u h => by simp at h) ⟨b', o', none⟩ ex.length c' news hnl hnews (by omega) (by omega) (growslice_fits (by omega) (by simpa using hb))
              obtain ⟨T, hT⟩ := app_grown (e := e) (C := grownCap w (0 + ex.length) 0 e) (zs := Builtin.zeroCells z.cells (grownCap w (0 + ex.length) 0 e - (0 + ex.length))) hR hdN (k := k) (es := []) (fun e he => by cases he) hVs (us := []) (by simp) hnl trivial hnr (grownCap_ge w (0 + ex.length) 0 e) (by simp [size_zeroCells, hzs])
              rw [h1, hV] at fin
              exact fin _ _ T hr hT
            | none =>
            have hr := run_append_nil (P := P) w t o.type e i z htt hi hz ⟨b', o', none⟩ ex.length c' news hnl hnews hm0 (by simp at hsmall; omega) (by simp at hb; omega)
            obtain ⟨T, hT⟩ := app_grown (e := e) (C := grownCap w ex.length 0 e) (zs := Builtin.zeroCells z.cells (grownCap w ex.length 0 e - ex.length)) hR hdN (k := k) (es := []) (fun e he => by cases he) hVs (us := []) (by simp) hnl trivial hnr (by simpa using grownCap_ge w ex.length 0 e) (by simp [size_zeroCells, hzs])
            rw [h1, hV] at fin
            simp only [List.length_nil, Nat.zero_add, Array.empty_append] at hT
            exact fin _ _ T hr hT
          · have hcc : c = cap := by rw [hA] at h1; cases h1; rfl
            subst hcc
            have holds : ∀ j u, us[j]? = some u → w.cell? ((⟨b, off, none⟩ : Addr).add j) = some u := fun j u h => by rw [Addr.add_mid]; exact cz_cell (huc j u h).1
            have hr := run_append_grow (P := P) w t o.type e i z htt hi hz ⟨b, off, none⟩ es.length c us hus holds ⟨b', o', none⟩ ex.length c' news hnl hnews hlt (by omega) (growslice_fits hlt hb)
            obtain ⟨T, hT⟩ := app_grown (e := e) (C := grownCap w (es.length + ex.length) c e) (zs := Builtin.zeroCells z.cells (grownCap w (es.length + ex.length) c e - (es.length + ex.length))) hR hdN (k := k) hse hVs hus hnl hur hnr (grownCap_ge w (es.length + ex.length) c e) (by simp [size_zeroCells, hzs])
            rw [h1, hV] at fin
            exact fin _ _ T hr hT
        have tight : ∀ A, a.eval s = .slice A es.length es.length → o.wp P a w (fun a' w' => Rel w0 okA N (σ.app d k i.size (es ++ ex)) a' w') Q := fun A hA => grow A _ hA (by omega)
        rcases hk with ⟨rfl, rfl, _⟩ | ⟨k', rfl, rfl, hlv, rfl⟩
        · obtain ⟨A, hA⟩ := hS.2
          exact tight A hA
        · have hT := hS.2.2 hlv
          cases htip : tip k' with
          | none => rw [htip] at hT; obtain ⟨A, hA⟩ := hT; exact tight A hA
          | some bpl =>
            obtain ⟨b, p, l⟩ := bpl
            rw [htip] at hT
            obtain ⟨cap, hA, hp, hl⟩ := hT
            by_cases hroom : es.length + ex.length ≤ cap
            · obtain ⟨_, _, arr, ty', hblk, hla⟩ := hR.tipB k' b p l hlv htip
              have hS2 := hS'
              rw [hA] at hS2
              obtain ⟨T, hTT⟩ := app_room hR hdN hlv htip hp hl hblk hla hS2 hVs hnl hnr hroom
              have hfit : es.length * i.size + news.length ≤ arr.size := by
                rw [hnl, ← Nat.add_mul]; exact Nat.le_trans (Nat.mul_le_mul_right _ hroom) (by omega)
              have hr := run_append_room' (P := P) w t o.type e ty' i htt hi b es.length cap arr hblk ⟨b', o', none⟩ ex.length c' news hnl hnews (RepCs.one hnr) hroom hfit
              rw [hA, hV] at fin
              exact fin _ _ T hr hTT
            · exact grow _ cap hA (by omega)
end
end Go.Proofs.Ytjbhhdocbejccaa.Bm
