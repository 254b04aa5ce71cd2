/- The abstract machine: every operation. No condition beyond those that each theorem states. -/
import Derived.Test.YtjbhhdocbejccaaBm8
namespace Go.Proofs.Ytjbhhdocbejccaa.Bm
open Go Go.RowKit
set_option linter.unusedVariables false
set_option linter.unusedSimpArgs false

section
variable {P : Program} {w0 : World} {okA : Nat → Nat → Prop} {N : Nat} {σ σ' : St} {a : Act} {w : World} {β : Nat → Nat} {tip : Tip} {eqT : List TypeId} {o : Oper} {Q : Exit → Act → World → Prop} {G : FuncId → Spec}
theorem xi_agg {xs : List XV} {us : List Pr} (hR : RelB w0 okA N σ a w β tip) {x : Operand} (hx : ev σ x = some (.agg xs)) (hu : xints xs = some us) : a.eval x = .agg (us.map Pr.val).toArray := by
  obtain ⟨vs, h, hr⟩ := (ev_rep hR hx).1
  rw [h, xints_rep hu hr]
theorem adr_tag {A : Option (Nat × Nat)} {b off k : Nat} (h : ∀ p, A = some p → p = (b, off)) : ∀ p, (A.map fun p => (p.1, p.2 + k)) = some p → p = (b, off + k) := fun p hp => by
  cases A with
  | none => cases hp
  | some q => cases hp; rw [h q rfl]
theorem RepCs.take {ok : Nat → Nat → Prop} : ∀ (n : Nat) {xs : List CV} {vs : List Value}, RepCs w ok xs vs → RepCs w ok (xs.take n) (vs.take n)
  | 0, _, _, _ => by simp [RepCs]
  | n + 1, [], [], _ => by simp [RepCs]
  | n + 1, _ :: _, _ :: _, h => ⟨h.1, RepCs.take n h.2⟩
  | _ + 1, [], _ :: _, h => h.elim
  | _ + 1, _ :: _, [], h => h.elim
theorem flatten_take {sz : Nat} : ∀ {es : List (List CV)} {n : Nat}, (∀ e ∈ es, e.length = sz) → n ≤ es.length → (es.take n).flatten = es.flatten.take (n * sz)
  | _, 0, _, _ => by simp
  | [], n + 1, _, h => by simp at h
  | e :: es, n + 1, hs, h => by
    have he : e.length = sz := hs e (by simp)
    have ih := flatten_take (sz := sz) (es := es) (n := n) (fun x hx => hs x (by simp [hx])) (by simpa using h)
    have hsz : sz ≤ (n + 1) * sz := by rw [Nat.add_mul]; omega
    have h2 : (n + 1) * sz - sz = n * sz := by rw [Nat.add_mul]; omega
    simp only [List.take_succ_cons, List.flatten_cons, ih]
    rw [List.take_append, he, h2, List.take_of_length_le (l := e) (by omega)]
theorem run_part (t : TypeId) (o : Nat) (i : TypeInfo) (d : TypeDesc) (hi : P.info? t = some i) (hu : P.underlying t = some d)
    (hs : d.isRow = true ∨ i.size = 1) (vs : List Value) (hn : i.size ≤ (vs.drop o).length) :
    ∃ u, (part t vs.toArray o).run P w = .ok u w ∧ (d.isRow = true → u = .agg ((vs.drop o).take i.size).toArray) ∧ (d.isRow = false → (vs.drop o)[0]? = some u) := by
  cases hd : d.isRow with
  | true =>
    have hagg : (isAgg t).run P w = .ok true w := by
      unfold isAgg
      rw [Sem.run_bind, run_underlying hu w]
      cases d <;> simp_all
    refine ⟨_, by simp [part, Sem.run_bind, hagg, sizeOf, typeInfo, hi]; rfl, fun _ => ?_, fun h => by cases h⟩
    simp [List.extract_eq_take_drop, List.drop_take]
  | false =>
    have h1 : i.size = 1 := by rcases hs with h | h; · rw [hd] at h; cases h
                               · exact h
    have hagg : (isAgg t).run P w = .ok false w := by
      unfold isAgg
      rw [Sem.run_bind, run_underlying hu w]
      cases d <;> simp_all
    have hl : o < vs.length := by simp at hn; omega
    refine ⟨vs[o], by simp [part, Sem.run_bind, hagg, hl], (fun h => by cases h), fun _ => by simp [hl]⟩
theorem sound_op0 {bs : List (Nat × Nat)} (hR : RelB w0 okA N σ a w β tip) (hG : GOK P G) (hE : ∀ t ∈ eqT, EqOk P t) {m : MO} {e : Eff} (ht : trOp0 P eqT bs o = some m) (hth : think G σ m = some e)
    (hrun : e.run o.dst σ = some σ') (hdst : ∀ d, o.dst = some d → d < N) : o.wp P a w (fun a' w' => Rel w0 okA N σ' a' w') Q := by
  unfold trOp0 at ht
  split at ht
  · rename_i x ho
    cases ht
    simp only [think, Option.map_eq_some_iff] at hth
    obtain ⟨v, hv, rfl⟩ := hth
    exact sound_val hR (ev_rep hR hv).1 (by unfold Yields execOp; simp only [ho]; rfl) hrun hdst
  · rename_i x ho
    cases ht
    simp only [think, Option.map_eq_some_iff] at hth
    obtain ⟨v, hv, rfl⟩ := hth
    exact sound_val hR (ev_rep hR hv).1 (by unfold Yields execOp; simp only [ho]; rfl) hrun hdst
  · rename_i c x y ho
    cases ht
    simp only [think] at hth
    split at hth
    · rename_i t hc
      have hb := ev_bool hR hc
      by_cases htt : t = true
      · rw [if_pos htt] at hth
        simp only [Option.map_eq_some_iff] at hth
        obtain ⟨v, hv, rfl⟩ := hth
        exact sound_val hR (ev_rep hR hv).1 (by unfold Yields execOp; simp only [ho, hb]; simp [asBool, htt]) hrun hdst
      · rw [if_neg htt] at hth
        simp only [Option.map_eq_some_iff] at hth
        obtain ⟨v, hv, rfl⟩ := hth
        exact sound_val hR (ev_rep hR hv).1 (by unfold Yields execOp; simp only [ho, hb]; simp [asBool, htt]) hrun hdst
    · cases hth
  · rename_i t x ho
    cases ht
    simp only [think, Option.map_eq_some_iff, Option.bind_eq_some_iff] at hth
    obtain ⟨cs, ⟨v, hv, hcs⟩, rfl⟩ := hth
    refine sound_mk hR (RepA.cells (ev_rep hR hv).1 hcs) (ty := t) ?_ hrun hdst
    unfold execOp
    simp only [ho]
    simp [Instr.box, newVar, newRow]
  · rename_i t ho
    split at ht
    · rename_i i hi
      split at ht
      · rename_i z hz
        simp only [Option.map_eq_some_iff] at ht
        obtain ⟨xs, hxs, rfl⟩ := ht
        cases hth
        refine sound_mk hR (zxs_rep _ _ _ hxs) (ty := t) ?_ hrun hdst
        unfold execOp
        simp only [ho]
        simp [Instr.alloc, zeroValue, typeInfo, hi, hz, newVar, newRow]
      · cases ht
    · cases ht
  · rename_i t x ho
    split at ht
    · rename_i i d hi hu
      split at ht
      · rename_i hs
        cases ht
        simp only [think] at hth
        split at hth
        · rename_i db off hx
          split at hth
          case isFalse => cases hth
          split at hth
          · rename_i cs hcs
            obtain ⟨hp, _⟩ := ev_box hR hx
            obtain ⟨_, vs, ty, hv, hr⟩ := hR.hpB db cs hcs
            have hr' := RepXs.drop off hr
            have hl := RepXs.length hr'
            have hlen : i.size ≤ (vs.drop off).length := by
              unfold ldX at hth
              split at hth
              · rw [hl]; assumption
              · cases hth
            obtain ⟨u, hu1, hu2, hu3⟩ := run_load (P := P) (w := w) t i d hi hu hs (β db) off (vs.drop off) (fun j u hj => by rw [cell_of_blk hv]; rw [List.getElem?_drop] at hj; exact hj) hlen
            obtain ⟨x', rfl, hx', _⟩ := ldX_rep (β := β) hth hr' hu2 hu3
            refine sound_val hR hx' ?_ hrun hdst
            unfold Yields execOp
            simp only [ho, hp]
            simp [hu1]
          · cases hth
        · rename_i A cs hx
          obtain ⟨b, off, vs, hp, hA, hc, hr⟩ := (ev_rep hR hx).1
          have hr' : RepXs w (okOf w0 okA σ β tip) σ.nt σ.lv tip (cs.map XV.p) vs := RepXs.p hr
          have hl := RepXs.length hr'
          have hlen : i.size ≤ vs.length := by
            unfold ldX at hth
            split at hth
            · rw [hl]; assumption
            · cases hth
          obtain ⟨u, hu1, hu2, hu3⟩ := run_load (P := P) (w := w) t i d hi hu hs b off vs (fun j u hj => cz_cell (hc j u hj).1) hlen
          obtain ⟨x', rfl, hx', _⟩ := ldX_rep (β := β) hth hr' hu2 hu3
          refine sound_val hR hx' ?_ hrun hdst
          unfold Yields execOp
          simp only [ho, hp]
          simp [hu1]
        · cases hth
      · cases ht
    · cases ht
  · rename_i t x y ho
    split at ht
    · rename_i i hi
      cases ht
      simp only [think] at hth
      split at hth
      · rename_i db off hx
        split at hth
        case isFalse => cases hth
        split at hth
        · rename_i cs xs hcs hxs
          split at hth
          · rename_i hc
            cases hth
            simp only [Option.bind_eq_some_iff] at hxs
            obtain ⟨v, hv, hvc⟩ := hxs
            obtain ⟨hp, _⟩ := ev_box hR hx
            obtain ⟨_, vs, ty, hblk, hr⟩ := hR.hpB db cs hcs
            have hcr := RepA.cells (ev_rep hR hv).1 hvc
            have hl := RepXs.length hcr
            have hlv := RepXs.length hr
            refine sound_st hR hcs hblk (RepXs.append (RepXs.append (RepXs.take off hr) hcr) (RepXs.drop (off + i.size) hr)) ?_ hrun
            have hst := run_storeCells_at P (β db) off ty (a.eval y).cells.toList 0 vs.toArray w hblk (by simp [hlv]; have := hl; simp at this; omega) (RepXs.one hcr)
            have hsz : (a.eval y).cells.size = i.size := by rw [← Array.length_toList, hl]; exact hc.1
            unfold execOp
            simp only [ho, hp]
            simp only [Array.length_toList] at hl
            simp only [Nat.add_zero, List.toList_toArray, Array.length_toList] at hst
            simp [Instr.storeAt, Instr.sureAddr, storeVar, sizeOf, typeInfo, hi, hsz, hst]
          · cases hth
        · cases hth
      · cases hth
    · cases ht
  · rename_i s x f ho
    split at ht
    · rename_i fs hs
      split at ht
      · rename_i fd hf
        split at ht
        · rename_i i hi
          split at ht
          · cases ht
          · rename_i hne
            cases ht
            have hrun' : ∀ b off, (Instr.fieldAt s (.pointer (some ⟨b, off, none⟩)) f).run P w = .ok (.pointer (some ⟨b, off + fd.offset, none⟩)) w := fun b off => by
              simp [Instr.fieldAt, run_underlying hs, hf, Instr.sureAddr, fieldPlace, sizeOf, typeInfo, hi, hne, Addr.add_mid]
            simp only [think] at hth
            split at hth
            · rename_i db off hx
              cases hth
              obtain ⟨hp, _⟩ := ev_box hR hx
              refine sound_val hR (x := .box db (off + fd.offset)) (u := .pointer (some ⟨β db, off + fd.offset, none⟩)) rfl ?_ hrun hdst
              unfold Yields execOp
              simp only [ho, hp]
              simp [hrun']
            · rename_i A cs hx
              cases hth
              obtain ⟨b, off, vs, hp, hA, hc, hr⟩ := (ev_rep hR hx).1
              refine sound_val hR (x := .elt (A.map fun p => (p.1, p.2 + fd.offset)) (cs.drop fd.offset)) (u := .pointer (some ⟨b, off + fd.offset, none⟩)) ⟨b, off + fd.offset, vs.drop fd.offset, rfl, adr_tag hA, fun j u hj => ?_, RepCs.drop _ hr⟩ ?_ hrun hdst
              · rw [List.getElem?_drop] at hj; rw [Nat.add_assoc]; exact hc _ u hj
              · unfold Yields execOp
                simp only [ho, hp]
                simp [hrun']
            · cases hth
        · cases ht
      · cases ht
    · cases ht
  · rename_i t x ix ho
    split at ht
    · rename_i el hs
      split at ht
      · rename_i i hi
        cases ht
        simp only [think] at hth
        split at hth
        · rename_i X k n hx hn
          split at hth
          · rename_i sz' es hX
            split at hth
            · rename_i hc
              obtain ⟨rfl, hn0⟩ := hc
              simp only [Option.map_eq_some_iff] at hth
              obtain ⟨el', he, rfl⟩ := hth
              have hni := ev_int hR hn
              have hrc : RepC w (okOf w0 okA σ β tip) (.sl i.size es) (a.eval x) := by
                have := RepX.forget (show RepX w (okOf w0 okA σ β tip) σ.nt σ.lv tip X (a.eval x) from (ev_rep hR hx).1)
                rw [hX] at this; exact this
              have hlt : n.toNat < es.length := (List.getElem?_eq_some_iff.1 he).1
              generalize hv : a.eval x = v at hrc
              cases hrc with
              | nil => simp at hlt
              | sl sz es b off cap f hcap hsz hcell hrep =>
                have hel : el'.length = i.size := hsz el' (List.mem_of_getElem? he)
                refine sound_val hR (x := .elt none el') (u := .pointer (some ⟨b, off + n.toNat * i.size, none⟩)) ⟨b, off + n.toNat * i.size, (List.range i.size).map (f n.toNat), rfl, (fun p h => by cases h), fun j u hj => ?_, ?_⟩ ?_ hrun hdst
                · have hjl : j < i.size := by have := (List.getElem?_eq_some_iff.1 hj).1; simpa using this
                  simp only [List.getElem?_map, List.getElem?_range hjl, Option.map_some, Option.some.injEq] at hj
                  subst hj
                  exact hcell _ _ hlt hjl
                · refine RepCs.of_get (by simp [hel]) fun j c u hjc hju => ?_
                  have hjl : j < i.size := by rw [← hel]; exact (List.getElem?_eq_some_iff.1 hjc).1
                  simp only [List.getElem?_map, List.getElem?_range hjl, Option.map_some, Option.some.injEq] at hju
                  subst hju
                  exact hrep _ _ _ _ he hjc
                · unfold Yields execOp
                  simp only [ho, hv, hni]
                  simp [Instr.indexAt, asIntOf, run_underlying hs, sizeOf, typeInfo, hi, hn0, Addr.add_mid, show n < (es.length : Int) by omega]
            · cases hth
          · cases hth
        · cases hth
      · cases ht
    · rename_i len el hs
      split at ht
      · rename_i i hi
        cases ht
        simp only [think] at hth
        split at hth
        · rename_i db off k n hx hn
          split at hth
          · rename_i hc
            cases hth
            obtain ⟨hp, _⟩ := ev_box hR hx
            have hni := ev_int hR hn
            refine sound_val hR (x := .box db (off + n.toNat * i.size)) (u := .pointer (some ⟨β db, off + n.toNat * i.size, none⟩)) rfl ?_ hrun hdst
            unfold Yields execOp
            simp only [ho, hp, hni]
            simp [Instr.indexAt, asIntOf, run_underlying hs, Instr.sureAddr, sizeOf, typeInfo, hi, hc.1, hc.2, Addr.add_mid]
          · cases hth
        · rename_i A cs k n hx hn
          split at hth
          · rename_i hc
            cases hth
            obtain ⟨b, off, vs, hp, hA, hcc, hr⟩ := (ev_rep hR hx).1
            have hni := ev_int hR hn
            refine sound_val hR (x := .elt none (cs.drop (n.toNat * i.size))) (u := .pointer (some ⟨b, off + n.toNat * i.size, none⟩)) ⟨b, off + n.toNat * i.size, vs.drop (n.toNat * i.size), rfl, (fun p h => by cases h), fun j u hj => ?_, RepCs.drop _ hr⟩ ?_ hrun hdst
            · rw [List.getElem?_drop] at hj; rw [Nat.add_assoc]; exact hcc _ u hj
            · unfold Yields execOp
              simp only [ho, hp, hni]
              simp [Instr.indexAt, asIntOf, run_underlying hs, Instr.sureAddr, sizeOf, typeInfo, hi, hc.1, hc.2, Addr.add_mid]
          · cases hth
        · cases hth
      · cases ht
    · cases ht
  · rename_i t ps ho
    split at ht
    · rename_i i hi
      split at ht
      · rename_i zv hz
        split at ht
        · rename_i z hzx
          split at ht
          · rename_i fs hs
            split at ht
            · rename_i hall
              simp only [Option.map_eq_some_iff] at ht
              obtain ⟨qs, hqs, rfl⟩ := ht
              simp only [think, Option.map_eq_some_iff] at hth
              obtain ⟨cs, hcs, rfl⟩ := hth
              obtain ⟨us, hu, hru⟩ := fill_rep hR hqs hcs (zxs_rep _ _ _ hzx)
              refine sound_val hR (x := .agg cs) (u := .agg us.toArray) ⟨us, rfl, hru⟩ ?_ hrun hdst
              have hpl : ∃ pl : Array (Nat × Nat), (fs.mapM fun (f : Field) => (do pure (f.offset, ← sizeOf f.type) : Sem (Nat × Nat))).run P w = .ok pl w ∧ ∀ i : Nat, pl[i]? = fieldPl P fs i := by
                have key : ∀ (l : List Field), (∀ f ∈ l, (P.info? f.type).isSome = true) → ∃ pl : List (Nat × Nat), (l.mapM fun (f : Field) => (do pure (f.offset, ← sizeOf f.type) : Sem (Nat × Nat))).run P w = .ok pl w ∧ ∀ i : Nat, pl[i]? = (match l[i]? with
                    | some f => match P.info? f.type with
                      | some j => some (f.offset, j.size)
                      | none => none
                    | none => none) := by
                  intro l
                  induction l with
                  | nil => intro _; exact ⟨[], by simp, fun i => by simp⟩
                  | cons f l ih =>
                    intro hl
                    obtain ⟨j, hj⟩ := Option.isSome_iff_exists.1 (hl f (by simp))
                    obtain ⟨pl, h1, h2⟩ := ih (fun g hg => hl g (by simp [hg]))
                    refine ⟨(f.offset, j.size) :: pl, ?_, fun i => ?_⟩
                    · rw [List.mapM_cons]
                      simp [sizeOf, typeInfo, hj]
                      simp [sizeOf, typeInfo] at h1
                      simp [h1]
                    · cases i with
                      | zero => simp [hj]
                      | succ i => simpa using h2 i
                obtain ⟨pl, h1, h2⟩ := key fs.toList (fun f hf => List.all_eq_true.1 hall f hf)
                refine ⟨pl.toArray, ?_, fun i => ?_⟩
                · rw [Array.mapM_eq_mapM_toList]
                  simp only [Sem.run_map, h1]; rfl
                · simp only [List.getElem?_toArray, h2 i, fieldPl, Array.getElem?_toList]
                  cases fs[i]? <;> rfl
              obtain ⟨pl, hpl1, hpl2⟩ := hpl
              have hfun : (fun i => pl[i]?) = fieldPl P fs := funext hpl2
              unfold Yields execOp
              simp only [ho, Instr.build]
              simp only [Sem.run_bind, zeroValue, typeInfo, run_program, Result.andThen_ok, hi, hz, Sem.run_pure, run_underlying hs, hpl1, hfun]
              have hmap : (Array.map (fun x : Nat × Operand => (x.1, a.eval x.2)) ps).toList = ps.toList.map fun (i, x) => (i, a.eval x) := by simp
              simp only [hmap]
              rw [show zv.cells = zv.cells.toList.toArray by simp]
              simp [hu]
            · cases ht
          · rename_i len el hs
            split at ht
            · rename_i j hj
              simp only [Option.map_eq_some_iff] at ht
              obtain ⟨qs, hqs, rfl⟩ := ht
              simp only [think, Option.map_eq_some_iff] at hth
              obtain ⟨cs, hcs, rfl⟩ := hth
              obtain ⟨us, hu, hru⟩ := fill_rep hR hqs hcs (zxs_rep _ _ _ hzx)
              refine sound_val hR (x := .agg cs) (u := .agg us.toArray) ⟨us, rfl, hru⟩ ?_ hrun hdst
              unfold Yields execOp
              simp only [ho, Instr.build]
              simp only [Sem.run_bind, zeroValue, typeInfo, run_program, Result.andThen_ok, hi, hz, Sem.run_pure, run_underlying hs, sizeOf, hj]
              have hmap : (Array.map (fun x : Nat × Operand => (x.1, a.eval x.2)) ps).toList = ps.toList.map fun (i, x) => (i, a.eval x) := by simp
              simp only [hmap]
              rw [show zv.cells = zv.cells.toList.toArray by simp]
              simp [hu]
            · cases ht
          · cases ht
        · cases ht
      · cases ht
    · cases ht
  · rename_i t n ps ho
    split at ht
    · rename_i el hs
      split at ht
      · rename_i i hi
        split at ht
        · rename_i zv hz
          split at ht
          · rename_i hc
            obtain ⟨hc1, hc3⟩ := hc
            split at ht
            · rename_i z hzx
              simp only [Option.map_eq_some_iff] at ht
              obtain ⟨qs, hqs, rfl⟩ := ht
              simp only [think, Option.map_eq_some_iff] at hth
              obtain ⟨cs, hcs, rfl⟩ := hth
              have hz0 := zxs_rep (w := w) (tip := tip) (okOf w0 okA σ β tip) σ.nt σ.lv hzx
              obtain ⟨us, hu, hru⟩ := fill_rep hR hqs hcs hz0
              have hlz := RepXs.length hz0
              have hfl : ∀ {ps : List (Nat × Nat × Operand)} {z cs : List XV}, fillX σ ps z = some cs → cs.length = z.length := by
                intro ps
                induction ps with
                | nil => intro z cs h; cases h; rfl
                | cons q ps ih =>
                  intro z cs h
                  obtain ⟨off, m, x⟩ := q
                  simp only [fillX] at h
                  split at h
                  · split at h
                    · rename_i xs _ hcc
                      rw [ih h]; simp; omega
                    · cases h
                  · cases h
              have hlen : us.length = n * i.size := by rw [RepXs.length hru, hfl hcs, ← hlz]; simp
              have hnew : (w.alloc (.cells us.toArray el)).heap[w.heap.size]? = some (.cells us.toArray el (0, 0)) := heap_push w _
              have hold : ∀ b, b < w.heap.size → (w.alloc (.cells us.toArray el)).heap[b]? = w.heap[b]? := fun b hb => Below.heap_alloc w _ b hb
              have hsz := hR.bel.size
              have htipne : ∀ k' p l, σ.lv k' = true → tip k' ≠ some (w.heap.size, p, l) := fun k' p l h1 h2 => by
                obtain ⟨_, _, arr, ty, h3, _⟩ := hR.tipB k' _ p l h1 h2
                have := (Array.getElem?_eq_some_iff.1 h3).1; omega
              have hboxne : ∀ d cs, σ.hp d = some cs → β d ≠ w.heap.size := fun d cs h1 h2 => by
                obtain ⟨_, vs, ty, h3, _⟩ := hR.hpB d cs h1
                rw [h2] at h3; have := (Array.getElem?_eq_some_iff.1 h3).1; omega
              have K : Kept w (w.alloc (.cells us.toArray el)) (okOf w0 okA σ β tip) (okOf w0 okA σ β tip) σ.nt σ.nt σ.lv σ.lv tip tip :=
                ⟨fun b i u hok hcc => ⟨by rw [cz_of_block (w := w) (hold b (cz_lt w _ hcc))]; exact hcc, hok⟩, Nat.le_refl _, fun k _ h => ⟨h, rfl⟩⟩
              have hR' : RelB w0 okA N σ a (w.alloc (.cells us.toArray el)) β tip := by
                refine ⟨hR.bel.alloc hsz _, fun d cs h => ?_, hR.inj, fun k b p l h1 h2 => ?_, hR.lvB, hR.tinj, fun t y h => ?_, hR.size, hR.dfs⟩
                · obtain ⟨h1, vs, ty, h2, h3⟩ := hR.hpB d cs h
                  exact ⟨h1, vs, ty, by rw [hold _ (Array.getElem?_eq_some_iff.1 h2).1]; exact h2, RepXs.kept K h3⟩
                · obtain ⟨g1, g2, arr, ty, g3, g4⟩ := hR.tipB k b p l h1 h2
                  exact ⟨g1, g2, arr, ty, by rw [hold _ (Array.getElem?_eq_some_iff.1 g3).1]; exact g3, g4⟩
                · obtain ⟨u, hu, hr⟩ := hR.tmB t y h
                  exact ⟨u, hu, RepA.kept K (fun _ _ _ => rfl) hr⟩
              have hch : ∀ (m : Nat) (ys : List CV), ys.length = m * i.size → (chunks i.size m ys).length = m ∧ (∀ e ∈ chunks i.size m ys, e.length = i.size) ∧ (chunks i.size m ys).flatten = ys := by
                intro m
                induction m with
                | zero => intro ys h; exact ⟨rfl, (fun e he => by cases he), by simp at h; subst h; rfl⟩
                | succ m ih =>
                  intro ys h
                  have h' : (ys.drop i.size).length = m * i.size := by simp [h, Nat.add_mul]
                  obtain ⟨i1, i2, i3⟩ := ih _ h'
                  refine ⟨by simp [chunks, i1], fun e he => ?_, by simp [chunks, i3]⟩
                  simp only [chunks, List.mem_cons] at he
                  rcases he with rfl | he
                  · simp [h, Nat.add_mul]
                  · exact i2 e he
              have hcsl : (cs.map XV.forget).length = n * i.size := by simp [hfl hcs, ← hlz]
              obtain ⟨c1, c2, c3⟩ := hch n (cs.map XV.forget) hcsl
              have hrep : RepC (w.alloc (.cells us.toArray el)) (okOf w0 okA σ β tip) (.sl i.size (chunks i.size n (cs.map XV.forget))) (.slice (some ⟨w.heap.size, 0, none⟩) (chunks i.size n (cs.map XV.forget)).length n) := by
                refine RepC.unflat (us := us) (by rw [c1]; exact Nat.le_refl _) c2 (by rw [c1]; exact hlen) (fun j u hj => ⟨?_, fun h => by omega, hboxne, fun k p l h1 h2 => (htipne k p l h1 h2).elim⟩) (by rw [c3]; exact RepXs.forget (RepXs.kept K hru))
                rw [Nat.zero_add, cz_of_blk hnew]; exact hj
              rw [c1] at hrep
              unfold Oper.wp
              have hex : (execOp a.eval o).run P w = .ok (.value (.slice (some ⟨w.heap.size, 0, none⟩) n n)) (w.alloc (.cells us.toArray el)) := by
                unfold execOp
                have hmap : (Array.map (fun x : Nat × Operand => (x.1, a.eval x.2)) ps).toList = ps.toList.map fun (i, x) => (i, a.eval x) := by simp
                simp only [ho, Instr.buildSlice]
                rw [Array.toArray_toList] at hu
                by_cases hc2 : 0 < n
                · simp only [Sem.run_bind, run_underlying hs, Result.andThen_ok, sizeOf, zeroValue, typeInfo, run_program, hi, hz, Sem.run_pure, Sem.run_ite, if_neg (show ¬ n * i.size > 2 ^ 24 by omega), if_neg (show ¬ n * i.size = 0 by have := Nat.mul_pos hc2 hc1; omega), hmap]
                  simp [hu, newRow]
                · have hn0 : n = 0 := by omega
                  subst hn0
                  have hr0 : Array.range 0 = #[] := rfl
                  simp only [Nat.zero_mul, hr0, Array.map_empty] at hu
                  simp only [Sem.run_bind, run_underlying hs, Result.andThen_ok, sizeOf, zeroValue, typeInfo, run_program, hi, hz, Sem.run_pure, Sem.run_ite, Nat.zero_mul, if_neg (show ¬ 0 > 2 ^ 24 by omega), if_pos rfl, hmap, hr0, Array.map_empty]
                  simp [hu, newRow]
              rw [hex, Oper.upon_value]
              simp only [Eff.run, Option.some.injEq] at hrun
              subst hrun
              refine ⟨β, tip, hR'.put o.dst hdst ⟨hrep, ⟨some ⟨w.heap.size, 0, none⟩, by rw [c1]⟩⟩⟩
            · cases ht
          · cases ht
        · cases ht
      · cases ht
    · cases ht
  · rename_i op t x y yt ho
    split at ht
    · rename_i k0 hs
      cases ht
      simp only [think] at hth
      split at hth
      · rename_i k n k' n' hx hy
        split at hth
        · rename_i hkk
          subst hkk
          simp only [Option.map_eq_some_iff] at hth
          obtain ⟨c, hc, rfl⟩ := hth
          have hxi := ev_int hR hx
          have hyi := ev_int hR hy
          have hv : ∃ u, RepC w (okOf w0 okA σ β tip) c u ∧ ((do eqGuard op t x y (.int k n) (.int k n'); binOp op t (.int k n) (.int k n')) : Sem Value).run P w = .ok u w := by
            cases op <;> simp only [binV] at hc <;> first
              | (cases hc; refine ⟨_, by constructor, ?_⟩; simp [eqGuard, binOp, Op.intArith, Op.intCmp, Op.intBits]; done)
              | (split at hc
                 · cases hc
                 · rename_i hne; cases hc; refine ⟨_, by constructor, ?_⟩; simp [eqGuard, binOp, Op.intDiv, hne])
              | cases hc
          obtain ⟨u, hu, hrunv⟩ := hv
          refine sound_val hR (x := .c (.p c)) (u := u) hu ?_ hrun hdst
          unfold Yields execOp
          simp only [ho, hxi, hyi]
          rw [Sem.run_bind, hrunv]; rfl
        · cases hth
      · cases hth
    · rename_i hs
      have key : ∀ neg, (op = .eql ∧ neg = false ∨ op = .neq ∧ neg = true) → think G σ (.eqb neg x y) = some e → o.wp P a w (fun a' w' => Rel w0 okA N σ' a' w') Q := by
        intro neg hop hth
        simp only [think] at hth
        split at hth
        · rename_i b1 b2 hx hy
          cases hth
          have hxi := ev_bool hR hx
          have hyi := ev_bool hR hy
          refine sound_val hR (x := .c (.p (.bool (if neg then !(b1 == b2) else b1 == b2)))) (u := .bool (if neg then !(b1 == b2) else b1 == b2)) (RepC.bool _) ?_ hrun hdst
          unfold Yields execOp
          simp only [ho, hxi, hyi]
          rcases hop with ⟨rfl, rfl⟩ | ⟨rfl, rfl⟩
          · simp [eqGuard, run_eql_bool w t b1 b2 hs]
          · simp [eqGuard, run_neq_bool w t b1 b2 hs]
        · cases hth
      split at ht
      · cases ht; exact key false (.inl ⟨rfl, rfl⟩) hth
      · cases ht; exact key true (.inr ⟨rfl, rfl⟩) hth
      · cases ht
    · rename_i fs hs
      split at ht
      · rename_i hmem
        have key : ∀ sh, shT P 8 t = some sh → ∀ neg, (op = .eql ∧ neg = false ∨ op = .neq ∧ neg = true) → think G σ (.eqa sh neg x y) = some e → o.wp P a w (fun a' w' => Rel w0 okA N σ' a' w') Q := by
          intro sh hsh neg hop hth
          simp only [think] at hth
          split at hth
          · rename_i xa ya hx hy
            split at hth
            · rename_i u v hu hv
              have hxi := xi_agg hR hx hu
              have hyi := xi_agg hR hy hv
              split at hth
              · rename_i hl
                cases hth
                have hq := hE t hmem sh hsh ⟨_, hs⟩ op x y u v w hl.1 hl.2 (hop.elim (fun h => .inl h.1) (fun h => .inr h.1))
                refine sound_val hR (x := .c (.p (.bool (if neg then !(prsEq u v) else prsEq u v)))) (u := .bool (if neg then !(prsEq u v) else prsEq u v)) (RepC.bool _) ?_ hrun hdst
                unfold Yields execOp
                simp only [ho, hxi, hyi]
                rw [Sem.run_bind, hq]
                rcases hop with ⟨rfl, rfl⟩ | ⟨rfl, rfl⟩ <;> rfl
              · cases hth
            · cases hth
          · cases hth
        split at ht
        · rename_i sh hsh
          split at ht
          · cases ht; exact key sh hsh false (.inl ⟨rfl, rfl⟩) hth
          · cases ht; exact key sh hsh true (.inr ⟨rfl, rfl⟩) hth
          · cases ht
        · cases ht
      · cases ht
    · cases ht
  · rename_i op t x ho
    cases ht
    simp only [think] at hth
    split at hth
    · rename_i k n hx
      cases hth
      have hxi := ev_int hR hx
      exact sound_val hR (x := .c (.p (.int k (k.wrap (0 - n))))) (u := .int k (k.wrap (0 - n))) (RepC.int _ _) (by unfold Yields execOp; simp only [ho, hxi]; simp [Op.unary, Op.intArith]) hrun hdst
    · rename_i b hx
      cases hth
      have hxi := ev_bool hR hx
      exact sound_val hR (x := .c (.p (.bool !b))) (u := .bool !b) (RepC.bool _) (by unfold Yields execOp; simp only [ho, hxi]; simp [Op.unary]) hrun hdst
    · cases hth
  · rename_i src dst x ho
    split at ht
    · rename_i k1 k2 h1 h2
      cases ht
      simp only [think] at hth
      split at hth
      · rename_i k n hx
        cases hth
        have hxi := ev_int hR hx
        exact sound_val hR (x := .c (.p (.int k2 (k2.wrap n)))) (u := .int k2 (k2.wrap n)) (RepC.int _ _) (by unfold Yields execOp; simp only [ho, hxi]; simp [convert, run_underlying h1, run_underlying h2, Conv.intToInt]) hrun hdst
      · cases hth
    · cases ht
  · rename_i c ho
    obtain ⟨cal, cargs, ctys⟩ := c
    simp only at ht
    have hcall : ∀ (f : FuncId) (xo : Operand) (ps : List PV) (r x : AV), cal = .value xo → a.eval xo = .func (.func f) #[] #[] → pvs σ cargs.toList = some ps → G f ps = some r → r.plain = some x → (Eff.val x).run o.dst σ = some σ' → o.wp P a w (fun a' w' => Rel w0 okA N σ' a' w') Q := by
      intro f xo ps r x hcal hfv hps hr hx hrun
      obtain ⟨⟨fn, hfn, hbody, hname⟩, _⟩ := hG f ps r hr
      refine sound_call hR hG hps hr hx ?_ hrun hdst
      unfold execOp
      subst hcal
      have hmap : Array.map a.eval cargs = (List.map a.eval cargs.toList).toArray := by apply Array.ext'; simp
      simp only [ho, resolve, hfv, Deferred.ofValue, Sem.run_bind, Sem.run_pure, Result.andThen_ok, invoke, callFunc, run_program, hfn]
      simp [hname, hbody, hmap]
    split at ht
    · rename_i f
      cases ht
      simp only [think, Option.bind_eq_some_iff, Option.map_eq_some_iff] at hth
      obtain ⟨r, ⟨ps, hps, hr⟩, x, hx, rfl⟩ := hth
      exact hcall f (.func f) ps r x rfl rfl hps hr hx hrun
    · rename_i t
      cases ht
      simp only [think] at hth
      split at hth
      · rename_i f hf
        simp only [Option.bind_eq_some_iff, Option.map_eq_some_iff] at hth
        obtain ⟨r, ⟨ps, hps, hr⟩, x, hx, rfl⟩ := hth
        exact hcall f (.tmp t) ps r x rfl (ev_fn hR hf) hps hr hx hrun
      · cases hth
    · split at ht
      · rename_i x t hargs htys
        split at ht
        · rename_i el hs
          cases ht
          simp only [think] at hth
          split at hth
          · rename_i X hx
            split at hth
            · rename_i sz es hX
              cases hth
              have hrc : RepC w (okOf w0 okA σ β tip) (.sl sz es) (a.eval x) := by
                have := RepX.forget (show RepX w (okOf w0 okA σ β tip) σ.nt σ.lv tip X (a.eval x) from (ev_rep hR hx).1)
                rw [hX] at this; exact this
              obtain ⟨A, c, hA, _⟩ := RepC.slice_ hrc
              have ha : cargs = #[x] := by rw [← Array.toArray_toList (xs := cargs), hargs]
              have hb : ctys = #[t] := by rw [← Array.toArray_toList (xs := ctys), htys]
              subst ha; subst hb
              refine sound_val hR (x := .c (.p (.int .i64 es.length))) (u := .int .i64 es.length) (RepC.int _ _) ?_ hrun hdst
              unfold Yields execOp
              simp only [ho, resolve, invoke, builtin, Sem.run_bind, Sem.run_pure, Result.andThen_ok, List.map_toArray, List.map_cons, List.map_nil, hA]
              simp [Builtin.len_, run_underlying hs, goInt]
            · cases hth
          · cases hth
        · cases ht
      · cases ht
    · split at ht
      · rename_i x y hargs
        cases ht
        simp only [think] at hth
        split at hth
        · rename_i k n k' n' hx hy
          cases hth
          have hxi := ev_int hR hx
          have hyi := ev_int hR hy
          have ha : cargs = #[x, y] := by rw [← Array.toArray_toList (xs := cargs), hargs]
          subst ha
          refine sound_val hR (x := .c (.p (.int k (if n' < n then n' else n)))) (u := .int k (if n' < n then n' else n)) (RepC.int _ _) ?_ hrun hdst
          unfold Yields execOp
          simp only [ho, resolve, invoke, builtin, Sem.run_bind, Sem.run_pure, Result.andThen_ok, List.map_toArray, List.map_cons, List.map_nil, hxi, hyi, run_min_int2]
        · cases hth
      · cases ht
    · split at ht
      · rename_i x y hargs
        cases ht
        simp only [think] at hth
        split at hth
        · rename_i k n k' n' hx hy
          cases hth
          have hxi := ev_int hR hx
          have hyi := ev_int hR hy
          have ha : cargs = #[x, y] := by rw [← Array.toArray_toList (xs := cargs), hargs]
          subst ha
          refine sound_val hR (x := .c (.p (.int k (if n' > n then n' else n)))) (u := .int k (if n' > n then n' else n)) (RepC.int _ _) ?_ hrun hdst
          unfold Yields execOp
          simp only [ho, resolve, invoke, builtin, Sem.run_bind, Sem.run_pure, Result.andThen_ok, List.map_toArray, List.map_cons, List.map_nil, hxi, hyi, run_max_int2]
        · cases hth
      · cases ht
    · split at ht
      · rename_i s x t t' hargs htys
        split at ht
        · rename_i htt
          subst htt
          split at ht
          · rename_i el hs
            split at ht
            · rename_i i hi
              split at ht
              · rename_i z hz
                split at ht
                · rename_i hc
                  cases ht
                  have ha : cargs = #[s, x] := by rw [← Array.toArray_toList (xs := cargs), hargs]
                  have hb : ctys = #[t, t] := by rw [← Array.toArray_toList (xs := ctys), htys]
                  subst ha; subst hb
                  simp only [think] at hth
                  split at hth
                  · rename_i tk szs es X hse hxe
                    split at hth
                    · rename_i szx ex hX
                      split at hth
                      · rename_i hcc
                        obtain ⟨g1, g2, g3⟩ := hcc
                        cases tk with
                        | tight =>
                          simp only at hth
                          split at hth
                          · rename_i hz2
                            cases hth
                            exact sound_app hR ho hs hi hz hc.1 hc.2 hse hxe hX g1 g2 g3 (.inl ⟨rfl, rfl, hz2⟩) hrun hdst
                          · cases hth
                        | live k =>
                          simp only at hth
                          split at hth
                          · rename_i hz2
                            cases hth
                            exact sound_app hR ho hs hi hz hc.1 hc.2 hse hxe hX g1 g2 g3 (.inr ⟨k, rfl, rfl, hz2.2, hz2.1⟩) hrun hdst
                          · cases hth
                      · cases hth
                    · cases hth
                  · cases hth
                · cases ht
              · cases ht
            · cases ht
          · cases ht
        · cases ht
      · cases ht
    · cases ht
  · rename_i t x f ho
    split at ht
    · rename_i fs hs
      split at ht
      · rename_i fd hf
        split at ht
        · rename_i i d hi hu
          split at ht
          · rename_i hc
            cases ht
            simp only [think] at hth
            split at hth
            · rename_i cs hx
              obtain ⟨vs, hv, hr⟩ := (ev_rep hR hx).1
              have hr' := RepXs.drop fd.offset hr
              have hl := RepXs.length hr'
              have hlen : i.size ≤ (vs.drop fd.offset).length := by
                unfold ldX at hth
                split at hth
                · rw [hl]; assumption
                · cases hth
              obtain ⟨u, hu1, hu2, hu3⟩ := run_field (P := P) (w := w) t f fd fs i d hs hf hi hu hc vs hlen
              obtain ⟨x', rfl, hx', _⟩ := ldX_rep (β := β) hth hr' hu2 hu3
              refine sound_val hR hx' ?_ hrun hdst
              unfold Yields execOp
              simp only [ho, hv]
              simp [hu1]
            · cases hth
          · cases ht
        · cases ht
      · cases ht
    · cases ht
  · rename_i x ho
    cases ht
    simp only [think] at hth
    split at hth
    · rename_i db off hx
      cases hth
      obtain ⟨hp, _⟩ := ev_box hR hx
      refine sound_val hR (x := .box db (off + 0)) (u := .pointer (some ⟨β db, off + 0, none⟩)) rfl ?_ hrun hdst
      unfold Yields execOp
      simp only [ho, hp]
      rfl
    · rename_i A cs hx
      cases hth
      obtain ⟨b, off, vs, hp, hA, hc, hr⟩ := (ev_rep hR hx).1
      refine sound_val hR (x := .elt (A.map fun p => (p.1, p.2 + 0)) (cs.drop 0)) (u := .pointer (some ⟨b, off, none⟩)) ⟨b, off, vs, rfl, adr_tag hA, hc, hr⟩ ?_ hrun hdst
      unfold Yields execOp
      simp only [ho, hp]
      rfl
    · cases hth
  · rename_i x ix ho
    cases ht
    simp only [think] at hth
    split at hth
    · rename_i us hx
      simp only [Option.map_eq_some_iff] at hth
      obtain ⟨c, hc, rfl⟩ := hth
      obtain ⟨vs, hp, hr⟩ := (ev_rep hR hx).1
      obtain ⟨v, hv, hrv⟩ := RepCs.get hr hc
      refine sound_val hR (x := .c (.p c)) (u := v) hrv ?_ hrun hdst
      unfold Yields execOp
      simp only [ho, hp]
      simp [Instr.extract, hv]
    · cases hth
  · rename_i t x ix ho
    split at ht
    · rename_i len el hs
      split at ht
      · rename_i i d hi hu
        split at ht
        · rename_i hsz
          cases ht
          simp only [think] at hth
          split at hth
          · rename_i cs k n hx hn
            split at hth
            · rename_i hc
              obtain ⟨vs, hp, hr⟩ := (ev_rep hR hx).1
              have hni := ev_int hR hn
              have hr' := RepXs.drop (n.toNat * i.size) hr
              have hl := RepXs.length hr'
              have hlen : i.size ≤ (vs.drop (n.toNat * i.size)).length := by
                unfold ldX at hth
                split at hth
                · rw [hl]; assumption
                · cases hth
              obtain ⟨u, hu1, hu2, hu3⟩ := run_part (P := P) (w := w) el (n.toNat * i.size) i d hi hu hsz vs hlen
              obtain ⟨x', rfl, hx', _⟩ := ldX_rep (β := β) hth hr' hu2 hu3
              refine sound_val hR hx' ?_ hrun hdst
              unfold Yields execOp
              simp only [ho, hp, hni]
              simp [Instr.index, asIntOf, run_underlying hs, hc.1, hc.2, sizeOf, typeInfo, hi, hu1]
            · cases hth
          · cases hth
        · cases ht
      · cases ht
    · cases ht
  · rename_i t x hi' ho
    split at ht
    · rename_i el hs
      split at ht
      · rename_i i hi
        cases ht
        simp only [think] at hth
        split at hth
        · rename_i X k n hx hn
          split at hth
          · rename_i sz es hX
            split at hth
            · rename_i hc
              cases hth
              have hni := ev_int hR hn
              have hrc : RepC w (okOf w0 okA σ β tip) (.sl sz es) (a.eval x) := by
                have := RepX.forget (show RepX w (okOf w0 okA σ β tip) σ.nt σ.lv tip X (a.eval x) from (ev_rep hR hx).1)
                rw [hX] at this; exact this
              obtain ⟨A, cap, hA, hcap⟩ := RepC.slice_ hrc
              have hsl : (Instr.sliceAt t (.slice A es.length cap) none (some (.int k n)) none).run P w = .ok (.slice A n.toNat cap) w := by
                have hb : (Instr.sliceBound (.int k n) cap .sliceAcap).run P w = .ok n.toNat w := by
                  simp [Instr.sliceBound, asIntOf, hc.1, show n ≤ (cap : Int) by omega]
                unfold Instr.sliceAt
                rw [Sem.run_bind, run_underlying hs w]
                simp only [Result.andThen_ok, Instr.slice]
                rw [Sem.run_bind, run_underlying hs w]
                simp only [Result.andThen_ok, Instr.sliceBounds, Sem.run_bind, Sem.run_pure, hb, if_true, sizeOf, typeInfo, run_program, hi]
                simp
                intro h
                cases A <;> simp [Addr.add_zero']
              refine sound_val hR (x := .c (.p (.sl sz (es.take n.toNat)))) (u := .slice A n.toNat cap) ?_ ?_ hrun hdst
              · show RepC w (okOf w0 okA σ β tip) (.sl sz (es.take n.toNat)) (.slice A n.toNat cap)
                rcases RepC.flat hrc with ⟨A0, h1, h2⟩ | ⟨b, off, cap', us, h1, hcp, hse, hus, huc, hur⟩
                · subst h2
                  simp only [List.length_nil] at hc hA
                  rw [hA] at h1; cases h1
                  rw [show n.toNat = 0 by omega]
                  exact RepC.nil sz _
                · rw [hA] at h1; cases h1
                  have hnl : n.toNat ≤ es.length := by omega
                  have hlt : (es.take n.toNat).length = n.toNat := by simp [hnl]
                  have := RepC.unflat (w := w) (ok := okOf w0 okA σ β tip) (sz := sz) (es := es.take n.toNat) (b := b) (off := off) (cap := cap) (us := us.take (n.toNat * sz)) (by rw [hlt]; omega) (fun e he => hse e (List.mem_of_mem_take he))
                    (by rw [hlt, List.length_take, hus]; exact Nat.min_eq_left (Nat.mul_le_mul_right _ hnl)) (fun j u hj => huc j u (by rw [List.getElem?_take] at hj; split at hj; exact hj; cases hj))
                    (by rw [flatten_take hse hnl]; exact RepCs.take _ hur)
                  rw [hlt] at this; exact this
              · unfold Yields execOp
                simp only [ho, hA, hni]
                simp [hni, hsl]
            · cases hth
          · cases hth
        · cases hth
      · cases ht
    · cases ht
  · cases ht
theorem sound_op {bs : List (Nat × Nat)} (hR : RelB w0 okA N σ a w β tip) (hG : GOK P G) (hE : ∀ t ∈ eqT, EqOk P t) {m : MO} {e : Eff} (ht : trOp P eqT bs o = some m) (hth : think G σ m = some e)
    (hrun : e.run o.dst σ = some σ') (hdst : ∀ d, o.dst = some d → d < N) : o.wp P a w (fun a' w' => Rel w0 okA N σ' a' w') Q := by
  unfold trOp at ht
  cases h0 : trOp0 P eqT bs o with
  | none =>
    rw [h0] at ht
    cases ht
    cases hth
  | some m' =>
    rw [h0] at ht
    cases ht
    exact sound_op0 hR hG hE h0 hth hrun hdst
end
end Go.Proofs.Ytjbhhdocbejccaa.Bm
