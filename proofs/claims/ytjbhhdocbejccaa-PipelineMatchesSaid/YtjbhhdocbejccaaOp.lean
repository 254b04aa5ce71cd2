/- A row's arguments, told for the abstract machine: structs, arrays and slices of whole numbers. No condition beyond those that each theorem states. -/
import Derived.Test.YtjbhhdocbejccaaAm14
import Derived.WalkKit
import Derived.ProofKit
import Derived.ChangeSlices
import Derived.DataElems
import Derived.DataReads
import Derived.OpenShut
import Derived.SizedLaws
import Derived.ChangeArms
import Derived.WideShapes
import Derived.ChangeOld
namespace Go.Proofs.Ytjbhhdocbejccaa.Op
open Go.ChangeShapes Go.WideShapes Go.RowKit Go.Proofs.Ytjbhhdocbejccaa.Am
set_option linter.unusedVariables false
section
variable {H : Type} {enc : TypeId × Value → H} {P : Program} {w : World} {base : Nat} {spare : Nat → Bool} {held : Bool}
theorem trod_lt1 {t : TypeId} {v : Value} {d : DataW H} {ps : List MemPlace} (h : DataW.Trod enc P w base spare held t v d ps) : ∀ x ∈ ps, x.block < w.heap.size := by
  obtain ⟨n, h⟩ := h
  exact DataW.trod_lt n _ _ _ h
theorem all_each {ts : List TypeId} {ds : List (DataW H)} (h : (DataW.weightsEach P ts ds).all (· ≤ reachBytes) = true) {j : Nat} {t : TypeId} {d : DataW H} (ht : ts[j]? = some t) (hd : ds[j]? = some d) : (d.weights P t).all (· ≤ reachBytes) = true :=
  List.all_eq_true.2 fun n hn => List.all_eq_true.1 h n (DataW.weights_mem_each ht hd n hn)
theorem all_struct {fs : Array Field} {t : TypeId} {x : DataW H × List MemPlace} {xs : List (DataW H × List MemPlace)} {ps : List MemPlace} (hu : P.underlying t = some (.struct fs)) (hx : x = (.agg (xs.map (·.1)), ps)) (h : (x.1.weights P t).all (· ≤ reachBytes) = true) (j : Nat) {f : Field} {y : DataW H × List MemPlace} (ht : fs[j]? = some f) (hd : xs[j]? = some y) :
    (y.1.weights P f.type).all (· ≤ reachBytes) = true := by
  subst hx
  simp only [DataW.weights, hu] at h
  refine all_each h (j := j) ?_ ?_
  · simp [ht]
  · simp [hd]
theorem all_mem {e : TypeId} : ∀ {xs : List (DataW H)} (h : (DataW.weightsAll P e xs).all (· ≤ reachBytes) = true) {d : DataW H} (hd : d ∈ xs), (d.weights P e).all (· ≤ reachBytes) = true
  | [], _, _, hd => by cases hd
  | x :: xs, h, d, hd => by
    simp only [DataW.weightsAll, List.all_append, Bool.and_eq_true] at h
    rcases List.mem_cons.1 hd with rfl | hd
    · exact h.1
    · exact all_mem h.2 hd
theorem all_array {n : Nat} {t e : TypeId} {x : DataW H × List MemPlace} {xs : List (DataW H × List MemPlace)} {ps : List MemPlace} (hu : P.underlying t = some (.array n e)) (hx : x = (.agg (xs.map (·.1)), ps)) (h : (x.1.weights P t).all (· ≤ reachBytes) = true) (j : Nat) {y : DataW H × List MemPlace} (hd : xs[j]? = some y) :
    (y.1.weights P e).all (· ≤ reachBytes) = true := by
  subst hx
  simp only [DataW.weights, hu] at h
  exact all_mem h (List.mem_map.2 ⟨y, List.mem_of_getElem? hd, rfl⟩)
theorem okWide_agg {r : Reach} {b0 : Nat} {t : TypeId} {v : Value} (ht : (∃ fs, P.underlying t = some (.struct fs)) ∨ ∃ n e, P.underlying t = some (.array n e)) (hv : Value.okWide P w r b0 t v) : ∃ cs, v = .agg cs ∧ cs.size = P.cellsOf t ∧ Row.okWide P w r b0 t cs := by
  rcases ht with ⟨fs, ht⟩ | ⟨n, e, ht⟩
  · simpa only [Value.okWide, ht] using hv
  · simpa only [Value.okWide, ht] using hv
theorem cell_spot {r : Reach} {b0 : Nat} {u : TypeId} {a : Addr} {n c : Nat} (h : Cell.okWide P w r b0 u (.slice (some a) n c)) : a.spot = none := by
  unfold Cell.okWide at h
  cases hu : P.underlying u with
  | none => simp [hu, Cell.ok] at h
  | some d => cases d <;> simp [hu, Cell.ok, World.has] at h <;> exact h.2.2.2.1
theorem row_spot {r : Reach} {b0 : Nat} {t : TypeId} {cs : Array Value} (h : Row.okWide P w r b0 t cs) {i : Nat} {a : Addr} {n c : Nat} (hi : cs[i]? = some (.slice (some a) n c)) : a.spot = none := by
  obtain ⟨ts, _, _, hall⟩ := h
  obtain ⟨u, _, hu⟩ := hall i _ hi
  exact cell_spot hu
theorem openI {t e : TypeId} {fuel : Nat} {c : Value} {x : DataW H × List MemPlace} (hu : P.underlying t = some (.slice e)) (he : P.underlying e = some (.int .i64)) (hc : P.cellsOf e = 1) (hB : P.bytesOf e = 8)
    (h : DataW.trod enc P w base (fun _ => true) held fuel t [c] = some x) (Z : (x.1.weights P t).all (· ≤ reachBytes) = true) :
    ∃ l : List Int, RepC w (fun _ _ => True) (.sl 1 (l.map fun n => [.int .i64 n])) c ∧ l.length * 8 ≤ 140737488351232 := by
  rcases open_ints hu he hc h with ⟨hcs, _⟩ | ⟨a, len, cap, zs, hcs, _, hl, hm, hz, hx, hcell, hwz⟩
  · obtain rfl : c = .slice none 0 0 := by simpa using hcs
    exact ⟨[], .nil 1 none, by decide⟩
  · obtain rfl : c = .slice (some a) len cap := by simpa using hcs
    simp only [reduceIte] at hz
    by_cases h0 : cap = 0
    · subst h0
      obtain rfl : len = 0 := by omega
      exact ⟨[], .nil 1 (some a), by decide⟩
    have hs : a.spot = none := by
      have g := hcell 0 (by omega)
      have : a.add 0 = a := by simp [Addr.add]
      rw [this] at g
      exact World.cell?_spot g
    obtain ⟨b, off, sp⟩ := a
    simp only at hs
    subst hs
    have hlen : (zs.take len).length = len := by simp; omega
    refine ⟨zs.take len, ?_, ?_⟩
    · have := RepC.sl (w := w) (ok := fun _ _ => True) 1 ((zs.take len).map fun n => [CV.int .i64 n]) b off cap (fun i _ => .int .i64 (zs.getD i 0)) (by rw [List.length_map, hlen]; exact hl) (fun e he => by rw [List.mem_map] at he; obtain ⟨_, _, rfl⟩ := he; rfl)
        (fun i j hi hj => by
          have hi' : i < len := by rw [List.length_map, hlen] at hi; exact hi
          obtain rfl : j = 0 := by omega
          refine ⟨?_, trivial⟩
          have g := hcell i (by omega)
          rw [← g, Nat.mul_one, Nat.add_zero]
          unfold Addr.add
          by_cases h0 : i = 0
          · subst h0; simp
          · rw [if_neg h0])
        (fun i e j c hi hj => by
          rw [List.getElem?_map, Option.map_eq_some_iff] at hi
          obtain ⟨n, hn, rfl⟩ := hi
          cases j with
          | zero =>
            simp at hj; subst hj
            have hi' : i < (zs.take len).length := (List.getElem?_eq_some_iff.1 hn).1
            have : zs.getD i 0 = n := by
              rw [List.getElem?_take] at hn
              split at hn
              · simp [List.getD, hn]
              · cases hn
            rw [this]; exact .int _ _
          | succ j => simp at hj)
      rw [List.length_map, hlen] at this; exact this
    · subst hx
      simp only [DataW.weights, hu, List.all_cons, Bool.and_eq_true] at Z
      have z : ((lits (H := H) IntKind.i64 (zs.take len)).length + (lits (H := H) IntKind.i64 (zs.drop len)).length) * P.bytesOf e ≤ reachBytes := by simpa using Z.1
      rw [hB] at z
      have h1 : (lits (H := H) IntKind.i64 (zs.take len)).length + (lits (H := H) IntKind.i64 (zs.drop len)).length = zs.length := by
        simp [lits]; omega
      rw [h1] at z
      rw [hlen]
      unfold reachBytes at z
      omega
theorem list_of {α : Type} {F : Nat → α → Prop} : ∀ (n : Nat), (∀ i, i < n → ∃ p, F i p) → ∃ l : List α, l.length = n ∧ ∀ i p, l[i]? = some p → F i p
  | 0, _ => ⟨[], rfl, fun i p h => by simp at h⟩
  | n + 1, h => by
    obtain ⟨l, hl, hf⟩ := list_of n (fun i hi => h i (by omega))
    obtain ⟨p, hp⟩ := h n (by omega)
    refine ⟨l ++ [p], by simp [hl], fun i q hq => ?_⟩
    by_cases c : i < l.length
    · rw [List.getElem?_append_left c] at hq; exact hf i q hq
    · rw [List.getElem?_append_right (by omega)] at hq
      have e : i - l.length = 0 := by
        rcases Nat.eq_zero_or_pos (i - l.length) with h | h
        · exact h
        · rw [List.getElem?_eq_none (by simp; omega)] at hq; cases hq
      rw [e] at hq
      have : i = n := by omega
      subst this
      simp at hq
      subst hq
      exact hp
theorem reps_get {ok : Nat → Nat → Prop} : ∀ {xs : List CV} {vs : List Value}, RepCs w ok xs vs → xs.length = vs.length ∧ ∀ (j : Nat) (c : CV) (v : Value), xs[j]? = some c → vs[j]? = some v → RepC w ok c v
  | [], [], _ => ⟨rfl, fun j c v h => by simp at h⟩
  | x :: xs, v :: vs, h => by
    obtain ⟨h1, h2⟩ := reps_get h.2
    refine ⟨by simp [h1], fun j c u hc hu => ?_⟩
    cases j with
    | zero => simp at hc hu; subst hc; subst hu; exact h.1
    | succ j => exact h2 j c u (by simpa using hc) (by simpa using hu)
  | [], _ :: _, h => h.elim
  | _ :: _, [], h => h.elim
/-- A slice of elements that are read one by one. -/
theorem openE {α : Type} {F : α → List CV} {sz : Nat} {Q : α → Prop} {t e : TypeId} {fuel : Nat} {c : Value} {x : DataW H × List MemPlace} (hu : P.underlying t = some (.slice e)) (hc : P.cellsOf e = sz) (hF : ∀ a, (F a).length = sz)
    (hsp : ∀ a n cap, c = .slice (some a) n cap → a.spot = none)
    (hel : ∀ (fuel : Nat) (cs : List Value) (x : DataW H × List MemPlace), cs.length = sz → DataW.trod enc P w base (fun _ => true) held fuel e cs = some x → (x.1.weights P e).all (· ≤ reachBytes) = true → ∃ a : α, RepCs w (fun _ _ => True) (F a) cs ∧ Q a)
    (h : DataW.trod enc P w base (fun _ => true) held fuel t [c] = some x) (Z : (x.1.weights P t).all (· ≤ reachBytes) = true) :
    ∃ l : List α, RepC w (fun _ _ => True) (.sl sz (l.map F)) c ∧ (∀ a ∈ l, Q a) ∧ (l = [] ∨ ∃ es rs, x.1 = .slice es rs ∧ es.length = l.length) := by
  rcases DataW.trod_slice hu h with ⟨h1, _⟩ | ⟨a, len, cap, elems, rest, n, _, h1, h2, _, hl, hm, hlen, hels, _⟩
  · obtain rfl : c = .slice none 0 0 := by simpa using h1
    exact ⟨[], .nil _ none, (fun p hp => by cases hp), .inl rfl⟩
  · obtain rfl : c = .slice (some a) len cap := by simpa using h1
    have hs := hsp a len cap rfl
    obtain ⟨b, off, sp⟩ := a
    simp only at hs
    subst hs
    subst h2
    simp only [DataW.weights, hu, List.all_cons, Bool.and_eq_true, List.all_append] at Z
    obtain ⟨Z0, Z1, _⟩ := Z
    have key : ∀ i, i < len → ∃ p : α, (∃ cs : List Value, w.cells? base ((⟨b, off, none⟩ : Addr).add (i * sz)) sz = some cs ∧ RepCs w (fun _ _ => True) (F p) cs) ∧ Q p := by
      intro i hi
      have g := hels i hi
      have hi' : i < elems.length := by omega
      rw [List.getElem?_eq_getElem hi', Option.bind_eq_some_iff, hc] at g
      obtain ⟨cs, g1, g2⟩ := g
      obtain ⟨_, hcl, _⟩ := World.cells?_some g1
      obtain ⟨p, hp, hq⟩ := hel _ _ _ hcl g2 (all_mem Z1 (List.mem_map.2 ⟨elems[i], List.getElem_mem hi', rfl⟩))
      exact ⟨p, ⟨cs, g1, hp⟩, hq⟩
    obtain ⟨l, hll, hf⟩ := list_of len key
    subst hll
    refine ⟨l, ?_, fun p hp => ?_, .inr ⟨_, _, rfl, by simp [hlen]⟩⟩
    · have := RepC.sl (w := w) (ok := fun _ _ => True) sz (l.map F) b off cap (fun i j => ((w.cells? base ((⟨b, off, none⟩ : Addr).add (i * sz)) sz).getD []).getD j default) (by rw [List.length_map]; exact hl)
        (fun e he => by rw [List.mem_map] at he; obtain ⟨a, _, rfl⟩ := he; exact hF a)
        (fun i j hi hj => by
          rw [List.length_map] at hi
          obtain ⟨⟨cs, g1, _⟩, _⟩ := hf i l[i] (List.getElem?_eq_getElem hi)
          obtain ⟨_, hcl, hcell⟩ := World.cells?_some g1
          refine ⟨?_, trivial⟩
          have g := hcell j hj
          rw [Addr.add_add] at g
          rw [g1]
          have e : ((⟨b, off, none⟩ : Addr).add (i * sz + j)) = ⟨b, off + i * sz + j, none⟩ := by
            unfold Addr.add
            split
            · rename_i h0; first | (simp; done) | (simp; omega)
            · first | (simp; done) | (simp; omega)
          rw [e] at g
          rw [g, List.getElem?_eq_getElem (by omega)]
          simp [List.getD, show j < cs.length by omega])
        (fun i e j c hi hj => by
          rw [List.getElem?_map, Option.map_eq_some_iff] at hi
          obtain ⟨p, hp, rfl⟩ := hi
          obtain ⟨⟨cs, g1, hr⟩, _⟩ := hf i p hp
          obtain ⟨h1, h2⟩ := reps_get hr
          have hjl : j < cs.length := by rw [← h1]; exact (List.getElem?_eq_some_iff.1 hj).1
          rw [g1]
          refine h2 j c _ hj ?_
          simp [List.getD, hjl])
      rw [List.length_map] at this; exact this
    · obtain ⟨j, hj⟩ := List.mem_iff_getElem?.1 hp
      exact (hf j p hj).2
end
end Go.Proofs.Ytjbhhdocbejccaa.Op
