/- A row's arguments, told for the abstract machine: structs, arrays and slices of whole numbers. No condition beyond those that each theorem states. -/
import Derived.Test.YtljndeeahnpnjaaAm14
import Derived.WalkKit
import Derived.ProofKit
import Derived.ChangeSlices
import Derived.DataElems
import Derived.DataReads
import Derived.OpenShut
import Derived.SizedLaws
import Derived.ChangeArms
import Derived.WideShapes
import Derived.ChangeOld
namespace Go.Proofs.Ytljndeeahnpnjaa.Op
open Go.ChangeShapes Go.WideShapes Go.RowKit Go.Proofs.Ytljndeeahnpnjaa.Am
set_option linter.unusedVariables false
section
variable {H : Type} {enc : TypeId × Value → H} {P : Program} {w : World} {base : Nat} {spare : Nat → Bool} {held : Bool}
theorem trod_lt1 {t : TypeId} {v : Value} {d : DataW H} {ps : List MemPlace} (h : DataW.Trod enc P w base spare held t v d ps) : ∀ x ∈ ps, x.block < w.heap.size := by
  obtain ⟨n, h⟩ := h
  exact DataW.trod_lt n _ _ _ h
theorem all_each {ts : List TypeId} {ds : List (DataW H)} (h : (DataW.weightsEach P ts ds).all (· ≤ reachBytes) = true) {j : Nat} {t : TypeId} {d : DataW H} (ht : ts[j]? = some t) (hd : ds[j]? = some d) : (d.weights P t).all (· ≤ reachBytes) = true :=
  List.all_eq_true.2 fun n hn => List.all_eq_true.1 h n (DataW.weights_mem_each ht hd n hn)
theorem all_struct {fs : Array Field} {t : TypeId} {x : DataW H × List MemPlace} {xs : List (DataW H × List MemPlace)} {ps : List MemPlace} (hu : P.underlying t = some (.struct fs)) (hx : x = (.agg (xs.map (·.1)), ps)) (h : (x.1.weights P t).all (· ≤ reachBytes) = true) (j : Nat) {f : Field} {y : DataW H × List MemPlace} (ht : fs[j]? = some f) (hd : xs[j]? = some y) :
    (y.1.weights P f.type).all (· ≤ reachBytes) = true := by
  subst hx
  simp only [DataW.weights, hu] at h
  refine all_each h (j := j) ?_ ?_
  · simp [ht]
  · simp [hd]
theorem all_mem {e : TypeId} : ∀ {xs : List (DataW H)} (h : (DataW.weightsAll P e xs).all (· ≤ reachBytes) = true) {d : DataW H} (hd : d ∈ xs), (d.weights P e).all (· ≤ reachBytes) = true
  | [], _, _, hd => by cases hd
  | x :: xs, h, d, hd => by
    simp only [DataW.weightsAll, List.all_append, Bool.and_eq_true] at h
    rcases List.mem_cons.1 hd with rfl | hd
    · exact h.1
    · exact all_mem h.2 hd
theorem all_array {n : Nat} {t e : TypeId} {x : DataW H × List MemPlace} {xs : List (DataW H × List MemPlace)} {ps : List MemPlace} (hu : P.underlying t = some (.array n e)) (hx : x = (.agg (xs.map (·.1)), ps)) (h : (x.1.weights P t).all (· ≤ reachBytes) = true) (j : Nat) {y : DataW H × List MemPlace} (hd : xs[j]? = some y) :
    (y.1.weights P e).all (· ≤ reachBytes) = true := by
  subst hx
  simp only [DataW.weights, hu] at h
  exact all_mem h (List.mem_map.2 ⟨y, List.mem_of_getElem? hd, rfl⟩)
theorem okWide_agg {r : Reach} {b0 : Nat} {t : TypeId} {v : Value} (ht : (∃ fs, P.underlying t = some (.struct fs)) ∨ ∃ n e, P.underlying t = some (.array n e)) (hv : Value.okWide P w r b0 t v) : ∃ cs, v = .agg cs ∧ cs.size = P.cellsOf t ∧ Row.okWide P w r b0 t cs := by
  rcases ht with ⟨fs, ht⟩ | ⟨n, e, ht⟩
  · simpa only [Value.okWide, ht] using hv
  · simpa only [Value.okWide, ht] using hv
theorem cell_spot {r : Reach} {b0 : Nat} {u : TypeId} {a : Addr} {n c : Nat} (h : Cell.okWide P w r b0 u (.slice (some a) n c)) : a.spot = none := by
  unfold Cell.okWide at h
  cases hu : P.underlying u with
  | none => simp [hu, Cell.ok] at h
  | some d => cases d <;> simp [hu, Cell.ok, World.has] at h <;> exact h.2.2.2.1
theorem row_spot {r : Reach} {b0 : Nat} {t : TypeId} {cs : Array Value} (h : Row.okWide P w r b0 t cs) {i : Nat} {a : Addr} {n c : Nat} (hi : cs[i]? = some (.slice (some a) n c)) : a.spot = none := by
  obtain ⟨ts, _, _, hall⟩ := h
  obtain ⟨u, _, hu⟩ := hall i _ hi
  exact cell_spot hu
theorem openI {t e : TypeId} {fuel : Nat} {c : Value} {x : DataW H × List MemPlace} (hu : P.underlying t = some (.slice e)) (he : P.underlying e = some (.int .i64)) (hc : P.cellsOf e = 1) (hB : P.bytesOf e = 8)
    (hsp : ∀ a n cap, c = .slice (some a) n cap → a.spot = none)
    (h : DataW.trod enc P w base (fun _ => true) held fuel t [c] = some x) (Z : (x.1.weights P t).all (· ≤ reachBytes) = true) :
    ∃ l : List Int, RepC w (fun _ _ => True) (.sl 1 (l.map fun n => [.int .i64 n])) c ∧ l.length * 8 ≤ 140737488351232 := by
  rcases open_ints hu he hc h with ⟨hcs, _⟩ | ⟨a, len, cap, zs, hcs, _, hl, hm, hz, hx, hcell, hwz⟩
  · obtain rfl : c = .slice none 0 0 := by simpa using hcs
    exact ⟨[], .nil 1, by decide⟩
  · obtain rfl : c = .slice (some a) len cap := by simpa using hcs
    have hs := hsp a len cap rfl
    obtain ⟨b, off, sp⟩ := a
    simp only at hs
    subst hs
    simp only [reduceIte] at hz
    have hlen : (zs.take len).length = len := by simp; omega
    refine ⟨zs.take len, ?_, ?_⟩
    · have := RepC.sl (w := w) (ok := fun _ _ => True) 1 ((zs.take len).map fun n => [CV.int .i64 n]) b off cap (fun i _ => .int .i64 (zs.getD i 0)) (by rw [List.length_map, hlen]; exact hl) (fun e he => by rw [List.mem_map] at he; obtain ⟨_, _, rfl⟩ := he; rfl)
        (fun i j hi hj => by
          have hi' : i < len := by rw [List.length_map, hlen] at hi; exact hi
          obtain rfl : j = 0 := by omega
          refine ⟨?_, trivial⟩
          have g := hcell i (by omega)
          rw [← g, Nat.mul_one, Nat.add_zero]
          unfold Addr.add
          by_cases h0 : i = 0
          · subst h0; simp
          · rw [if_neg h0])
        (fun i e j c hi hj => by
          rw [List.getElem?_map, Option.map_eq_some_iff] at hi
          obtain ⟨n, hn, rfl⟩ := hi
          cases j with
          | zero =>
            simp at hj; subst hj
            have hi' : i < (zs.take len).length := (List.getElem?_eq_some_iff.1 hn).1
            have : zs.getD i 0 = n := by
              rw [List.getElem?_take] at hn
              split at hn
              · simp [List.getD, hn]
              · cases hn
            rw [this]; exact .int _ _
          | succ j => simp at hj)
      rw [List.length_map, hlen] at this; exact this
    · subst hx
      simp only [DataW.weights, hu, List.all_cons, Bool.and_eq_true] at Z
      have z : ((lits (H := H) IntKind.i64 (zs.take len)).length + (lits (H := H) IntKind.i64 (zs.drop len)).length) * P.bytesOf e ≤ reachBytes := by simpa using Z.1
      rw [hB] at z
      have h1 : (lits (H := H) IntKind.i64 (zs.take len)).length + (lits (H := H) IntKind.i64 (zs.drop len)).length = zs.length := by
        simp [lits]; omega
      rw [h1] at z
      rw [hlen]
      unfold reachBytes at z
      omega
end
end Go.Proofs.Ytljndeeahnpnjaa.Op
