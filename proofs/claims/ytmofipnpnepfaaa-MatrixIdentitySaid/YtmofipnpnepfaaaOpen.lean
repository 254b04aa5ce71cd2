/- The rows' arguments, opened cell by cell: structs, arrays and slices of whole numbers, however nested. No condition but those that each theorem states. -/
import Derived.Test.YtmofipnpnepfaaaWSized
import Derived.Test.YtmofipnpnepfaaaWWords
import Derived.WalkKit
import Derived.ProofKit
import Derived.ChangeSlices
import Derived.DataElems
import Derived.DataReads
import Derived.OpenShut
import Derived.SizedLaws
import Derived.ChangeArms
import Derived.WideShapes
import Derived.ChangeOld
namespace Go.Proofs.Ytmofipnpnepfaaa.Open
open Go.ChangeShapes Go.WideShapes Go.RowKit
set_option linter.unusedVariables false
variable {H : Type} {enc : TypeId × Value → H} {P : Program} {w : World} {base : Nat} {spare : Nat → Bool} {held : Bool}

theorem trod_lt1 {t : TypeId} {v : Value} {d : DataW H} {ps : List MemPlace} (h : DataW.Trod enc P w base spare held t v d ps) : ∀ x ∈ ps, x.block < w.heap.size := by
  obtain ⟨n, h⟩ := h
  exact DataW.trod_lt n _ _ _ h

theorem all_each {ts : List TypeId} {ds : List (DataW H)} (h : (DataW.weightsEach P ts ds).all (· ≤ reachBytes) = true) {j : Nat} {t : TypeId} {d : DataW H} (ht : ts[j]? = some t) (hd : ds[j]? = some d) : (d.weights P t).all (· ≤ reachBytes) = true :=
  List.all_eq_true.2 fun n hn => List.all_eq_true.1 h n (DataW.weights_mem_each ht hd n hn)

theorem all_struct {fs : Array Field} {t : TypeId} {x : DataW H × List MemPlace} {xs : List (DataW H × List MemPlace)} {ps : List MemPlace} (hu : P.underlying t = some (.struct fs)) (hx : x = (.agg (xs.map (·.1)), ps)) (h : (x.1.weights P t).all (· ≤ reachBytes) = true) (j : Nat) {f : Field} {y : DataW H × List MemPlace} (ht : fs[j]? = some f) (hd : xs[j]? = some y) :
    (y.1.weights P f.type).all (· ≤ reachBytes) = true := by
  subst hx
  simp only [DataW.weights, hu] at h
  refine all_each h (j := j) ?_ ?_
  · simp [ht]
  · simp [hd]

theorem all_mem {e : TypeId} : ∀ {xs : List (DataW H)} (h : (DataW.weightsAll P e xs).all (· ≤ reachBytes) = true) {d : DataW H} (hd : d ∈ xs), (d.weights P e).all (· ≤ reachBytes) = true
  | [], _, _, hd => by cases hd
  | x :: xs, h, d, hd => by
    simp only [DataW.weightsAll, List.all_append, Bool.and_eq_true] at h
    rcases List.mem_cons.1 hd with rfl | hd
    · exact h.1
    · exact all_mem h.2 hd

theorem all_array {n : Nat} {t e : TypeId} {x : DataW H × List MemPlace} {xs : List (DataW H × List MemPlace)} {ps : List MemPlace} (hu : P.underlying t = some (.array n e)) (hx : x = (.agg (xs.map (·.1)), ps)) (h : (x.1.weights P t).all (· ≤ reachBytes) = true) (j : Nat) {y : DataW H × List MemPlace} (hd : xs[j]? = some y) :
    (y.1.weights P e).all (· ≤ reachBytes) = true := by
  subst hx
  simp only [DataW.weights, hu] at h
  exact all_mem h (List.mem_map.2 ⟨y, List.mem_of_getElem? hd, rfl⟩)

theorem okWide_array {r : Reach} {b0 n : Nat} {t e : TypeId} {v : Value} (ht : P.underlying t = some (.array n e)) (hv : Value.okWide P w r b0 t v) : ∃ cs, v = .agg cs ∧ cs.size = P.cellsOf t := by
  obtain ⟨cs, rfl, hsz, _⟩ : ∃ cs, v = .agg cs ∧ cs.size = P.cellsOf t ∧ Row.okWide P w r b0 t cs := by simpa [Value.okWide, ht] using hv
  exact ⟨cs, rfl, hsz⟩

def IsRow (k : IntKind) (w : World) (a : Option Addr) (len cap : Nat) (zs : List Int) : Prop :=
  (a = none ∧ len = 0 ∧ cap = 0 ∧ zs = []) ∨
  ∃ x, a = some x ∧ len ≤ cap ∧ cap ≤ maxLen ∧ zs.length = cap ∧ (∀ i, i < zs.length → w.cell? (x.add i) = some (.int k (zs.getD i 0))) ∧ ∀ n ∈ zs, (Lit.int k n).wf = true

theorem open_sl {t e : TypeId} {k : IntKind} {fuel : Nat} {c : Value} {x : DataW H × List MemPlace} (hu : P.underlying t = some (.slice e)) (he : P.underlying e = some (.int k)) (hc : P.cellsOf e = 1) {B : Nat} (hB : P.bytesOf e = B)
    (h : DataW.trod enc P w base (fun _ => true) held fuel t [c] = some x) (Z : (x.1.weights P t).all (· ≤ reachBytes) = true) :
    ∃ (A : Option Addr) (cap : Nat) (l : List Int), c = .slice A l.length cap ∧ Go.Proofs.YtmofipnpnepfaaaW.PrintWords.Kd.C (Go.Proofs.YtmofipnpnepfaaaW.PrintWords.Kd.int k) w A l.length l ∧ l.length ≤ cap ∧ (∀ n ∈ l, (Lit.int k n).wf = true) ∧ l.length * B ≤ 140737488351232 := by
  obtain ⟨A, n, cap, rfl⟩ : ∃ A n cap, c = .slice A n cap := by
    rcases open_ints hu he hc h with ⟨hcs, _⟩ | ⟨x, l, c, zs, hcs, _⟩
    · exact ⟨none, 0, 0, by simpa using hcs⟩
    · exact ⟨_, _, _, by simpa using hcs⟩
  obtain ⟨z, wz⟩ : ∃ zs, IsRow k w A n cap zs := by
    rcases open_ints hu he hc h with ⟨hcs, _⟩ | ⟨x, l, c, zs, hcs, _, hl, hm, hz, _, hcell, hwz⟩
    · simp at hcs
      obtain ⟨rfl, rfl, rfl⟩ := hcs
      exact ⟨[], .inl ⟨rfl, rfl, rfl, rfl⟩⟩
    · simp at hcs
      obtain ⟨rfl, rfl, rfl⟩ := hcs
      exact ⟨zs, .inr ⟨_, rfl, hl, hm, by simpa using hz, hcell, hwz⟩⟩
  have y := Go.Proofs.YtmofipnpnepfaaaW.PrintWords.sized_ints (ts := [t]) (ds := [x.1]) (j := 0) (by simpa [DataW.weightsEach] using Z) rfl rfl hu he hc hB (ps := x.2) ⟨fuel, h⟩
  obtain ⟨l, rfl, hr, hm, hw, hcc⟩ := Go.Proofs.YtmofipnpnepfaaaW.PrintWords.ReadsInt.ofRowC wz
  exact ⟨A, cap, l, rfl, Go.Proofs.YtmofipnpnepfaaaW.PrintWords.Kd.C_of_reads (d := (0 : Int)) (h1 := fun _ => rfl) hr, hcc, hw, y⟩

theorem list_of {α : Type} {F : Nat → α → Prop} : ∀ (n : Nat), (∀ i, i < n → ∃ p, F i p) → ∃ l : List α, l.length = n ∧ ∀ i p, l[i]? = some p → F i p
  | 0, _ => ⟨[], rfl, fun i p h => by simp at h⟩
  | n + 1, h => by
    obtain ⟨l, hl, hf⟩ := list_of n (fun i hi => h i (by omega))
    obtain ⟨p, hp⟩ := h n (by omega)
    refine ⟨l ++ [p], by simp [hl], fun i q hq => ?_⟩
    by_cases c : i < l.length
    · rw [List.getElem?_append_left c] at hq; exact hf i q hq
    · rw [List.getElem?_append_right (by omega)] at hq
      have e : i - l.length = 0 := by
        rcases Nat.eq_zero_or_pos (i - l.length) with h | h
        · exact h
        · rw [List.getElem?_eq_none (by simp; omega)] at hq; cases hq
      rw [e] at hq
      have : i = n := by omega
      subst this
      simp at hq
      subst hq
      exact hp

theorem open_C {α : Type} {d : Go.Proofs.YtmofipnpnepfaaaW.PrintWords.Kd α} {Q : α → Prop} {t e : TypeId} {fuel : Nat} {c : Value} {x : DataW H × List MemPlace} (hu : P.underlying t = some (.slice e)) (hc : P.cellsOf e = d.sz) {B : Nat} (hB : P.bytesOf e = B)
    (hel : ∀ (fuel : Nat) (cs : List Value) (x : DataW H × List MemPlace), DataW.trod enc P w base (fun _ => true) held fuel e cs = some x → (x.1.weights P e).all (· ≤ reachBytes) = true → ∃ p : α, d.K w p cs ∧ Q p)
    (h : DataW.trod enc P w base (fun _ => true) held fuel t [c] = some x) (Z : (x.1.weights P t).all (· ≤ reachBytes) = true) :
    ∃ (A : Option Addr) (cap : Nat) (l : List α), c = .slice A l.length cap ∧ d.C w A l.length l ∧ l.length ≤ cap ∧ (∀ p ∈ l, Q p) ∧ l.length * B ≤ 140737488351232 := by
  rcases DataW.trod_slice hu h with ⟨h1, _⟩ | ⟨a, len, cap, elems, rest, n, _, h1, h2, _, hl, hm, hlen, hels, _⟩
  · have : c = .slice none 0 0 := by simpa using h1
    subst this
    exact ⟨none, 0, [], rfl, ⟨rfl, by simp, fun h => absurd h (by simp)⟩, by simp, (fun p hp => by cases hp), by simp⟩
  · have : c = .slice (some a) len cap := by simpa using h1
    subst this
    subst h2
    simp only [DataW.weights, hu, List.all_cons, Bool.and_eq_true, List.all_append] at Z
    obtain ⟨Z0, Z1, _⟩ := Z
    have key : ∀ i, i < len → ∃ p : α, (d.K w p ((w.cells? base (a.add (i * P.cellsOf e)) (P.cellsOf e)).getD []) ∧ Q p) ∧ ∀ j u, ((w.cells? base (a.add (i * P.cellsOf e)) (P.cellsOf e)).getD [])[j]? = some u → w.cell? (a.add (i * d.sz + j)) = some u := by
      intro i hi
      have g := hels i hi
      have hi' : i < elems.length := by omega
      rw [List.getElem?_eq_getElem hi', Option.bind_eq_some_iff] at g
      obtain ⟨cs, g1, g2⟩ := g
      obtain ⟨p, hp⟩ := hel _ _ _ g2 (all_mem Z1 (List.mem_map.2 ⟨elems[i], List.getElem_mem hi', rfl⟩))
      obtain ⟨_, hcl, hcell⟩ := World.cells?_some g1
      rw [g1]
      refine ⟨p, hp, fun j u hu => ?_⟩
      have hj : j < cs.length := (List.getElem?_eq_some_iff.1 hu).1
      have := hcell j (by omega)
      rw [Addr.add_add, hc] at this
      rw [this]; exact hu
    obtain ⟨l, hll, hf⟩ := list_of len key
    subst hll
    refine ⟨some a, cap, l, rfl, ⟨rfl, by unfold maxLen at hm; omega, fun _ => ⟨a, rfl, fun j p hj => ?_⟩⟩, hl, fun p hp => ?_, ?_⟩
    · obtain ⟨⟨k1, k2⟩, k3⟩ := hf j p hj
      exact ⟨_, d.K_len k1, k1, k3⟩
    · obtain ⟨j, hj⟩ := List.mem_iff_getElem?.1 hp
      exact (hf j p hj).1.2
    · have z : (elems.length + rest.length) * P.bytesOf e ≤ reachBytes := by simpa using Z0
      rw [hB] at z
      have : l.length * B ≤ (elems.length + rest.length) * B := Nat.mul_le_mul_right _ (by omega)
      unfold reachBytes at z
      omega

end Go.Proofs.Ytmofipnpnepfaaa.Open
