/- The rows' arguments, opened cell by cell: structs, arrays and slices of whole numbers, however nested. No condition but those that each theorem states. -/
import Derived.Test.YtillihhndaplmaaWSized
import Derived.Test.YtillihhndaplmaaWWords
import Derived.WalkKit
import Derived.ProofKit
import Derived.ChangeSlices
import Derived.OpenShut
import Derived.SizedLaws
import Derived.ChangeArms
import Derived.WideShapes
import Derived.ChangeOld
namespace Go.Proofs.Ytillihhndaplmaa.Open
open Go.ChangeShapes Go.WideShapes Go.RowKit
set_option linter.unusedVariables false
variable {H : Type} {enc : TypeId × Value → H} {P : Program} {w : World} {base : Nat} {spare : Nat → Bool} {held : Bool}

theorem trod_lt1 {t : TypeId} {v : Value} {d : DataW H} {ps : List MemPlace} (h : DataW.Trod enc P w base spare held t v d ps) : ∀ x ∈ ps, x.block < w.heap.size := by
  obtain ⟨n, h⟩ := h
  exact DataW.trod_lt n _ _ _ h

theorem all_each {ts : List TypeId} {ds : List (DataW H)} (h : (DataW.weightsEach P ts ds).all (· ≤ reachBytes) = true) {j : Nat} {t : TypeId} {d : DataW H} (ht : ts[j]? = some t) (hd : ds[j]? = some d) : (d.weights P t).all (· ≤ reachBytes) = true :=
  List.all_eq_true.2 fun n hn => List.all_eq_true.1 h n (DataW.weights_mem_each ht hd n hn)

theorem all_struct {fs : Array Field} {t : TypeId} {x : DataW H × List MemPlace} {xs : List (DataW H × List MemPlace)} {ps : List MemPlace} (hu : P.underlying t = some (.struct fs)) (hx : x = (.agg (xs.map (·.1)), ps)) (h : (x.1.weights P t).all (· ≤ reachBytes) = true) (j : Nat) {f : Field} {y : DataW H × List MemPlace} (ht : fs[j]? = some f) (hd : xs[j]? = some y) :
    (y.1.weights P f.type).all (· ≤ reachBytes) = true := by
  subst hx
  simp only [DataW.weights, hu] at h
  refine all_each h (j := j) ?_ ?_
  · simp [ht]
  · simp [hd]

theorem all_mem {e : TypeId} : ∀ {xs : List (DataW H)} (h : (DataW.weightsAll P e xs).all (· ≤ reachBytes) = true) {d : DataW H} (hd : d ∈ xs), (d.weights P e).all (· ≤ reachBytes) = true
  | [], _, _, hd => by cases hd
  | x :: xs, h, d, hd => by
    simp only [DataW.weightsAll, List.all_append, Bool.and_eq_true] at h
    rcases List.mem_cons.1 hd with rfl | hd
    · exact h.1
    · exact all_mem h.2 hd

theorem all_array {n : Nat} {t e : TypeId} {x : DataW H × List MemPlace} {xs : List (DataW H × List MemPlace)} {ps : List MemPlace} (hu : P.underlying t = some (.array n e)) (hx : x = (.agg (xs.map (·.1)), ps)) (h : (x.1.weights P t).all (· ≤ reachBytes) = true) (j : Nat) {y : DataW H × List MemPlace} (hd : xs[j]? = some y) :
    (y.1.weights P e).all (· ≤ reachBytes) = true := by
  subst hx
  simp only [DataW.weights, hu] at h
  exact all_mem h (List.mem_map.2 ⟨y, List.mem_of_getElem? hd, rfl⟩)

theorem okWide_array {r : Reach} {b0 n : Nat} {t e : TypeId} {v : Value} (ht : P.underlying t = some (.array n e)) (hv : Value.okWide P w r b0 t v) : ∃ cs, v = .agg cs ∧ cs.size = P.cellsOf t := by
  obtain ⟨cs, rfl, hsz, _⟩ : ∃ cs, v = .agg cs ∧ cs.size = P.cellsOf t ∧ Row.okWide P w r b0 t cs := by simpa [Value.okWide, ht] using hv
  exact ⟨cs, rfl, hsz⟩

def IsRow (k : IntKind) (w : World) (a : Option Addr) (len cap : Nat) (zs : List Int) : Prop :=
  (a = none ∧ len = 0 ∧ cap = 0 ∧ zs = []) ∨
  ∃ x, a = some x ∧ len ≤ cap ∧ cap ≤ maxLen ∧ zs.length = cap ∧ (∀ i, i < zs.length → w.cell? (x.add i) = some (.int k (zs.getD i 0))) ∧ ∀ n ∈ zs, (Lit.int k n).wf = true

theorem open_sl {t e : TypeId} {k : IntKind} {fuel : Nat} {c : Value} {x : DataW H × List MemPlace} (hu : P.underlying t = some (.slice e)) (he : P.underlying e = some (.int k)) (hc : P.cellsOf e = 1) {B : Nat} (hB : P.bytesOf e = B)
    (h : DataW.trod enc P w base (fun _ => true) held fuel t [c] = some x) (Z : (x.1.weights P t).all (· ≤ reachBytes) = true) :
    ∃ (A : Option Addr) (cap : Nat) (l : List Int), c = .slice A l.length cap ∧ Go.Proofs.YtillihhndaplmaaW.PrintWords.Kd.C (Go.Proofs.YtillihhndaplmaaW.PrintWords.Kd.int k) w A l.length l ∧ l.length ≤ cap ∧ (∀ n ∈ l, (Lit.int k n).wf = true) ∧ l.length * B ≤ 140737488351232 := by
  obtain ⟨A, n, cap, rfl⟩ : ∃ A n cap, c = .slice A n cap := by
    rcases open_ints hu he hc h with ⟨hcs, _⟩ | ⟨x, l, c, zs, hcs, _⟩
    · exact ⟨none, 0, 0, by simpa using hcs⟩
    · exact ⟨_, _, _, by simpa using hcs⟩
  obtain ⟨z, wz⟩ : ∃ zs, IsRow k w A n cap zs := by
    rcases open_ints hu he hc h with ⟨hcs, _⟩ | ⟨x, l, c, zs, hcs, _, hl, hm, hz, _, hcell, hwz⟩
    · simp at hcs
      obtain ⟨rfl, rfl, rfl⟩ := hcs
      exact ⟨[], .inl ⟨rfl, rfl, rfl, rfl⟩⟩
    · simp at hcs
      obtain ⟨rfl, rfl, rfl⟩ := hcs
      exact ⟨zs, .inr ⟨_, rfl, hl, hm, by simpa using hz, hcell, hwz⟩⟩
  have y := Go.Proofs.YtillihhndaplmaaW.PrintWords.sized_ints (ts := [t]) (ds := [x.1]) (j := 0) (by simpa [DataW.weightsEach] using Z) rfl rfl hu he hc hB (ps := x.2) ⟨fuel, h⟩
  obtain ⟨l, rfl, hr, hm, hw, hcc⟩ := Go.Proofs.YtillihhndaplmaaW.PrintWords.ReadsInt.ofRowC wz
  exact ⟨A, cap, l, rfl, Go.Proofs.YtillihhndaplmaaW.PrintWords.Kd.C_of_reads (d := (0 : Int)) (h1 := fun _ => rfl) hr, hcc, hw, y⟩

end Go.Proofs.Ytillihhndaplmaa.Open
