/- Whole blocks loaded and stored at once, for any program and world: laws of the model, no condition beyond those that each theorem states. -/
import Derived.Test.YtmofipnpnepfaaaWWords
import Derived.Test.YtmofipnpnepfaaaProg
import Derived.Deep.MidRow
import Derived.LoopN
namespace Go.Proofs.Ytmofipnpnepfaaa.Mat
open Go.RowKit Go.Proofs.YtmofipnpnepfaaaW.PrintWords
set_option linter.unusedVariables false
set_option linter.unusedSimpArgs false
def A16 (p0 p1 p2 p3 p4 p5 p6 p7 p8 p9 pa pb pc pd pe pf : Int) : Array Value := #[.int .i64 p0, .int .i64 p1, .int .i64 p2, .int .i64 p3, .int .i64 p4, .int .i64 p5, .int .i64 p6, .int .i64 p7, .int .i64 p8, .int .i64 p9, .int .i64 pa, .int .i64 pb, .int .i64 pc, .int .i64 pd, .int .i64 pe, .int .i64 pf]
def s1 : Array Bool := #[true, false, false, false, false, false, false, false, false, false, false, false]
def s2 : Array Bool := #[true, false, true, false, false, false, false, false, false, false, false, false]
def s3 : Array Bool := #[true, false, true, true, false, false, false, false, false, false, false, false]
def s4 : Array Bool := #[true, false, true, true, false, false, true, false, false, false, false, false]
def s5 : Array Bool := #[true, false, true, true, false, false, true, true, false, false, false, false]
def s6 : Array Bool := #[true, true, true, true, false, false, true, true, false, false, false, false]
def s7 : Array Bool := #[true, true, true, true, false, true, true, true, false, false, false, false]
def s8 : Array Bool := #[true, true, true, true, true, true, true, true, false, false, false, false]
def s9 : Array Bool := #[true, true, true, true, true, true, true, true, true, false, false, false]
def s10 : Array Bool := #[true, true, true, true, true, true, true, true, true, true, false, false]
def s11 : Array Bool := #[true, true, true, true, true, true, true, true, true, true, true, false]
def s12 : Array Bool := #[true, true, true, true, true, true, true, true, true, true, true, true]
theorem p1 {α : Type _} {l : List α} {i : Nat} {a : α} : l.toArray.setIfInBounds i a = (l.set i a).toArray := by simp
theorem bb {w w1 : World} {g : Nat} {o : Obj} (hb : Below w.heap.size w w1) (h : w.heap[g]? = some o) : w1.heap[g]? = some o := (hb.block _ (blk_lt h)).trans h
theorem gen_ {Pr : World → Prop} {W0 : World} {G : World → Prop} (h0 : Pr W0) (h : ∀ W, Pr W → G W) : G W0 := h W0 h0
theorem range_blk {w : World} {g : Nat} {t : TypeId} {cs : Array Value} (h : w.heap[g]? = some (.cells cs t (0, 0))) : w.rangeAt g 0 cs.toList := fun j v hv => by
  rw [Nat.zero_add, blk_cell h j]; simpa using hv
theorem there_blk {w : World} {g n : Nat} {t : TypeId} {cs : Array Value} (h : w.heap[g]? = some (.cells cs t (0, 0))) (hn : n ≤ cs.size) : w.there g 0 n := fun j hj => by
  rw [Nat.zero_add]
  refine ⟨?_, blk_frozen h j⟩
  rw [blk_cell h j]
  simp [Nat.lt_of_lt_of_le hj hn]
theorem blk_setCells (g : Nat) (t : TypeId) : ∀ (vs zs pre : List Value) (w : World), zs.length = vs.length → w.heap[g]? = some (.cells (pre ++ zs).toArray t (0, 0)) → (w.setCells g pre.length vs).heap[g]? = some (.cells (pre ++ vs).toArray t (0, 0))
  | [], zs, pre, w, hl, h => by
    have : zs = [] := List.length_eq_zero_iff.1 hl
    subst this; exact h
  | v :: vs, [], pre, w, hl, h => by simp at hl
  | v :: vs, z :: zs, pre, w, hl, h => by
    have e : (pre ++ z :: zs).toArray.setIfInBounds pre.length v = ((pre ++ [v]) ++ zs).toArray := by simp
    have h1 := blk_put h pre.length v e
    have h2 := blk_setCells g t vs zs (pre ++ [v]) _ (by simpa using hl) h1
    rw [show (pre ++ [v]).length = pre.length + 1 by simp] at h2
    show ((w.setCell ⟨g, pre.length, none⟩ v).setCells g (pre.length + 1) vs).heap[g]? = _
    rw [h2]; simp
theorem blk_stored {w : World} {g : Nat} {t : TypeId} {zs cs : Array Value} (h : w.heap[g]? = some (.cells zs t (0, 0))) (hs : zs.size = cs.size) : (w.setCells g 0 cs.toList).heap[g]? = some (.cells cs t (0, 0)) := by
  have := blk_setCells g t cs.toList zs.toList [] w (by simpa using hs) (by simpa using h)
  simpa using this
theorem far_stored {g g' : Nat} {cs : Array Value} {t : TypeId} (hne : g' ≠ g) : ∀ (vs : List Value) (n : Nat) (w : World), w.heap[g']? = some (.cells cs t (0, 0)) → (w.setCells g n vs).heap[g']? = some (.cells cs t (0, 0))
  | [], n, w, h => h
  | v :: vs, n, w, h => far_stored hne vs (n + 1) _ (blk_far h hne _)
theorem below_stored {g : Nat} {w0 : World} (hle : w0.heap.size ≤ g) : ∀ (vs : List Value) (n : Nat) (w : World), Below w0.heap.size w0 w → Below w0.heap.size w0 (w.setCells g n vs)
  | [], n, w, h => h
  | v :: vs, n, w, h => below_stored hle vs (n + 1) _ (below_set h hle)
/-- A plain region that loads a whole block and stores it into another one. -/
theorem copy_region {P : Program} {id : Nat} {op1 op2 : Oper} {a : Act} {w : World} {Q : Exit → Act → World → Prop} (ty : TypeId) (x y z : Nat) (d : TypeDesc) (b c : Nat) (cs zs : Array Value)
    (h1 : op1.op = .load ty (.tmp x)) (g1 : op1.guard = none) (h2 : op2.op = .store ty (.tmp y) (.tmp z)) (g2 : op2.guard = none)
    (hb : w.heap[b]? = some (.cells cs ty (0, 0))) (hc : w.heap[c]? = some (.cells zs ty (0, 0))) (hs : zs.size = cs.size) (ho : cs.all (·.oneCell') = true)
    (hu : P.underlying ty = some d) (hd : d.isRow = true) (hi : (P.info? ty).map (·.size) = some cs.size)
    (hx : a.eval (.tmp x) = .pointer (some ⟨b, 0, none⟩)) (hy : (a.put op1.dst (.agg cs)).eval (.tmp y) = .pointer (some ⟨c, 0, none⟩)) (hz : (a.put op1.dst (.agg cs)).eval (.tmp z) = .agg cs)
    (hK : Q .normal ((a.put op1.dst (.agg cs)).put op2.dst undef) (w.setCells c 0 cs.toList)) : (Code.region id #[op1, op2] false).wp P Q a w := by
  refine wp_region_list ?_
  refine wpList_load_mid g1 ty (.tmp x) h1 b 0 hx cs.toList d (range_blk hb) hu hd (by simpa using hi) ?_
  refine wpList_store_mid g2 ty (.tmp y) (.tmp z) h2 c 0 cs (by simpa using hy) (by simpa using hz) (there_blk hc (by omega)) hi ho ?_
  refine wpList_nil ?_
  simpa using hK
/-- A move ahead of a load of a whole block, at the list of a plain region's operations. -/
theorem move_load {P : Program} {ops : Array Oper} {rest : List Oper} {op0 op1 : Oper} {a : Act} {w : World} {Q : Exit → Act → World → Prop} (ty : TypeId) (m x : Nat) (v : Value) (d : TypeDesc) (b : Nat) (cs : Array Value)
    (h0 : op0.op = .move (.tmp m)) (g0 : op0.guard = none) (h1 : op1.op = .load ty (.tmp x)) (g1 : op1.guard = none)
    (hm : a.eval (.tmp m) = v) (hb : w.heap[b]? = some (.cells cs ty (0, 0)))
    (hu : P.underlying ty = some d) (hd : d.isRow = true) (hi : (P.info? ty).map (·.size) = some cs.size)
    (hx : (a.put op0.dst v).eval (.tmp x) = .pointer (some ⟨b, 0, none⟩))
    (hK : wpList P ops Q rest ((a.put op0.dst v).put op1.dst (.agg cs)) w) : wpList P ops Q (op0 :: op1 :: rest) a w := by
  refine wpList_plain g0 fun K hK0 => ?_
  have h2 : wpList P ops Q (op1 :: rest) (a.put op0.dst v) w := by
    refine wpList_load_mid g1 ty (.tmp x) h1 b 0 hx cs.toList d (range_blk hb) hu hd (by simpa using hi) ?_
    simpa using hK
  unfold Oper.wp execOp
  simp only [h0, Sem.run_pure, Result.andThen_ok, hm]
  exact hK0 _ _ h2
end Go.Proofs.Ytmofipnpnepfaaa.Mat
