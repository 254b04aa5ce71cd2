/- Chapter 31: its rows' arguments as data. No condition beyond those that each theorem states. -/
import Derived.Test.YtljndeeahnpnjaaOp
import Derived.Test.YtljndeeahnpnjaaC0
namespace Go.Proofs.Ytljndeeahnpnjaa.Op
open Go.ChangeShapes Go.WideShapes Go.RowKit Go.Proofs.Ytljndeeahnpnjaa.Am Go.Proofs.Ytljndeeahnpnjaa.Cl
set_option linter.unusedVariables false
theorem cells26 : Try.prog.cellsOf 26 = 5 := by kernel_rfl
theorem cells23 : Try.prog.cellsOf 23 = 4 := by kernel_rfl
theorem cells3 : Try.prog.cellsOf 3 = 1 := by kernel_rfl
theorem cells24 : Try.prog.cellsOf 24 = 1 := by kernel_rfl
theorem cells34 : Try.prog.cellsOf 34 = 15 := by kernel_rfl
theorem list2 {α : Type} (l : List α) (h : l.length = 2) : ∃ c0 c1, l = [c0, c1] := by
  match l, h with
  | [c0, c1], _ => exact ⟨c0, c1, rfl⟩
theorem list3 {α : Type} (l : List α) (h : l.length = 3) : ∃ c0 c1 c2, l = [c0, c1, c2] := by
  match l, h with
  | [c0, c1, c2], _ => exact ⟨c0, c1, c2, rfl⟩
theorem list4 {α : Type} (l : List α) (h : l.length = 4) : ∃ c0 c1 c2 c3, l = [c0, c1, c2, c3] := by
  match l, h with
  | [c0, c1, c2, c3], _ => exact ⟨c0, c1, c2, c3, rfl⟩
theorem list5 {α : Type} (l : List α) (h : l.length = 5) : ∃ c0 c1 c2 c3 c4, l = [c0, c1, c2, c3, c4] := by
  match l, h with
  | [c0, c1, c2, c3, c4], _ => exact ⟨c0, c1, c2, c3, c4, rfl⟩
theorem list15 {α : Type} (l : List α) (h : l.length = 15) : ∃ c0 c1 c2 c3 c4 c5 c6 c7 c8 c9 d0 d1 d2 d3 d4, l = [c0, c1, c2, c3, c4, c5, c6, c7, c8, c9, d0, d1, d2, d3, d4] := by
  match l, h with
  | [c0, c1, c2, c3, c4, c5, c6, c7, c8, c9, d0, d1, d2, d3, d4], _ => exact ⟨c0, c1, c2, c3, c4, c5, c6, c7, c8, c9, d0, d1, d2, d3, d4, rfl⟩
section
variable {H : Type} {enc : TypeId × Value → H} {W : World} {held : Bool}
def okN (a : V) : Prop := a.vs.length * 8 ≤ 140737488351232
theorem trod_V {fuel : Nat} {k0 k1 k2 k3 k4 : Value} {x : DataW H × List MemPlace} (h : DataW.trod enc Try.prog W 0 (fun _ => true) held fuel 26 [k0, k1, k2, k3, k4] = some x)
    (Z : (x.1.weights Try.prog 26).all (· ≤ reachBytes) = true) :
    ∃ a : V, RepCs W (fun _ _ => True) a.cs [k0, k1, k2, k3, k4] ∧ okN a := by
  obtain ⟨xs, m, _, ex, _, hl, hg⟩ := DataW.trod_struct Try.underlying26 h
  obtain ⟨x0, x1, rfl⟩ := list2 xs hl
  have g0 : DataW.trod enc Try.prog W 0 (fun _ => true) held m 23 [k0, k1, k2, k3] = some x0 := by
    have q : DataW.trod enc Try.prog W 0 (fun _ => true) held m 23 (([k0, k1, k2, k3, k4].drop 0).take (Try.prog.cellsOf 23)) = some x0 := hg 0 _ rfl
    rw [cells23] at q
    exact q
  have g1 : DataW.trod enc Try.prog W 0 (fun _ => true) held m 24 [k4] = some x1 := by
    have q : DataW.trod enc Try.prog W 0 (fun _ => true) held m 24 (([k0, k1, k2, k3, k4].drop 4).take (Try.prog.cellsOf 24)) = some x1 := hg 1 _ rfl
    rw [cells24] at q
    exact q
  obtain ⟨ys, m2, _, ey, _, hl2, hg2⟩ := DataW.trod_struct Try.underlying23 g0
  obtain ⟨y0, y1, y2, y3, rfl⟩ := list4 ys hl2
  have e0 : DataW.trod enc Try.prog W 0 (fun _ => true) held m2 3 [k0] = some y0 := by
    have q : DataW.trod enc Try.prog W 0 (fun _ => true) held m2 3 (([k0, k1, k2, k3].drop 0).take (Try.prog.cellsOf 3)) = some y0 := hg2 0 _ rfl
    rw [cells3] at q
    exact q
  have e1 : DataW.trod enc Try.prog W 0 (fun _ => true) held m2 3 [k1] = some y1 := by
    have q : DataW.trod enc Try.prog W 0 (fun _ => true) held m2 3 (([k0, k1, k2, k3].drop 1).take (Try.prog.cellsOf 3)) = some y1 := hg2 1 _ rfl
    rw [cells3] at q
    exact q
  have e2 : DataW.trod enc Try.prog W 0 (fun _ => true) held m2 3 [k2] = some y2 := by
    have q : DataW.trod enc Try.prog W 0 (fun _ => true) held m2 3 (([k0, k1, k2, k3].drop 2).take (Try.prog.cellsOf 3)) = some y2 := hg2 2 _ rfl
    rw [cells3] at q
    exact q
  have e3 : DataW.trod enc Try.prog W 0 (fun _ => true) held m2 3 [k3] = some y3 := by
    have q : DataW.trod enc Try.prog W 0 (fun _ => true) held m2 3 (([k0, k1, k2, k3].drop 3).take (Try.prog.cellsOf 3)) = some y3 := hg2 3 _ rfl
    rw [cells3] at q
    exact q
  have Z1 : ((x1).1.weights Try.prog 24).all (· ≤ reachBytes) = true := all_struct Try.underlying26 ex Z 1 rfl rfl
  obtain ⟨a0, f0, _, w0⟩ := DataW.trod_int Try.underlying3 e0
  obtain ⟨a1, f1, _, w1⟩ := DataW.trod_int Try.underlying3 e1
  obtain ⟨a2, f2, _, w2⟩ := DataW.trod_int Try.underlying3 e2
  obtain ⟨a3, f3, _, w3⟩ := DataW.trod_int Try.underlying3 e3
  simp only [List.cons.injEq, and_true] at f0 f1 f2 f3
  subst f0; subst f1; subst f2; subst f3
  obtain ⟨l, hr, hn⟩ := openI Try.underlying24 Try.underlying3 cells3 (by kernel_rfl) g1 Z1
  exact ⟨⟨a0, a1, a2, a3, l⟩, ⟨.int _ _, .int _ _, .int _ _, .int _ _, hr, trivial⟩, hn⟩
theorem open_V {b0 : Nat} {v : Value} {d : DataW H} {p : List MemPlace} (hv : Value.okWide Try.prog W .any b0 26 v) (h : DataW.Trod enc Try.prog W 0 (fun _ => true) held 26 v d p)
    (Z : (d.weights Try.prog 26).all (· ≤ reachBytes) = true) : ∃ a : V, RepP W (fun _ _ => True) (.agg a.cs) v ∧ okN a := by
  obtain ⟨cs, rfl, hz, hw⟩ := okWide_agg (.inl ⟨_, Try.underlying26⟩) hv
  obtain ⟨fu, hf⟩ := h
  obtain ⟨l⟩ := cs
  obtain ⟨k0, k1, k2, k3, k4, rfl⟩ := list5 l (hz.trans cells26)
  replace hf : DataW.trod enc Try.prog W 0 (fun _ => true) held fu 26 [k0, k1, k2, k3, k4] = some (d, p) := hf
  obtain ⟨a, ha, hn⟩ := trod_V hf Z
  exact ⟨a, ⟨_, rfl, ha⟩, hn⟩
theorem RepCs_append {w : World} {ok : Nat → Nat → Prop} : ∀ {xs ys : List CV} {us vs : List Value}, RepCs w ok xs us → RepCs w ok ys vs → RepCs w ok (xs ++ ys) (us ++ vs)
  | [], _, [], _, _, h => h
  | _ :: _, _, _ :: _, _, h, h' => ⟨h.1, RepCs_append h.2 h'⟩
  | [], _, _ :: _, _, h, _ => h.elim
  | _ :: _, _, [], _, h, _ => h.elim
theorem open_T {b0 : Nat} {v : Value} {d : DataW H} {p : List MemPlace} (hv : Value.okWide Try.prog W .any b0 34 v) (h : DataW.Trod enc Try.prog W 0 (fun _ => true) held 34 v d p)
    (Z : (d.weights Try.prog 34).all (· ≤ reachBytes) = true) : ∃ t : T3, RepP W (fun _ _ => True) (.agg t.cs) v ∧ okN t.1 ∧ okN t.2.1 ∧ okN t.2.2 := by
  obtain ⟨cs, rfl, hz, hw⟩ := okWide_agg (.inr ⟨_, _, Try.underlying34⟩) hv
  obtain ⟨fu, hf⟩ := h
  obtain ⟨l⟩ := cs
  obtain ⟨k0, k1, k2, k3, k4, k5, k6, k7, k8, k9, l0, l1, l2, l3, l4, rfl⟩ := list15 l (hz.trans cells34)
  replace hf : DataW.trod enc Try.prog W 0 (fun _ => true) held fu 34 [k0, k1, k2, k3, k4, k5, k6, k7, k8, k9, l0, l1, l2, l3, l4] = some (d, p) := hf
  obtain ⟨xs, m, _, ex, _, hl, hg⟩ := DataW.trod_array Try.underlying34 hf
  obtain ⟨x0, x1, x2, rfl⟩ := list3 xs hl
  have Z0 : ((x0).1.weights Try.prog 26).all (· ≤ reachBytes) = true := all_array Try.underlying34 ex Z 0 rfl
  have Z1 : ((x1).1.weights Try.prog 26).all (· ≤ reachBytes) = true := all_array Try.underlying34 ex Z 1 rfl
  have Z2 : ((x2).1.weights Try.prog 26).all (· ≤ reachBytes) = true := all_array Try.underlying34 ex Z 2 rfl
  have g0 : DataW.trod enc Try.prog W 0 (fun _ => true) held m 26 [k0, k1, k2, k3, k4] = some x0 := by
    have q : DataW.trod enc Try.prog W 0 (fun _ => true) held m 26 (([k0, k1, k2, k3, k4, k5, k6, k7, k8, k9, l0, l1, l2, l3, l4].drop (0 * Try.prog.cellsOf 26)).take (Try.prog.cellsOf 26)) = some x0 := hg 0 (by decide)
    rw [cells26] at q
    exact q
  have g1 : DataW.trod enc Try.prog W 0 (fun _ => true) held m 26 [k5, k6, k7, k8, k9] = some x1 := by
    have q : DataW.trod enc Try.prog W 0 (fun _ => true) held m 26 (([k0, k1, k2, k3, k4, k5, k6, k7, k8, k9, l0, l1, l2, l3, l4].drop (1 * Try.prog.cellsOf 26)).take (Try.prog.cellsOf 26)) = some x1 := hg 1 (by decide)
    rw [cells26] at q
    exact q
  have g2 : DataW.trod enc Try.prog W 0 (fun _ => true) held m 26 [l0, l1, l2, l3, l4] = some x2 := by
    have q : DataW.trod enc Try.prog W 0 (fun _ => true) held m 26 (([k0, k1, k2, k3, k4, k5, k6, k7, k8, k9, l0, l1, l2, l3, l4].drop (2 * Try.prog.cellsOf 26)).take (Try.prog.cellsOf 26)) = some x2 := hg 2 (by decide)
    rw [cells26] at q
    exact q
  obtain ⟨a, ha, na⟩ := trod_V g0 Z0
  obtain ⟨b, hb, nb⟩ := trod_V g1 Z1
  obtain ⟨c, hc, nc⟩ := trod_V g2 Z2
  exact ⟨(a, b, c), ⟨_, rfl, RepCs_append (RepCs_append ha hb) hc⟩, na, nb, nc⟩
theorem open_L {b0 : Nat} {v : Value} {d : DataW H} {p : List MemPlace} (hv : Value.okWide Try.prog W .any b0 31 v) (h : DataW.Trod enc Try.prog W 0 (fun _ => true) held 31 v d p)
    (Z : (d.weights Try.prog 31).all (· ≤ reachBytes) = true) : ∃ l : List V, RepP W (fun _ _ => True) (.c (cVs l)) v ∧ (∀ a ∈ l, okN a) ∧ (l = [] ∨ ∃ es rs, d = .slice es rs ∧ es.length = l.length) := by
  obtain ⟨A, n, c, rfl⟩ := okWide_slice Try.underlying31 hv
  obtain ⟨fu, hf⟩ := h
  replace hf : DataW.trod enc Try.prog W 0 (fun _ => true) held fu 31 [.slice A n c] = some (d, p) := hf
  have hsp : ∀ a m cap, Value.slice A n c = .slice (some a) m cap → a.spot = none := fun a m cap e => by
    simp only [Value.slice.injEq] at e
    obtain ⟨rfl, _, _⟩ := e
    simp only [Value.okWide, Try.underlying31] at hv
    exact cell_spot hv
  exact openE (α := V) (F := V.cs) (Q := okN) Try.underlying31 cells26 (fun _ => rfl) hsp (fun fuel cs x hl h Z => by
    obtain ⟨k0, k1, k2, k3, k4, rfl⟩ := list5 cs hl
    exact trod_V h Z) hf Z
end
end Go.Proofs.Ytljndeeahnpnjaa.Op
