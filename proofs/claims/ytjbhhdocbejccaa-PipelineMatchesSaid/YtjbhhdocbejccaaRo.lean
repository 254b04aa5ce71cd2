/- Chapter 43: its rows' arguments as data. No condition beyond those that each theorem states. -/
import Derived.Test.YtjbhhdocbejccaaOp
import Derived.Test.YtjbhhdocbejccaaP1
namespace Go.Proofs.Ytjbhhdocbejccaa.Op
open Go.ChangeShapes Go.WideShapes Go.RowKit Go.Proofs.Ytjbhhdocbejccaa.Am Go.Proofs.Ytjbhhdocbejccaa.Pl
set_option linter.unusedVariables false
set_option maxRecDepth 100000
theorem cells3 : Try.prog.cellsOf 3 = 1 := by kernel_rfl
theorem cells4 : Try.prog.cellsOf 4 = 1 := by kernel_rfl
theorem cells22 : Try.prog.cellsOf 22 = 1 := by kernel_rfl
theorem cells23 : Try.prog.cellsOf 23 = 1 := by kernel_rfl
theorem cells25 : Try.prog.cellsOf 25 = 8 := by kernel_rfl
theorem cells26 : Try.prog.cellsOf 26 = 1 := by kernel_rfl
theorem cells27 : Try.prog.cellsOf 27 = 1 := by kernel_rfl
theorem cells28 : Try.prog.cellsOf 28 = 1 := by kernel_rfl
theorem cells30 : Try.prog.cellsOf 30 = 6 := by kernel_rfl
theorem cells31 : Try.prog.cellsOf 31 = 1 := by kernel_rfl
theorem cells33 : Try.prog.cellsOf 33 = 4 := by kernel_rfl
theorem cells34 : Try.prog.cellsOf 34 = 1 := by kernel_rfl
theorem cells36 : Try.prog.cellsOf 36 = 4 := by kernel_rfl
theorem cells38 : Try.prog.cellsOf 38 = 12 := by kernel_rfl
theorem cells39 : Try.prog.cellsOf 39 = 1 := by kernel_rfl
theorem cells40 : Try.prog.cellsOf 40 = 1 := by kernel_rfl
theorem cells42 : Try.prog.cellsOf 42 = 8 := by kernel_rfl
theorem cells43 : Try.prog.cellsOf 43 = 1 := by kernel_rfl
theorem cells44 : Try.prog.cellsOf 44 = 1 := by kernel_rfl
theorem cells46 : Try.prog.cellsOf 46 = 62 := by kernel_rfl
theorem cells53 : Try.prog.cellsOf 53 = 1 := by kernel_rfl
theorem cells55 : Try.prog.cellsOf 55 = 4 := by kernel_rfl
theorem cells58 : Try.prog.cellsOf 58 = 1 := by kernel_rfl
theorem cells60 : Try.prog.cellsOf 60 = 6 := by kernel_rfl
theorem list1 {α : Type} (l : List α) (h : l.length = 1) : ∃ c0, l = [c0] := by
  match l, h with
  | [c0], _ => exact ⟨c0, rfl⟩
theorem list4 {α : Type} (l : List α) (h : l.length = 4) : ∃ c0 c1 c2 c3, l = [c0, c1, c2, c3] := by
  match l, h with
  | [c0, c1, c2, c3], _ => exact ⟨c0, c1, c2, c3, rfl⟩
theorem list6 {α : Type} (l : List α) (h : l.length = 6) : ∃ c0 c1 c2 c3 c4 c5, l = [c0, c1, c2, c3, c4, c5] := by
  match l, h with
  | [c0, c1, c2, c3, c4, c5], _ => exact ⟨c0, c1, c2, c3, c4, c5, rfl⟩
theorem list8 {α : Type} (l : List α) (h : l.length = 8) : ∃ c0 c1 c2 c3 c4 c5 c6 c7, l = [c0, c1, c2, c3, c4, c5, c6, c7] := by
  match l, h with
  | [c0, c1, c2, c3, c4, c5, c6, c7], _ => exact ⟨c0, c1, c2, c3, c4, c5, c6, c7, rfl⟩
theorem list12 {α : Type} (l : List α) (h : l.length = 12) : ∃ c0 c1 c2 c3 c4 c5 c6 c7 c8 c9 c10 c11, l = [c0, c1, c2, c3, c4, c5, c6, c7, c8, c9, c10, c11] := by
  match l, h with
  | [c0, c1, c2, c3, c4, c5, c6, c7, c8, c9, c10, c11], _ => exact ⟨c0, c1, c2, c3, c4, c5, c6, c7, c8, c9, c10, c11, rfl⟩
theorem list15 {α : Type} (l : List α) (h : l.length = 15) : ∃ c0 c1 c2 c3 c4 c5 c6 c7 c8 c9 c10 c11 c12 c13 c14, l = [c0, c1, c2, c3, c4, c5, c6, c7, c8, c9, c10, c11, c12, c13, c14] := by
  match l, h with
  | [c0, c1, c2, c3, c4, c5, c6, c7, c8, c9, c10, c11, c12, c13, c14], _ => exact ⟨c0, c1, c2, c3, c4, c5, c6, c7, c8, c9, c10, c11, c12, c13, c14, rfl⟩
theorem rep_cut {W : World} {ok : Nat → Nat → Prop} {xs ys : List CV} {l : List Value} {off n : Nat} (h1 : RepCs W ok xs ((l.drop off).take n)) (h2 : RepCs W ok ys (l.drop (off + n))) : RepCs W ok (xs ++ ys) (l.drop off) := by
  have e : l.drop off = (l.drop off).take n ++ l.drop (off + n) := by rw [← List.drop_drop, List.take_append_drop]
  rw [e]
  exact RepCs.append h1 h2
section
variable {H : Type} {enc : TypeId × Value → H} {W : World} {held : Bool}
/-- Slices among cells have no spot. -/
def NoSpot (cs : List Value) : Prop := ∀ (j : Nat) a n cap, cs[j]? = some (Value.slice (some a) n cap) → a.spot = none
theorem NoSpot.sub {cs : List Value} (h : NoSpot cs) (off n : Nat) : NoSpot ((cs.drop off).take n) := fun j a m cap hj => by
  refine h (off + j) a m cap ?_
  rw [List.getElem?_take] at hj
  split at hj
  · rw [List.getElem?_drop] at hj; exact hj
  · cases hj
abbrev OkR (W : World) : List CV → List Value → Prop := RepCs W (fun _ _ => True)
theorem sub_len {l : List Value} {n off m : Nat} (hl : l.length = n) (h : off + m ≤ n) : ((l.drop off).take m).length = m := by simp; omega
theorem rep_3 {fuel : Nat} {cs : List Value} {x : DataW H × List MemPlace} (hn : cs.length = 1) (h : DataW.trod enc Try.prog W 0 (fun _ => true) held fuel 3 cs = some x) :
    ∃ (x0 : Int), OkR W [.int .i64 x0] cs := by
  obtain ⟨n, rfl, _, _⟩ := DataW.trod_int Try.underlying3 h
  exact ⟨n, .int _ _, trivial⟩
theorem rep_22 {fuel : Nat} {cs : List Value} {x : DataW H × List MemPlace} (hn : cs.length = 1) (h : DataW.trod enc Try.prog W 0 (fun _ => true) held fuel 22 cs = some x) :
    ∃ (x0 : Int), OkR W [.int .i64 x0] cs := by
  obtain ⟨n, rfl, _, _⟩ := DataW.trod_int Try.underlying22 h
  exact ⟨n, .int _ _, trivial⟩
theorem rep_27 {fuel : Nat} {cs : List Value} {x : DataW H × List MemPlace} (hn : cs.length = 1) (h : DataW.trod enc Try.prog W 0 (fun _ => true) held fuel 27 cs = some x) :
    ∃ (x0 : Int), OkR W [.int .i64 x0] cs := by
  obtain ⟨n, rfl, _, _⟩ := DataW.trod_int Try.underlying27 h
  exact ⟨n, .int _ _, trivial⟩
theorem rep_28 {fuel : Nat} {cs : List Value} {x : DataW H × List MemPlace} (hn : cs.length = 1) (h : DataW.trod enc Try.prog W 0 (fun _ => true) held fuel 28 cs = some x) :
    ∃ (x0 : Int), OkR W [.int .i64 x0] cs := by
  obtain ⟨n, rfl, _, _⟩ := DataW.trod_int Try.underlying28 h
  exact ⟨n, .int _ _, trivial⟩
theorem rep_31 {fuel : Nat} {cs : List Value} {x : DataW H × List MemPlace} (hn : cs.length = 1) (h : DataW.trod enc Try.prog W 0 (fun _ => true) held fuel 31 cs = some x) :
    ∃ (x0 : Int), OkR W [.int .i64 x0] cs := by
  obtain ⟨n, rfl, _, _⟩ := DataW.trod_int Try.underlying31 h
  exact ⟨n, .int _ _, trivial⟩
theorem rep_34 {fuel : Nat} {cs : List Value} {x : DataW H × List MemPlace} (hn : cs.length = 1) (h : DataW.trod enc Try.prog W 0 (fun _ => true) held fuel 34 cs = some x) :
    ∃ (x0 : Int), OkR W [.int .i64 x0] cs := by
  obtain ⟨n, rfl, _, _⟩ := DataW.trod_int Try.underlying34 h
  exact ⟨n, .int _ _, trivial⟩
theorem rep_39 {fuel : Nat} {cs : List Value} {x : DataW H × List MemPlace} (hn : cs.length = 1) (h : DataW.trod enc Try.prog W 0 (fun _ => true) held fuel 39 cs = some x) :
    ∃ (x0 : Int), OkR W [.int .i64 x0] cs := by
  obtain ⟨n, rfl, _, _⟩ := DataW.trod_int Try.underlying39 h
  exact ⟨n, .int _ _, trivial⟩
theorem rep_40 {fuel : Nat} {cs : List Value} {x : DataW H × List MemPlace} (hn : cs.length = 1) (h : DataW.trod enc Try.prog W 0 (fun _ => true) held fuel 40 cs = some x) :
    ∃ (x0 : Int), OkR W [.int .i64 x0] cs := by
  obtain ⟨n, rfl, _, _⟩ := DataW.trod_int Try.underlying40 h
  exact ⟨n, .int _ _, trivial⟩
theorem rep_43 {fuel : Nat} {cs : List Value} {x : DataW H × List MemPlace} (hn : cs.length = 1) (h : DataW.trod enc Try.prog W 0 (fun _ => true) held fuel 43 cs = some x) :
    ∃ (x0 : Int), OkR W [.int .i64 x0] cs := by
  obtain ⟨n, rfl, _, _⟩ := DataW.trod_int Try.underlying43 h
  exact ⟨n, .int _ _, trivial⟩
theorem rep_44 {fuel : Nat} {cs : List Value} {x : DataW H × List MemPlace} (hn : cs.length = 1) (h : DataW.trod enc Try.prog W 0 (fun _ => true) held fuel 44 cs = some x) :
    ∃ (x0 : Int), OkR W [.int .i64 x0] cs := by
  obtain ⟨n, rfl, _, _⟩ := DataW.trod_int Try.underlying44 h
  exact ⟨n, .int _ _, trivial⟩
theorem rep_53 {fuel : Nat} {cs : List Value} {x : DataW H × List MemPlace} (hn : cs.length = 1) (h : DataW.trod enc Try.prog W 0 (fun _ => true) held fuel 53 cs = some x) :
    ∃ (x0 : Int), OkR W [.int .i64 x0] cs := by
  obtain ⟨n, rfl, _, _⟩ := DataW.trod_int Try.underlying53 h
  exact ⟨n, .int _ _, trivial⟩
theorem rep_58 {fuel : Nat} {cs : List Value} {x : DataW H × List MemPlace} (hn : cs.length = 1) (h : DataW.trod enc Try.prog W 0 (fun _ => true) held fuel 58 cs = some x) :
    ∃ (x0 : Int), OkR W [.int .i64 x0] cs := by
  obtain ⟨n, rfl, _, _⟩ := DataW.trod_int Try.underlying58 h
  exact ⟨n, .int _ _, trivial⟩
theorem rep_4 {fuel : Nat} {cs : List Value} {x : DataW H × List MemPlace} (hn : cs.length = 1) (h : DataW.trod enc Try.prog W 0 (fun _ => true) held fuel 4 cs = some x) :
    ∃ (x0 : Bool), OkR W [.bool x0] cs := by
  obtain ⟨n, rfl, _⟩ := DataW.trod_bool Try.underlying4 h
  exact ⟨n, .bool _, trivial⟩
theorem rep_60 {fuel : Nat} {cs : List Value} {x : DataW H × List MemPlace} (hn : cs.length = 6) (h : DataW.trod enc Try.prog W 0 (fun _ => true) held fuel 60 cs = some x) :
    ∃ (x0 : Int) (x1 : Int) (x2 : Int) (x3 : Int) (x4 : Int) (x5 : Int), OkR W [.int .i64 x0, .int .i64 x1, .int .i64 x2, .int .i64 x3, .int .i64 x4, .int .i64 x5] cs := by
  obtain ⟨xs, m, _, ex, _, hl, hg⟩ := DataW.trod_struct Try.underlying60 h
  obtain ⟨y0, y1, y2, y3, y4, y5, rfl⟩ := list6 xs hl
  have g0 : DataW.trod enc Try.prog W 0 (fun _ => true) held m 58 ((cs.drop 0).take 1) = some y0 := by
    have q : DataW.trod enc Try.prog W 0 (fun _ => true) held m 58 ((cs.drop 0).take (Try.prog.cellsOf 58)) = some y0 := hg 0 _ rfl
    rw [cells58] at q
    exact q
  obtain ⟨a0, r0⟩ := rep_58 (sub_len hn (by decide)) g0
  have g1 : DataW.trod enc Try.prog W 0 (fun _ => true) held m 3 ((cs.drop 1).take 1) = some y1 := by
    have q : DataW.trod enc Try.prog W 0 (fun _ => true) held m 3 ((cs.drop 1).take (Try.prog.cellsOf 3)) = some y1 := hg 1 _ rfl
    rw [cells3] at q
    exact q
  obtain ⟨a1, r1⟩ := rep_3 (sub_len hn (by decide)) g1
  have g2 : DataW.trod enc Try.prog W 0 (fun _ => true) held m 3 ((cs.drop 2).take 1) = some y2 := by
    have q : DataW.trod enc Try.prog W 0 (fun _ => true) held m 3 ((cs.drop 2).take (Try.prog.cellsOf 3)) = some y2 := hg 2 _ rfl
    rw [cells3] at q
    exact q
  obtain ⟨a2, r2⟩ := rep_3 (sub_len hn (by decide)) g2
  have g3 : DataW.trod enc Try.prog W 0 (fun _ => true) held m 3 ((cs.drop 3).take 1) = some y3 := by
    have q : DataW.trod enc Try.prog W 0 (fun _ => true) held m 3 ((cs.drop 3).take (Try.prog.cellsOf 3)) = some y3 := hg 3 _ rfl
    rw [cells3] at q
    exact q
  obtain ⟨a3, r3⟩ := rep_3 (sub_len hn (by decide)) g3
  have g4 : DataW.trod enc Try.prog W 0 (fun _ => true) held m 3 ((cs.drop 4).take 1) = some y4 := by
    have q : DataW.trod enc Try.prog W 0 (fun _ => true) held m 3 ((cs.drop 4).take (Try.prog.cellsOf 3)) = some y4 := hg 4 _ rfl
    rw [cells3] at q
    exact q
  obtain ⟨a4, r4⟩ := rep_3 (sub_len hn (by decide)) g4
  have g5 : DataW.trod enc Try.prog W 0 (fun _ => true) held m 3 ((cs.drop 5).take 1) = some y5 := by
    have q : DataW.trod enc Try.prog W 0 (fun _ => true) held m 3 ((cs.drop 5).take (Try.prog.cellsOf 3)) = some y5 := hg 5 _ rfl
    rw [cells3] at q
    exact q
  obtain ⟨a5, r5⟩ := rep_3 (sub_len hn (by decide)) g5
  exact ⟨a0, a1, a2, a3, a4, a5, (rep_cut r0 (rep_cut r1 (rep_cut r2 (rep_cut r3 (rep_cut r4 (rep_cut r5 (show OkR W [] (cs.drop 6) by rw [List.drop_eq_nil_of_le (by omega)]; trivial)))))))⟩
theorem rep_55 {fuel : Nat} {cs : List Value} {x : DataW H × List MemPlace} (hn : cs.length = 4) (h : DataW.trod enc Try.prog W 0 (fun _ => true) held fuel 55 cs = some x) :
    ∃ (x0 : Int) (x1 : Int) (x2 : Int) (x3 : Int), OkR W [.int .i64 x0, .int .i64 x1, .int .i64 x2, .int .i64 x3] cs := by
  obtain ⟨xs, m, _, ex, _, hl, hg⟩ := DataW.trod_struct Try.underlying55 h
  obtain ⟨y0, y1, y2, y3, rfl⟩ := list4 xs hl
  have g0 : DataW.trod enc Try.prog W 0 (fun _ => true) held m 3 ((cs.drop 0).take 1) = some y0 := by
    have q : DataW.trod enc Try.prog W 0 (fun _ => true) held m 3 ((cs.drop 0).take (Try.prog.cellsOf 3)) = some y0 := hg 0 _ rfl
    rw [cells3] at q
    exact q
  obtain ⟨a0, r0⟩ := rep_3 (sub_len hn (by decide)) g0
  have g1 : DataW.trod enc Try.prog W 0 (fun _ => true) held m 3 ((cs.drop 1).take 1) = some y1 := by
    have q : DataW.trod enc Try.prog W 0 (fun _ => true) held m 3 ((cs.drop 1).take (Try.prog.cellsOf 3)) = some y1 := hg 1 _ rfl
    rw [cells3] at q
    exact q
  obtain ⟨a1, r1⟩ := rep_3 (sub_len hn (by decide)) g1
  have g2 : DataW.trod enc Try.prog W 0 (fun _ => true) held m 3 ((cs.drop 2).take 1) = some y2 := by
    have q : DataW.trod enc Try.prog W 0 (fun _ => true) held m 3 ((cs.drop 2).take (Try.prog.cellsOf 3)) = some y2 := hg 2 _ rfl
    rw [cells3] at q
    exact q
  obtain ⟨a2, r2⟩ := rep_3 (sub_len hn (by decide)) g2
  have g3 : DataW.trod enc Try.prog W 0 (fun _ => true) held m 53 ((cs.drop 3).take 1) = some y3 := by
    have q : DataW.trod enc Try.prog W 0 (fun _ => true) held m 53 ((cs.drop 3).take (Try.prog.cellsOf 53)) = some y3 := hg 3 _ rfl
    rw [cells53] at q
    exact q
  obtain ⟨a3, r3⟩ := rep_53 (sub_len hn (by decide)) g3
  exact ⟨a0, a1, a2, a3, (rep_cut r0 (rep_cut r1 (rep_cut r2 (rep_cut r3 (show OkR W [] (cs.drop 4) by rw [List.drop_eq_nil_of_le (by omega)]; trivial)))))⟩
theorem rep_23 {fuel : Nat} {cs : List Value} {x : DataW H × List MemPlace} (hn : cs.length = 1) (h : DataW.trod enc Try.prog W 0 (fun _ => true) held fuel 23 cs = some x) (hsp : NoSpot cs) (Z : (x.1.weights Try.prog 23).all (· ≤ reachBytes) = true) :
    ∃ (x0 : List Ins), OkR W [.sl 6 (x0.map Ins.cs)] cs := by
  obtain ⟨c, rfl⟩ := list1 cs hn
  obtain ⟨l, h1, _, _⟩ := openE (α := Ins) (F := Ins.cs) (Q := fun _ => True) Try.underlying23 cells60 (fun _ => rfl) (fun a n cap e => hsp 0 a n cap (by rw [e]; rfl)) (fun fuel cs x hl h Z => by
    obtain ⟨a0, a1, a2, a3, a4, a5, r⟩ := rep_60 hl h
    exact ⟨⟨a0, a1, a2, a3, a4, a5⟩, r, trivial⟩) h Z
  exact ⟨l, h1, trivial⟩
theorem rep_26 {fuel : Nat} {cs : List Value} {x : DataW H × List MemPlace} (hn : cs.length = 1) (h : DataW.trod enc Try.prog W 0 (fun _ => true) held fuel 26 cs = some x) (hsp : NoSpot cs) (Z : (x.1.weights Try.prog 26).all (· ≤ reachBytes) = true) :
    ∃ (x0 : List At), OkR W [.sl 4 (x0.map At.cs)] cs := by
  obtain ⟨c, rfl⟩ := list1 cs hn
  obtain ⟨l, h1, _, _⟩ := openE (α := At) (F := At.cs) (Q := fun _ => True) Try.underlying26 cells55 (fun _ => rfl) (fun a n cap e => hsp 0 a n cap (by rw [e]; rfl)) (fun fuel cs x hl h Z => by
    obtain ⟨a0, a1, a2, a3, r⟩ := rep_55 hl h
    exact ⟨⟨a0, a1, a2, a3⟩, r, trivial⟩) h Z
  exact ⟨l, h1, trivial⟩
theorem rep_25 {fuel : Nat} {cs : List Value} {x : DataW H × List MemPlace} (hn : cs.length = 8) (h : DataW.trod enc Try.prog W 0 (fun _ => true) held fuel 25 cs = some x) (hsp : NoSpot cs) (Z : (x.1.weights Try.prog 25).all (· ≤ reachBytes) = true) :
    ∃ (x0 : Int) (x1 : Int) (x2 : Int) (x3 : Int) (x4 : Int) (x5 : Int) (x6 : Int) (x7 : List Ins), OkR W [.int .i64 x0, .int .i64 x1, .int .i64 x2, .int .i64 x3, .int .i64 x4, .int .i64 x5, .int .i64 x6, .sl 6 (x7.map Ins.cs)] cs := by
  obtain ⟨xs, m, _, ex, _, hl, hg⟩ := DataW.trod_struct Try.underlying25 h
  obtain ⟨y0, y1, y2, y3, y4, y5, y6, y7, rfl⟩ := list8 xs hl
  have g0 : DataW.trod enc Try.prog W 0 (fun _ => true) held m 22 ((cs.drop 0).take 1) = some y0 := by
    have q : DataW.trod enc Try.prog W 0 (fun _ => true) held m 22 ((cs.drop 0).take (Try.prog.cellsOf 22)) = some y0 := hg 0 _ rfl
    rw [cells22] at q
    exact q
  obtain ⟨a0, r0⟩ := rep_22 (sub_len hn (by decide)) g0
  have g1 : DataW.trod enc Try.prog W 0 (fun _ => true) held m 3 ((cs.drop 1).take 1) = some y1 := by
    have q : DataW.trod enc Try.prog W 0 (fun _ => true) held m 3 ((cs.drop 1).take (Try.prog.cellsOf 3)) = some y1 := hg 1 _ rfl
    rw [cells3] at q
    exact q
  obtain ⟨a1, r1⟩ := rep_3 (sub_len hn (by decide)) g1
  have g2 : DataW.trod enc Try.prog W 0 (fun _ => true) held m 3 ((cs.drop 2).take 1) = some y2 := by
    have q : DataW.trod enc Try.prog W 0 (fun _ => true) held m 3 ((cs.drop 2).take (Try.prog.cellsOf 3)) = some y2 := hg 2 _ rfl
    rw [cells3] at q
    exact q
  obtain ⟨a2, r2⟩ := rep_3 (sub_len hn (by decide)) g2
  have g3 : DataW.trod enc Try.prog W 0 (fun _ => true) held m 3 ((cs.drop 3).take 1) = some y3 := by
    have q : DataW.trod enc Try.prog W 0 (fun _ => true) held m 3 ((cs.drop 3).take (Try.prog.cellsOf 3)) = some y3 := hg 3 _ rfl
    rw [cells3] at q
    exact q
  obtain ⟨a3, r3⟩ := rep_3 (sub_len hn (by decide)) g3
  have g4 : DataW.trod enc Try.prog W 0 (fun _ => true) held m 3 ((cs.drop 4).take 1) = some y4 := by
    have q : DataW.trod enc Try.prog W 0 (fun _ => true) held m 3 ((cs.drop 4).take (Try.prog.cellsOf 3)) = some y4 := hg 4 _ rfl
    rw [cells3] at q
    exact q
  obtain ⟨a4, r4⟩ := rep_3 (sub_len hn (by decide)) g4
  have g5 : DataW.trod enc Try.prog W 0 (fun _ => true) held m 3 ((cs.drop 5).take 1) = some y5 := by
    have q : DataW.trod enc Try.prog W 0 (fun _ => true) held m 3 ((cs.drop 5).take (Try.prog.cellsOf 3)) = some y5 := hg 5 _ rfl
    rw [cells3] at q
    exact q
  obtain ⟨a5, r5⟩ := rep_3 (sub_len hn (by decide)) g5
  have g6 : DataW.trod enc Try.prog W 0 (fun _ => true) held m 3 ((cs.drop 6).take 1) = some y6 := by
    have q : DataW.trod enc Try.prog W 0 (fun _ => true) held m 3 ((cs.drop 6).take (Try.prog.cellsOf 3)) = some y6 := hg 6 _ rfl
    rw [cells3] at q
    exact q
  obtain ⟨a6, r6⟩ := rep_3 (sub_len hn (by decide)) g6
  have g7 : DataW.trod enc Try.prog W 0 (fun _ => true) held m 23 ((cs.drop 7).take 1) = some y7 := by
    have q : DataW.trod enc Try.prog W 0 (fun _ => true) held m 23 ((cs.drop 7).take (Try.prog.cellsOf 23)) = some y7 := hg 7 _ rfl
    rw [cells23] at q
    exact q
  have Z7 : ((y7).1.weights Try.prog 23).all (· ≤ reachBytes) = true := all_struct Try.underlying25 ex Z 7 rfl rfl
  obtain ⟨a7, r7⟩ := rep_23 (sub_len hn (by decide)) g7 (hsp.sub 7 1) Z7
  exact ⟨a0, a1, a2, a3, a4, a5, a6, a7, (rep_cut r0 (rep_cut r1 (rep_cut r2 (rep_cut r3 (rep_cut r4 (rep_cut r5 (rep_cut r6 (rep_cut r7 (show OkR W [] (cs.drop 8) by rw [List.drop_eq_nil_of_le (by omega)]; trivial)))))))))⟩
theorem rep_30 {fuel : Nat} {cs : List Value} {x : DataW H × List MemPlace} (hn : cs.length = 6) (h : DataW.trod enc Try.prog W 0 (fun _ => true) held fuel 30 cs = some x) :
    ∃ (x0 : Int) (x1 : Int) (x2 : Int) (x3 : Int) (x4 : Int) (x5 : Int), OkR W [.int .i64 x0, .int .i64 x1, .int .i64 x2, .int .i64 x3, .int .i64 x4, .int .i64 x5] cs := by
  obtain ⟨xs, m, _, ex, _, hl, hg⟩ := DataW.trod_struct Try.underlying30 h
  obtain ⟨y0, y1, y2, y3, y4, y5, rfl⟩ := list6 xs hl
  have g0 : DataW.trod enc Try.prog W 0 (fun _ => true) held m 3 ((cs.drop 0).take 1) = some y0 := by
    have q : DataW.trod enc Try.prog W 0 (fun _ => true) held m 3 ((cs.drop 0).take (Try.prog.cellsOf 3)) = some y0 := hg 0 _ rfl
    rw [cells3] at q
    exact q
  obtain ⟨a0, r0⟩ := rep_3 (sub_len hn (by decide)) g0
  have g1 : DataW.trod enc Try.prog W 0 (fun _ => true) held m 3 ((cs.drop 1).take 1) = some y1 := by
    have q : DataW.trod enc Try.prog W 0 (fun _ => true) held m 3 ((cs.drop 1).take (Try.prog.cellsOf 3)) = some y1 := hg 1 _ rfl
    rw [cells3] at q
    exact q
  obtain ⟨a1, r1⟩ := rep_3 (sub_len hn (by decide)) g1
  have g2 : DataW.trod enc Try.prog W 0 (fun _ => true) held m 3 ((cs.drop 2).take 1) = some y2 := by
    have q : DataW.trod enc Try.prog W 0 (fun _ => true) held m 3 ((cs.drop 2).take (Try.prog.cellsOf 3)) = some y2 := hg 2 _ rfl
    rw [cells3] at q
    exact q
  obtain ⟨a2, r2⟩ := rep_3 (sub_len hn (by decide)) g2
  have g3 : DataW.trod enc Try.prog W 0 (fun _ => true) held m 3 ((cs.drop 3).take 1) = some y3 := by
    have q : DataW.trod enc Try.prog W 0 (fun _ => true) held m 3 ((cs.drop 3).take (Try.prog.cellsOf 3)) = some y3 := hg 3 _ rfl
    rw [cells3] at q
    exact q
  obtain ⟨a3, r3⟩ := rep_3 (sub_len hn (by decide)) g3
  have g4 : DataW.trod enc Try.prog W 0 (fun _ => true) held m 3 ((cs.drop 4).take 1) = some y4 := by
    have q : DataW.trod enc Try.prog W 0 (fun _ => true) held m 3 ((cs.drop 4).take (Try.prog.cellsOf 3)) = some y4 := hg 4 _ rfl
    rw [cells3] at q
    exact q
  obtain ⟨a4, r4⟩ := rep_3 (sub_len hn (by decide)) g4
  have g5 : DataW.trod enc Try.prog W 0 (fun _ => true) held m 3 ((cs.drop 5).take 1) = some y5 := by
    have q : DataW.trod enc Try.prog W 0 (fun _ => true) held m 3 ((cs.drop 5).take (Try.prog.cellsOf 3)) = some y5 := hg 5 _ rfl
    rw [cells3] at q
    exact q
  obtain ⟨a5, r5⟩ := rep_3 (sub_len hn (by decide)) g5
  exact ⟨a0, a1, a2, a3, a4, a5, (rep_cut r0 (rep_cut r1 (rep_cut r2 (rep_cut r3 (rep_cut r4 (rep_cut r5 (show OkR W [] (cs.drop 6) by rw [List.drop_eq_nil_of_le (by omega)]; trivial)))))))⟩
theorem rep_33 {fuel : Nat} {cs : List Value} {x : DataW H × List MemPlace} (hn : cs.length = 4) (h : DataW.trod enc Try.prog W 0 (fun _ => true) held fuel 33 cs = some x) :
    ∃ (x0 : Bool) (x1 : Bool) (x2 : Int) (x3 : Int), OkR W [.bool x0, .bool x1, .int .i64 x2, .int .i64 x3] cs := by
  obtain ⟨xs, m, _, ex, _, hl, hg⟩ := DataW.trod_struct Try.underlying33 h
  obtain ⟨y0, y1, y2, y3, rfl⟩ := list4 xs hl
  have g0 : DataW.trod enc Try.prog W 0 (fun _ => true) held m 4 ((cs.drop 0).take 1) = some y0 := by
    have q : DataW.trod enc Try.prog W 0 (fun _ => true) held m 4 ((cs.drop 0).take (Try.prog.cellsOf 4)) = some y0 := hg 0 _ rfl
    rw [cells4] at q
    exact q
  obtain ⟨a0, r0⟩ := rep_4 (sub_len hn (by decide)) g0
  have g1 : DataW.trod enc Try.prog W 0 (fun _ => true) held m 4 ((cs.drop 1).take 1) = some y1 := by
    have q : DataW.trod enc Try.prog W 0 (fun _ => true) held m 4 ((cs.drop 1).take (Try.prog.cellsOf 4)) = some y1 := hg 1 _ rfl
    rw [cells4] at q
    exact q
  obtain ⟨a1, r1⟩ := rep_4 (sub_len hn (by decide)) g1
  have g2 : DataW.trod enc Try.prog W 0 (fun _ => true) held m 31 ((cs.drop 2).take 1) = some y2 := by
    have q : DataW.trod enc Try.prog W 0 (fun _ => true) held m 31 ((cs.drop 2).take (Try.prog.cellsOf 31)) = some y2 := hg 2 _ rfl
    rw [cells31] at q
    exact q
  obtain ⟨a2, r2⟩ := rep_31 (sub_len hn (by decide)) g2
  have g3 : DataW.trod enc Try.prog W 0 (fun _ => true) held m 3 ((cs.drop 3).take 1) = some y3 := by
    have q : DataW.trod enc Try.prog W 0 (fun _ => true) held m 3 ((cs.drop 3).take (Try.prog.cellsOf 3)) = some y3 := hg 3 _ rfl
    rw [cells3] at q
    exact q
  obtain ⟨a3, r3⟩ := rep_3 (sub_len hn (by decide)) g3
  exact ⟨a0, a1, a2, a3, (rep_cut r0 (rep_cut r1 (rep_cut r2 (rep_cut r3 (show OkR W [] (cs.drop 4) by rw [List.drop_eq_nil_of_le (by omega)]; trivial)))))⟩
theorem rep_36 {fuel : Nat} {cs : List Value} {x : DataW H × List MemPlace} (hn : cs.length = 4) (h : DataW.trod enc Try.prog W 0 (fun _ => true) held fuel 36 cs = some x) :
    ∃ (x0 : Int) (x1 : Int) (x2 : Int) (x3 : Int), OkR W [.int .i64 x0, .int .i64 x1, .int .i64 x2, .int .i64 x3] cs := by
  obtain ⟨xs, m, _, ex, _, hl, hg⟩ := DataW.trod_struct Try.underlying36 h
  obtain ⟨y0, y1, y2, y3, rfl⟩ := list4 xs hl
  have g0 : DataW.trod enc Try.prog W 0 (fun _ => true) held m 31 ((cs.drop 0).take 1) = some y0 := by
    have q : DataW.trod enc Try.prog W 0 (fun _ => true) held m 31 ((cs.drop 0).take (Try.prog.cellsOf 31)) = some y0 := hg 0 _ rfl
    rw [cells31] at q
    exact q
  obtain ⟨a0, r0⟩ := rep_31 (sub_len hn (by decide)) g0
  have g1 : DataW.trod enc Try.prog W 0 (fun _ => true) held m 34 ((cs.drop 1).take 1) = some y1 := by
    have q : DataW.trod enc Try.prog W 0 (fun _ => true) held m 34 ((cs.drop 1).take (Try.prog.cellsOf 34)) = some y1 := hg 1 _ rfl
    rw [cells34] at q
    exact q
  obtain ⟨a1, r1⟩ := rep_34 (sub_len hn (by decide)) g1
  have g2 : DataW.trod enc Try.prog W 0 (fun _ => true) held m 34 ((cs.drop 2).take 1) = some y2 := by
    have q : DataW.trod enc Try.prog W 0 (fun _ => true) held m 34 ((cs.drop 2).take (Try.prog.cellsOf 34)) = some y2 := hg 2 _ rfl
    rw [cells34] at q
    exact q
  obtain ⟨a2, r2⟩ := rep_34 (sub_len hn (by decide)) g2
  have g3 : DataW.trod enc Try.prog W 0 (fun _ => true) held m 34 ((cs.drop 3).take 1) = some y3 := by
    have q : DataW.trod enc Try.prog W 0 (fun _ => true) held m 34 ((cs.drop 3).take (Try.prog.cellsOf 34)) = some y3 := hg 3 _ rfl
    rw [cells34] at q
    exact q
  obtain ⟨a3, r3⟩ := rep_34 (sub_len hn (by decide)) g3
  exact ⟨a0, a1, a2, a3, (rep_cut r0 (rep_cut r1 (rep_cut r2 (rep_cut r3 (show OkR W [] (cs.drop 4) by rw [List.drop_eq_nil_of_le (by omega)]; trivial)))))⟩
theorem rep_38 {fuel : Nat} {cs : List Value} {x : DataW H × List MemPlace} (hn : cs.length = 12) (h : DataW.trod enc Try.prog W 0 (fun _ => true) held fuel 38 cs = some x) :
    ∃ (x0 : Bool) (x1 : Int) (x2 : Int) (x3 : Int) (x4 : Int) (x5 : Int) (x6 : Int) (x7 : Int) (x8 : Int) (x9 : Int) (x10 : Int) (x11 : Int), OkR W [.bool x0, .int .i64 x1, .int .i64 x2, .int .i64 x3, .int .i64 x4, .int .i64 x5, .int .i64 x6, .int .i64 x7, .int .i64 x8, .int .i64 x9, .int .i64 x10, .int .i64 x11] cs := by
  obtain ⟨xs, m, _, ex, _, hl, hg⟩ := DataW.trod_struct Try.underlying38 h
  obtain ⟨y0, y1, y2, y3, y4, y5, rfl⟩ := list6 xs hl
  have g0 : DataW.trod enc Try.prog W 0 (fun _ => true) held m 4 ((cs.drop 0).take 1) = some y0 := by
    have q : DataW.trod enc Try.prog W 0 (fun _ => true) held m 4 ((cs.drop 0).take (Try.prog.cellsOf 4)) = some y0 := hg 0 _ rfl
    rw [cells4] at q
    exact q
  obtain ⟨a0, r0⟩ := rep_4 (sub_len hn (by decide)) g0
  have g1 : DataW.trod enc Try.prog W 0 (fun _ => true) held m 36 ((cs.drop 1).take 4) = some y1 := by
    have q : DataW.trod enc Try.prog W 0 (fun _ => true) held m 36 ((cs.drop 1).take (Try.prog.cellsOf 36)) = some y1 := hg 1 _ rfl
    rw [cells36] at q
    exact q
  obtain ⟨a1, a2, a3, a4, r1⟩ := rep_36 (sub_len hn (by decide)) g1
  have g2 : DataW.trod enc Try.prog W 0 (fun _ => true) held m 36 ((cs.drop 5).take 4) = some y2 := by
    have q : DataW.trod enc Try.prog W 0 (fun _ => true) held m 36 ((cs.drop 5).take (Try.prog.cellsOf 36)) = some y2 := hg 2 _ rfl
    rw [cells36] at q
    exact q
  obtain ⟨a5, a6, a7, a8, r2⟩ := rep_36 (sub_len hn (by decide)) g2
  have g3 : DataW.trod enc Try.prog W 0 (fun _ => true) held m 3 ((cs.drop 9).take 1) = some y3 := by
    have q : DataW.trod enc Try.prog W 0 (fun _ => true) held m 3 ((cs.drop 9).take (Try.prog.cellsOf 3)) = some y3 := hg 3 _ rfl
    rw [cells3] at q
    exact q
  obtain ⟨a9, r3⟩ := rep_3 (sub_len hn (by decide)) g3
  have g4 : DataW.trod enc Try.prog W 0 (fun _ => true) held m 3 ((cs.drop 10).take 1) = some y4 := by
    have q : DataW.trod enc Try.prog W 0 (fun _ => true) held m 3 ((cs.drop 10).take (Try.prog.cellsOf 3)) = some y4 := hg 4 _ rfl
    rw [cells3] at q
    exact q
  obtain ⟨a10, r4⟩ := rep_3 (sub_len hn (by decide)) g4
  have g5 : DataW.trod enc Try.prog W 0 (fun _ => true) held m 3 ((cs.drop 11).take 1) = some y5 := by
    have q : DataW.trod enc Try.prog W 0 (fun _ => true) held m 3 ((cs.drop 11).take (Try.prog.cellsOf 3)) = some y5 := hg 5 _ rfl
    rw [cells3] at q
    exact q
  obtain ⟨a11, r5⟩ := rep_3 (sub_len hn (by decide)) g5
  exact ⟨a0, a1, a2, a3, a4, a5, a6, a7, a8, a9, a10, a11, (rep_cut r0 (rep_cut r1 (rep_cut r2 (rep_cut r3 (rep_cut r4 (rep_cut r5 (show OkR W [] (cs.drop 12) by rw [List.drop_eq_nil_of_le (by omega)]; trivial)))))))⟩
theorem rep_42 {fuel : Nat} {cs : List Value} {x : DataW H × List MemPlace} (hn : cs.length = 8) (h : DataW.trod enc Try.prog W 0 (fun _ => true) held fuel 42 cs = some x) :
    ∃ (x0 : Bool) (x1 : Int) (x2 : Int) (x3 : Int) (x4 : Int) (x5 : Int) (x6 : Int) (x7 : Int), OkR W [.bool x0, .int .i64 x1, .int .i64 x2, .int .i64 x3, .int .i64 x4, .int .i64 x5, .int .i64 x6, .int .i64 x7] cs := by
  obtain ⟨xs, m, _, ex, _, hl, hg⟩ := DataW.trod_struct Try.underlying42 h
  obtain ⟨y0, y1, y2, y3, y4, y5, y6, y7, rfl⟩ := list8 xs hl
  have g0 : DataW.trod enc Try.prog W 0 (fun _ => true) held m 4 ((cs.drop 0).take 1) = some y0 := by
    have q : DataW.trod enc Try.prog W 0 (fun _ => true) held m 4 ((cs.drop 0).take (Try.prog.cellsOf 4)) = some y0 := hg 0 _ rfl
    rw [cells4] at q
    exact q
  obtain ⟨a0, r0⟩ := rep_4 (sub_len hn (by decide)) g0
  have g1 : DataW.trod enc Try.prog W 0 (fun _ => true) held m 39 ((cs.drop 1).take 1) = some y1 := by
    have q : DataW.trod enc Try.prog W 0 (fun _ => true) held m 39 ((cs.drop 1).take (Try.prog.cellsOf 39)) = some y1 := hg 1 _ rfl
    rw [cells39] at q
    exact q
  obtain ⟨a1, r1⟩ := rep_39 (sub_len hn (by decide)) g1
  have g2 : DataW.trod enc Try.prog W 0 (fun _ => true) held m 39 ((cs.drop 2).take 1) = some y2 := by
    have q : DataW.trod enc Try.prog W 0 (fun _ => true) held m 39 ((cs.drop 2).take (Try.prog.cellsOf 39)) = some y2 := hg 2 _ rfl
    rw [cells39] at q
    exact q
  obtain ⟨a2, r2⟩ := rep_39 (sub_len hn (by decide)) g2
  have g3 : DataW.trod enc Try.prog W 0 (fun _ => true) held m 40 ((cs.drop 3).take 1) = some y3 := by
    have q : DataW.trod enc Try.prog W 0 (fun _ => true) held m 40 ((cs.drop 3).take (Try.prog.cellsOf 40)) = some y3 := hg 3 _ rfl
    rw [cells40] at q
    exact q
  obtain ⟨a3, r3⟩ := rep_40 (sub_len hn (by decide)) g3
  have g4 : DataW.trod enc Try.prog W 0 (fun _ => true) held m 39 ((cs.drop 4).take 1) = some y4 := by
    have q : DataW.trod enc Try.prog W 0 (fun _ => true) held m 39 ((cs.drop 4).take (Try.prog.cellsOf 39)) = some y4 := hg 4 _ rfl
    rw [cells39] at q
    exact q
  obtain ⟨a4, r4⟩ := rep_39 (sub_len hn (by decide)) g4
  have g5 : DataW.trod enc Try.prog W 0 (fun _ => true) held m 39 ((cs.drop 5).take 1) = some y5 := by
    have q : DataW.trod enc Try.prog W 0 (fun _ => true) held m 39 ((cs.drop 5).take (Try.prog.cellsOf 39)) = some y5 := hg 5 _ rfl
    rw [cells39] at q
    exact q
  obtain ⟨a5, r5⟩ := rep_39 (sub_len hn (by decide)) g5
  have g6 : DataW.trod enc Try.prog W 0 (fun _ => true) held m 40 ((cs.drop 6).take 1) = some y6 := by
    have q : DataW.trod enc Try.prog W 0 (fun _ => true) held m 40 ((cs.drop 6).take (Try.prog.cellsOf 40)) = some y6 := hg 6 _ rfl
    rw [cells40] at q
    exact q
  obtain ⟨a6, r6⟩ := rep_40 (sub_len hn (by decide)) g6
  have g7 : DataW.trod enc Try.prog W 0 (fun _ => true) held m 3 ((cs.drop 7).take 1) = some y7 := by
    have q : DataW.trod enc Try.prog W 0 (fun _ => true) held m 3 ((cs.drop 7).take (Try.prog.cellsOf 3)) = some y7 := hg 7 _ rfl
    rw [cells3] at q
    exact q
  obtain ⟨a7, r7⟩ := rep_3 (sub_len hn (by decide)) g7
  exact ⟨a0, a1, a2, a3, a4, a5, a6, a7, (rep_cut r0 (rep_cut r1 (rep_cut r2 (rep_cut r3 (rep_cut r4 (rep_cut r5 (rep_cut r6 (rep_cut r7 (show OkR W [] (cs.drop 8) by rw [List.drop_eq_nil_of_le (by omega)]; trivial)))))))))⟩
theorem rep_46 {fuel : Nat} {cs : List Value} {x : DataW H × List MemPlace} (hn : cs.length = 62) (h : DataW.trod enc Try.prog W 0 (fun _ => true) held fuel 46 cs = some x) (hsp : NoSpot cs) (Z : (x.1.weights Try.prog 46).all (· ≤ reachBytes) = true) :
    ∃ p : Pl, OkR W p.cs cs := by
  obtain ⟨xs, m, _, ex, _, hl, hg⟩ := DataW.trod_struct Try.underlying46 h
  obtain ⟨y0, y1, y2, y3, y4, y5, y6, y7, y8, y9, y10, y11, y12, y13, y14, rfl⟩ := list15 xs hl
  have g0 : DataW.trod enc Try.prog W 0 (fun _ => true) held m 25 ((cs.drop 0).take 8) = some y0 := by
    have q : DataW.trod enc Try.prog W 0 (fun _ => true) held m 25 ((cs.drop 0).take (Try.prog.cellsOf 25)) = some y0 := hg 0 _ rfl
    rw [cells25] at q
    exact q
  have Z0 : ((y0).1.weights Try.prog 25).all (· ≤ reachBytes) = true := all_struct Try.underlying46 ex Z 0 rfl rfl
  obtain ⟨a0, a1, a2, a3, a4, a5, a6, a7, r0⟩ := rep_25 (sub_len hn (by decide)) g0 (hsp.sub 0 8) Z0
  have g1 : DataW.trod enc Try.prog W 0 (fun _ => true) held m 25 ((cs.drop 8).take 8) = some y1 := by
    have q : DataW.trod enc Try.prog W 0 (fun _ => true) held m 25 ((cs.drop 8).take (Try.prog.cellsOf 25)) = some y1 := hg 1 _ rfl
    rw [cells25] at q
    exact q
  have Z1 : ((y1).1.weights Try.prog 25).all (· ≤ reachBytes) = true := all_struct Try.underlying46 ex Z 1 rfl rfl
  obtain ⟨a8, a9, a10, a11, a12, a13, a14, a15, r1⟩ := rep_25 (sub_len hn (by decide)) g1 (hsp.sub 8 8) Z1
  have g2 : DataW.trod enc Try.prog W 0 (fun _ => true) held m 25 ((cs.drop 16).take 8) = some y2 := by
    have q : DataW.trod enc Try.prog W 0 (fun _ => true) held m 25 ((cs.drop 16).take (Try.prog.cellsOf 25)) = some y2 := hg 2 _ rfl
    rw [cells25] at q
    exact q
  have Z2 : ((y2).1.weights Try.prog 25).all (· ≤ reachBytes) = true := all_struct Try.underlying46 ex Z 2 rfl rfl
  obtain ⟨a16, a17, a18, a19, a20, a21, a22, a23, r2⟩ := rep_25 (sub_len hn (by decide)) g2 (hsp.sub 16 8) Z2
  have g3 : DataW.trod enc Try.prog W 0 (fun _ => true) held m 4 ((cs.drop 24).take 1) = some y3 := by
    have q : DataW.trod enc Try.prog W 0 (fun _ => true) held m 4 ((cs.drop 24).take (Try.prog.cellsOf 4)) = some y3 := hg 3 _ rfl
    rw [cells4] at q
    exact q
  obtain ⟨a24, r3⟩ := rep_4 (sub_len hn (by decide)) g3
  have g4 : DataW.trod enc Try.prog W 0 (fun _ => true) held m 26 ((cs.drop 25).take 1) = some y4 := by
    have q : DataW.trod enc Try.prog W 0 (fun _ => true) held m 26 ((cs.drop 25).take (Try.prog.cellsOf 26)) = some y4 := hg 4 _ rfl
    rw [cells26] at q
    exact q
  have Z4 : ((y4).1.weights Try.prog 26).all (· ≤ reachBytes) = true := all_struct Try.underlying46 ex Z 4 rfl rfl
  obtain ⟨a25, r4⟩ := rep_26 (sub_len hn (by decide)) g4 (hsp.sub 25 1) Z4
  have g5 : DataW.trod enc Try.prog W 0 (fun _ => true) held m 27 ((cs.drop 26).take 1) = some y5 := by
    have q : DataW.trod enc Try.prog W 0 (fun _ => true) held m 27 ((cs.drop 26).take (Try.prog.cellsOf 27)) = some y5 := hg 5 _ rfl
    rw [cells27] at q
    exact q
  obtain ⟨a26, r5⟩ := rep_27 (sub_len hn (by decide)) g5
  have g6 : DataW.trod enc Try.prog W 0 (fun _ => true) held m 28 ((cs.drop 27).take 1) = some y6 := by
    have q : DataW.trod enc Try.prog W 0 (fun _ => true) held m 28 ((cs.drop 27).take (Try.prog.cellsOf 28)) = some y6 := hg 6 _ rfl
    rw [cells28] at q
    exact q
  obtain ⟨a27, r6⟩ := rep_28 (sub_len hn (by decide)) g6
  have g7 : DataW.trod enc Try.prog W 0 (fun _ => true) held m 4 ((cs.drop 28).take 1) = some y7 := by
    have q : DataW.trod enc Try.prog W 0 (fun _ => true) held m 4 ((cs.drop 28).take (Try.prog.cellsOf 4)) = some y7 := hg 7 _ rfl
    rw [cells4] at q
    exact q
  obtain ⟨a28, r7⟩ := rep_4 (sub_len hn (by decide)) g7
  have g8 : DataW.trod enc Try.prog W 0 (fun _ => true) held m 30 ((cs.drop 29).take 6) = some y8 := by
    have q : DataW.trod enc Try.prog W 0 (fun _ => true) held m 30 ((cs.drop 29).take (Try.prog.cellsOf 30)) = some y8 := hg 8 _ rfl
    rw [cells30] at q
    exact q
  obtain ⟨a29, a30, a31, a32, a33, a34, r8⟩ := rep_30 (sub_len hn (by decide)) g8
  have g9 : DataW.trod enc Try.prog W 0 (fun _ => true) held m 33 ((cs.drop 35).take 4) = some y9 := by
    have q : DataW.trod enc Try.prog W 0 (fun _ => true) held m 33 ((cs.drop 35).take (Try.prog.cellsOf 33)) = some y9 := hg 9 _ rfl
    rw [cells33] at q
    exact q
  obtain ⟨a35, a36, a37, a38, r9⟩ := rep_33 (sub_len hn (by decide)) g9
  have g10 : DataW.trod enc Try.prog W 0 (fun _ => true) held m 38 ((cs.drop 39).take 12) = some y10 := by
    have q : DataW.trod enc Try.prog W 0 (fun _ => true) held m 38 ((cs.drop 39).take (Try.prog.cellsOf 38)) = some y10 := hg 10 _ rfl
    rw [cells38] at q
    exact q
  obtain ⟨a39, a40, a41, a42, a43, a44, a45, a46, a47, a48, a49, a50, r10⟩ := rep_38 (sub_len hn (by decide)) g10
  have g11 : DataW.trod enc Try.prog W 0 (fun _ => true) held m 42 ((cs.drop 51).take 8) = some y11 := by
    have q : DataW.trod enc Try.prog W 0 (fun _ => true) held m 42 ((cs.drop 51).take (Try.prog.cellsOf 42)) = some y11 := hg 11 _ rfl
    rw [cells42] at q
    exact q
  obtain ⟨a51, a52, a53, a54, a55, a56, a57, a58, r11⟩ := rep_42 (sub_len hn (by decide)) g11
  have g12 : DataW.trod enc Try.prog W 0 (fun _ => true) held m 3 ((cs.drop 59).take 1) = some y12 := by
    have q : DataW.trod enc Try.prog W 0 (fun _ => true) held m 3 ((cs.drop 59).take (Try.prog.cellsOf 3)) = some y12 := hg 12 _ rfl
    rw [cells3] at q
    exact q
  obtain ⟨a59, r12⟩ := rep_3 (sub_len hn (by decide)) g12
  have g13 : DataW.trod enc Try.prog W 0 (fun _ => true) held m 43 ((cs.drop 60).take 1) = some y13 := by
    have q : DataW.trod enc Try.prog W 0 (fun _ => true) held m 43 ((cs.drop 60).take (Try.prog.cellsOf 43)) = some y13 := hg 13 _ rfl
    rw [cells43] at q
    exact q
  obtain ⟨a60, r13⟩ := rep_43 (sub_len hn (by decide)) g13
  have g14 : DataW.trod enc Try.prog W 0 (fun _ => true) held m 44 ((cs.drop 61).take 1) = some y14 := by
    have q : DataW.trod enc Try.prog W 0 (fun _ => true) held m 44 ((cs.drop 61).take (Try.prog.cellsOf 44)) = some y14 := hg 14 _ rfl
    rw [cells44] at q
    exact q
  obtain ⟨a61, r14⟩ := rep_44 (sub_len hn (by decide)) g14
  exact ⟨⟨⟨a0, a1, a2, a3, a4, a5, a6, a7⟩, ⟨a8, a9, a10, a11, a12, a13, a14, a15⟩, ⟨a16, a17, a18, a19, a20, a21, a22, a23⟩, a25, a24, a28, a35, a36, a39, a51, a26, a27, a29, a30, a31, a32, a33, a34, a37, a38, a40, a41, a42, a43, a44, a45, a46, a47, a48, a49, a50, a52, a53, a54, a55, a56, a57, a58, a59, a60, a61⟩, (rep_cut r0 (rep_cut r1 (rep_cut r2 (rep_cut r3 (rep_cut r4 (rep_cut r5 (rep_cut r6 (rep_cut r7 (rep_cut r8 (rep_cut r9 (rep_cut r10 (rep_cut r11 (rep_cut r12 (rep_cut r13 (rep_cut r14 (show OkR W [] (cs.drop 62) by rw [List.drop_eq_nil_of_le (by omega)]; trivial))))))))))))))))⟩
theorem open_Pl {b0 : Nat} {v : Value} {d : DataW H} {p : List MemPlace} (hv : Value.okWide Try.prog W .any b0 46 v) (h : DataW.Trod enc Try.prog W 0 (fun _ => true) held 46 v d p)
    (Z : (d.weights Try.prog 46).all (· ≤ reachBytes) = true) : ∃ a : Pl, RepP W (fun _ _ => True) (.agg a.cs) v := by
  obtain ⟨cs, rfl, hz, hw⟩ := okWide_agg (.inl ⟨_, Try.underlying46⟩) hv
  obtain ⟨fu, hf⟩ := h
  obtain ⟨l⟩ := cs
  have hsp : NoSpot l := fun j a n cap hj => row_spot hw (i := j) (by simpa using hj)
  obtain ⟨a, ha⟩ := rep_46 (cs := l) (hz.trans cells46) hf hsp Z
  exact ⟨a, l, rfl, ha⟩
end
end Go.Proofs.Ytjbhhdocbejccaa.Op
