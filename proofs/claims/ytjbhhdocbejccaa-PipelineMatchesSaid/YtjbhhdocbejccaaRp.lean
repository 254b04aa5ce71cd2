/- Chapter 43: targets among a row's arguments, as data. No condition beyond those that each theorem states. -/
import Derived.Test.YtjbhhdocbejccaaRo
import Derived.Test.YtjbhhdocbejccaaT3
namespace Go.Proofs.Ytjbhhdocbejccaa.Op
open Go.ChangeShapes Go.WideShapes Go.RowKit Go.Proofs.Ytjbhhdocbejccaa.Am Go.Proofs.Ytjbhhdocbejccaa.Pl
set_option linter.unusedVariables false
set_option maxRecDepth 100000
theorem cells5 : Try.prog.cellsOf 5 = 1 := by kernel_rfl
theorem cells62 : Try.prog.cellsOf 62 = 1 := by kernel_rfl
theorem cells63 : Try.prog.cellsOf 63 = 1 := by kernel_rfl
theorem cells65 : Try.prog.cellsOf 65 = 7 := by kernel_rfl
theorem cells77 : Try.prog.cellsOf 77 = 1 := by kernel_rfl
theorem cells79 : Try.prog.cellsOf 79 = 4 := by kernel_rfl
theorem list7 {α : Type} (l : List α) (h : l.length = 7) : ∃ c0 c1 c2 c3 c4 c5 c6, l = [c0, c1, c2, c3, c4, c5, c6] := by
  match l, h with
  | [c0, c1, c2, c3, c4, c5, c6], _ => exact ⟨c0, c1, c2, c3, c4, c5, c6, rfl⟩
section
variable {H : Type} {enc : TypeId × Value → H} {P : Program} {w : World} {base : Nat} {held : Bool}
/-- A slice of elements that are read one by one, wherever it lies. -/
theorem openF {α : Type} {F : α → List CV} {sz : Nat} {t e : TypeId} {fuel : Nat} {c : Value} {x : DataW H × List MemPlace} (hu : P.underlying t = some (.slice e)) (hc : P.cellsOf e = sz) (hp : 0 < sz) (hF : ∀ a, (F a).length = sz)
    (hel : ∀ (fuel : Nat) (cs : List Value) (x : DataW H × List MemPlace), cs.length = sz → DataW.trod enc P w base (fun _ => true) held fuel e cs = some x → (x.1.weights P e).all (· ≤ reachBytes) = true → ∃ a : α, RepCs w (fun _ _ => True) (F a) cs)
    (h : DataW.trod enc P w base (fun _ => true) held fuel t [c] = some x) (Z : (x.1.weights P t).all (· ≤ reachBytes) = true) :
    ∃ l : List α, RepC w (fun _ _ => True) (.sl sz (l.map F)) c := by
  rcases DataW.trod_slice hu h with ⟨h1, _⟩ | ⟨a, len, cap, elems, rest, n, _, h1, h2, _, hl, hm, hlen, hels, hsp, _⟩
  · obtain rfl : c = .slice none 0 0 := by simpa using h1
    exact ⟨[], .nil _ none⟩
  · obtain rfl : c = .slice (some a) len cap := by simpa using h1
    by_cases h0 : cap = 0
    · subst h0
      obtain rfl : len = 0 := by omega
      exact ⟨[], .nil _ (some a)⟩
    have hs : a.spot = none := by
      obtain ⟨hr, hrr⟩ := hsp rfl
      have key : ∃ y, (w.cells? base (a.add (0 * P.cellsOf e)) (P.cellsOf e)).bind (DataW.trod enc P w base (fun _ => true) held n e) = some y := by
        by_cases hl0 : 0 < len
        · have g := hels 0 hl0
          exact ⟨elems[0], g.trans (List.getElem?_eq_getElem (by omega))⟩
        · have g := hrr 0 (by omega)
          rw [show len + 0 = 0 by omega] at g
          exact ⟨rest[0], g.trans (List.getElem?_eq_getElem (by omega))⟩
      obtain ⟨y, hy⟩ := key
      rw [Option.bind_eq_some_iff] at hy
      obtain ⟨cs, g1, _⟩ := hy
      have g := (World.cells?_some g1).2.2 0 (by rw [hc]; exact hp)
      have e1 : (a.add (0 * P.cellsOf e)).add 0 = a := by simp [Addr.add]
      rw [e1] at g
      have hcl := (World.cells?_some g1).2.1
      rw [List.getElem?_eq_getElem (by rw [hcl, hc]; exact hp)] at g
      exact World.cell?_spot g
    obtain ⟨l, h3, _, _⟩ := openE (Q := fun _ => True) hu hc hF (fun a' n' c' e => by cases e; exact hs) (fun fuel cs x q1 q2 q3 => (hel fuel cs x q1 q2 q3).elim fun a r => ⟨a, r, trivial⟩) h Z
    exact ⟨l, h3⟩
end
section
variable {H : Type} {enc : TypeId × Value → H} {W : World} {held : Bool}
theorem rep_5 {fuel : Nat} {cs : List Value} {x : DataW H × List MemPlace} (hn : cs.length = 1) (h : DataW.trod enc Try.prog W 0 (fun _ => true) held fuel 5 cs = some x) :
    ∃ a : Int, OkR W (bC a) cs := by
  obtain ⟨n, rfl, _, _⟩ := DataW.trod_int Try.underlying5 h
  exact ⟨n, .int _ _, trivial⟩
theorem rep_3c {fuel : Nat} {cs : List Value} {x : DataW H × List MemPlace} (hn : cs.length = 1) (h : DataW.trod enc Try.prog W 0 (fun _ => true) held fuel 3 cs = some x) :
    ∃ a : Int, OkR W (iC a) cs := by
  obtain ⟨n, rfl, _, _⟩ := DataW.trod_int Try.underlying3 h
  exact ⟨n, .int _ _, trivial⟩
theorem rep_77 {fuel : Nat} {cs : List Value} {x : DataW H × List MemPlace} (hn : cs.length = 1) (h : DataW.trod enc Try.prog W 0 (fun _ => true) held fuel 77 cs = some x) (Z : (x.1.weights Try.prog 77).all (· ≤ reachBytes) = true) :
    ∃ l : List Int, OkR W [.sl 1 (l.map bC)] cs := by
  obtain ⟨c, rfl⟩ := list1 cs hn
  obtain ⟨l, h1⟩ := openF (F := bC) Try.underlying77 cells5 (by decide) (fun _ => rfl) (fun fuel cs x hl h Z => rep_5 hl h) h Z
  exact ⟨l, h1, trivial⟩
theorem rep_63 {fuel : Nat} {cs : List Value} {x : DataW H × List MemPlace} (hn : cs.length = 1) (h : DataW.trod enc Try.prog W 0 (fun _ => true) held fuel 63 cs = some x) (Z : (x.1.weights Try.prog 63).all (· ≤ reachBytes) = true) :
    ∃ l : List Int, OkR W [.sl 1 (l.map iC)] cs := by
  obtain ⟨c, rfl⟩ := list1 cs hn
  obtain ⟨l, h1⟩ := openF (F := iC) Try.underlying63 cells3 (by decide) (fun _ => rfl) (fun fuel cs x hl h Z => rep_3c hl h) h Z
  exact ⟨l, h1, trivial⟩
theorem rep_79 {fuel : Nat} {cs : List Value} {x : DataW H × List MemPlace} (hn : cs.length = 4) (h : DataW.trod enc Try.prog W 0 (fun _ => true) held fuel 79 cs = some x) (Z : (x.1.weights Try.prog 79).all (· ≤ reachBytes) = true) :
    ∃ a : Im, OkR W a.cs cs := by
  obtain ⟨xs, m, _, ex, _, hl, hg⟩ := DataW.trod_struct Try.underlying79 h
  obtain ⟨y0, y1, y2, y3, rfl⟩ := list4 xs hl
  have g0 : DataW.trod enc Try.prog W 0 (fun _ => true) held m 43 ((cs.drop 0).take 1) = some y0 := by
    have q : DataW.trod enc Try.prog W 0 (fun _ => true) held m 43 ((cs.drop 0).take (Try.prog.cellsOf 43)) = some y0 := hg 0 _ rfl
    rw [cells43] at q
    exact q
  obtain ⟨a0, r0⟩ := rep_43 (sub_len hn (by decide)) g0
  have g1 : DataW.trod enc Try.prog W 0 (fun _ => true) held m 3 ((cs.drop 1).take 1) = some y1 := by
    have q : DataW.trod enc Try.prog W 0 (fun _ => true) held m 3 ((cs.drop 1).take (Try.prog.cellsOf 3)) = some y1 := hg 1 _ rfl
    rw [cells3] at q
    exact q
  obtain ⟨a1, r1⟩ := rep_3 (sub_len hn (by decide)) g1
  have g2 : DataW.trod enc Try.prog W 0 (fun _ => true) held m 3 ((cs.drop 2).take 1) = some y2 := by
    have q : DataW.trod enc Try.prog W 0 (fun _ => true) held m 3 ((cs.drop 2).take (Try.prog.cellsOf 3)) = some y2 := hg 2 _ rfl
    rw [cells3] at q
    exact q
  obtain ⟨a2, r2⟩ := rep_3 (sub_len hn (by decide)) g2
  have g3 : DataW.trod enc Try.prog W 0 (fun _ => true) held m 77 ((cs.drop 3).take 1) = some y3 := by
    have q : DataW.trod enc Try.prog W 0 (fun _ => true) held m 77 ((cs.drop 3).take (Try.prog.cellsOf 77)) = some y3 := hg 3 _ rfl
    rw [cells77] at q
    exact q
  have Z3 : ((y3).1.weights Try.prog 77).all (· ≤ reachBytes) = true := all_struct Try.underlying79 ex Z 3 rfl rfl
  obtain ⟨a3, r3⟩ := rep_77 (sub_len hn (by decide)) g3 Z3
  exact ⟨⟨a0, a1, a2, a3⟩, (rep_cut r0 (rep_cut r1 (rep_cut r2 (rep_cut r3 (show OkR W [] (cs.drop 4) by rw [List.drop_eq_nil_of_le (by omega)]; trivial)))))⟩
theorem rep_62 {fuel : Nat} {cs : List Value} {x : DataW H × List MemPlace} (hn : cs.length = 1) (h : DataW.trod enc Try.prog W 0 (fun _ => true) held fuel 62 cs = some x) (Z : (x.1.weights Try.prog 62).all (· ≤ reachBytes) = true) :
    ∃ l : List Im, OkR W [.sl 4 (l.map Im.cs)] cs := by
  obtain ⟨c, rfl⟩ := list1 cs hn
  obtain ⟨l, h1⟩ := openF (F := Im.cs) Try.underlying62 cells79 (by decide) (fun _ => rfl) (fun fuel cs x hl h Z => rep_79 hl h Z) h Z
  exact ⟨l, h1, trivial⟩
theorem rep_65 {fuel : Nat} {cs : List Value} {x : DataW H × List MemPlace} (hn : cs.length = 7) (h : DataW.trod enc Try.prog W 0 (fun _ => true) held fuel 65 cs = some x) (Z : (x.1.weights Try.prog 65).all (· ≤ reachBytes) = true) :
    ∃ a : Tg, OkR W a.cs cs := by
  obtain ⟨xs, m, _, ex, _, hl, hg⟩ := DataW.trod_struct Try.underlying65 h
  obtain ⟨y0, y1, y2, y3, y4, y5, y6, rfl⟩ := list7 xs hl
  have g0 : DataW.trod enc Try.prog W 0 (fun _ => true) held m 3 ((cs.drop 0).take 1) = some y0 := by
    have q : DataW.trod enc Try.prog W 0 (fun _ => true) held m 3 ((cs.drop 0).take (Try.prog.cellsOf 3)) = some y0 := hg 0 _ rfl
    rw [cells3] at q
    exact q
  obtain ⟨a0, r0⟩ := rep_3 (sub_len hn (by decide)) g0
  have g1 : DataW.trod enc Try.prog W 0 (fun _ => true) held m 3 ((cs.drop 1).take 1) = some y1 := by
    have q : DataW.trod enc Try.prog W 0 (fun _ => true) held m 3 ((cs.drop 1).take (Try.prog.cellsOf 3)) = some y1 := hg 1 _ rfl
    rw [cells3] at q
    exact q
  obtain ⟨a1, r1⟩ := rep_3 (sub_len hn (by decide)) g1
  have g2 : DataW.trod enc Try.prog W 0 (fun _ => true) held m 3 ((cs.drop 2).take 1) = some y2 := by
    have q : DataW.trod enc Try.prog W 0 (fun _ => true) held m 3 ((cs.drop 2).take (Try.prog.cellsOf 3)) = some y2 := hg 2 _ rfl
    rw [cells3] at q
    exact q
  obtain ⟨a2, r2⟩ := rep_3 (sub_len hn (by decide)) g2
  have g3 : DataW.trod enc Try.prog W 0 (fun _ => true) held m 44 ((cs.drop 3).take 1) = some y3 := by
    have q : DataW.trod enc Try.prog W 0 (fun _ => true) held m 44 ((cs.drop 3).take (Try.prog.cellsOf 44)) = some y3 := hg 3 _ rfl
    rw [cells44] at q
    exact q
  obtain ⟨a3, r3⟩ := rep_44 (sub_len hn (by decide)) g3
  have g4 : DataW.trod enc Try.prog W 0 (fun _ => true) held m 62 ((cs.drop 4).take 1) = some y4 := by
    have q : DataW.trod enc Try.prog W 0 (fun _ => true) held m 62 ((cs.drop 4).take (Try.prog.cellsOf 62)) = some y4 := hg 4 _ rfl
    rw [cells62] at q
    exact q
  have Z4 : ((y4).1.weights Try.prog 62).all (· ≤ reachBytes) = true := all_struct Try.underlying65 ex Z 4 rfl rfl
  obtain ⟨a4, r4⟩ := rep_62 (sub_len hn (by decide)) g4 Z4
  have g5 : DataW.trod enc Try.prog W 0 (fun _ => true) held m 63 ((cs.drop 5).take 1) = some y5 := by
    have q : DataW.trod enc Try.prog W 0 (fun _ => true) held m 63 ((cs.drop 5).take (Try.prog.cellsOf 63)) = some y5 := hg 5 _ rfl
    rw [cells63] at q
    exact q
  have Z5 : ((y5).1.weights Try.prog 63).all (· ≤ reachBytes) = true := all_struct Try.underlying65 ex Z 5 rfl rfl
  obtain ⟨a5, r5⟩ := rep_63 (sub_len hn (by decide)) g5 Z5
  have g6 : DataW.trod enc Try.prog W 0 (fun _ => true) held m 63 ((cs.drop 6).take 1) = some y6 := by
    have q : DataW.trod enc Try.prog W 0 (fun _ => true) held m 63 ((cs.drop 6).take (Try.prog.cellsOf 63)) = some y6 := hg 6 _ rfl
    rw [cells63] at q
    exact q
  have Z6 : ((y6).1.weights Try.prog 63).all (· ≤ reachBytes) = true := all_struct Try.underlying65 ex Z 6 rfl rfl
  obtain ⟨a6, r6⟩ := rep_63 (sub_len hn (by decide)) g6 Z6
  exact ⟨⟨a0, a1, a2, a3, a4, a5, a6⟩, (rep_cut r0 (rep_cut r1 (rep_cut r2 (rep_cut r3 (rep_cut r4 (rep_cut r5 (rep_cut r6 (show OkR W [] (cs.drop 7) by rw [List.drop_eq_nil_of_le (by omega)]; trivial))))))))⟩
theorem open_Tg {b0 : Nat} {v : Value} {d : DataW H} {p : List MemPlace} (hv : Value.okWide Try.prog W .any b0 65 v) (h : DataW.Trod enc Try.prog W 0 (fun _ => true) held 65 v d p)
    (Z : (d.weights Try.prog 65).all (· ≤ reachBytes) = true) : ∃ a : Tg, RepP W (fun _ _ => True) (.agg a.cs) v := by
  obtain ⟨cs, rfl, hz, hw⟩ := okWide_agg (.inl ⟨_, Try.underlying65⟩) hv
  obtain ⟨fu, hf⟩ := h
  obtain ⟨l⟩ := cs
  obtain ⟨a, ha⟩ := rep_65 (cs := l) (hz.trans cells65) hf Z
  exact ⟨a, l, rfl, ha⟩
end
end Go.Proofs.Ytjbhhdocbejccaa.Op
