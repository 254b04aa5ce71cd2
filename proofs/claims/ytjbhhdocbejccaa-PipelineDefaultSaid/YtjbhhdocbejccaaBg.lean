/- Chapter 43, for PipelineDefault: the default pipeline in memory: where its lists lie, what a store does to them. Conditions: those that each theorem states. -/
import Derived.Test.YtjbhhdocbejccaaBf
namespace Go.Proofs.Ytjbhhdocbejccaa.Bl
open Go Go.RowKit Go.Proofs.Ytjbhhdocbejccaa.Bm
set_option linter.unusedVariables false
set_option linter.unusedSimpArgs false
set_option maxRecDepth 100000
/-- Whole numbers, one behind the other. -/
def IntsAt (w : World) (b o : Nat) (L : List Int) : Prop := ∀ j x, L[j]? = some x → cz w ⟨b, o + j, none⟩ = some (.int .i64 x)
section
variable {w w' : World} {ok ok' : Nat → Nat → Prop}
theorem cs_cut : ∀ {xs ys : List CV} {vs : List Value}, RepCs w ok (xs ++ ys) vs → ∃ us ts, vs = us ++ ts ∧ RepCs w ok xs us ∧ RepCs w ok ys ts
  | [], ys, vs, h => ⟨[], vs, rfl, trivial, h⟩
  | x :: xs, ys, v :: vs, h => by
    obtain ⟨us, ts, e, h1, h2⟩ := cs_cut (xs := xs) (ys := ys) h.2
    exact ⟨v :: us, ts, by rw [e]; rfl, ⟨h.1, h1⟩, h2⟩
  | x :: xs, ys, [], h => h.elim
theorem cs_cut1 {x : CV} {ys : List CV} : ∀ {vs : List Value}, RepCs w ok ([x] ++ ys) vs → ∃ v ts, vs = [v] ++ ts ∧ RepC w ok x v ∧ RepCs w ok ys ts
  | v :: ts, h => ⟨v, ts, rfl, h.1, h.2⟩
  | [], h => h.elim
def still : CV → Bool
  | .int _ _ => true
  | .bool _ => true
  | .sl _ [] => true
  | _ => false
theorem c_move {c : CV} {v : Value} (hs : still c = true) (h : RepC w ok c v) : RepC w' ok' c v := by
  cases h with
  | int k n => exact .int k n
  | bool b => exact .bool b
  | nil sz A => exact .nil sz A
  | sl sz es b off cap f hc hsz hcell hrep =>
    cases es with
    | nil => exact .sl sz [] b off cap f hc (fun e he => by cases he) (fun i j hi => by simp at hi) (fun i e j c he => by simp at he)
    | cons e es => cases hs
  | fn f => cases hs
  | nilfn => cases hs
  | any v h => cases hs
  | raw v h => cases hs
theorem cs_move : ∀ {xs : List CV} {vs : List Value}, xs.all still = true → RepCs w ok xs vs → RepCs w' ok' xs vs
  | [], [], _, _ => trivial
  | x :: xs, v :: vs, hs, h => by
    simp only [List.all_cons, Bool.and_eq_true] at hs
    exact ⟨c_move hs.1 h.1, cs_move hs.2 h.2⟩
  | [], _ :: _, _, h => h.elim
  | _ :: _, [], _, h => h.elim
theorem chunks_flat {sz : Nat} : ∀ (n : Nat) (l : List CV), l.length = n * sz → (chunks sz n l).length = n ∧ (∀ e ∈ chunks sz n l, e.length = sz) ∧ (chunks sz n l).flatten = l
  | 0, l, h => by
    have : l = [] := List.eq_nil_of_length_eq_zero (by simpa using h)
    subst this; simp [chunks]
  | n + 1, l, h => by
    have hl : sz ≤ l.length := by rw [h, Nat.add_mul]; omega
    obtain ⟨i1, i2, i3⟩ := chunks_flat (sz := sz) n (l.drop sz) (by rw [List.length_drop, h, Nat.add_mul]; omega)
    refine ⟨by simp [chunks, i1], fun e he => ?_, by simp [chunks, i3]⟩
    simp only [chunks, List.mem_cons] at he
    rcases he with rfl | he
    · simp; omega
    · exact i2 e he
theorem ints_of {sz n : Nat} {L : List Int} {v : Value} (h : RepC w ok (.sl sz (rowsOf sz n L)) v) (hl : L.length = n * sz) (hn : 0 < n) :
    ∃ b o cap, v = .slice (some ⟨b, o, none⟩) n cap ∧ n ≤ cap ∧ IntsAt w b o L ∧ ∀ j, j < L.length → ok b (o + j) := by
  obtain ⟨i1, i2, i3⟩ := chunks_flat (sz := sz) n (L.map ic) (by simpa using hl)
  rcases RepC.flat h with ⟨A, _, he⟩ | ⟨b, off, cap, us, hv, hc, _, hul, hcell, hr⟩
  · unfold rowsOf at he; rw [he] at i1; simp at i1; omega
  · unfold rowsOf at hv hc hr
    rw [i1] at hv hc
    rw [i3] at hr
    have hget : ∀ (j : Nat) (x : Int), L[j]? = some x → us[j]? = some (Value.int .i64 x) := fun j x hj => by
      obtain ⟨v, hv, hv'⟩ := RepCs.get hr (i := j) (c := ic x) (by rw [List.getElem?_map, hj]; rfl)
      cases hv'; exact hv
    refine ⟨b, off, cap, hv, hc, fun j x hj => (hcell j _ (hget j x hj)).1, fun j hj => (hcell j _ (hget j _ (List.getElem?_eq_getElem hj))).2⟩
theorem ints_rep {sz n b o cap : Nat} {L : List Int} (h : IntsAt w b o L) (hl : L.length = n * sz) (hc : n ≤ cap) : RepC w (fun _ _ => True) (.sl sz (rowsOf sz n L)) (.slice (some ⟨b, o, none⟩) n cap) := by
  obtain ⟨i1, i2, i3⟩ := chunks_flat (sz := sz) n (L.map ic) (by simpa using hl)
  have := RepC.unflat (w := w) (ok := fun _ _ => True) (sz := sz) (es := rowsOf sz n L) (b := b) (off := o) (cap := cap) (us := L.map (Value.int .i64)) (by unfold rowsOf; rw [i1]; exact hc) i2 (by unfold rowsOf; rw [i1]; simpa using hl)
    (fun j u hu => by
      simp only [List.getElem?_map, Option.map_eq_some_iff] at hu
      obtain ⟨x, hx, rfl⟩ := hu
      exact ⟨h j x hx, trivial⟩)
    (by
      unfold rowsOf; rw [i3]
      refine RepCs.of_get (by simp) fun i c v hc hv => ?_
      simp only [List.getElem?_map, Option.map_eq_some_iff] at hc hv
      obtain ⟨x, hx, rfl⟩ := hc
      obtain ⟨y, hy, rfl⟩ := hv
      rw [hx] at hy; cases hy
      exact RepC.int _ _)
  unfold rowsOf at this
  rw [i1] at this
  exact this
theorem apart {b o o' : Nat} {V F : List Int} (hV : IntsAt w b o V) (hF : IntsAt w b o' F) (hc : apartB V F = true) {p q : Nat} (hp : p < V.length) (hq : q < F.length) : o + p ≠ o' + q := by
  intro e
  have h1 := List.all_eq_true.1 hc p (List.mem_range.2 hp)
  have h2 := List.all_eq_true.1 h1 q (List.mem_range.2 hq)
  obtain ⟨j, hj, h3⟩ := List.any_eq_true.1 h2
  simp only [Bool.and_eq_true, decide_eq_true_eq] at h3
  obtain ⟨h4, h5⟩ := h3
  split at h5
  · rename_i x y hx hy
    have a1 := hV j x hx
    have a2 := hF (j + q - p) y hy
    rw [show o' + (j + q - p) = o + j by omega, a1] at a2
    simp only [Option.some.injEq, Value.int.injEq, true_and] at a2
    subst a2
    simp at h5
  · cases h5
theorem cz_other {c i b k : Nat} {u : Value} (h : ¬(b = c ∧ k = i)) : cz (w.setCell ⟨c, i, none⟩ u) ⟨b, k, none⟩ = cz w ⟨b, k, none⟩ := by
  by_cases hb : b = c
  · subst hb
    have hk : k ≠ i := fun e => h ⟨rfl, e⟩
    unfold cz World.setCell
    simp only [Array.getElem?_modify, if_pos]
    cases hw : w.heap[b]? with
    | none => rfl
    | some ob =>
      simp only [Option.map_some]
      cases ob with
      | cells cs e fz =>
        obtain ⟨lo, hi⟩ := fz
        cases lo with
        | zero =>
          cases hi with
          | zero => simp [Array.getElem?_setIfInBounds, Ne.symm hk]
          | succ n => rfl
        | succ n => rfl
      | _ => rfl
  · exact cz_of_block (by exact heap_setCell_other w ⟨c, i, none⟩ b u (by simpa using hb))
theorem cz_same {c i : Nat} {u v : Value} (h : cz w ⟨c, i, none⟩ = some v) : cz (w.setCell ⟨c, i, none⟩ u) ⟨c, i, none⟩ = some u := by
  unfold cz at h
  split at h
  · rename_i cs e hw
    simp only at hw
    have hi : i < cs.size := by
      simp only [Option.isSome_none, Bool.false_eq_true, if_false] at h
      exact (Array.getElem?_eq_some_iff.1 h).1
    unfold cz World.setCell
    simp only [Array.getElem?_modify, if_pos, hw, Option.map_some, Option.isSome_none, Bool.false_eq_true, if_false]
    simp [hi]
  · cases h
theorem IntsAt.other {b o c i : Nat} {u : Value} {L : List Int} (h : IntsAt w b o L) (hne : b = c → ∀ j, j < L.length → o + j ≠ i) : IntsAt (w.setCell ⟨c, i, none⟩ u) b o L := fun j x hx => by
  rw [cz_other (fun e => hne e.1 j (List.getElem?_eq_some_iff.1 hx).1 e.2)]
  exact h j x hx
theorem IntsAt.set {b o p : Nat} {n : Int} {L : List Int} (h : IntsAt w b o L) (hp : p < L.length) : IntsAt (w.setCell ⟨b, o + p, none⟩ (.int .i64 n)) b o (L.set p n) := fun j x hx => by
  rw [List.getElem?_set] at hx
  by_cases e : p = j
  · subst e
    rw [if_pos rfl, if_pos hp] at hx
    cases hx
    exact cz_same (h p _ (List.getElem?_eq_getElem hp))
  · rw [if_neg e] at hx
    rw [cz_other (fun h => e (by have := h.2; omega))]
    exact h j x hx
theorem IntsAt.lt {b o : Nat} {L : List Int} (h : IntsAt w b o L) (hl : 0 < L.length) : b < w.heap.size := cz_lt w ⟨b, o + 0, none⟩ (h 0 _ (List.getElem?_eq_getElem hl))
theorem IntsAt.below {B b o : Nat} {L : List Int} (h : IntsAt w b o L) (hB : Below B w w') (hb : b < B) : IntsAt w' b o L := fun j x hx => by
  rw [cz_of_block (w := w) (hB.block b hb)]
  exact h j x hx
end
/-- Where the lists of a default pipeline lie, and its other cells. -/
structure Dat where
  c : Nat
  o : Nat
  cc : Nat
  f : Nat
  fo : Nat
  fc : Nat
  a : Nat
  ao : Nat
  ac : Nat
  u1 : List Value
  u2 : List Value
  u3 : List Value
def Dat.vs (d : Dat) : List Value := d.u1 ++ ([.slice (some ⟨d.c, d.o, none⟩) 8 d.cc] ++ (d.u2 ++ ([.slice (some ⟨d.f, d.fo, none⟩) 5 d.fc] ++ ([.bool false] ++ ([.slice (some ⟨d.a, d.ao, none⟩) 1 d.ac] ++ d.u3)))))
structure Dat.Ok (d : Dat) : Prop where
  h1 : ∀ w, RepCs w (fun _ _ => True) c1 d.u1
  h2 : ∀ w, RepCs w (fun _ _ => True) (c2 0) d.u2
  h3 : ∀ w, RepCs w (fun _ _ => True) c3 d.u3
  k1 : 8 ≤ d.cc
  k2 : 5 ≤ d.fc
  k3 : 1 ≤ d.ac
structure Dat.At (d : Dat) (w : World) (V A : List Int) : Prop where
  v : IntsAt w d.c d.o V
  f : IntsAt w d.f d.fo vF
  a : IntsAt w d.a d.ao A
theorem dat_of {w : World} {ok : Nat → Nat → Prop} {vs : List Value} (h : RepCs w ok (dCs vV vA) vs) : ∃ d : Dat, vs = d.vs ∧ d.Ok ∧ d.At w vV vA ∧ ok d.c (d.o + 0) ∧ ok d.f (d.fo + 0) ∧ ok d.a (d.ao + 0) := by
  unfold dCs at h
  obtain ⟨u1, t1, rfl, h1, h⟩ := cs_cut h
  obtain ⟨v, t2, rfl, hv, h⟩ := cs_cut1 h
  obtain ⟨u2, t3, rfl, h2, h⟩ := cs_cut h
  obtain ⟨f, t4, rfl, hf, h⟩ := cs_cut1 h
  obtain ⟨g, t5, rfl, hg, h⟩ := cs_cut1 h
  obtain ⟨a, u3, rfl, ha, h3⟩ := cs_cut1 h
  cases hg
  obtain ⟨c, o, cc, rfl, k1, hv, ov⟩ := ints_of hv rfl (by omega)
  obtain ⟨f, fo, fc, rfl, k2, hf, of⟩ := ints_of hf rfl (by omega)
  obtain ⟨a, ao, ac, rfl, k3, ha, oa⟩ := ints_of ha rfl (by omega)
  exact ⟨⟨c, o, cc, f, fo, fc, a, ao, ac, u1, u2, u3⟩, rfl, ⟨fun w => cs_move (by rfl) h1, fun w => cs_move (by rfl) h2, fun w => cs_move (by rfl) h3, k1, k2, k3⟩, ⟨hv, hf, ha⟩, ov 0 (by decide), of 0 (by decide), oa 0 (by decide)⟩
theorem dat_rep {d : Dat} {w : World} {V A : List Int} (hk : d.Ok) (h : d.At w V A) (hV : V.length = 48) (hA : A.length = 4) : RepCs w (fun _ _ => True) (dCs V A) d.vs := by
  unfold dCs Dat.vs
  refine RepCs.append (hk.h1 w) (RepCs.append ⟨ints_rep h.v hV hk.k1, trivial⟩ (RepCs.append (hk.h2 w) (RepCs.append ⟨ints_rep h.f rfl hk.k2, trivial⟩ (RepCs.append ⟨RepC.bool _, trivial⟩ (RepCs.append ⟨ints_rep h.a hA hk.k3, trivial⟩ (hk.h3 w))))))
theorem dat_v {d : Dat} (hk : d.Ok) : d.vs[7]? = some (.slice (some ⟨d.c, d.o, none⟩) 8 d.cc) := by
  have e1 : d.u1.length = 7 := RepCs.length (hk.h1 default)
  unfold Dat.vs
  rw [List.getElem?_append_right (by omega), e1]
  rfl
theorem dat_a {d : Dat} (hk : d.Ok) : d.vs[25]? = some (.slice (some ⟨d.a, d.ao, none⟩) 1 d.ac) := by
  have e1 : d.u1.length = 7 := RepCs.length (hk.h1 default)
  have e2 : d.u2.length = 15 := RepCs.length (hk.h2 default)
  unfold Dat.vs
  rw [List.getElem?_append_right (by omega), e1]
  show (d.u2 ++ _)[17]? = _
  rw [List.getElem?_append_right (by omega), e2]
  rfl
theorem Dat.At.below {d : Dat} {w w' : World} {V A : List Int} {B : Nat} (h : d.At w V A) (hB : Below B w w') (h1 : d.c < B) (h2 : d.f < B) (h3 : d.a < B) : d.At w' V A := ⟨h.v.below hB h1, h.f.below hB h2, h.a.below hB h3⟩
/-- A pointer to a pipeline told of old memory. -/
theorem dat_elt {d : Dat} {w : World} {V A : List Int} {b : Nat} {ty : TypeId} (hk : d.Ok) (h : d.At w V A) (hV : V.length = 48) (hA : A.length = 4) (hb : w.heap[b]? = some (.cells d.vs.toArray ty (0, 0))) {nt : Nat} {lv : Nat → Bool} {tip : Tip} {β : Nat → Nat} :
    RepA w (fun _ _ => True) nt lv tip β (.elt (some (b, 0)) (dCs V A)) (.pointer (some ⟨b, 0, none⟩)) :=
  ⟨b, 0, d.vs, rfl, (fun p hp => by cases hp; rfl), fun j u hu => ⟨by rw [Nat.zero_add, cz_of_blk hb]; exact hu, trivial⟩, dat_rep hk h hV hA⟩
theorem elt_ptr {w : World} {ok : Nat → Nat → Prop} {nt : Nat} {lv : Nat → Bool} {tip : Tip} {β : Nat → Nat} {b : Nat} {cs : List CV} {v : Value} (h : RepA w ok nt lv tip β (.elt (some (b, 0)) cs) v) : v = .pointer (some ⟨b, 0, none⟩) := by
  obtain ⟨b', o', vs, rfl, hA, _⟩ := h
  cases hA _ rfl; rfl
/-- A state told of old memory alone. -/
theorem rel_of {a : Act} {w : World} {N : Nat} {l : List (Nat × AV)} (hz : a.tmps.size = N) (hd : a.defers = [])
    (hl : ∀ p ∈ l, ∃ v, a.tmps[p.1]? = some v ∧ RepA w (fun _ _ => True) 0 (fun _ => false) (fun _ => none) (fun _ => 0) p.2 v) (hb : ∀ p ∈ l, ∀ d o, p.2 ≠ .box d o) : Rel w (fun _ _ => True) N (St.of l [] [] 0) a w := by
  refine ⟨fun _ => 0, fun _ => none, Below.refl _ _, (fun d cs h => by cases h), (fun d d' cs cs' h => by cases h), (fun k b p l h => by cases h), (fun k h => by cases h), (fun k k' b p l p' l' h => by cases h), fun t x hx => ?_, hz, hd⟩
  have key : ∀ (l : List (Nat × AV)), tab l t = some x → ∃ p ∈ l, p.1 = t ∧ p.2 = x := by
    intro l
    induction l with
    | nil => intro h; cases h
    | cons q l ih =>
      intro h
      simp only [tab] at h
      split at h
      · rename_i e; cases h; exact ⟨q, by simp, e.symm, rfl⟩
      · obtain ⟨p, hp, e⟩ := ih h; exact ⟨p, by simp [hp], e⟩
  obtain ⟨p, hp, rfl, rfl⟩ := key l hx
  obtain ⟨v, hv, hr⟩ := hl p hp
  refine ⟨v, hv, RepA.kept ⟨fun b i u _ hc => ⟨hc, fun _ => trivial, (fun d cs h => by cases h), (fun k p l h => by cases h)⟩, Nat.le_refl _, fun k _ h => by cases h⟩ (fun d o e => absurd e (hb p hp d o)) hr⟩
end Go.Proofs.Ytjbhhdocbejccaa.Bl
