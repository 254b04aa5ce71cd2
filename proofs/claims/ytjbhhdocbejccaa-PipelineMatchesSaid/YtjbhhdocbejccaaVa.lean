/- Chapter 43: isa.Validate: the walk over the instructions. Conditions: the numbers of the program are in range. -/
import Derived.Test.YtjbhhdocbejccaaSt6
import Derived.Test.YtjbhhdocbejccaaJ
namespace Go.Proofs.Ytjbhhdocbejccaa.Pl
open Go Go.RowKit Go.Proofs.Ytjbhhdocbejccaa.Am
set_option linter.unusedVariables false
set_option linter.unusedSimpArgs false
structure InR (p : Pg) : Prop where
  st : 1 ≤ p.st ∧ p.st ≤ 3
  rg : 0 ≤ p.rg ∧ p.rg ≤ 8192
  inp : 0 ≤ p.inp ∧ p.inp ≤ 32
  out : 0 ≤ p.out ∧ p.out ≤ 32
  un : 0 ≤ p.un ∧ p.un ≤ 64
  tx : 0 ≤ p.tx ∧ p.tx ≤ 4
  bf : 0 ≤ p.bf ∧ p.bf ≤ 4
  len : p.code.length ≤ 16384
def opnI (p : Pg) (i : Ins) : Int := opnE p.st p.rg p.inp p.out p.un p.tx p.bf i.op i.d i.a i.b i.c i.m
def vLoop (p : Pg) : List Ins → List Int → Int → Int
  | [], L, n => if L.length = 0 then 0 else 16
  | i :: r, L, n => if opnI p i = 0 then (match stepS p.st L n i.op with
    | none => 16
    | some (L', n') => vLoop p r L' n') else opnI p i
theorem stepS_inv {st n op n' : Int} {L L' : List Int} (h : stepS st L n op = some (L', n')) (hn : n = (L.count 46 : Nat)) (h3 : n ≤ 3) : n' = (L'.count 46 : Nat) ∧ n' ≤ 3 ∧ L'.length ≤ L.length + 1 := by
  have hd : ∀ x, L.getLast? = some x → x ≠ 46 → L.dropLast.count 46 = L.count 46 := fun x hx hne => by
    rcases nil_or_snoc L with rfl | ⟨M, y, rfl⟩
    · simp at hx
    · simp at hx; subst hx
      simp [List.count_append, List.count_cons, hne]
  have hd2 : L.getLast? = some 46 → (L.dropLast.count 46 : Nat) + 1 = L.count 46 := fun hx => by
    rcases nil_or_snoc L with rfl | ⟨M, y, rfl⟩
    · simp at hx
    · simp at hx; subst hx
      simp [List.count_append]
  have hl : L.dropLast.length ≤ L.length := by simp
  have hs : L.dropLast.length + 1 ≤ L.length + 1 := by omega
  by_cases e43 : op = 43
  · subst e43; simp only [stepS, if_true] at h; cases h
    exact ⟨by rw [List.count_append]; simpa using hn, h3, by simp⟩
  by_cases e44 : op = 44
  · subst e44
    rw [stepS, if_neg (by decide), if_pos rfl] at h
    split at h
    · rename_i q; cases h
      exact ⟨by rw [List.count_append, hd _ q (by decide)]; simpa using hn, h3, by simp⟩
    · cases h
  by_cases e45 : op = 45
  · subst e45
    rw [stepS, if_neg (by decide), if_neg (by decide), if_pos rfl] at h
    split at h
    · rename_i q; cases h
      refine ⟨?_, h3, by omega⟩
      rcases q with q | q
      · rw [hd _ q (by decide)]; exact hn
      · rw [hd _ q (by decide)]; exact hn
    · cases h
  by_cases e46 : op = 46
  · subst e46
    rw [stepS, if_neg (by decide), if_neg (by decide), if_neg (by decide), if_pos rfl] at h
    split at h
    · cases h
    · cases h
      refine ⟨?_, by omega, by simp⟩
      rw [List.count_append]; simp; omega
  by_cases e49 : op = 49
  · subst e49
    rw [stepS, if_neg (by decide), if_neg (by decide), if_neg (by decide), if_neg (by decide), if_pos rfl] at h
    split at h
    · rename_i q; cases h
      have := hd2 q
      exact ⟨by omega, by omega, by omega⟩
    · cases h
  have key : L' = L ∧ n' = n := by
    rw [stepS, if_neg e43, if_neg e44, if_neg e45, if_neg e46, if_neg e49] at h
    repeat' split at h
    all_goals first
      | (cases h; exact ⟨rfl, rfl⟩)
      | cases h
  obtain ⟨rfl, rfl⟩ := key
  exact ⟨hn, h3, by omega⟩
theorem opnCA (p : Pg) (i : Ins) (h : InR p) (w : World) (okA : Nat → Nat → Prop) (cv : Value) (hc : cv.oneCell' = true) :
    Calls Try.prog 82 #[.agg #[.int .i64 p.st, .int .i64 p.rg, .int .i64 p.inp, .int .i64 p.out, .int .i64 p.un, .int .i64 p.tx, .int .i64 p.bf, cv], .agg #[.int .i64 i.op, .int .i64 i.d, .int .i64 i.a, .int .i64 i.b, .int .i64 i.c, .int .i64 i.m]] w fun e w' => e = .returned (.int .i64 (opnI p i)) ∧ Below w.heap.size w w' := by
  have hS : isa_operands.S [.agg [.int .i64 p.st, .int .i64 p.rg, .int .i64 p.inp, .int .i64 p.out, .int .i64 p.un, .int .i64 p.tx, .int .i64 p.bf, .any], .agg i.cs] = some (rInt (opnI p i)) := if_pos ⟨⟨h.inp.1, h.inp.2, h.out.1, h.out.2, h.un.1, h.un.2, h.tx.1, h.tx.2, h.bf.1, h.bf.2⟩, h.rg⟩
  refine ((isa_operands.ok _ _ hS).2 w okA [.agg #[.int .i64 p.st, .int .i64 p.rg, .int .i64 p.inp, .int .i64 p.out, .int .i64 p.un, .int .i64 p.tx, .int .i64 p.bf, cv], .agg #[.int .i64 i.op, .int .i64 i.d, .int .i64 i.a, .int .i64 i.b, .int .i64 i.c, .int .i64 i.m]] ?_).mono ?_
  · exact ⟨⟨[.int .i64 p.st, .int .i64 p.rg, .int .i64 p.inp, .int .i64 p.out, .int .i64 p.un, .int .i64 p.tx, .int .i64 p.bf, cv], rfl, .int _ _, .int _ _, .int _ _, .int _ _, .int _ _, .int _ _, .int _ _, .any cv hc, trivial⟩, ⟨[.int .i64 i.op, .int .i64 i.d, .int .i64 i.a, .int .i64 i.b, .int .i64 i.c, .int .i64 i.m], rfl, .int _ _, .int _ _, .int _ _, .int _ _, .int _ _, .int _ _, trivial⟩, trivial⟩
  · rintro e w' ⟨v, rfl, hb, hv⟩
    cases hv
    exact ⟨rfl, hb⟩
set_option maxRecDepth 1000000 in
set_option maxHeartbeats 8000000 in
theorem validate_walk (w : World) (p : Pg) (A : Option Addr) (cap : Nat) (h : InR p)
    (hcell : ∀ j (hj : j < p.code.length), ∃ b off, A = some ⟨b, off, none⟩ ∧ ∀ k u, [Value.int .i64 (p.code[j]).op, .int .i64 (p.code[j]).d, .int .i64 (p.code[j]).a, .int .i64 (p.code[j]).b, .int .i64 (p.code[j]).c, .int .i64 (p.code[j]).m][k]? = some u → w.cell? ⟨b, off + j * 6 + k, none⟩ = some u) :
    Calls Try.prog 67 #[.agg #[.int .i64 p.st, .int .i64 p.rg, .int .i64 p.inp, .int .i64 p.out, .int .i64 p.un, .int .i64 p.tx, .int .i64 p.bf, .slice A p.code.length cap]] w fun e w' => e = .returned (.int .i64 (vLoop p p.code [] 0)) ∧ Below w.heap.size w w' := by
  have hin := h
  have hp := opnCA p
  obtain ⟨⟨s1, s2⟩, ⟨r1, r2⟩, ⟨i1, i2⟩, ⟨o1, o2⟩, ⟨u1, u2⟩, ⟨t1, t2⟩, ⟨b1, b2⟩, l1⟩ := h
  have l2 : (p.code.length : Int) ≤ 16384 := by omega
  have hW := (Below.refl (w.heap.size + 1) ((w.alloc (Obj.cells #[Value.int IntKind.i64 p.st, Value.int IntKind.i64 p.rg, Value.int IntKind.i64 p.inp, Value.int IntKind.i64 p.out, Value.int IntKind.i64 p.un, Value.int IntKind.i64 p.tx, Value.int IntKind.i64 p.bf, Value.slice A p.code.length cap] 25)).alloc (Obj.cells #[Value.slice none 0 0, Value.int IntKind.i64 0] 104)))
  have hN0 : Nst ((w.alloc (Obj.cells #[Value.int IntKind.i64 p.st, Value.int IntKind.i64 p.rg, Value.int IntKind.i64 p.inp, Value.int IntKind.i64 p.out, Value.int IntKind.i64 p.un, Value.int IntKind.i64 p.tx, Value.int IntKind.i64 p.bf, Value.slice A p.code.length cap] 25)).alloc (Obj.cells #[Value.slice none 0 0, Value.int IntKind.i64 0] 104)) (w.heap.size + 1) [] 0 := by
    refine ⟨.slice none 0 0, ?_, World.ownsRow_nil _ _ _ _⟩
    have := heap_alloc_new (w.alloc (Obj.cells #[Value.int IntKind.i64 p.st, Value.int IntKind.i64 p.rg, Value.int IntKind.i64 p.inp, Value.int IntKind.i64 p.out, Value.int IntKind.i64 p.un, Value.int IntKind.i64 p.tx, Value.int IntKind.i64 p.bf, Value.slice A p.code.length cap] 25)) (Obj.cells #[Value.slice none 0 0, Value.int IntKind.i64 0] 104)
    simpa using this
  go_enter Try.func67, Try.ntmps67
  go_wp2
  go_loopw [57] (fun v wr => ∃ (j : Nat) (L : List Int) (n : Int), v = .int .i64 j ∧ j ≤ p.code.length ∧ Nst wr (w.heap.size + 1) L n ∧ Below (w.heap.size + 1) ((w.alloc (Obj.cells #[Value.int IntKind.i64 p.st, Value.int IntKind.i64 p.rg, Value.int IntKind.i64 p.inp, Value.int IntKind.i64 p.out, Value.int IntKind.i64 p.un, Value.int IntKind.i64 p.tx, Value.int IntKind.i64 p.bf, Value.slice A p.code.length cap] 25)).alloc (Obj.cells #[Value.slice none 0 0, Value.int IntKind.i64 0] 104)) wr ∧ Hid (vLoop p (p.code.drop j) L n = vLoop p p.code [] 0) ∧ L.length ≤ j ∧ n = (L.count 46 : Nat) ∧ n ≤ 3) (fun v _ => p.code.length - (intOf v).toNat)
  case atStart => exact ⟨0, [], 0, rfl, Nat.zero_le _, hN0, hW, rfl, Nat.le_refl _, rfl, by omega⟩
  case round =>
    obtain ⟨j, L, n, rfl, hj, hN, hB, HS, hl, hn, hn3⟩ := hrel
    clear hN0 hW
    have hP : wr.heap[w.heap.size]? = some (Obj.cells #[Value.int IntKind.i64 p.st, Value.int IntKind.i64 p.rg, Value.int IntKind.i64 p.inp, Value.int IntKind.i64 p.out, Value.int IntKind.i64 p.un, Value.int IntKind.i64 p.tx, Value.int IntKind.i64 p.bf, Value.slice A p.code.length cap] 25) := by
      rw [hB.block _ (by omega), Below.heap_alloc _ _ _ (by simp)]
      exact heap_alloc_new w _
    have hB0 : Below w.heap.size w wr := ((((Below.refl w.heap.size w).alloc (Nat.le_refl _) _).alloc (by simp) _).trans (hB.mono (by omega)))
    have hlt := hN.lt
    have h46 : L.getLast? = some 46 → 1 ≤ n := fun h => by
      have := List.count_pos_iff.2 (List.mem_of_getLast? h)
      omega
    have hcP : ∀ k, wr.cell? ⟨w.heap.size, k, none⟩ = [Value.int IntKind.i64 p.st, Value.int IntKind.i64 p.rg, Value.int IntKind.i64 p.inp, Value.int IntKind.i64 p.out, Value.int IntKind.i64 p.un, Value.int IntKind.i64 p.tx, Value.int IntKind.i64 p.bf, Value.slice A p.code.length cap][k]? := fun k => by simp [World.cell?, hP]
    by_cases hjl : j < p.code.length
    · obtain ⟨b, off, hA, hcl⟩ := hcell j hjl
      have hbl : b < w.heap.size := World.block_lt_of_cell? w _ (hcl 0 _ rfl)
      have hcl2 : ∀ k u, [Value.int .i64 (p.code[j]).op, .int .i64 (p.code[j]).d, .int .i64 (p.code[j]).a, .int .i64 (p.code[j]).b, .int .i64 (p.code[j]).c, .int .i64 (p.code[j]).m][k]? = some u → wr.cell? ⟨b, off + j * 6 + k, none⟩ = some u := fun k u hk => by
        rw [World.cell?_of_block (hB0.block b hbl)]; exact hcl k u hk
      have x0 := hcl2 0 _ rfl
      have x1 := hcl2 1 _ rfl
      have x2 := hcl2 2 _ rfl
      have x3 := hcl2 3 _ rfl
      have x4 := hcl2 4 _ rfl
      have x5 := hcl2 5 _ rfl
      clear hcl hcl2 hcell
      have hdr : p.code.drop j = p.code[j] :: p.code.drop (j + 1) := List.drop_eq_getElem_cons hjl
      generalize hI : p.code[j] = I at *
      obtain ⟨op, d, a, bb, c, m⟩ := I
      simp only [Nat.add_zero] at x0 x1 x2 x3 x4 x5
      have hlt2 : (j : Int) < (p.code.length : Int) := by omega
      have hj0 : (0 : Int) ≤ (j : Int) := by omega
      have hpc := hp ⟨op, d, a, bb, c, m⟩ hin
      clear hp
      subst hA
      by_cases hE : opnI p ⟨op, d, a, bb, c, m⟩ = 0
      · rw [hE] at hpc
        have hP1 := (Below.heap_alloc wr (Obj.cells #[Value.int IntKind.i64 op, Value.int IntKind.i64 d, Value.int IntKind.i64 a, Value.int IntKind.i64 bb, Value.int IntKind.i64 c, Value.int IntKind.i64 m] 60) w.heap.size (by omega)).trans hP
        have y0 : (wr.alloc (Obj.cells #[Value.int IntKind.i64 op, Value.int IntKind.i64 d, Value.int IntKind.i64 a, Value.int IntKind.i64 bb, Value.int IntKind.i64 c, Value.int IntKind.i64 m] 60)).cell? ⟨w.heap.size, 0, none⟩ = some (.int .i64 p.st) := by simp [World.cell?, hP1]
        have y1 : (wr.alloc (Obj.cells #[Value.int IntKind.i64 op, Value.int IntKind.i64 d, Value.int IntKind.i64 a, Value.int IntKind.i64 bb, Value.int IntKind.i64 c, Value.int IntKind.i64 m] 60)).cell? ⟨w.heap.size, 1, none⟩ = some (.int .i64 p.rg) := by simp [World.cell?, hP1]
        have y2 : (wr.alloc (Obj.cells #[Value.int IntKind.i64 op, Value.int IntKind.i64 d, Value.int IntKind.i64 a, Value.int IntKind.i64 bb, Value.int IntKind.i64 c, Value.int IntKind.i64 m] 60)).cell? ⟨w.heap.size, 2, none⟩ = some (.int .i64 p.inp) := by simp [World.cell?, hP1]
        have y3 : (wr.alloc (Obj.cells #[Value.int IntKind.i64 op, Value.int IntKind.i64 d, Value.int IntKind.i64 a, Value.int IntKind.i64 bb, Value.int IntKind.i64 c, Value.int IntKind.i64 m] 60)).cell? ⟨w.heap.size, 3, none⟩ = some (.int .i64 p.out) := by simp [World.cell?, hP1]
        have y4 : (wr.alloc (Obj.cells #[Value.int IntKind.i64 op, Value.int IntKind.i64 d, Value.int IntKind.i64 a, Value.int IntKind.i64 bb, Value.int IntKind.i64 c, Value.int IntKind.i64 m] 60)).cell? ⟨w.heap.size, 4, none⟩ = some (.int .i64 p.un) := by simp [World.cell?, hP1]
        have y5 : (wr.alloc (Obj.cells #[Value.int IntKind.i64 op, Value.int IntKind.i64 d, Value.int IntKind.i64 a, Value.int IntKind.i64 bb, Value.int IntKind.i64 c, Value.int IntKind.i64 m] 60)).cell? ⟨w.heap.size, 5, none⟩ = some (.int .i64 p.tx) := by simp [World.cell?, hP1]
        have y6 : (wr.alloc (Obj.cells #[Value.int IntKind.i64 op, Value.int IntKind.i64 d, Value.int IntKind.i64 a, Value.int IntKind.i64 bb, Value.int IntKind.i64 c, Value.int IntKind.i64 m] 60)).cell? ⟨w.heap.size, 6, none⟩ = some (.int .i64 p.bf) := by simp [World.cell?, hP1]
        have y7 : (wr.alloc (Obj.cells #[Value.int IntKind.i64 op, Value.int IntKind.i64 d, Value.int IntKind.i64 a, Value.int IntKind.i64 bb, Value.int IntKind.i64 c, Value.int IntKind.i64 m] 60)).cell? ⟨w.heap.size, 7, none⟩ = some (.slice (some ⟨b, off, none⟩) p.code.length cap) := by simp [World.cell?, hP1]
        clear hcP
        have HPB : Hid _ := hP1
        clear hP hP1
        cases hs : stepS p.st L n op with
        | none =>
          go_wp2_with (first
            | (go_at_call 82
               refine (hpc _ (fun _ _ => True) _ rfl).mono ?_
               rintro e w2 ⟨rfl, hB2⟩
               have hP2 := (hB2.block w.heap.size (by simp; omega)).trans HPB.out
               have z0 : w2.cell? ⟨w.heap.size, 0, none⟩ = some (.int .i64 p.st) := by simp [World.cell?, hP2]
               have z1 : w2.cell? ⟨w.heap.size, 1, none⟩ = some (.int .i64 p.rg) := by simp [World.cell?, hP2]
               have z2 : w2.cell? ⟨w.heap.size, 2, none⟩ = some (.int .i64 p.inp) := by simp [World.cell?, hP2]
               have z3 : w2.cell? ⟨w.heap.size, 3, none⟩ = some (.int .i64 p.out) := by simp [World.cell?, hP2]
               have z4 : w2.cell? ⟨w.heap.size, 4, none⟩ = some (.int .i64 p.un) := by simp [World.cell?, hP2]
               have z5 : w2.cell? ⟨w.heap.size, 5, none⟩ = some (.int .i64 p.tx) := by simp [World.cell?, hP2]
               have z6 : w2.cell? ⟨w.heap.size, 6, none⟩ = some (.int .i64 p.bf) := by simp [World.cell?, hP2]
               have z7 : w2.cell? ⟨w.heap.size, 7, none⟩ = some (.slice (some ⟨b, off, none⟩) p.code.length cap) := by simp [World.cell?, hP2]
               have hI2 : w2.heap[wr.heap.size]? = some (Obj.cells #[Value.int IntKind.i64 op, Value.int IntKind.i64 d, Value.int IntKind.i64 a, Value.int IntKind.i64 bb, Value.int IntKind.i64 c, Value.int IntKind.i64 m] 60) := (hB2.block wr.heap.size (by simp)).trans (heap_alloc_new wr _)
               have xx : w2.cell? ⟨wr.heap.size, 0, none⟩ = some (.int .i64 op) := by simp [World.cell?, hI2]
               have hN2 : Nst w2 (w.heap.size + 1) L n := (hN.alloc _).kept hB2
               have hBB : Below (w.heap.size + 1) wr w2 := ((Below.refl _ wr).alloc (by omega) _).trans (hB2.mono (by simp; omega))
               clear hP2 hI2 hB2)
            | (go_at_call 83
               refine (step_ok _ _ L n p.st op _ _ _ _ _ _ _ hN2 (by omega) (by omega) hn3 h46).mono ?_
               rintro e w3 ⟨hB3, hst⟩
               rw [hs] at hst
               simp only at hst
               subst hst
               have hBX := hB0.trans ((hBB.trans hB3).mono (by omega))))
          go_ret
          exact ⟨by rw [← HS.out, hdr]; simp [vLoop, hE, hs], hBX⟩
        | some r =>
          obtain ⟨L', n'⟩ := r
          obtain ⟨g1, g2, g3⟩ := stepS_inv hs hn hn3
          go_wp2_with (first
            | (go_at_call 82
               refine (hpc _ (fun _ _ => True) _ rfl).mono ?_
               rintro e w2 ⟨rfl, hB2⟩
               have hP2 := (hB2.block w.heap.size (by simp; omega)).trans HPB.out
               have z0 : w2.cell? ⟨w.heap.size, 0, none⟩ = some (.int .i64 p.st) := by simp [World.cell?, hP2]
               have z1 : w2.cell? ⟨w.heap.size, 1, none⟩ = some (.int .i64 p.rg) := by simp [World.cell?, hP2]
               have z2 : w2.cell? ⟨w.heap.size, 2, none⟩ = some (.int .i64 p.inp) := by simp [World.cell?, hP2]
               have z3 : w2.cell? ⟨w.heap.size, 3, none⟩ = some (.int .i64 p.out) := by simp [World.cell?, hP2]
               have z4 : w2.cell? ⟨w.heap.size, 4, none⟩ = some (.int .i64 p.un) := by simp [World.cell?, hP2]
               have z5 : w2.cell? ⟨w.heap.size, 5, none⟩ = some (.int .i64 p.tx) := by simp [World.cell?, hP2]
               have z6 : w2.cell? ⟨w.heap.size, 6, none⟩ = some (.int .i64 p.bf) := by simp [World.cell?, hP2]
               have z7 : w2.cell? ⟨w.heap.size, 7, none⟩ = some (.slice (some ⟨b, off, none⟩) p.code.length cap) := by simp [World.cell?, hP2]
               have hI2 : w2.heap[wr.heap.size]? = some (Obj.cells #[Value.int IntKind.i64 op, Value.int IntKind.i64 d, Value.int IntKind.i64 a, Value.int IntKind.i64 bb, Value.int IntKind.i64 c, Value.int IntKind.i64 m] 60) := (hB2.block wr.heap.size (by simp)).trans (heap_alloc_new wr _)
               have xx : w2.cell? ⟨wr.heap.size, 0, none⟩ = some (.int .i64 op) := by simp [World.cell?, hI2]
               have hN2 : Nst w2 (w.heap.size + 1) L n := (hN.alloc _).kept hB2
               have hBB : Below (w.heap.size + 1) wr w2 := ((Below.refl _ wr).alloc (by omega) _).trans (hB2.mono (by simp; omega))
               clear hP2 hI2 hB2)
            | (go_at_call 83
               refine (step_ok _ _ L n p.st op _ _ _ _ _ _ _ hN2 (by omega) (by omega) hn3 h46).mono ?_
               rintro e w3 ⟨hB3, hst⟩
               rw [hs] at hst
               simp only at hst
               obtain ⟨rfl, hN3⟩ := hst
               have hBX := hB.trans (hBB.trans hB3)))
          refine ⟨⟨_, _, _, _, _, _, _, _, _, _, _, _, _, _, _, _, _, _, _, ?rel, rfl⟩, ?measure⟩
          case rel =>

            exact ⟨j + 1, L', n', by simp, by omega, hN3, hBX, (by show _ = _; rw [← HS.out, hdr]; simp [vLoop, hE, hs]), by omega, g1, g2⟩
          case measure => simp [intOf]; omega
      · have hE' : (opnI p ⟨op, d, a, bb, c, m⟩ != 0) = true := by simpa using hE
        have hfin : vLoop p p.code [] 0 = opnI p ⟨op, d, a, bb, c, m⟩ := by rw [← HS.out, hdr]; simp [vLoop, hE]
        generalize opnI p ⟨op, d, a, bb, c, m⟩ = ev at *
        have hP1 := (Below.heap_alloc wr (Obj.cells #[Value.int IntKind.i64 op, Value.int IntKind.i64 d, Value.int IntKind.i64 a, Value.int IntKind.i64 bb, Value.int IntKind.i64 c, Value.int IntKind.i64 m] 60) w.heap.size (by omega)).trans hP
        have y0 : (wr.alloc (Obj.cells #[Value.int IntKind.i64 op, Value.int IntKind.i64 d, Value.int IntKind.i64 a, Value.int IntKind.i64 bb, Value.int IntKind.i64 c, Value.int IntKind.i64 m] 60)).cell? ⟨w.heap.size, 0, none⟩ = some (.int .i64 p.st) := by simp [World.cell?, hP1]
        have y1 : (wr.alloc (Obj.cells #[Value.int IntKind.i64 op, Value.int IntKind.i64 d, Value.int IntKind.i64 a, Value.int IntKind.i64 bb, Value.int IntKind.i64 c, Value.int IntKind.i64 m] 60)).cell? ⟨w.heap.size, 1, none⟩ = some (.int .i64 p.rg) := by simp [World.cell?, hP1]
        have y2 : (wr.alloc (Obj.cells #[Value.int IntKind.i64 op, Value.int IntKind.i64 d, Value.int IntKind.i64 a, Value.int IntKind.i64 bb, Value.int IntKind.i64 c, Value.int IntKind.i64 m] 60)).cell? ⟨w.heap.size, 2, none⟩ = some (.int .i64 p.inp) := by simp [World.cell?, hP1]
        have y3 : (wr.alloc (Obj.cells #[Value.int IntKind.i64 op, Value.int IntKind.i64 d, Value.int IntKind.i64 a, Value.int IntKind.i64 bb, Value.int IntKind.i64 c, Value.int IntKind.i64 m] 60)).cell? ⟨w.heap.size, 3, none⟩ = some (.int .i64 p.out) := by simp [World.cell?, hP1]
        have y4 : (wr.alloc (Obj.cells #[Value.int IntKind.i64 op, Value.int IntKind.i64 d, Value.int IntKind.i64 a, Value.int IntKind.i64 bb, Value.int IntKind.i64 c, Value.int IntKind.i64 m] 60)).cell? ⟨w.heap.size, 4, none⟩ = some (.int .i64 p.un) := by simp [World.cell?, hP1]
        have y5 : (wr.alloc (Obj.cells #[Value.int IntKind.i64 op, Value.int IntKind.i64 d, Value.int IntKind.i64 a, Value.int IntKind.i64 bb, Value.int IntKind.i64 c, Value.int IntKind.i64 m] 60)).cell? ⟨w.heap.size, 5, none⟩ = some (.int .i64 p.tx) := by simp [World.cell?, hP1]
        have y6 : (wr.alloc (Obj.cells #[Value.int IntKind.i64 op, Value.int IntKind.i64 d, Value.int IntKind.i64 a, Value.int IntKind.i64 bb, Value.int IntKind.i64 c, Value.int IntKind.i64 m] 60)).cell? ⟨w.heap.size, 6, none⟩ = some (.int .i64 p.bf) := by simp [World.cell?, hP1]
        have y7 : (wr.alloc (Obj.cells #[Value.int IntKind.i64 op, Value.int IntKind.i64 d, Value.int IntKind.i64 a, Value.int IntKind.i64 bb, Value.int IntKind.i64 c, Value.int IntKind.i64 m] 60)).cell? ⟨w.heap.size, 7, none⟩ = some (.slice (some ⟨b, off, none⟩) p.code.length cap) := by simp [World.cell?, hP1]
        clear hcP
        have HPB : Hid _ := hP1
        clear hP hP1
        go_wp2_with (first
          | (go_at_call 82
             refine (hpc _ (fun _ _ => True) _ rfl).mono ?_
             rintro e w2 ⟨rfl, hB2⟩
             have hP2 := (hB2.block w.heap.size (by simp; omega)).trans HPB.out
             have z0 : w2.cell? ⟨w.heap.size, 0, none⟩ = some (.int .i64 p.st) := by simp [World.cell?, hP2]
             have z1 : w2.cell? ⟨w.heap.size, 1, none⟩ = some (.int .i64 p.rg) := by simp [World.cell?, hP2]
             have z2 : w2.cell? ⟨w.heap.size, 2, none⟩ = some (.int .i64 p.inp) := by simp [World.cell?, hP2]
             have z3 : w2.cell? ⟨w.heap.size, 3, none⟩ = some (.int .i64 p.out) := by simp [World.cell?, hP2]
             have z4 : w2.cell? ⟨w.heap.size, 4, none⟩ = some (.int .i64 p.un) := by simp [World.cell?, hP2]
             have z5 : w2.cell? ⟨w.heap.size, 5, none⟩ = some (.int .i64 p.tx) := by simp [World.cell?, hP2]
             have z6 : w2.cell? ⟨w.heap.size, 6, none⟩ = some (.int .i64 p.bf) := by simp [World.cell?, hP2]
             have z7 : w2.cell? ⟨w.heap.size, 7, none⟩ = some (.slice (some ⟨b, off, none⟩) p.code.length cap) := by simp [World.cell?, hP2]
             have hI2 : w2.heap[wr.heap.size]? = some (Obj.cells #[Value.int IntKind.i64 op, Value.int IntKind.i64 d, Value.int IntKind.i64 a, Value.int IntKind.i64 bb, Value.int IntKind.i64 c, Value.int IntKind.i64 m] 60) := (hB2.block wr.heap.size (by simp)).trans (heap_alloc_new wr _)
             have xx : w2.cell? ⟨wr.heap.size, 0, none⟩ = some (.int .i64 op) := by simp [World.cell?, hI2]
             have hN2 : Nst w2 (w.heap.size + 1) L n := (hN.alloc _).kept hB2
             have hBB : Below (w.heap.size + 1) wr w2 := ((Below.refl _ wr).alloc (by omega) _).trans (hB2.mono (by simp; omega))
             clear hP2 hI2 hB2))
        go_ret
        exact ⟨by rw [hfin]; rfl, hB0.trans (hBB.mono (by omega))⟩
    · have hj2 : j = p.code.length := by omega
      subst hj2
      have hfin : vLoop p p.code [] 0 = (if L.length = 0 then 0 else 16) := by rw [← HS.out]; simp [vLoop]
      rcases nil_or_snoc L with rfl | ⟨M, x, rfl⟩
      · obtain ⟨A', c', h1⟩ := hN.empty
        have hc0 := cell0_of h1
        clear hcP hcell
        go_wp2
        go_ret
        exact ⟨by rw [hfin]; rfl, hB0⟩
      · obtain ⟨g, c', h1, h2, h3, h4, h5⟩ := hN.some
        have hc0 := cell0_of h1
        have hgt : (0 : Int) < (M.length : Int) + 1 := by omega
        clear hcP hcell
        go_wp2
        go_ret
        exact ⟨by rw [hfin]; simp, hB0⟩
end Go.Proofs.Ytjbhhdocbejccaa.Pl
