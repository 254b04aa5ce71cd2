/- The law function MatrixTransposes, walked by hand: no condition. -/
import Derived.Test.YtmofipnpnepfaaaPureMatrixTransposes
import Derived.Deep.Cut
namespace Go.Proofs.Ytmofipnpnepfaaa.PMatrixTransposes
open Go.RowKit Go.Proofs.YtmofipnpnepfaaaW.PrintWords Go.Proofs.YtmofipnpnepfaaaW.PrintLast Go.Proofs.YtmofipnpnepfaaaW.PrintMore Go.Proofs.Ytmofipnpnepfaaa.Pure
set_option linter.unusedVariables false
set_option linter.unusedSimpArgs false
theorem eqi_cons {P : Program} {d : Nat} {e : TypeId} {c : Nat} {xs ys : Array Value} {w : World} {a b : Value} {r s : Bool} {i : Nat} {is : List Nat} (ha : (part e xs (i * c)).run P w = .ok a w) (hb : (part e ys (i * c)).run P w = .ok b w) (he : (Op.equalIn d e a b).run P w = .ok r w) (hr : (Op.eqItems d e c xs ys is).run P w = .ok s w) :
    (Op.eqItems d e c xs ys (i :: is)).run P w = .ok (r && s) w := by
  rw [Op.eqItems]
  simp only [Sem.run_bind, ha, hb, he, Result.andThen_ok]
  cases r
  · simp
  · simpa using hr
theorem eqi_last {P : Program} {d : Nat} {e : TypeId} {c : Nat} {xs ys : Array Value} {w : World} {a b : Value} {r : Bool} {i : Nat} (ha : (part e xs (i * c)).run P w = .ok a w) (hb : (part e ys (i * c)).run P w = .ok b w) (he : (Op.equalIn d e a b).run P w = .ok r w) :
    (Op.eqItems d e c xs ys [i]).run P w = .ok r w := by
  have h := eqi_cons ha hb he (is := []) (s := true) (by simp [Op.eqItems])
  rwa [Bool.and_true] at h
theorem eqA23 (d : Nat) (w : World) (x0 y0 : Int) (x1 y1 : Int) (x2 y2 : Int) (x3 y3 : Int) (x4 y4 : Int) (x5 y5 : Int) (x6 y6 : Int) (x7 y7 : Int) (x8 y8 : Int) (x9 y9 : Int) (x10 y10 : Int) (x11 y11 : Int) (x12 y12 : Int) (x13 y13 : Int) (x14 y14 : Int) (x15 y15 : Int) :
    (Op.equalIn (d + 2) 23 (.agg #[.int .i64 x0, .int .i64 x1, .int .i64 x2, .int .i64 x3, .int .i64 x4, .int .i64 x5, .int .i64 x6, .int .i64 x7, .int .i64 x8, .int .i64 x9, .int .i64 x10, .int .i64 x11, .int .i64 x12, .int .i64 x13, .int .i64 x14, .int .i64 x15]) (.agg #[.int .i64 y0, .int .i64 y1, .int .i64 y2, .int .i64 y3, .int .i64 y4, .int .i64 y5, .int .i64 y6, .int .i64 y7, .int .i64 y8, .int .i64 y9, .int .i64 y10, .int .i64 y11, .int .i64 y12, .int .i64 y13, .int .i64 y14, .int .i64 y15])).run Try.prog w = .ok (x0 == y0 && (x1 == y1 && (x2 == y2 && (x3 == y3 && (x4 == y4 && (x5 == y5 && (x6 == y6 && (x7 == y7 && (x8 == y8 && (x9 == y9 && (x10 == y10 && (x11 == y11 && (x12 == y12 && (x13 == y13 && (x14 == y14 && (x15 == y15)))))))))))))))) w := by
  obtain ⟨i_, hi_⟩ : ∃ i, Try.prog.info? 3 = some i := by
    cases h : Try.prog.info? 3 with
    | none => exact absurd (show (Try.prog.info? 3).isSome = true by kernel_rfl) (by rw [h]; simp)
    | some i => exact ⟨i, rfl⟩
  rw [run_equalIn_array _ _ _ _ Try.underlying23 hi_, show Try.prog.cellsOf 3 = 1 by kernel_rfl, show List.range 16 = [0, 1, 2, 3, 4, 5, 6, 7, 8, 9, 10, 11, 12, 13, 14, 15] from rfl]
  refine eqi_cons (by go_simp; rfl) (by go_simp; rfl) (by go_simp) ?_
  refine eqi_cons (by go_simp; rfl) (by go_simp; rfl) (by go_simp) ?_
  refine eqi_cons (by go_simp; rfl) (by go_simp; rfl) (by go_simp) ?_
  refine eqi_cons (by go_simp; rfl) (by go_simp; rfl) (by go_simp) ?_
  refine eqi_cons (by go_simp; rfl) (by go_simp; rfl) (by go_simp) ?_
  refine eqi_cons (by go_simp; rfl) (by go_simp; rfl) (by go_simp) ?_
  refine eqi_cons (by go_simp; rfl) (by go_simp; rfl) (by go_simp) ?_
  refine eqi_cons (by go_simp; rfl) (by go_simp; rfl) (by go_simp) ?_
  refine eqi_cons (by go_simp; rfl) (by go_simp; rfl) (by go_simp) ?_
  refine eqi_cons (by go_simp; rfl) (by go_simp; rfl) (by go_simp) ?_
  refine eqi_cons (by go_simp; rfl) (by go_simp; rfl) (by go_simp) ?_
  refine eqi_cons (by go_simp; rfl) (by go_simp; rfl) (by go_simp) ?_
  refine eqi_cons (by go_simp; rfl) (by go_simp; rfl) (by go_simp) ?_
  refine eqi_cons (by go_simp; rfl) (by go_simp; rfl) (by go_simp) ?_
  refine eqi_cons (by go_simp; rfl) (by go_simp; rfl) (by go_simp) ?_
  exact eqi_last (by go_simp; rfl) (by go_simp; rfl) (by go_simp)
attribute [local go_sem high] eqA23 eqA29
def MatrixTransposes.T5 : Bool × List (List Nat × List Nat) := (true, [([], []), ([], []), ([0, 1], [0, 1]), ([], []), ([3], [3]), ([4], [4]), ([], []), ([6], [6]), ([7], [7]), ([8], [8]), ([], []), ([10], [10]), ([11], [11]), ([12], [12]), ([], []), ([14], [14]), ([15], [15]), ([16], [16]), ([5, 9, 13, 17], [5, 9, 13, 17]), ([2, 18], [2, 18])])
theorem MatrixTransposes.tab5 : rtab .any (opsOf Try.f6 5) = MatrixTransposes.T5 := by kernel_rfl
def MatrixTransposes.T7 : Bool × List (List Nat × List Nat) := (true, [([], []), ([0], [0]), ([], []), ([1, 2], [1, 2]), ([3, 1], [3]), ([4], [4]), ([4], [4]), ([5, 6, 4, 4], [4, 5, 6]), ([7, 7, 4], [4, 7]), ([4], [4]), ([9, 8, 4], [4, 9]), ([4], [4]), ([10, 11, 10, 4], [4, 10, 11]), ([8, 12, 4], [4, 8, 12]), ([4, 13], [4, 13]), ([14, 12], [14]), ([15], [15]), ([16, 15, 15], [15, 16]), ([15], [15]), ([17, 18, 17, 15], [15, 17, 18]), ([15], [15]), ([15], [15]), ([20, 21, 19, 15], [15, 20, 21]), ([19, 22, 15], [15, 19, 22]), ([15, 23], [15, 23]), ([24, 22], [24]), ([25, 25], [25]), ([25, 26], [25, 26]), ([27, 26, 0, 1, 2, 3, 4, 5, 6, 7, 8, 9, 10, 11, 12, 13, 14, 15, 16, 17, 18, 19, 20, 21, 22, 23, 24, 25, 26, 27], [27])])
theorem MatrixTransposes.tab7 : rtab .any (opsOf Try.f6 7) = MatrixTransposes.T7 := by kernel_rfl
set_option maxHeartbeats 8000000 in
set_option maxRecDepth 100000 in
theorem transposes_walk (a0 : Int) (a1 : Int) (a2 : Int) (a3 : Int) (a4 : Int) (a5 : Int) (a6 : Int) (a7 : Int) (a8 : Int) (a9 : Int) (aa : Int) (ab : Int) (ac : Int) (ad : Int) (ae : Int) (af : Int) (b0 : Int) (b1 : Int) (b2 : Int) (b3 : Int) (b4 : Int) (b5 : Int) (b6 : Int) (b7 : Int) (b8 : Int) (b9 : Int) (ba : Int) (bb : Int) (bc : Int) (bd : Int) (be : Int) (bf : Int) (x : Int) (y : Int) (z : Int) (v : Int) (m0 : Int) (m1 : Int) (m2 : Int) (m3 : Int) (m4 : Int) (m5 : Int) (m6 : Int) (m7 : Int) (m8 : Int) (m9 : Int) (ma : Int) (mb : Int) (mc : Int) (md : Int) (me : Int) (mf : Int) (p0 : Int) (p1 : Int) (p2 : Int) (p3 : Int) (h1 : matrix_Apply.f 40 a0 a1 a2 a3 a4 a5 a6 a7 a8 a9 aa ab ac ad ae af x y z v = some (p0, p1, p2, p3)) (h3 : matrix_Mul.f 40 a0 a1 a2 a3 a4 a5 a6 a7 a8 a9 aa ab ac ad ae af b0 b1 b2 b3 b4 b5 b6 b7 b8 b9 ba bb bc bd be bf = some (m0, m1, m2, m3, m4, m5, m6, m7, m8, m9, ma, mb, mc, md, me, mf)) (h4 : matrix_Mul.f 40 b0 b4 b8 bc b1 b5 b9 bd b2 b6 ba be b3 b7 bb bf a0 a4 a8 ac a1 a5 a9 ad a2 a6 aa ae a3 a7 ab af = some (m0, m4, m8, mc, m1, m5, m9, md, m2, m6, ma, me, m3, m7, mb, mf)) (w : World) :
    Calls Try.prog 6 #[.agg #[.int .i64 a0, .int .i64 a1, .int .i64 a2, .int .i64 a3, .int .i64 a4, .int .i64 a5, .int .i64 a6, .int .i64 a7, .int .i64 a8, .int .i64 a9, .int .i64 aa, .int .i64 ab, .int .i64 ac, .int .i64 ad, .int .i64 ae, .int .i64 af], .agg #[.int .i64 b0, .int .i64 b1, .int .i64 b2, .int .i64 b3, .int .i64 b4, .int .i64 b5, .int .i64 b6, .int .i64 b7, .int .i64 b8, .int .i64 b9, .int .i64 ba, .int .i64 bb, .int .i64 bc, .int .i64 bd, .int .i64 be, .int .i64 bf], .agg #[.int .i64 x, .int .i64 y, .int .i64 z, .int .i64 v]] w fun e w' => e = .returned (.bool true) ∧ Below w.heap.size w w' := by
  have hu29 := Try.underlying29
  have hu23 := Try.underlying23
  have hex := E_ex04 (k := 40) (by decide)
  replace h1 := Aside0.mk h1
  replace h3 := Aside0.mk h3
  replace h4 := Aside0.mk h4
  replace hex := Aside0.mk hex
  go_enter Try.func6, Try.ntmps6
  go_upto_region 1 with (fail)
  generalize hg2 : w.heap.size + 1 + 1 = g2
  generalize hg1 : w.heap.size + 1 = g1
  have l1 : w.heap.size < g1 := by omega
  have l2 : g1 < g2 := by omega
  refine Mat.gen_ (Pr := fun W => W.heap[w.heap.size]? = some (.cells #[.int .i64 a0, .int .i64 a1, .int .i64 a2, .int .i64 a3, .int .i64 a4, .int .i64 a5, .int .i64 a6, .int .i64 a7, .int .i64 a8, .int .i64 a9, .int .i64 aa, .int .i64 ab, .int .i64 ac, .int .i64 ad, .int .i64 ae, .int .i64 af] 23 (0, 0)) ∧ W.heap[g1]? = some (.cells #[.int .i64 b0, .int .i64 b1, .int .i64 b2, .int .i64 b3, .int .i64 b4, .int .i64 b5, .int .i64 b6, .int .i64 b7, .int .i64 b8, .int .i64 b9, .int .i64 ba, .int .i64 bb, .int .i64 bc, .int .i64 bd, .int .i64 be, .int .i64 bf] 23 (0, 0)) ∧ W.heap[g2]? = some (.cells #[.int .i64 x, .int .i64 y, .int .i64 z, .int .i64 v] 29 (0, 0)) ∧ Below w.heap.size w W) (G := fun W => Code.wp Try.prog _ _ _ W) ⟨blk_alloc (blk_alloc (MapKept.heap_alloc w _).1 _) _, blk_alloc (by rw [← hg1]; have := (MapKept.heap_alloc (w.alloc (.cells #[.int .i64 a0, .int .i64 a1, .int .i64 a2, .int .i64 a3, .int .i64 a4, .int .i64 a5, .int .i64 a6, .int .i64 a7, .int .i64 a8, .int .i64 a9, .int .i64 aa, .int .i64 ab, .int .i64 ac, .int .i64 ad, .int .i64 ae, .int .i64 af] 23)) (.cells #[.int .i64 b0, .int .i64 b1, .int .i64 b2, .int .i64 b3, .int .i64 b4, .int .i64 b5, .int .i64 b6, .int .i64 b7, .int .i64 b8, .int .i64 b9, .int .i64 ba, .int .i64 bb, .int .i64 bc, .int .i64 bd, .int .i64 be, .int .i64 bf] 23)).1; simpa using this) _, (by rw [← hg2]; have := (MapKept.heap_alloc ((w.alloc (.cells #[.int .i64 a0, .int .i64 a1, .int .i64 a2, .int .i64 a3, .int .i64 a4, .int .i64 a5, .int .i64 a6, .int .i64 a7, .int .i64 a8, .int .i64 a9, .int .i64 aa, .int .i64 ab, .int .i64 ac, .int .i64 ad, .int .i64 ae, .int .i64 af] 23)).alloc (.cells #[.int .i64 b0, .int .i64 b1, .int .i64 b2, .int .i64 b3, .int .i64 b4, .int .i64 b5, .int .i64 b6, .int .i64 b7, .int .i64 b8, .int .i64 b9, .int .i64 ba, .int .i64 bb, .int .i64 bc, .int .i64 bd, .int .i64 be, .int .i64 bf] 23)) (.cells #[.int .i64 x, .int .i64 y, .int .i64 z, .int .i64 v] 29)).1; simpa using this), below_alloc (below_alloc ((Below.refl w.heap.size w).alloc (Nat.le_refl _) _) _) _⟩ ?_
  clear hg1 hg2
  rintro W1 ⟨hA, hX, hV, hB⟩
  as_aux_lemma =>
  have ca0 : W1.cell? ⟨w.heap.size, 0, none⟩ = some (.int .i64 a0) := (blk_cell hA 0).trans rfl
  have ca1 : W1.cell? ⟨w.heap.size, 1, none⟩ = some (.int .i64 a1) := (blk_cell hA 1).trans rfl
  have ca2 : W1.cell? ⟨w.heap.size, 2, none⟩ = some (.int .i64 a2) := (blk_cell hA 2).trans rfl
  have ca3 : W1.cell? ⟨w.heap.size, 3, none⟩ = some (.int .i64 a3) := (blk_cell hA 3).trans rfl
  have ca4 : W1.cell? ⟨w.heap.size, 4, none⟩ = some (.int .i64 a4) := (blk_cell hA 4).trans rfl
  have ca5 : W1.cell? ⟨w.heap.size, 5, none⟩ = some (.int .i64 a5) := (blk_cell hA 5).trans rfl
  have ca6 : W1.cell? ⟨w.heap.size, 6, none⟩ = some (.int .i64 a6) := (blk_cell hA 6).trans rfl
  have ca7 : W1.cell? ⟨w.heap.size, 7, none⟩ = some (.int .i64 a7) := (blk_cell hA 7).trans rfl
  have ca8 : W1.cell? ⟨w.heap.size, 8, none⟩ = some (.int .i64 a8) := (blk_cell hA 8).trans rfl
  have ca9 : W1.cell? ⟨w.heap.size, 9, none⟩ = some (.int .i64 a9) := (blk_cell hA 9).trans rfl
  have ca10 : W1.cell? ⟨w.heap.size, 10, none⟩ = some (.int .i64 aa) := (blk_cell hA 10).trans rfl
  have ca11 : W1.cell? ⟨w.heap.size, 11, none⟩ = some (.int .i64 ab) := (blk_cell hA 11).trans rfl
  have ca12 : W1.cell? ⟨w.heap.size, 12, none⟩ = some (.int .i64 ac) := (blk_cell hA 12).trans rfl
  have ca13 : W1.cell? ⟨w.heap.size, 13, none⟩ = some (.int .i64 ad) := (blk_cell hA 13).trans rfl
  have ca14 : W1.cell? ⟨w.heap.size, 14, none⟩ = some (.int .i64 ae) := (blk_cell hA 14).trans rfl
  have ca15 : W1.cell? ⟨w.heap.size, 15, none⟩ = some (.int .i64 af) := (blk_cell hA 15).trans rfl
  go_upto_region 2 with (first | (go_at_call 26; (with_reducible refine (matrix_Transpose.calls a0 a1 a2 a3 a4 a5 a6 a7 a8 a9 aa ab ac ad ae af a0 a4 a8 ac a1 a5 a9 ad a2 a6 aa ae a3 a7 ab af _ rfl).mono ?_); rintro e V1 ⟨rfl, hb2⟩; have qA := Mat.bb hb2 hA; have qX := Mat.bb hb2 hX; have qV := Mat.bb hb2 hV; have qB := below_step hB hb2; have g7 : (V1.alloc (.cells #[.int .i64 0, .int .i64 0, .int .i64 0, .int .i64 0, .int .i64 0, .int .i64 0, .int .i64 0, .int .i64 0, .int .i64 0, .int .i64 0, .int .i64 0, .int .i64 0, .int .i64 0, .int .i64 0, .int .i64 0, .int .i64 0] 23)).heap[V1.heap.size]? = some (.cells #[.int .i64 0, .int .i64 0, .int .i64 0, .int .i64 0, .int .i64 0, .int .i64 0, .int .i64 0, .int .i64 0, .int .i64 0, .int .i64 0, .int .i64 0, .int .i64 0, .int .i64 0, .int .i64 0, .int .i64 0, .int .i64 0] 23 (0, 0)) := (MapKept.heap_alloc V1 _).1; have cz0 : (V1.alloc (.cells #[.int .i64 0, .int .i64 0, .int .i64 0, .int .i64 0, .int .i64 0, .int .i64 0, .int .i64 0, .int .i64 0, .int .i64 0, .int .i64 0, .int .i64 0, .int .i64 0, .int .i64 0, .int .i64 0, .int .i64 0, .int .i64 0] 23)).cell? ⟨V1.heap.size, 0, none⟩ = some (.int .i64 0) := (blk_cell g7 0).trans rfl; have fz0 : (V1.alloc (.cells #[.int .i64 0, .int .i64 0, .int .i64 0, .int .i64 0, .int .i64 0, .int .i64 0, .int .i64 0, .int .i64 0, .int .i64 0, .int .i64 0, .int .i64 0, .int .i64 0, .int .i64 0, .int .i64 0, .int .i64 0, .int .i64 0] 23)).frozen? ⟨V1.heap.size, 0, none⟩ = false := blk_frozen g7 0; have cz1 : (V1.alloc (.cells #[.int .i64 0, .int .i64 0, .int .i64 0, .int .i64 0, .int .i64 0, .int .i64 0, .int .i64 0, .int .i64 0, .int .i64 0, .int .i64 0, .int .i64 0, .int .i64 0, .int .i64 0, .int .i64 0, .int .i64 0, .int .i64 0] 23)).cell? ⟨V1.heap.size, 1, none⟩ = some (.int .i64 0) := (blk_cell g7 1).trans rfl; have fz1 : (V1.alloc (.cells #[.int .i64 0, .int .i64 0, .int .i64 0, .int .i64 0, .int .i64 0, .int .i64 0, .int .i64 0, .int .i64 0, .int .i64 0, .int .i64 0, .int .i64 0, .int .i64 0, .int .i64 0, .int .i64 0, .int .i64 0, .int .i64 0] 23)).frozen? ⟨V1.heap.size, 1, none⟩ = false := blk_frozen g7 1; have cz2 : (V1.alloc (.cells #[.int .i64 0, .int .i64 0, .int .i64 0, .int .i64 0, .int .i64 0, .int .i64 0, .int .i64 0, .int .i64 0, .int .i64 0, .int .i64 0, .int .i64 0, .int .i64 0, .int .i64 0, .int .i64 0, .int .i64 0, .int .i64 0] 23)).cell? ⟨V1.heap.size, 2, none⟩ = some (.int .i64 0) := (blk_cell g7 2).trans rfl; have fz2 : (V1.alloc (.cells #[.int .i64 0, .int .i64 0, .int .i64 0, .int .i64 0, .int .i64 0, .int .i64 0, .int .i64 0, .int .i64 0, .int .i64 0, .int .i64 0, .int .i64 0, .int .i64 0, .int .i64 0, .int .i64 0, .int .i64 0, .int .i64 0] 23)).frozen? ⟨V1.heap.size, 2, none⟩ = false := blk_frozen g7 2; have cz3 : (V1.alloc (.cells #[.int .i64 0, .int .i64 0, .int .i64 0, .int .i64 0, .int .i64 0, .int .i64 0, .int .i64 0, .int .i64 0, .int .i64 0, .int .i64 0, .int .i64 0, .int .i64 0, .int .i64 0, .int .i64 0, .int .i64 0, .int .i64 0] 23)).cell? ⟨V1.heap.size, 3, none⟩ = some (.int .i64 0) := (blk_cell g7 3).trans rfl; have fz3 : (V1.alloc (.cells #[.int .i64 0, .int .i64 0, .int .i64 0, .int .i64 0, .int .i64 0, .int .i64 0, .int .i64 0, .int .i64 0, .int .i64 0, .int .i64 0, .int .i64 0, .int .i64 0, .int .i64 0, .int .i64 0, .int .i64 0, .int .i64 0] 23)).frozen? ⟨V1.heap.size, 3, none⟩ = false := blk_frozen g7 3; have cz4 : (V1.alloc (.cells #[.int .i64 0, .int .i64 0, .int .i64 0, .int .i64 0, .int .i64 0, .int .i64 0, .int .i64 0, .int .i64 0, .int .i64 0, .int .i64 0, .int .i64 0, .int .i64 0, .int .i64 0, .int .i64 0, .int .i64 0, .int .i64 0] 23)).cell? ⟨V1.heap.size, 4, none⟩ = some (.int .i64 0) := (blk_cell g7 4).trans rfl; have fz4 : (V1.alloc (.cells #[.int .i64 0, .int .i64 0, .int .i64 0, .int .i64 0, .int .i64 0, .int .i64 0, .int .i64 0, .int .i64 0, .int .i64 0, .int .i64 0, .int .i64 0, .int .i64 0, .int .i64 0, .int .i64 0, .int .i64 0, .int .i64 0] 23)).frozen? ⟨V1.heap.size, 4, none⟩ = false := blk_frozen g7 4; have cz5 : (V1.alloc (.cells #[.int .i64 0, .int .i64 0, .int .i64 0, .int .i64 0, .int .i64 0, .int .i64 0, .int .i64 0, .int .i64 0, .int .i64 0, .int .i64 0, .int .i64 0, .int .i64 0, .int .i64 0, .int .i64 0, .int .i64 0, .int .i64 0] 23)).cell? ⟨V1.heap.size, 5, none⟩ = some (.int .i64 0) := (blk_cell g7 5).trans rfl; have fz5 : (V1.alloc (.cells #[.int .i64 0, .int .i64 0, .int .i64 0, .int .i64 0, .int .i64 0, .int .i64 0, .int .i64 0, .int .i64 0, .int .i64 0, .int .i64 0, .int .i64 0, .int .i64 0, .int .i64 0, .int .i64 0, .int .i64 0, .int .i64 0] 23)).frozen? ⟨V1.heap.size, 5, none⟩ = false := blk_frozen g7 5; have cz6 : (V1.alloc (.cells #[.int .i64 0, .int .i64 0, .int .i64 0, .int .i64 0, .int .i64 0, .int .i64 0, .int .i64 0, .int .i64 0, .int .i64 0, .int .i64 0, .int .i64 0, .int .i64 0, .int .i64 0, .int .i64 0, .int .i64 0, .int .i64 0] 23)).cell? ⟨V1.heap.size, 6, none⟩ = some (.int .i64 0) := (blk_cell g7 6).trans rfl; have fz6 : (V1.alloc (.cells #[.int .i64 0, .int .i64 0, .int .i64 0, .int .i64 0, .int .i64 0, .int .i64 0, .int .i64 0, .int .i64 0, .int .i64 0, .int .i64 0, .int .i64 0, .int .i64 0, .int .i64 0, .int .i64 0, .int .i64 0, .int .i64 0] 23)).frozen? ⟨V1.heap.size, 6, none⟩ = false := blk_frozen g7 6; have cz7 : (V1.alloc (.cells #[.int .i64 0, .int .i64 0, .int .i64 0, .int .i64 0, .int .i64 0, .int .i64 0, .int .i64 0, .int .i64 0, .int .i64 0, .int .i64 0, .int .i64 0, .int .i64 0, .int .i64 0, .int .i64 0, .int .i64 0, .int .i64 0] 23)).cell? ⟨V1.heap.size, 7, none⟩ = some (.int .i64 0) := (blk_cell g7 7).trans rfl; have fz7 : (V1.alloc (.cells #[.int .i64 0, .int .i64 0, .int .i64 0, .int .i64 0, .int .i64 0, .int .i64 0, .int .i64 0, .int .i64 0, .int .i64 0, .int .i64 0, .int .i64 0, .int .i64 0, .int .i64 0, .int .i64 0, .int .i64 0, .int .i64 0] 23)).frozen? ⟨V1.heap.size, 7, none⟩ = false := blk_frozen g7 7; have cz8 : (V1.alloc (.cells #[.int .i64 0, .int .i64 0, .int .i64 0, .int .i64 0, .int .i64 0, .int .i64 0, .int .i64 0, .int .i64 0, .int .i64 0, .int .i64 0, .int .i64 0, .int .i64 0, .int .i64 0, .int .i64 0, .int .i64 0, .int .i64 0] 23)).cell? ⟨V1.heap.size, 8, none⟩ = some (.int .i64 0) := (blk_cell g7 8).trans rfl; have fz8 : (V1.alloc (.cells #[.int .i64 0, .int .i64 0, .int .i64 0, .int .i64 0, .int .i64 0, .int .i64 0, .int .i64 0, .int .i64 0, .int .i64 0, .int .i64 0, .int .i64 0, .int .i64 0, .int .i64 0, .int .i64 0, .int .i64 0, .int .i64 0] 23)).frozen? ⟨V1.heap.size, 8, none⟩ = false := blk_frozen g7 8; have cz9 : (V1.alloc (.cells #[.int .i64 0, .int .i64 0, .int .i64 0, .int .i64 0, .int .i64 0, .int .i64 0, .int .i64 0, .int .i64 0, .int .i64 0, .int .i64 0, .int .i64 0, .int .i64 0, .int .i64 0, .int .i64 0, .int .i64 0, .int .i64 0] 23)).cell? ⟨V1.heap.size, 9, none⟩ = some (.int .i64 0) := (blk_cell g7 9).trans rfl; have fz9 : (V1.alloc (.cells #[.int .i64 0, .int .i64 0, .int .i64 0, .int .i64 0, .int .i64 0, .int .i64 0, .int .i64 0, .int .i64 0, .int .i64 0, .int .i64 0, .int .i64 0, .int .i64 0, .int .i64 0, .int .i64 0, .int .i64 0, .int .i64 0] 23)).frozen? ⟨V1.heap.size, 9, none⟩ = false := blk_frozen g7 9; have cz10 : (V1.alloc (.cells #[.int .i64 0, .int .i64 0, .int .i64 0, .int .i64 0, .int .i64 0, .int .i64 0, .int .i64 0, .int .i64 0, .int .i64 0, .int .i64 0, .int .i64 0, .int .i64 0, .int .i64 0, .int .i64 0, .int .i64 0, .int .i64 0] 23)).cell? ⟨V1.heap.size, 10, none⟩ = some (.int .i64 0) := (blk_cell g7 10).trans rfl; have fz10 : (V1.alloc (.cells #[.int .i64 0, .int .i64 0, .int .i64 0, .int .i64 0, .int .i64 0, .int .i64 0, .int .i64 0, .int .i64 0, .int .i64 0, .int .i64 0, .int .i64 0, .int .i64 0, .int .i64 0, .int .i64 0, .int .i64 0, .int .i64 0] 23)).frozen? ⟨V1.heap.size, 10, none⟩ = false := blk_frozen g7 10; have cz11 : (V1.alloc (.cells #[.int .i64 0, .int .i64 0, .int .i64 0, .int .i64 0, .int .i64 0, .int .i64 0, .int .i64 0, .int .i64 0, .int .i64 0, .int .i64 0, .int .i64 0, .int .i64 0, .int .i64 0, .int .i64 0, .int .i64 0, .int .i64 0] 23)).cell? ⟨V1.heap.size, 11, none⟩ = some (.int .i64 0) := (blk_cell g7 11).trans rfl; have fz11 : (V1.alloc (.cells #[.int .i64 0, .int .i64 0, .int .i64 0, .int .i64 0, .int .i64 0, .int .i64 0, .int .i64 0, .int .i64 0, .int .i64 0, .int .i64 0, .int .i64 0, .int .i64 0, .int .i64 0, .int .i64 0, .int .i64 0, .int .i64 0] 23)).frozen? ⟨V1.heap.size, 11, none⟩ = false := blk_frozen g7 11; have cz12 : (V1.alloc (.cells #[.int .i64 0, .int .i64 0, .int .i64 0, .int .i64 0, .int .i64 0, .int .i64 0, .int .i64 0, .int .i64 0, .int .i64 0, .int .i64 0, .int .i64 0, .int .i64 0, .int .i64 0, .int .i64 0, .int .i64 0, .int .i64 0] 23)).cell? ⟨V1.heap.size, 12, none⟩ = some (.int .i64 0) := (blk_cell g7 12).trans rfl; have fz12 : (V1.alloc (.cells #[.int .i64 0, .int .i64 0, .int .i64 0, .int .i64 0, .int .i64 0, .int .i64 0, .int .i64 0, .int .i64 0, .int .i64 0, .int .i64 0, .int .i64 0, .int .i64 0, .int .i64 0, .int .i64 0, .int .i64 0, .int .i64 0] 23)).frozen? ⟨V1.heap.size, 12, none⟩ = false := blk_frozen g7 12; have cz13 : (V1.alloc (.cells #[.int .i64 0, .int .i64 0, .int .i64 0, .int .i64 0, .int .i64 0, .int .i64 0, .int .i64 0, .int .i64 0, .int .i64 0, .int .i64 0, .int .i64 0, .int .i64 0, .int .i64 0, .int .i64 0, .int .i64 0, .int .i64 0] 23)).cell? ⟨V1.heap.size, 13, none⟩ = some (.int .i64 0) := (blk_cell g7 13).trans rfl; have fz13 : (V1.alloc (.cells #[.int .i64 0, .int .i64 0, .int .i64 0, .int .i64 0, .int .i64 0, .int .i64 0, .int .i64 0, .int .i64 0, .int .i64 0, .int .i64 0, .int .i64 0, .int .i64 0, .int .i64 0, .int .i64 0, .int .i64 0, .int .i64 0] 23)).frozen? ⟨V1.heap.size, 13, none⟩ = false := blk_frozen g7 13; have cz14 : (V1.alloc (.cells #[.int .i64 0, .int .i64 0, .int .i64 0, .int .i64 0, .int .i64 0, .int .i64 0, .int .i64 0, .int .i64 0, .int .i64 0, .int .i64 0, .int .i64 0, .int .i64 0, .int .i64 0, .int .i64 0, .int .i64 0, .int .i64 0] 23)).cell? ⟨V1.heap.size, 14, none⟩ = some (.int .i64 0) := (blk_cell g7 14).trans rfl; have fz14 : (V1.alloc (.cells #[.int .i64 0, .int .i64 0, .int .i64 0, .int .i64 0, .int .i64 0, .int .i64 0, .int .i64 0, .int .i64 0, .int .i64 0, .int .i64 0, .int .i64 0, .int .i64 0, .int .i64 0, .int .i64 0, .int .i64 0, .int .i64 0] 23)).frozen? ⟨V1.heap.size, 14, none⟩ = false := blk_frozen g7 14; have cz15 : (V1.alloc (.cells #[.int .i64 0, .int .i64 0, .int .i64 0, .int .i64 0, .int .i64 0, .int .i64 0, .int .i64 0, .int .i64 0, .int .i64 0, .int .i64 0, .int .i64 0, .int .i64 0, .int .i64 0, .int .i64 0, .int .i64 0, .int .i64 0] 23)).cell? ⟨V1.heap.size, 15, none⟩ = some (.int .i64 0) := (blk_cell g7 15).trans rfl; have fz15 : (V1.alloc (.cells #[.int .i64 0, .int .i64 0, .int .i64 0, .int .i64 0, .int .i64 0, .int .i64 0, .int .i64 0, .int .i64 0, .int .i64 0, .int .i64 0, .int .i64 0, .int .i64 0, .int .i64 0, .int .i64 0, .int .i64 0, .int .i64 0] 23)).frozen? ⟨V1.heap.size, 15, none⟩ = false := blk_frozen g7 15))
  have l3 : g2 < V1.heap.size := blk_lt qV
  refine Mat.gen_ (Pr := fun W => W.heap[w.heap.size]? = some (.cells #[.int .i64 a0, .int .i64 a1, .int .i64 a2, .int .i64 a3, .int .i64 a4, .int .i64 a5, .int .i64 a6, .int .i64 a7, .int .i64 a8, .int .i64 a9, .int .i64 aa, .int .i64 ab, .int .i64 ac, .int .i64 ad, .int .i64 ae, .int .i64 af] 23 (0, 0)) ∧ W.heap[g1]? = some (.cells #[.int .i64 b0, .int .i64 b1, .int .i64 b2, .int .i64 b3, .int .i64 b4, .int .i64 b5, .int .i64 b6, .int .i64 b7, .int .i64 b8, .int .i64 b9, .int .i64 ba, .int .i64 bb, .int .i64 bc, .int .i64 bd, .int .i64 be, .int .i64 bf] 23 (0, 0)) ∧ W.heap[g2]? = some (.cells #[.int .i64 x, .int .i64 y, .int .i64 z, .int .i64 v] 29 (0, 0)) ∧ W.heap[V1.heap.size]? = some (.cells #[.int .i64 a0, .int .i64 a4, .int .i64 a8, .int .i64 ac, .int .i64 a1, .int .i64 a5, .int .i64 a9, .int .i64 ad, .int .i64 a2, .int .i64 a6, .int .i64 aa, .int .i64 ae, .int .i64 a3, .int .i64 a7, .int .i64 ab, .int .i64 af] 23 (0, 0)) ∧ Below w.heap.size w W) (G := fun W => Code.wp Try.prog _ _ _ W) ⟨blk_alloc qA _, blk_alloc qX _, blk_alloc qV _, (MapKept.heap_alloc V1 _).1, below_alloc qB _⟩ ?_
  clear hA hX hV hB qA qX qV qB hb2 g7 ca0 cz0 fz0 ca1 cz1 fz1 ca2 cz2 fz2 ca3 cz3 fz3 ca4 cz4 fz4 ca5 cz5 fz5 ca6 cz6 fz6 ca7 cz7 fz7 ca8 cz8 fz8 ca9 cz9 fz9 ca10 cz10 fz10 ca11 cz11 fz11 ca12 cz12 fz12 ca13 cz13 fz13 ca14 cz14 fz14 ca15 cz15 fz15
  generalize V1.heap.size = g3 at *
  rintro W2 ⟨hA, hX, hV, hT, hB⟩
  as_aux_lemma =>
  go_wp2
  refine wp_loop_rounds 5 ?_
  refine Mat.gen_ (Pr := fun W => W.heap[w.heap.size]? = some (.cells #[.int .i64 a0, .int .i64 a1, .int .i64 a2, .int .i64 a3, .int .i64 a4, .int .i64 a5, .int .i64 a6, .int .i64 a7, .int .i64 a8, .int .i64 a9, .int .i64 aa, .int .i64 ab, .int .i64 ac, .int .i64 ad, .int .i64 ae, .int .i64 af] 23 (0, 0)) ∧ W.heap[g1]? = some (.cells #[.int .i64 b0, .int .i64 b1, .int .i64 b2, .int .i64 b3, .int .i64 b4, .int .i64 b5, .int .i64 b6, .int .i64 b7, .int .i64 b8, .int .i64 b9, .int .i64 ba, .int .i64 bb, .int .i64 bc, .int .i64 bd, .int .i64 be, .int .i64 bf] 23 (0, 0)) ∧ W.heap[g2]? = some (.cells #[.int .i64 x, .int .i64 y, .int .i64 z, .int .i64 v] 29 (0, 0)) ∧ W.heap[g3]? = some (.cells #[.int .i64 a0, .int .i64 a4, .int .i64 a8, .int .i64 ac, .int .i64 a1, .int .i64 a5, .int .i64 a9, .int .i64 ad, .int .i64 a2, .int .i64 a6, .int .i64 aa, .int .i64 ae, .int .i64 a3, .int .i64 a7, .int .i64 ab, .int .i64 af] 23 (0, 0)) ∧ Below w.heap.size w W) (G := fun W => Code.rounds Try.prog _ _ _ _ W) ⟨hA, hX, hV, hT, hB⟩ ?_
  clear hA hX hV hT hB
  rintro U0 ⟨hA, hX, hV, hT, hB⟩
  as_aux_lemma =>
  rw [rounds_succ]
  go_upto_region 5 with (fail)
  replace hA := blk_drew hA
  replace hX := blk_drew hX
  replace hV := blk_drew hV
  replace hT := blk_drew hT
  replace hB := below_drew1 hB
  refine start_ (n := 20) (S := fun w' => w'.heap[w.heap.size]? = some (.cells #[.int .i64 a0, .int .i64 a1, .int .i64 a2, .int .i64 a3, .int .i64 a4, .int .i64 a5, .int .i64 a6, .int .i64 a7, .int .i64 a8, .int .i64 a9, .int .i64 aa, .int .i64 ab, .int .i64 ac, .int .i64 ad, .int .i64 ae, .int .i64 af] 23 (0, 0)) ∧ w'.heap[g1]? = some (.cells #[.int .i64 b0, .int .i64 b1, .int .i64 b2, .int .i64 b3, .int .i64 b4, .int .i64 b5, .int .i64 b6, .int .i64 b7, .int .i64 b8, .int .i64 b9, .int .i64 ba, .int .i64 bb, .int .i64 bc, .int .i64 bd, .int .i64 be, .int .i64 bf] 23 (0, 0)) ∧ w'.heap[g2]? = some (.cells #[.int .i64 x, .int .i64 y, .int .i64 z, .int .i64 v] 29 (0, 0)) ∧ w'.heap[g3]? = some (.cells #[.int .i64 a0, .int .i64 a4, .int .i64 a8, .int .i64 ac, .int .i64 a1, .int .i64 a5, .int .i64 a9, .int .i64 ad, .int .i64 a2, .int .i64 a6, .int .i64 aa, .int .i64 ae, .int .i64 a3, .int .i64 a7, .int .i64 ab, .int .i64 af] 23 (0, 0))) (ds := []) #[false, false, false, false, false, false, false, false, false, false, false, false, false, false, false, false, false, false, false, false] (by kernel_rfl) rfl rfl ⟨hA, hX, hV, hT⟩ (fun hHeld => ?_); refine with_tab MatrixTransposes.tab5 (fun HT_ => ?_)
  generalize U0.drew = V0 at hA hX hV hT hB hHeld ⊢
  refine take_ (i := 0) (N := some 15) (v := .agg #[.int .i64 a0, .int .i64 a4, .int .i64 a8, .int .i64 ac, .int .i64 a1, .int .i64 a5, .int .i64 a9, .int .i64 ad, .int .i64 a2, .int .i64 a6, .int .i64 aa, .int .i64 ae, .int .i64 a3, .int .i64 a7, .int .i64 ab, .int .i64 af]) (a' := ?_) #[true, false, false, false, false, false, false, false, false, false, false, false, false, false, false, false, false, false, false, false] rfl rfl (take_of HT_.out (by kernel_rfl)) (fun _ _ _ h => h) (yieldsIf_load_mid (by rfl) 23 (.tmp 7) rfl (g3) 0 (by rfl) #[.int .i64 a0, .int .i64 a4, .int .i64 a8, .int .i64 ac, .int .i64 a1, .int .i64 a5, .int .i64 a9, .int .i64 ad, .int .i64 a2, .int .i64 a6, .int .i64 aa, .int .i64 ae, .int .i64 a3, .int .i64 a7, .int .i64 ab, .int .i64 af].toList _ (fun _ h => Mat.range_blk h.2.2.2) hu23 rfl (by kernel_rfl)) hHeld ?_ ?_
  rotate_left
  · simp only [Act.put, Mat.p1, List.set_cons_zero, List.set_cons_succ]
    rfl
  refine pure_ (i := 1) (N := some 16) (v := ?_) (a' := ?_) #[true, true, false, false, false, false, false, false, false, false, false, false, false, false, false, false, false, false, false, false] rfl rfl (any_of HT_.out (by kernel_rfl)) (fun _ _ _ h => h) (Or.inl ⟨by rfl, ?_⟩) ?_ ?_
  rotate_left
  · intro w'
    go_simp
    with_reducible rfl
  rotate_left
  · simp only [Act.put, Mat.p1, List.set_cons_zero, List.set_cons_succ]
    rfl
  refine pure_ (i := 3) (N := some 18) (v := ?_) (a' := ?_) #[true, true, false, true, false, false, false, false, false, false, false, false, false, false, false, false, false, false, false, false] rfl rfl (any_of HT_.out (by kernel_rfl)) (fun _ _ _ h => h) (Or.inl ⟨by rfl, ?_⟩) ?_ ?_
  rotate_left
  · intro w'
    go_simp
    with_reducible rfl
  rotate_left
  · simp only [Act.put, Mat.p1, List.set_cons_zero, List.set_cons_succ]
    rfl
  refine pure_ (i := 4) (N := some 19) (v := ?_) (a' := ?_) #[true, true, false, true, true, false, false, false, false, false, false, false, false, false, false, false, false, false, false, false] rfl rfl (any_of HT_.out (by kernel_rfl)) (fun _ _ _ h => h) (Or.inl ⟨by rfl, ?_⟩) ?_ ?_
  rotate_left
  · intro w'
    go_simp
    with_reducible rfl
  rotate_left
  · simp only [Act.put, Mat.p1, List.set_cons_zero, List.set_cons_succ]
    rfl
  refine take_ (i := 5) (N := some 20) (v := .int .i64 a0) (a' := ?_) #[true, true, false, true, true, true, false, false, false, false, false, false, false, false, false, false, false, false, false, false] rfl rfl (take_of HT_.out (by kernel_rfl)) (fun _ _ _ h => h) (Or.inl ⟨by rfl, ?_⟩) hHeld ?_ ?_
  · rintro w' h
    have hc : w'.cell? ⟨w.heap.size, 0, none⟩ = some (.int .i64 a0) := (blk_cell h.1 0).trans rfl
    clear h
    go_simp
    first | done | with_reducible rfl | rfl
  rotate_left
  · simp only [Act.put, Mat.p1, List.set_cons_zero, List.set_cons_succ]
    rfl
  refine pure_ (i := 6) (N := some 21) (v := ?_) (a' := ?_) #[true, true, false, true, true, true, true, false, false, false, false, false, false, false, false, false, false, false, false, false] rfl rfl (any_of HT_.out (by kernel_rfl)) (fun _ _ _ h => h) (Or.inl ⟨by rfl, ?_⟩) ?_ ?_
  rotate_left
  · intro w'
    go_simp
    with_reducible rfl
  rotate_left
  · simp only [Act.put, Mat.p1, List.set_cons_zero, List.set_cons_succ]
    rfl
  refine pure_ (i := 7) (N := some 22) (v := .int .i64 4) (a' := ?_) #[true, true, false, true, true, true, true, true, false, false, false, false, false, false, false, false, false, false, false, false] rfl rfl (any_of HT_.out (by kernel_rfl)) (fun _ _ _ h => h) (Or.inl ⟨by rfl, ?_⟩) ?_ ?_
  · intro w'
    go_simp
    first | done | rfl | (simp; done)
  rotate_left
  · simp only [Act.put, Mat.p1, List.set_cons_zero, List.set_cons_succ]
    rfl
  refine pure_ (i := 8) (N := some 23) (v := ?_) (a' := ?_) #[true, true, false, true, true, true, true, true, true, false, false, false, false, false, false, false, false, false, false, false] rfl rfl (any_of HT_.out (by kernel_rfl)) (fun _ _ _ h => h) (Or.inl ⟨by rfl, ?_⟩) ?_ ?_
  rotate_left
  · intro w'
    go_simp
    with_reducible rfl
  rotate_left
  · simp only [Act.put, Mat.p1, List.set_cons_zero, List.set_cons_succ]
    rfl
  refine take_ (i := 9) (N := some 24) (v := .int .i64 a4) (a' := ?_) #[true, true, false, true, true, true, true, true, true, true, false, false, false, false, false, false, false, false, false, false] rfl rfl (take_of HT_.out (by kernel_rfl)) (fun _ _ _ h => h) (Or.inl ⟨by rfl, ?_⟩) hHeld ?_ ?_
  · rintro w' h
    have hc : w'.cell? ⟨w.heap.size, 4, none⟩ = some (.int .i64 a4) := (blk_cell h.1 4).trans rfl
    clear h
    go_simp
    first | done | with_reducible rfl | rfl
  rotate_left
  · simp only [Act.put, Mat.p1, List.set_cons_zero, List.set_cons_succ]
    rfl
  refine pure_ (i := 10) (N := some 25) (v := ?_) (a' := ?_) #[true, true, false, true, true, true, true, true, true, true, true, false, false, false, false, false, false, false, false, false] rfl rfl (any_of HT_.out (by kernel_rfl)) (fun _ _ _ h => h) (Or.inl ⟨by rfl, ?_⟩) ?_ ?_
  rotate_left
  · intro w'
    go_simp
    with_reducible rfl
  rotate_left
  · simp only [Act.put, Mat.p1, List.set_cons_zero, List.set_cons_succ]
    rfl
  refine pure_ (i := 11) (N := some 26) (v := .int .i64 8) (a' := ?_) #[true, true, false, true, true, true, true, true, true, true, true, true, false, false, false, false, false, false, false, false] rfl rfl (any_of HT_.out (by kernel_rfl)) (fun _ _ _ h => h) (Or.inl ⟨by rfl, ?_⟩) ?_ ?_
  · intro w'
    go_simp
    first | done | rfl | (simp; done)
  rotate_left
  · simp only [Act.put, Mat.p1, List.set_cons_zero, List.set_cons_succ]
    rfl
  refine pure_ (i := 12) (N := some 27) (v := ?_) (a' := ?_) #[true, true, false, true, true, true, true, true, true, true, true, true, true, false, false, false, false, false, false, false] rfl rfl (any_of HT_.out (by kernel_rfl)) (fun _ _ _ h => h) (Or.inl ⟨by rfl, ?_⟩) ?_ ?_
  rotate_left
  · intro w'
    go_simp
    with_reducible rfl
  rotate_left
  · simp only [Act.put, Mat.p1, List.set_cons_zero, List.set_cons_succ]
    rfl
  refine take_ (i := 13) (N := some 28) (v := .int .i64 a8) (a' := ?_) #[true, true, false, true, true, true, true, true, true, true, true, true, true, true, false, false, false, false, false, false] rfl rfl (take_of HT_.out (by kernel_rfl)) (fun _ _ _ h => h) (Or.inl ⟨by rfl, ?_⟩) hHeld ?_ ?_
  · rintro w' h
    have hc : w'.cell? ⟨w.heap.size, 8, none⟩ = some (.int .i64 a8) := (blk_cell h.1 8).trans rfl
    clear h
    go_simp
    first | done | with_reducible rfl | rfl
  rotate_left
  · simp only [Act.put, Mat.p1, List.set_cons_zero, List.set_cons_succ]
    rfl
  refine pure_ (i := 14) (N := some 29) (v := ?_) (a' := ?_) #[true, true, false, true, true, true, true, true, true, true, true, true, true, true, true, false, false, false, false, false] rfl rfl (any_of HT_.out (by kernel_rfl)) (fun _ _ _ h => h) (Or.inl ⟨by rfl, ?_⟩) ?_ ?_
  rotate_left
  · intro w'
    go_simp
    with_reducible rfl
  rotate_left
  · simp only [Act.put, Mat.p1, List.set_cons_zero, List.set_cons_succ]
    rfl
  refine pure_ (i := 15) (N := some 30) (v := .int .i64 12) (a' := ?_) #[true, true, false, true, true, true, true, true, true, true, true, true, true, true, true, true, false, false, false, false] rfl rfl (any_of HT_.out (by kernel_rfl)) (fun _ _ _ h => h) (Or.inl ⟨by rfl, ?_⟩) ?_ ?_
  · intro w'
    go_simp
    first | done | rfl | (simp; done)
  rotate_left
  · simp only [Act.put, Mat.p1, List.set_cons_zero, List.set_cons_succ]
    rfl
  refine pure_ (i := 16) (N := some 31) (v := ?_) (a' := ?_) #[true, true, false, true, true, true, true, true, true, true, true, true, true, true, true, true, true, false, false, false] rfl rfl (any_of HT_.out (by kernel_rfl)) (fun _ _ _ h => h) (Or.inl ⟨by rfl, ?_⟩) ?_ ?_
  rotate_left
  · intro w'
    go_simp
    with_reducible rfl
  rotate_left
  · simp only [Act.put, Mat.p1, List.set_cons_zero, List.set_cons_succ]
    rfl
  refine take_ (i := 17) (N := some 32) (v := .int .i64 ac) (a' := ?_) #[true, true, false, true, true, true, true, true, true, true, true, true, true, true, true, true, true, true, false, false] rfl rfl (take_of HT_.out (by kernel_rfl)) (fun _ _ _ h => h) (Or.inl ⟨by rfl, ?_⟩) hHeld ?_ ?_
  · rintro w' h
    have hc : w'.cell? ⟨w.heap.size, 12, none⟩ = some (.int .i64 ac) := (blk_cell h.1 12).trans rfl
    clear h
    go_simp
    first | done | with_reducible rfl | rfl
  rotate_left
  · simp only [Act.put, Mat.p1, List.set_cons_zero, List.set_cons_succ]
    rfl
  refine pure_ (i := 18) (N := some 33) (v := ?_) (a' := ?_) #[true, true, false, true, true, true, true, true, true, true, true, true, true, true, true, true, true, true, true, false] rfl rfl (any_of HT_.out (by kernel_rfl)) (fun _ _ _ h => h) (Or.inl ⟨by rfl, ?_⟩) ?_ ?_
  rotate_left
  · intro w'
    go_simp
    with_reducible rfl
  rotate_left
  · simp only [Act.put, Mat.p1, List.set_cons_zero, List.set_cons_succ]
    rfl
  refine one_ (i := 2) (N := some 17) #[true, true, true, true, true, true, true, true, true, true, true, true, true, true, true, true, true, true, true, false] rfl rfl (one_of HT_.out (by kernel_rfl)) (by decide) (fun K hK => ?_)
  refine goes_ Try.func21 (by kernel_rfl) rfl #[.agg #[.int .i64 a0, .int .i64 a4, .int .i64 a8, .int .i64 ac, .int .i64 a1, .int .i64 a5, .int .i64 a9, .int .i64 ad, .int .i64 a2, .int .i64 a6, .int .i64 aa, .int .i64 ae, .int .i64 a3, .int .i64 a7, .int .i64 ab, .int .i64 af], .int .i64 0] (by rfl) rfl rfl (by first | (simp only [List.map_toArray, List.map_cons, List.map_nil]; rfl) | (simp only [List.map_toArray, List.map_nil])) ?_
  with_reducible refine (matrix_Row.calls a0 a4 a8 ac a1 a5 a9 ad a2 a6 aa ae a3 a7 ab af 0 a0 a4 a8 ac _ rfl).mono ?_
  rintro e V1 ⟨rfl, hb⟩
  refine ⟨_, rfl, ?_⟩
  replace hA := Mat.bb hb hA
  replace hX := Mat.bb hb hX
  replace hV := Mat.bb hb hV
  replace hT := Mat.bb hb hT
  replace hB := below_step hB hb
  clear hb
  refine hK.out _ _ ⟨hA, hX, hV, hT⟩ (fun hHeld => ?_)
  clear hK K
  refine norm_ (a' := ?_) ?_ ?_
  rotate_left
  · show Act.put _ (some 17) _ = _
    simp only [Act.put, Mat.p1, List.set_cons_zero, List.set_cons_succ]
    rfl
  refine pure_ (i := 19) (N := some 34) (v := .bool false) (a' := ?_) #[true, true, true, true, true, true, true, true, true, true, true, true, true, true, true, true, true, true, true, true] rfl rfl (any_of HT_.out (by kernel_rfl)) (fun _ _ _ h => h) (Or.inl ⟨by rfl, ?_⟩) ?_ ?_
  · intro w'
    go_simp
    first | done | rfl | (simp; done)
  rotate_left
  · simp only [Act.put, Mat.p1, List.set_cons_zero, List.set_cons_succ]
    rfl
  refine done_ (done_of HT_.out (by kernel_rfl)) ?_
  clear HT_
  go_wp2
  refine Mat.gen_ (Pr := fun W => W.heap[w.heap.size]? = some (.cells #[.int .i64 a0, .int .i64 a1, .int .i64 a2, .int .i64 a3, .int .i64 a4, .int .i64 a5, .int .i64 a6, .int .i64 a7, .int .i64 a8, .int .i64 a9, .int .i64 aa, .int .i64 ab, .int .i64 ac, .int .i64 ad, .int .i64 ae, .int .i64 af] 23 (0, 0)) ∧ W.heap[g1]? = some (.cells #[.int .i64 b0, .int .i64 b1, .int .i64 b2, .int .i64 b3, .int .i64 b4, .int .i64 b5, .int .i64 b6, .int .i64 b7, .int .i64 b8, .int .i64 b9, .int .i64 ba, .int .i64 bb, .int .i64 bc, .int .i64 bd, .int .i64 be, .int .i64 bf] 23 (0, 0)) ∧ W.heap[g2]? = some (.cells #[.int .i64 x, .int .i64 y, .int .i64 z, .int .i64 v] 29 (0, 0)) ∧ W.heap[g3]? = some (.cells #[.int .i64 a0, .int .i64 a4, .int .i64 a8, .int .i64 ac, .int .i64 a1, .int .i64 a5, .int .i64 a9, .int .i64 ad, .int .i64 a2, .int .i64 a6, .int .i64 aa, .int .i64 ae, .int .i64 a3, .int .i64 a7, .int .i64 ab, .int .i64 af] 23 (0, 0)) ∧ Below w.heap.size w W) (G := fun W => Code.rounds Try.prog _ _ _ _ W) ⟨hA, hX, hV, hT, hB⟩ ?_
  clear hA hX hV hT hB hHeld
  rintro U1 ⟨hA, hX, hV, hT, hB⟩
  as_aux_lemma =>
  rw [rounds_succ]
  go_upto_region 5 with (fail)
  replace hA := blk_drew hA
  replace hX := blk_drew hX
  replace hV := blk_drew hV
  replace hT := blk_drew hT
  replace hB := below_drew1 hB
  refine start_ (n := 20) (S := fun w' => w'.heap[w.heap.size]? = some (.cells #[.int .i64 a0, .int .i64 a1, .int .i64 a2, .int .i64 a3, .int .i64 a4, .int .i64 a5, .int .i64 a6, .int .i64 a7, .int .i64 a8, .int .i64 a9, .int .i64 aa, .int .i64 ab, .int .i64 ac, .int .i64 ad, .int .i64 ae, .int .i64 af] 23 (0, 0)) ∧ w'.heap[g1]? = some (.cells #[.int .i64 b0, .int .i64 b1, .int .i64 b2, .int .i64 b3, .int .i64 b4, .int .i64 b5, .int .i64 b6, .int .i64 b7, .int .i64 b8, .int .i64 b9, .int .i64 ba, .int .i64 bb, .int .i64 bc, .int .i64 bd, .int .i64 be, .int .i64 bf] 23 (0, 0)) ∧ w'.heap[g2]? = some (.cells #[.int .i64 x, .int .i64 y, .int .i64 z, .int .i64 v] 29 (0, 0)) ∧ w'.heap[g3]? = some (.cells #[.int .i64 a0, .int .i64 a4, .int .i64 a8, .int .i64 ac, .int .i64 a1, .int .i64 a5, .int .i64 a9, .int .i64 ad, .int .i64 a2, .int .i64 a6, .int .i64 aa, .int .i64 ae, .int .i64 a3, .int .i64 a7, .int .i64 ab, .int .i64 af] 23 (0, 0))) (ds := []) #[false, false, false, false, false, false, false, false, false, false, false, false, false, false, false, false, false, false, false, false] (by kernel_rfl) rfl rfl ⟨hA, hX, hV, hT⟩ (fun hHeld => ?_); refine with_tab MatrixTransposes.tab5 (fun HT_ => ?_)
  generalize U1.drew = V0 at hA hX hV hT hB hHeld ⊢
  refine take_ (i := 0) (N := some 15) (v := .agg #[.int .i64 a0, .int .i64 a4, .int .i64 a8, .int .i64 ac, .int .i64 a1, .int .i64 a5, .int .i64 a9, .int .i64 ad, .int .i64 a2, .int .i64 a6, .int .i64 aa, .int .i64 ae, .int .i64 a3, .int .i64 a7, .int .i64 ab, .int .i64 af]) (a' := ?_) #[true, false, false, false, false, false, false, false, false, false, false, false, false, false, false, false, false, false, false, false] rfl rfl (take_of HT_.out (by kernel_rfl)) (fun _ _ _ h => h) (yieldsIf_load_mid (by rfl) 23 (.tmp 7) rfl (g3) 0 (by rfl) #[.int .i64 a0, .int .i64 a4, .int .i64 a8, .int .i64 ac, .int .i64 a1, .int .i64 a5, .int .i64 a9, .int .i64 ad, .int .i64 a2, .int .i64 a6, .int .i64 aa, .int .i64 ae, .int .i64 a3, .int .i64 a7, .int .i64 ab, .int .i64 af].toList _ (fun _ h => Mat.range_blk h.2.2.2) hu23 rfl (by kernel_rfl)) hHeld ?_ ?_
  rotate_left
  · simp only [Act.put, Mat.p1, List.set_cons_zero, List.set_cons_succ]
    rfl
  refine pure_ (i := 1) (N := some 16) (v := ?_) (a' := ?_) #[true, true, false, false, false, false, false, false, false, false, false, false, false, false, false, false, false, false, false, false] rfl rfl (any_of HT_.out (by kernel_rfl)) (fun _ _ _ h => h) (Or.inl ⟨by rfl, ?_⟩) ?_ ?_
  rotate_left
  · intro w'
    go_simp
    with_reducible rfl
  rotate_left
  · simp only [Act.put, Mat.p1, List.set_cons_zero, List.set_cons_succ]
    rfl
  refine pure_ (i := 3) (N := some 18) (v := ?_) (a' := ?_) #[true, true, false, true, false, false, false, false, false, false, false, false, false, false, false, false, false, false, false, false] rfl rfl (any_of HT_.out (by kernel_rfl)) (fun _ _ _ h => h) (Or.inl ⟨by rfl, ?_⟩) ?_ ?_
  rotate_left
  · intro w'
    go_simp
    with_reducible rfl
  rotate_left
  · simp only [Act.put, Mat.p1, List.set_cons_zero, List.set_cons_succ]
    rfl
  refine pure_ (i := 4) (N := some 19) (v := ?_) (a' := ?_) #[true, true, false, true, true, false, false, false, false, false, false, false, false, false, false, false, false, false, false, false] rfl rfl (any_of HT_.out (by kernel_rfl)) (fun _ _ _ h => h) (Or.inl ⟨by rfl, ?_⟩) ?_ ?_
  rotate_left
  · intro w'
    go_simp
    with_reducible rfl
  rotate_left
  · simp only [Act.put, Mat.p1, List.set_cons_zero, List.set_cons_succ]
    rfl
  refine take_ (i := 5) (N := some 20) (v := .int .i64 a1) (a' := ?_) #[true, true, false, true, true, true, false, false, false, false, false, false, false, false, false, false, false, false, false, false] rfl rfl (take_of HT_.out (by kernel_rfl)) (fun _ _ _ h => h) (Or.inl ⟨by rfl, ?_⟩) hHeld ?_ ?_
  · rintro w' h
    have hc : w'.cell? ⟨w.heap.size, 1, none⟩ = some (.int .i64 a1) := (blk_cell h.1 1).trans rfl
    clear h
    go_simp
    first | done | with_reducible rfl | rfl
  rotate_left
  · simp only [Act.put, Mat.p1, List.set_cons_zero, List.set_cons_succ]
    rfl
  refine pure_ (i := 6) (N := some 21) (v := ?_) (a' := ?_) #[true, true, false, true, true, true, true, false, false, false, false, false, false, false, false, false, false, false, false, false] rfl rfl (any_of HT_.out (by kernel_rfl)) (fun _ _ _ h => h) (Or.inl ⟨by rfl, ?_⟩) ?_ ?_
  rotate_left
  · intro w'
    go_simp
    with_reducible rfl
  rotate_left
  · simp only [Act.put, Mat.p1, List.set_cons_zero, List.set_cons_succ]
    rfl
  refine pure_ (i := 7) (N := some 22) (v := .int .i64 5) (a' := ?_) #[true, true, false, true, true, true, true, true, false, false, false, false, false, false, false, false, false, false, false, false] rfl rfl (any_of HT_.out (by kernel_rfl)) (fun _ _ _ h => h) (Or.inl ⟨by rfl, ?_⟩) ?_ ?_
  · intro w'
    go_simp
    first | done | rfl | (simp; done)
  rotate_left
  · simp only [Act.put, Mat.p1, List.set_cons_zero, List.set_cons_succ]
    rfl
  refine pure_ (i := 8) (N := some 23) (v := ?_) (a' := ?_) #[true, true, false, true, true, true, true, true, true, false, false, false, false, false, false, false, false, false, false, false] rfl rfl (any_of HT_.out (by kernel_rfl)) (fun _ _ _ h => h) (Or.inl ⟨by rfl, ?_⟩) ?_ ?_
  rotate_left
  · intro w'
    go_simp
    with_reducible rfl
  rotate_left
  · simp only [Act.put, Mat.p1, List.set_cons_zero, List.set_cons_succ]
    rfl
  refine take_ (i := 9) (N := some 24) (v := .int .i64 a5) (a' := ?_) #[true, true, false, true, true, true, true, true, true, true, false, false, false, false, false, false, false, false, false, false] rfl rfl (take_of HT_.out (by kernel_rfl)) (fun _ _ _ h => h) (Or.inl ⟨by rfl, ?_⟩) hHeld ?_ ?_
  · rintro w' h
    have hc : w'.cell? ⟨w.heap.size, 5, none⟩ = some (.int .i64 a5) := (blk_cell h.1 5).trans rfl
    clear h
    go_simp
    first | done | with_reducible rfl | rfl
  rotate_left
  · simp only [Act.put, Mat.p1, List.set_cons_zero, List.set_cons_succ]
    rfl
  refine pure_ (i := 10) (N := some 25) (v := ?_) (a' := ?_) #[true, true, false, true, true, true, true, true, true, true, true, false, false, false, false, false, false, false, false, false] rfl rfl (any_of HT_.out (by kernel_rfl)) (fun _ _ _ h => h) (Or.inl ⟨by rfl, ?_⟩) ?_ ?_
  rotate_left
  · intro w'
    go_simp
    with_reducible rfl
  rotate_left
  · simp only [Act.put, Mat.p1, List.set_cons_zero, List.set_cons_succ]
    rfl
  refine pure_ (i := 11) (N := some 26) (v := .int .i64 9) (a' := ?_) #[true, true, false, true, true, true, true, true, true, true, true, true, false, false, false, false, false, false, false, false] rfl rfl (any_of HT_.out (by kernel_rfl)) (fun _ _ _ h => h) (Or.inl ⟨by rfl, ?_⟩) ?_ ?_
  · intro w'
    go_simp
    first | done | rfl | (simp; done)
  rotate_left
  · simp only [Act.put, Mat.p1, List.set_cons_zero, List.set_cons_succ]
    rfl
  refine pure_ (i := 12) (N := some 27) (v := ?_) (a' := ?_) #[true, true, false, true, true, true, true, true, true, true, true, true, true, false, false, false, false, false, false, false] rfl rfl (any_of HT_.out (by kernel_rfl)) (fun _ _ _ h => h) (Or.inl ⟨by rfl, ?_⟩) ?_ ?_
  rotate_left
  · intro w'
    go_simp
    with_reducible rfl
  rotate_left
  · simp only [Act.put, Mat.p1, List.set_cons_zero, List.set_cons_succ]
    rfl
  refine take_ (i := 13) (N := some 28) (v := .int .i64 a9) (a' := ?_) #[true, true, false, true, true, true, true, true, true, true, true, true, true, true, false, false, false, false, false, false] rfl rfl (take_of HT_.out (by kernel_rfl)) (fun _ _ _ h => h) (Or.inl ⟨by rfl, ?_⟩) hHeld ?_ ?_
  · rintro w' h
    have hc : w'.cell? ⟨w.heap.size, 9, none⟩ = some (.int .i64 a9) := (blk_cell h.1 9).trans rfl
    clear h
    go_simp
    first | done | with_reducible rfl | rfl
  rotate_left
  · simp only [Act.put, Mat.p1, List.set_cons_zero, List.set_cons_succ]
    rfl
  refine pure_ (i := 14) (N := some 29) (v := ?_) (a' := ?_) #[true, true, false, true, true, true, true, true, true, true, true, true, true, true, true, false, false, false, false, false] rfl rfl (any_of HT_.out (by kernel_rfl)) (fun _ _ _ h => h) (Or.inl ⟨by rfl, ?_⟩) ?_ ?_
  rotate_left
  · intro w'
    go_simp
    with_reducible rfl
  rotate_left
  · simp only [Act.put, Mat.p1, List.set_cons_zero, List.set_cons_succ]
    rfl
  refine pure_ (i := 15) (N := some 30) (v := .int .i64 13) (a' := ?_) #[true, true, false, true, true, true, true, true, true, true, true, true, true, true, true, true, false, false, false, false] rfl rfl (any_of HT_.out (by kernel_rfl)) (fun _ _ _ h => h) (Or.inl ⟨by rfl, ?_⟩) ?_ ?_
  · intro w'
    go_simp
    first | done | rfl | (simp; done)
  rotate_left
  · simp only [Act.put, Mat.p1, List.set_cons_zero, List.set_cons_succ]
    rfl
  refine pure_ (i := 16) (N := some 31) (v := ?_) (a' := ?_) #[true, true, false, true, true, true, true, true, true, true, true, true, true, true, true, true, true, false, false, false] rfl rfl (any_of HT_.out (by kernel_rfl)) (fun _ _ _ h => h) (Or.inl ⟨by rfl, ?_⟩) ?_ ?_
  rotate_left
  · intro w'
    go_simp
    with_reducible rfl
  rotate_left
  · simp only [Act.put, Mat.p1, List.set_cons_zero, List.set_cons_succ]
    rfl
  refine take_ (i := 17) (N := some 32) (v := .int .i64 ad) (a' := ?_) #[true, true, false, true, true, true, true, true, true, true, true, true, true, true, true, true, true, true, false, false] rfl rfl (take_of HT_.out (by kernel_rfl)) (fun _ _ _ h => h) (Or.inl ⟨by rfl, ?_⟩) hHeld ?_ ?_
  · rintro w' h
    have hc : w'.cell? ⟨w.heap.size, 13, none⟩ = some (.int .i64 ad) := (blk_cell h.1 13).trans rfl
    clear h
    go_simp
    first | done | with_reducible rfl | rfl
  rotate_left
  · simp only [Act.put, Mat.p1, List.set_cons_zero, List.set_cons_succ]
    rfl
  refine pure_ (i := 18) (N := some 33) (v := ?_) (a' := ?_) #[true, true, false, true, true, true, true, true, true, true, true, true, true, true, true, true, true, true, true, false] rfl rfl (any_of HT_.out (by kernel_rfl)) (fun _ _ _ h => h) (Or.inl ⟨by rfl, ?_⟩) ?_ ?_
  rotate_left
  · intro w'
    go_simp
    with_reducible rfl
  rotate_left
  · simp only [Act.put, Mat.p1, List.set_cons_zero, List.set_cons_succ]
    rfl
  refine one_ (i := 2) (N := some 17) #[true, true, true, true, true, true, true, true, true, true, true, true, true, true, true, true, true, true, true, false] rfl rfl (one_of HT_.out (by kernel_rfl)) (by decide) (fun K hK => ?_)
  refine goes_ Try.func21 (by kernel_rfl) rfl #[.agg #[.int .i64 a0, .int .i64 a4, .int .i64 a8, .int .i64 ac, .int .i64 a1, .int .i64 a5, .int .i64 a9, .int .i64 ad, .int .i64 a2, .int .i64 a6, .int .i64 aa, .int .i64 ae, .int .i64 a3, .int .i64 a7, .int .i64 ab, .int .i64 af], .int .i64 1] (by rfl) rfl rfl (by first | (simp only [List.map_toArray, List.map_cons, List.map_nil]; rfl) | (simp only [List.map_toArray, List.map_nil])) ?_
  with_reducible refine (matrix_Row.calls a0 a4 a8 ac a1 a5 a9 ad a2 a6 aa ae a3 a7 ab af 1 a1 a5 a9 ad _ rfl).mono ?_
  rintro e V1 ⟨rfl, hb⟩
  refine ⟨_, rfl, ?_⟩
  replace hA := Mat.bb hb hA
  replace hX := Mat.bb hb hX
  replace hV := Mat.bb hb hV
  replace hT := Mat.bb hb hT
  replace hB := below_step hB hb
  clear hb
  refine hK.out _ _ ⟨hA, hX, hV, hT⟩ (fun hHeld => ?_)
  clear hK K
  refine norm_ (a' := ?_) ?_ ?_
  rotate_left
  · show Act.put _ (some 17) _ = _
    simp only [Act.put, Mat.p1, List.set_cons_zero, List.set_cons_succ]
    rfl
  refine pure_ (i := 19) (N := some 34) (v := .bool false) (a' := ?_) #[true, true, true, true, true, true, true, true, true, true, true, true, true, true, true, true, true, true, true, true] rfl rfl (any_of HT_.out (by kernel_rfl)) (fun _ _ _ h => h) (Or.inl ⟨by rfl, ?_⟩) ?_ ?_
  · intro w'
    go_simp
    first | done | rfl | (simp; done)
  rotate_left
  · simp only [Act.put, Mat.p1, List.set_cons_zero, List.set_cons_succ]
    rfl
  refine done_ (done_of HT_.out (by kernel_rfl)) ?_
  clear HT_
  go_wp2
  refine Mat.gen_ (Pr := fun W => W.heap[w.heap.size]? = some (.cells #[.int .i64 a0, .int .i64 a1, .int .i64 a2, .int .i64 a3, .int .i64 a4, .int .i64 a5, .int .i64 a6, .int .i64 a7, .int .i64 a8, .int .i64 a9, .int .i64 aa, .int .i64 ab, .int .i64 ac, .int .i64 ad, .int .i64 ae, .int .i64 af] 23 (0, 0)) ∧ W.heap[g1]? = some (.cells #[.int .i64 b0, .int .i64 b1, .int .i64 b2, .int .i64 b3, .int .i64 b4, .int .i64 b5, .int .i64 b6, .int .i64 b7, .int .i64 b8, .int .i64 b9, .int .i64 ba, .int .i64 bb, .int .i64 bc, .int .i64 bd, .int .i64 be, .int .i64 bf] 23 (0, 0)) ∧ W.heap[g2]? = some (.cells #[.int .i64 x, .int .i64 y, .int .i64 z, .int .i64 v] 29 (0, 0)) ∧ W.heap[g3]? = some (.cells #[.int .i64 a0, .int .i64 a4, .int .i64 a8, .int .i64 ac, .int .i64 a1, .int .i64 a5, .int .i64 a9, .int .i64 ad, .int .i64 a2, .int .i64 a6, .int .i64 aa, .int .i64 ae, .int .i64 a3, .int .i64 a7, .int .i64 ab, .int .i64 af] 23 (0, 0)) ∧ Below w.heap.size w W) (G := fun W => Code.rounds Try.prog _ _ _ _ W) ⟨hA, hX, hV, hT, hB⟩ ?_
  clear hA hX hV hT hB hHeld
  rintro U2 ⟨hA, hX, hV, hT, hB⟩
  as_aux_lemma =>
  rw [rounds_succ]
  go_upto_region 5 with (fail)
  replace hA := blk_drew hA
  replace hX := blk_drew hX
  replace hV := blk_drew hV
  replace hT := blk_drew hT
  replace hB := below_drew1 hB
  refine start_ (n := 20) (S := fun w' => w'.heap[w.heap.size]? = some (.cells #[.int .i64 a0, .int .i64 a1, .int .i64 a2, .int .i64 a3, .int .i64 a4, .int .i64 a5, .int .i64 a6, .int .i64 a7, .int .i64 a8, .int .i64 a9, .int .i64 aa, .int .i64 ab, .int .i64 ac, .int .i64 ad, .int .i64 ae, .int .i64 af] 23 (0, 0)) ∧ w'.heap[g1]? = some (.cells #[.int .i64 b0, .int .i64 b1, .int .i64 b2, .int .i64 b3, .int .i64 b4, .int .i64 b5, .int .i64 b6, .int .i64 b7, .int .i64 b8, .int .i64 b9, .int .i64 ba, .int .i64 bb, .int .i64 bc, .int .i64 bd, .int .i64 be, .int .i64 bf] 23 (0, 0)) ∧ w'.heap[g2]? = some (.cells #[.int .i64 x, .int .i64 y, .int .i64 z, .int .i64 v] 29 (0, 0)) ∧ w'.heap[g3]? = some (.cells #[.int .i64 a0, .int .i64 a4, .int .i64 a8, .int .i64 ac, .int .i64 a1, .int .i64 a5, .int .i64 a9, .int .i64 ad, .int .i64 a2, .int .i64 a6, .int .i64 aa, .int .i64 ae, .int .i64 a3, .int .i64 a7, .int .i64 ab, .int .i64 af] 23 (0, 0))) (ds := []) #[false, false, false, false, false, false, false, false, false, false, false, false, false, false, false, false, false, false, false, false] (by kernel_rfl) rfl rfl ⟨hA, hX, hV, hT⟩ (fun hHeld => ?_); refine with_tab MatrixTransposes.tab5 (fun HT_ => ?_)
  generalize U2.drew = V0 at hA hX hV hT hB hHeld ⊢
  refine take_ (i := 0) (N := some 15) (v := .agg #[.int .i64 a0, .int .i64 a4, .int .i64 a8, .int .i64 ac, .int .i64 a1, .int .i64 a5, .int .i64 a9, .int .i64 ad, .int .i64 a2, .int .i64 a6, .int .i64 aa, .int .i64 ae, .int .i64 a3, .int .i64 a7, .int .i64 ab, .int .i64 af]) (a' := ?_) #[true, false, false, false, false, false, false, false, false, false, false, false, false, false, false, false, false, false, false, false] rfl rfl (take_of HT_.out (by kernel_rfl)) (fun _ _ _ h => h) (yieldsIf_load_mid (by rfl) 23 (.tmp 7) rfl (g3) 0 (by rfl) #[.int .i64 a0, .int .i64 a4, .int .i64 a8, .int .i64 ac, .int .i64 a1, .int .i64 a5, .int .i64 a9, .int .i64 ad, .int .i64 a2, .int .i64 a6, .int .i64 aa, .int .i64 ae, .int .i64 a3, .int .i64 a7, .int .i64 ab, .int .i64 af].toList _ (fun _ h => Mat.range_blk h.2.2.2) hu23 rfl (by kernel_rfl)) hHeld ?_ ?_
  rotate_left
  · simp only [Act.put, Mat.p1, List.set_cons_zero, List.set_cons_succ]
    rfl
  refine pure_ (i := 1) (N := some 16) (v := ?_) (a' := ?_) #[true, true, false, false, false, false, false, false, false, false, false, false, false, false, false, false, false, false, false, false] rfl rfl (any_of HT_.out (by kernel_rfl)) (fun _ _ _ h => h) (Or.inl ⟨by rfl, ?_⟩) ?_ ?_
  rotate_left
  · intro w'
    go_simp
    with_reducible rfl
  rotate_left
  · simp only [Act.put, Mat.p1, List.set_cons_zero, List.set_cons_succ]
    rfl
  refine pure_ (i := 3) (N := some 18) (v := ?_) (a' := ?_) #[true, true, false, true, false, false, false, false, false, false, false, false, false, false, false, false, false, false, false, false] rfl rfl (any_of HT_.out (by kernel_rfl)) (fun _ _ _ h => h) (Or.inl ⟨by rfl, ?_⟩) ?_ ?_
  rotate_left
  · intro w'
    go_simp
    with_reducible rfl
  rotate_left
  · simp only [Act.put, Mat.p1, List.set_cons_zero, List.set_cons_succ]
    rfl
  refine pure_ (i := 4) (N := some 19) (v := ?_) (a' := ?_) #[true, true, false, true, true, false, false, false, false, false, false, false, false, false, false, false, false, false, false, false] rfl rfl (any_of HT_.out (by kernel_rfl)) (fun _ _ _ h => h) (Or.inl ⟨by rfl, ?_⟩) ?_ ?_
  rotate_left
  · intro w'
    go_simp
    with_reducible rfl
  rotate_left
  · simp only [Act.put, Mat.p1, List.set_cons_zero, List.set_cons_succ]
    rfl
  refine take_ (i := 5) (N := some 20) (v := .int .i64 a2) (a' := ?_) #[true, true, false, true, true, true, false, false, false, false, false, false, false, false, false, false, false, false, false, false] rfl rfl (take_of HT_.out (by kernel_rfl)) (fun _ _ _ h => h) (Or.inl ⟨by rfl, ?_⟩) hHeld ?_ ?_
  · rintro w' h
    have hc : w'.cell? ⟨w.heap.size, 2, none⟩ = some (.int .i64 a2) := (blk_cell h.1 2).trans rfl
    clear h
    go_simp
    first | done | with_reducible rfl | rfl
  rotate_left
  · simp only [Act.put, Mat.p1, List.set_cons_zero, List.set_cons_succ]
    rfl
  refine pure_ (i := 6) (N := some 21) (v := ?_) (a' := ?_) #[true, true, false, true, true, true, true, false, false, false, false, false, false, false, false, false, false, false, false, false] rfl rfl (any_of HT_.out (by kernel_rfl)) (fun _ _ _ h => h) (Or.inl ⟨by rfl, ?_⟩) ?_ ?_
  rotate_left
  · intro w'
    go_simp
    with_reducible rfl
  rotate_left
  · simp only [Act.put, Mat.p1, List.set_cons_zero, List.set_cons_succ]
    rfl
  refine pure_ (i := 7) (N := some 22) (v := .int .i64 6) (a' := ?_) #[true, true, false, true, true, true, true, true, false, false, false, false, false, false, false, false, false, false, false, false] rfl rfl (any_of HT_.out (by kernel_rfl)) (fun _ _ _ h => h) (Or.inl ⟨by rfl, ?_⟩) ?_ ?_
  · intro w'
    go_simp
    first | done | rfl | (simp; done)
  rotate_left
  · simp only [Act.put, Mat.p1, List.set_cons_zero, List.set_cons_succ]
    rfl
  refine pure_ (i := 8) (N := some 23) (v := ?_) (a' := ?_) #[true, true, false, true, true, true, true, true, true, false, false, false, false, false, false, false, false, false, false, false] rfl rfl (any_of HT_.out (by kernel_rfl)) (fun _ _ _ h => h) (Or.inl ⟨by rfl, ?_⟩) ?_ ?_
  rotate_left
  · intro w'
    go_simp
    with_reducible rfl
  rotate_left
  · simp only [Act.put, Mat.p1, List.set_cons_zero, List.set_cons_succ]
    rfl
  refine take_ (i := 9) (N := some 24) (v := .int .i64 a6) (a' := ?_) #[true, true, false, true, true, true, true, true, true, true, false, false, false, false, false, false, false, false, false, false] rfl rfl (take_of HT_.out (by kernel_rfl)) (fun _ _ _ h => h) (Or.inl ⟨by rfl, ?_⟩) hHeld ?_ ?_
  · rintro w' h
    have hc : w'.cell? ⟨w.heap.size, 6, none⟩ = some (.int .i64 a6) := (blk_cell h.1 6).trans rfl
    clear h
    go_simp
    first | done | with_reducible rfl | rfl
  rotate_left
  · simp only [Act.put, Mat.p1, List.set_cons_zero, List.set_cons_succ]
    rfl
  refine pure_ (i := 10) (N := some 25) (v := ?_) (a' := ?_) #[true, true, false, true, true, true, true, true, true, true, true, false, false, false, false, false, false, false, false, false] rfl rfl (any_of HT_.out (by kernel_rfl)) (fun _ _ _ h => h) (Or.inl ⟨by rfl, ?_⟩) ?_ ?_
  rotate_left
  · intro w'
    go_simp
    with_reducible rfl
  rotate_left
  · simp only [Act.put, Mat.p1, List.set_cons_zero, List.set_cons_succ]
    rfl
  refine pure_ (i := 11) (N := some 26) (v := .int .i64 10) (a' := ?_) #[true, true, false, true, true, true, true, true, true, true, true, true, false, false, false, false, false, false, false, false] rfl rfl (any_of HT_.out (by kernel_rfl)) (fun _ _ _ h => h) (Or.inl ⟨by rfl, ?_⟩) ?_ ?_
  · intro w'
    go_simp
    first | done | rfl | (simp; done)
  rotate_left
  · simp only [Act.put, Mat.p1, List.set_cons_zero, List.set_cons_succ]
    rfl
  refine pure_ (i := 12) (N := some 27) (v := ?_) (a' := ?_) #[true, true, false, true, true, true, true, true, true, true, true, true, true, false, false, false, false, false, false, false] rfl rfl (any_of HT_.out (by kernel_rfl)) (fun _ _ _ h => h) (Or.inl ⟨by rfl, ?_⟩) ?_ ?_
  rotate_left
  · intro w'
    go_simp
    with_reducible rfl
  rotate_left
  · simp only [Act.put, Mat.p1, List.set_cons_zero, List.set_cons_succ]
    rfl
  refine take_ (i := 13) (N := some 28) (v := .int .i64 aa) (a' := ?_) #[true, true, false, true, true, true, true, true, true, true, true, true, true, true, false, false, false, false, false, false] rfl rfl (take_of HT_.out (by kernel_rfl)) (fun _ _ _ h => h) (Or.inl ⟨by rfl, ?_⟩) hHeld ?_ ?_
  · rintro w' h
    have hc : w'.cell? ⟨w.heap.size, 10, none⟩ = some (.int .i64 aa) := (blk_cell h.1 10).trans rfl
    clear h
    go_simp
    first | done | with_reducible rfl | rfl
  rotate_left
  · simp only [Act.put, Mat.p1, List.set_cons_zero, List.set_cons_succ]
    rfl
  refine pure_ (i := 14) (N := some 29) (v := ?_) (a' := ?_) #[true, true, false, true, true, true, true, true, true, true, true, true, true, true, true, false, false, false, false, false] rfl rfl (any_of HT_.out (by kernel_rfl)) (fun _ _ _ h => h) (Or.inl ⟨by rfl, ?_⟩) ?_ ?_
  rotate_left
  · intro w'
    go_simp
    with_reducible rfl
  rotate_left
  · simp only [Act.put, Mat.p1, List.set_cons_zero, List.set_cons_succ]
    rfl
  refine pure_ (i := 15) (N := some 30) (v := .int .i64 14) (a' := ?_) #[true, true, false, true, true, true, true, true, true, true, true, true, true, true, true, true, false, false, false, false] rfl rfl (any_of HT_.out (by kernel_rfl)) (fun _ _ _ h => h) (Or.inl ⟨by rfl, ?_⟩) ?_ ?_
  · intro w'
    go_simp
    first | done | rfl | (simp; done)
  rotate_left
  · simp only [Act.put, Mat.p1, List.set_cons_zero, List.set_cons_succ]
    rfl
  refine pure_ (i := 16) (N := some 31) (v := ?_) (a' := ?_) #[true, true, false, true, true, true, true, true, true, true, true, true, true, true, true, true, true, false, false, false] rfl rfl (any_of HT_.out (by kernel_rfl)) (fun _ _ _ h => h) (Or.inl ⟨by rfl, ?_⟩) ?_ ?_
  rotate_left
  · intro w'
    go_simp
    with_reducible rfl
  rotate_left
  · simp only [Act.put, Mat.p1, List.set_cons_zero, List.set_cons_succ]
    rfl
  refine take_ (i := 17) (N := some 32) (v := .int .i64 ae) (a' := ?_) #[true, true, false, true, true, true, true, true, true, true, true, true, true, true, true, true, true, true, false, false] rfl rfl (take_of HT_.out (by kernel_rfl)) (fun _ _ _ h => h) (Or.inl ⟨by rfl, ?_⟩) hHeld ?_ ?_
  · rintro w' h
    have hc : w'.cell? ⟨w.heap.size, 14, none⟩ = some (.int .i64 ae) := (blk_cell h.1 14).trans rfl
    clear h
    go_simp
    first | done | with_reducible rfl | rfl
  rotate_left
  · simp only [Act.put, Mat.p1, List.set_cons_zero, List.set_cons_succ]
    rfl
  refine pure_ (i := 18) (N := some 33) (v := ?_) (a' := ?_) #[true, true, false, true, true, true, true, true, true, true, true, true, true, true, true, true, true, true, true, false] rfl rfl (any_of HT_.out (by kernel_rfl)) (fun _ _ _ h => h) (Or.inl ⟨by rfl, ?_⟩) ?_ ?_
  rotate_left
  · intro w'
    go_simp
    with_reducible rfl
  rotate_left
  · simp only [Act.put, Mat.p1, List.set_cons_zero, List.set_cons_succ]
    rfl
  refine one_ (i := 2) (N := some 17) #[true, true, true, true, true, true, true, true, true, true, true, true, true, true, true, true, true, true, true, false] rfl rfl (one_of HT_.out (by kernel_rfl)) (by decide) (fun K hK => ?_)
  refine goes_ Try.func21 (by kernel_rfl) rfl #[.agg #[.int .i64 a0, .int .i64 a4, .int .i64 a8, .int .i64 ac, .int .i64 a1, .int .i64 a5, .int .i64 a9, .int .i64 ad, .int .i64 a2, .int .i64 a6, .int .i64 aa, .int .i64 ae, .int .i64 a3, .int .i64 a7, .int .i64 ab, .int .i64 af], .int .i64 2] (by rfl) rfl rfl (by first | (simp only [List.map_toArray, List.map_cons, List.map_nil]; rfl) | (simp only [List.map_toArray, List.map_nil])) ?_
  with_reducible refine (matrix_Row.calls a0 a4 a8 ac a1 a5 a9 ad a2 a6 aa ae a3 a7 ab af 2 a2 a6 aa ae _ rfl).mono ?_
  rintro e V1 ⟨rfl, hb⟩
  refine ⟨_, rfl, ?_⟩
  replace hA := Mat.bb hb hA
  replace hX := Mat.bb hb hX
  replace hV := Mat.bb hb hV
  replace hT := Mat.bb hb hT
  replace hB := below_step hB hb
  clear hb
  refine hK.out _ _ ⟨hA, hX, hV, hT⟩ (fun hHeld => ?_)
  clear hK K
  refine norm_ (a' := ?_) ?_ ?_
  rotate_left
  · show Act.put _ (some 17) _ = _
    simp only [Act.put, Mat.p1, List.set_cons_zero, List.set_cons_succ]
    rfl
  refine pure_ (i := 19) (N := some 34) (v := .bool false) (a' := ?_) #[true, true, true, true, true, true, true, true, true, true, true, true, true, true, true, true, true, true, true, true] rfl rfl (any_of HT_.out (by kernel_rfl)) (fun _ _ _ h => h) (Or.inl ⟨by rfl, ?_⟩) ?_ ?_
  · intro w'
    go_simp
    first | done | rfl | (simp; done)
  rotate_left
  · simp only [Act.put, Mat.p1, List.set_cons_zero, List.set_cons_succ]
    rfl
  refine done_ (done_of HT_.out (by kernel_rfl)) ?_
  clear HT_
  go_wp2
  refine Mat.gen_ (Pr := fun W => W.heap[w.heap.size]? = some (.cells #[.int .i64 a0, .int .i64 a1, .int .i64 a2, .int .i64 a3, .int .i64 a4, .int .i64 a5, .int .i64 a6, .int .i64 a7, .int .i64 a8, .int .i64 a9, .int .i64 aa, .int .i64 ab, .int .i64 ac, .int .i64 ad, .int .i64 ae, .int .i64 af] 23 (0, 0)) ∧ W.heap[g1]? = some (.cells #[.int .i64 b0, .int .i64 b1, .int .i64 b2, .int .i64 b3, .int .i64 b4, .int .i64 b5, .int .i64 b6, .int .i64 b7, .int .i64 b8, .int .i64 b9, .int .i64 ba, .int .i64 bb, .int .i64 bc, .int .i64 bd, .int .i64 be, .int .i64 bf] 23 (0, 0)) ∧ W.heap[g2]? = some (.cells #[.int .i64 x, .int .i64 y, .int .i64 z, .int .i64 v] 29 (0, 0)) ∧ W.heap[g3]? = some (.cells #[.int .i64 a0, .int .i64 a4, .int .i64 a8, .int .i64 ac, .int .i64 a1, .int .i64 a5, .int .i64 a9, .int .i64 ad, .int .i64 a2, .int .i64 a6, .int .i64 aa, .int .i64 ae, .int .i64 a3, .int .i64 a7, .int .i64 ab, .int .i64 af] 23 (0, 0)) ∧ Below w.heap.size w W) (G := fun W => Code.rounds Try.prog _ _ _ _ W) ⟨hA, hX, hV, hT, hB⟩ ?_
  clear hA hX hV hT hB hHeld
  rintro U3 ⟨hA, hX, hV, hT, hB⟩
  as_aux_lemma =>
  rw [rounds_succ]
  go_upto_region 5 with (fail)
  replace hA := blk_drew hA
  replace hX := blk_drew hX
  replace hV := blk_drew hV
  replace hT := blk_drew hT
  replace hB := below_drew1 hB
  refine start_ (n := 20) (S := fun w' => w'.heap[w.heap.size]? = some (.cells #[.int .i64 a0, .int .i64 a1, .int .i64 a2, .int .i64 a3, .int .i64 a4, .int .i64 a5, .int .i64 a6, .int .i64 a7, .int .i64 a8, .int .i64 a9, .int .i64 aa, .int .i64 ab, .int .i64 ac, .int .i64 ad, .int .i64 ae, .int .i64 af] 23 (0, 0)) ∧ w'.heap[g1]? = some (.cells #[.int .i64 b0, .int .i64 b1, .int .i64 b2, .int .i64 b3, .int .i64 b4, .int .i64 b5, .int .i64 b6, .int .i64 b7, .int .i64 b8, .int .i64 b9, .int .i64 ba, .int .i64 bb, .int .i64 bc, .int .i64 bd, .int .i64 be, .int .i64 bf] 23 (0, 0)) ∧ w'.heap[g2]? = some (.cells #[.int .i64 x, .int .i64 y, .int .i64 z, .int .i64 v] 29 (0, 0)) ∧ w'.heap[g3]? = some (.cells #[.int .i64 a0, .int .i64 a4, .int .i64 a8, .int .i64 ac, .int .i64 a1, .int .i64 a5, .int .i64 a9, .int .i64 ad, .int .i64 a2, .int .i64 a6, .int .i64 aa, .int .i64 ae, .int .i64 a3, .int .i64 a7, .int .i64 ab, .int .i64 af] 23 (0, 0))) (ds := []) #[false, false, false, false, false, false, false, false, false, false, false, false, false, false, false, false, false, false, false, false] (by kernel_rfl) rfl rfl ⟨hA, hX, hV, hT⟩ (fun hHeld => ?_); refine with_tab MatrixTransposes.tab5 (fun HT_ => ?_)
  generalize U3.drew = V0 at hA hX hV hT hB hHeld ⊢
  refine take_ (i := 0) (N := some 15) (v := .agg #[.int .i64 a0, .int .i64 a4, .int .i64 a8, .int .i64 ac, .int .i64 a1, .int .i64 a5, .int .i64 a9, .int .i64 ad, .int .i64 a2, .int .i64 a6, .int .i64 aa, .int .i64 ae, .int .i64 a3, .int .i64 a7, .int .i64 ab, .int .i64 af]) (a' := ?_) #[true, false, false, false, false, false, false, false, false, false, false, false, false, false, false, false, false, false, false, false] rfl rfl (take_of HT_.out (by kernel_rfl)) (fun _ _ _ h => h) (yieldsIf_load_mid (by rfl) 23 (.tmp 7) rfl (g3) 0 (by rfl) #[.int .i64 a0, .int .i64 a4, .int .i64 a8, .int .i64 ac, .int .i64 a1, .int .i64 a5, .int .i64 a9, .int .i64 ad, .int .i64 a2, .int .i64 a6, .int .i64 aa, .int .i64 ae, .int .i64 a3, .int .i64 a7, .int .i64 ab, .int .i64 af].toList _ (fun _ h => Mat.range_blk h.2.2.2) hu23 rfl (by kernel_rfl)) hHeld ?_ ?_
  rotate_left
  · simp only [Act.put, Mat.p1, List.set_cons_zero, List.set_cons_succ]
    rfl
  refine pure_ (i := 1) (N := some 16) (v := ?_) (a' := ?_) #[true, true, false, false, false, false, false, false, false, false, false, false, false, false, false, false, false, false, false, false] rfl rfl (any_of HT_.out (by kernel_rfl)) (fun _ _ _ h => h) (Or.inl ⟨by rfl, ?_⟩) ?_ ?_
  rotate_left
  · intro w'
    go_simp
    with_reducible rfl
  rotate_left
  · simp only [Act.put, Mat.p1, List.set_cons_zero, List.set_cons_succ]
    rfl
  refine pure_ (i := 3) (N := some 18) (v := ?_) (a' := ?_) #[true, true, false, true, false, false, false, false, false, false, false, false, false, false, false, false, false, false, false, false] rfl rfl (any_of HT_.out (by kernel_rfl)) (fun _ _ _ h => h) (Or.inl ⟨by rfl, ?_⟩) ?_ ?_
  rotate_left
  · intro w'
    go_simp
    with_reducible rfl
  rotate_left
  · simp only [Act.put, Mat.p1, List.set_cons_zero, List.set_cons_succ]
    rfl
  refine pure_ (i := 4) (N := some 19) (v := ?_) (a' := ?_) #[true, true, false, true, true, false, false, false, false, false, false, false, false, false, false, false, false, false, false, false] rfl rfl (any_of HT_.out (by kernel_rfl)) (fun _ _ _ h => h) (Or.inl ⟨by rfl, ?_⟩) ?_ ?_
  rotate_left
  · intro w'
    go_simp
    with_reducible rfl
  rotate_left
  · simp only [Act.put, Mat.p1, List.set_cons_zero, List.set_cons_succ]
    rfl
  refine take_ (i := 5) (N := some 20) (v := .int .i64 a3) (a' := ?_) #[true, true, false, true, true, true, false, false, false, false, false, false, false, false, false, false, false, false, false, false] rfl rfl (take_of HT_.out (by kernel_rfl)) (fun _ _ _ h => h) (Or.inl ⟨by rfl, ?_⟩) hHeld ?_ ?_
  · rintro w' h
    have hc : w'.cell? ⟨w.heap.size, 3, none⟩ = some (.int .i64 a3) := (blk_cell h.1 3).trans rfl
    clear h
    go_simp
    first | done | with_reducible rfl | rfl
  rotate_left
  · simp only [Act.put, Mat.p1, List.set_cons_zero, List.set_cons_succ]
    rfl
  refine pure_ (i := 6) (N := some 21) (v := ?_) (a' := ?_) #[true, true, false, true, true, true, true, false, false, false, false, false, false, false, false, false, false, false, false, false] rfl rfl (any_of HT_.out (by kernel_rfl)) (fun _ _ _ h => h) (Or.inl ⟨by rfl, ?_⟩) ?_ ?_
  rotate_left
  · intro w'
    go_simp
    with_reducible rfl
  rotate_left
  · simp only [Act.put, Mat.p1, List.set_cons_zero, List.set_cons_succ]
    rfl
  refine pure_ (i := 7) (N := some 22) (v := .int .i64 7) (a' := ?_) #[true, true, false, true, true, true, true, true, false, false, false, false, false, false, false, false, false, false, false, false] rfl rfl (any_of HT_.out (by kernel_rfl)) (fun _ _ _ h => h) (Or.inl ⟨by rfl, ?_⟩) ?_ ?_
  · intro w'
    go_simp
    first | done | rfl | (simp; done)
  rotate_left
  · simp only [Act.put, Mat.p1, List.set_cons_zero, List.set_cons_succ]
    rfl
  refine pure_ (i := 8) (N := some 23) (v := ?_) (a' := ?_) #[true, true, false, true, true, true, true, true, true, false, false, false, false, false, false, false, false, false, false, false] rfl rfl (any_of HT_.out (by kernel_rfl)) (fun _ _ _ h => h) (Or.inl ⟨by rfl, ?_⟩) ?_ ?_
  rotate_left
  · intro w'
    go_simp
    with_reducible rfl
  rotate_left
  · simp only [Act.put, Mat.p1, List.set_cons_zero, List.set_cons_succ]
    rfl
  refine take_ (i := 9) (N := some 24) (v := .int .i64 a7) (a' := ?_) #[true, true, false, true, true, true, true, true, true, true, false, false, false, false, false, false, false, false, false, false] rfl rfl (take_of HT_.out (by kernel_rfl)) (fun _ _ _ h => h) (Or.inl ⟨by rfl, ?_⟩) hHeld ?_ ?_
  · rintro w' h
    have hc : w'.cell? ⟨w.heap.size, 7, none⟩ = some (.int .i64 a7) := (blk_cell h.1 7).trans rfl
    clear h
    go_simp
    first | done | with_reducible rfl | rfl
  rotate_left
  · simp only [Act.put, Mat.p1, List.set_cons_zero, List.set_cons_succ]
    rfl
  refine pure_ (i := 10) (N := some 25) (v := ?_) (a' := ?_) #[true, true, false, true, true, true, true, true, true, true, true, false, false, false, false, false, false, false, false, false] rfl rfl (any_of HT_.out (by kernel_rfl)) (fun _ _ _ h => h) (Or.inl ⟨by rfl, ?_⟩) ?_ ?_
  rotate_left
  · intro w'
    go_simp
    with_reducible rfl
  rotate_left
  · simp only [Act.put, Mat.p1, List.set_cons_zero, List.set_cons_succ]
    rfl
  refine pure_ (i := 11) (N := some 26) (v := .int .i64 11) (a' := ?_) #[true, true, false, true, true, true, true, true, true, true, true, true, false, false, false, false, false, false, false, false] rfl rfl (any_of HT_.out (by kernel_rfl)) (fun _ _ _ h => h) (Or.inl ⟨by rfl, ?_⟩) ?_ ?_
  · intro w'
    go_simp
    first | done | rfl | (simp; done)
  rotate_left
  · simp only [Act.put, Mat.p1, List.set_cons_zero, List.set_cons_succ]
    rfl
  refine pure_ (i := 12) (N := some 27) (v := ?_) (a' := ?_) #[true, true, false, true, true, true, true, true, true, true, true, true, true, false, false, false, false, false, false, false] rfl rfl (any_of HT_.out (by kernel_rfl)) (fun _ _ _ h => h) (Or.inl ⟨by rfl, ?_⟩) ?_ ?_
  rotate_left
  · intro w'
    go_simp
    with_reducible rfl
  rotate_left
  · simp only [Act.put, Mat.p1, List.set_cons_zero, List.set_cons_succ]
    rfl
  refine take_ (i := 13) (N := some 28) (v := .int .i64 ab) (a' := ?_) #[true, true, false, true, true, true, true, true, true, true, true, true, true, true, false, false, false, false, false, false] rfl rfl (take_of HT_.out (by kernel_rfl)) (fun _ _ _ h => h) (Or.inl ⟨by rfl, ?_⟩) hHeld ?_ ?_
  · rintro w' h
    have hc : w'.cell? ⟨w.heap.size, 11, none⟩ = some (.int .i64 ab) := (blk_cell h.1 11).trans rfl
    clear h
    go_simp
    first | done | with_reducible rfl | rfl
  rotate_left
  · simp only [Act.put, Mat.p1, List.set_cons_zero, List.set_cons_succ]
    rfl
  refine pure_ (i := 14) (N := some 29) (v := ?_) (a' := ?_) #[true, true, false, true, true, true, true, true, true, true, true, true, true, true, true, false, false, false, false, false] rfl rfl (any_of HT_.out (by kernel_rfl)) (fun _ _ _ h => h) (Or.inl ⟨by rfl, ?_⟩) ?_ ?_
  rotate_left
  · intro w'
    go_simp
    with_reducible rfl
  rotate_left
  · simp only [Act.put, Mat.p1, List.set_cons_zero, List.set_cons_succ]
    rfl
  refine pure_ (i := 15) (N := some 30) (v := .int .i64 15) (a' := ?_) #[true, true, false, true, true, true, true, true, true, true, true, true, true, true, true, true, false, false, false, false] rfl rfl (any_of HT_.out (by kernel_rfl)) (fun _ _ _ h => h) (Or.inl ⟨by rfl, ?_⟩) ?_ ?_
  · intro w'
    go_simp
    first | done | rfl | (simp; done)
  rotate_left
  · simp only [Act.put, Mat.p1, List.set_cons_zero, List.set_cons_succ]
    rfl
  refine pure_ (i := 16) (N := some 31) (v := ?_) (a' := ?_) #[true, true, false, true, true, true, true, true, true, true, true, true, true, true, true, true, true, false, false, false] rfl rfl (any_of HT_.out (by kernel_rfl)) (fun _ _ _ h => h) (Or.inl ⟨by rfl, ?_⟩) ?_ ?_
  rotate_left
  · intro w'
    go_simp
    with_reducible rfl
  rotate_left
  · simp only [Act.put, Mat.p1, List.set_cons_zero, List.set_cons_succ]
    rfl
  refine take_ (i := 17) (N := some 32) (v := .int .i64 af) (a' := ?_) #[true, true, false, true, true, true, true, true, true, true, true, true, true, true, true, true, true, true, false, false] rfl rfl (take_of HT_.out (by kernel_rfl)) (fun _ _ _ h => h) (Or.inl ⟨by rfl, ?_⟩) hHeld ?_ ?_
  · rintro w' h
    have hc : w'.cell? ⟨w.heap.size, 15, none⟩ = some (.int .i64 af) := (blk_cell h.1 15).trans rfl
    clear h
    go_simp
    first | done | with_reducible rfl | rfl
  rotate_left
  · simp only [Act.put, Mat.p1, List.set_cons_zero, List.set_cons_succ]
    rfl
  refine pure_ (i := 18) (N := some 33) (v := ?_) (a' := ?_) #[true, true, false, true, true, true, true, true, true, true, true, true, true, true, true, true, true, true, true, false] rfl rfl (any_of HT_.out (by kernel_rfl)) (fun _ _ _ h => h) (Or.inl ⟨by rfl, ?_⟩) ?_ ?_
  rotate_left
  · intro w'
    go_simp
    with_reducible rfl
  rotate_left
  · simp only [Act.put, Mat.p1, List.set_cons_zero, List.set_cons_succ]
    rfl
  refine one_ (i := 2) (N := some 17) #[true, true, true, true, true, true, true, true, true, true, true, true, true, true, true, true, true, true, true, false] rfl rfl (one_of HT_.out (by kernel_rfl)) (by decide) (fun K hK => ?_)
  refine goes_ Try.func21 (by kernel_rfl) rfl #[.agg #[.int .i64 a0, .int .i64 a4, .int .i64 a8, .int .i64 ac, .int .i64 a1, .int .i64 a5, .int .i64 a9, .int .i64 ad, .int .i64 a2, .int .i64 a6, .int .i64 aa, .int .i64 ae, .int .i64 a3, .int .i64 a7, .int .i64 ab, .int .i64 af], .int .i64 3] (by rfl) rfl rfl (by first | (simp only [List.map_toArray, List.map_cons, List.map_nil]; rfl) | (simp only [List.map_toArray, List.map_nil])) ?_
  with_reducible refine (matrix_Row.calls a0 a4 a8 ac a1 a5 a9 ad a2 a6 aa ae a3 a7 ab af 3 a3 a7 ab af _ rfl).mono ?_
  rintro e V1 ⟨rfl, hb⟩
  refine ⟨_, rfl, ?_⟩
  replace hA := Mat.bb hb hA
  replace hX := Mat.bb hb hX
  replace hV := Mat.bb hb hV
  replace hT := Mat.bb hb hT
  replace hB := below_step hB hb
  clear hb
  refine hK.out _ _ ⟨hA, hX, hV, hT⟩ (fun hHeld => ?_)
  clear hK K
  refine norm_ (a' := ?_) ?_ ?_
  rotate_left
  · show Act.put _ (some 17) _ = _
    simp only [Act.put, Mat.p1, List.set_cons_zero, List.set_cons_succ]
    rfl
  refine pure_ (i := 19) (N := some 34) (v := .bool false) (a' := ?_) #[true, true, true, true, true, true, true, true, true, true, true, true, true, true, true, true, true, true, true, true] rfl rfl (any_of HT_.out (by kernel_rfl)) (fun _ _ _ h => h) (Or.inl ⟨by rfl, ?_⟩) ?_ ?_
  · intro w'
    go_simp
    first | done | rfl | (simp; done)
  rotate_left
  · simp only [Act.put, Mat.p1, List.set_cons_zero, List.set_cons_succ]
    rfl
  refine done_ (done_of HT_.out (by kernel_rfl)) ?_
  clear HT_
  go_wp2
  refine Mat.gen_ (Pr := fun W => W.heap[w.heap.size]? = some (.cells #[.int .i64 a0, .int .i64 a1, .int .i64 a2, .int .i64 a3, .int .i64 a4, .int .i64 a5, .int .i64 a6, .int .i64 a7, .int .i64 a8, .int .i64 a9, .int .i64 aa, .int .i64 ab, .int .i64 ac, .int .i64 ad, .int .i64 ae, .int .i64 af] 23 (0, 0)) ∧ W.heap[g1]? = some (.cells #[.int .i64 b0, .int .i64 b1, .int .i64 b2, .int .i64 b3, .int .i64 b4, .int .i64 b5, .int .i64 b6, .int .i64 b7, .int .i64 b8, .int .i64 b9, .int .i64 ba, .int .i64 bb, .int .i64 bc, .int .i64 bd, .int .i64 be, .int .i64 bf] 23 (0, 0)) ∧ W.heap[g2]? = some (.cells #[.int .i64 x, .int .i64 y, .int .i64 z, .int .i64 v] 29 (0, 0)) ∧ W.heap[g3]? = some (.cells #[.int .i64 a0, .int .i64 a4, .int .i64 a8, .int .i64 ac, .int .i64 a1, .int .i64 a5, .int .i64 a9, .int .i64 ad, .int .i64 a2, .int .i64 a6, .int .i64 aa, .int .i64 ae, .int .i64 a3, .int .i64 a7, .int .i64 ab, .int .i64 af] 23 (0, 0)) ∧ Below w.heap.size w W) (G := fun W => Code.rounds Try.prog _ _ _ _ W) ⟨hA, hX, hV, hT, hB⟩ ?_
  clear hA hX hV hT hB hHeld
  rintro U4 ⟨hA, hX, hV, hT, hB⟩
  as_aux_lemma =>
  rw [rounds_succ]
  go_upto_region 7 with (fail)
  replace hA := blk_drew hA
  replace hX := blk_drew hX
  replace hV := blk_drew hV
  replace hT := blk_drew hT
  replace hB := below_drew1 hB
  refine start_ (n := 29) (S := fun w' => w'.heap[w.heap.size]? = some (.cells #[.int .i64 a0, .int .i64 a1, .int .i64 a2, .int .i64 a3, .int .i64 a4, .int .i64 a5, .int .i64 a6, .int .i64 a7, .int .i64 a8, .int .i64 a9, .int .i64 aa, .int .i64 ab, .int .i64 ac, .int .i64 ad, .int .i64 ae, .int .i64 af] 23 (0, 0)) ∧ w'.heap[g1]? = some (.cells #[.int .i64 b0, .int .i64 b1, .int .i64 b2, .int .i64 b3, .int .i64 b4, .int .i64 b5, .int .i64 b6, .int .i64 b7, .int .i64 b8, .int .i64 b9, .int .i64 ba, .int .i64 bb, .int .i64 bc, .int .i64 bd, .int .i64 be, .int .i64 bf] 23 (0, 0)) ∧ w'.heap[g2]? = some (.cells #[.int .i64 x, .int .i64 y, .int .i64 z, .int .i64 v] 29 (0, 0)) ∧ w'.heap[g3]? = some (.cells #[.int .i64 a0, .int .i64 a4, .int .i64 a8, .int .i64 ac, .int .i64 a1, .int .i64 a5, .int .i64 a9, .int .i64 ad, .int .i64 a2, .int .i64 a6, .int .i64 aa, .int .i64 ae, .int .i64 a3, .int .i64 a7, .int .i64 ab, .int .i64 af] 23 (0, 0))) (ds := []) #[false, false, false, false, false, false, false, false, false, false, false, false, false, false, false, false, false, false, false, false, false, false, false, false, false, false, false, false, false] (by kernel_rfl) rfl rfl ⟨hA, hX, hV, hT⟩ (fun hHeld => ?_); refine with_tab MatrixTransposes.tab7 (fun HT_ => ?_)
  generalize U4.drew = V0 at hA hX hV hT hB hHeld ⊢
  refine take_ (i := 0) (N := some 35) (v := .agg #[.int .i64 a0, .int .i64 a4, .int .i64 a8, .int .i64 ac, .int .i64 a1, .int .i64 a5, .int .i64 a9, .int .i64 ad, .int .i64 a2, .int .i64 a6, .int .i64 aa, .int .i64 ae, .int .i64 a3, .int .i64 a7, .int .i64 ab, .int .i64 af]) (a' := ?_) #[true, false, false, false, false, false, false, false, false, false, false, false, false, false, false, false, false, false, false, false, false, false, false, false, false, false, false, false, false] rfl rfl (take_of HT_.out (by kernel_rfl)) (fun _ _ _ h => h) (yieldsIf_load_mid (by rfl) 23 (.tmp 7) rfl (g3) 0 (by rfl) #[.int .i64 a0, .int .i64 a4, .int .i64 a8, .int .i64 ac, .int .i64 a1, .int .i64 a5, .int .i64 a9, .int .i64 ad, .int .i64 a2, .int .i64 a6, .int .i64 aa, .int .i64 ae, .int .i64 a3, .int .i64 a7, .int .i64 ab, .int .i64 af].toList _ (fun _ h => Mat.range_blk h.2.2.2) hu23 rfl (by kernel_rfl)) hHeld ?_ ?_
  rotate_left
  · simp only [Act.put, Mat.p1, List.set_cons_zero, List.set_cons_succ]
    rfl
  refine take_ (i := 2) (N := some 37) (v := .agg #[.int .i64 a0, .int .i64 a1, .int .i64 a2, .int .i64 a3, .int .i64 a4, .int .i64 a5, .int .i64 a6, .int .i64 a7, .int .i64 a8, .int .i64 a9, .int .i64 aa, .int .i64 ab, .int .i64 ac, .int .i64 ad, .int .i64 ae, .int .i64 af]) (a' := ?_) #[true, false, true, false, false, false, false, false, false, false, false, false, false, false, false, false, false, false, false, false, false, false, false, false, false, false, false, false, false] rfl rfl (take_of HT_.out (by kernel_rfl)) (fun _ _ _ h => h) (yieldsIf_load_mid (by rfl) 23 (.tmp 3) rfl (w.heap.size) 0 (by rfl) #[.int .i64 a0, .int .i64 a1, .int .i64 a2, .int .i64 a3, .int .i64 a4, .int .i64 a5, .int .i64 a6, .int .i64 a7, .int .i64 a8, .int .i64 a9, .int .i64 aa, .int .i64 ab, .int .i64 ac, .int .i64 ad, .int .i64 ae, .int .i64 af].toList _ (fun _ h => Mat.range_blk h.1) hu23 rfl (by kernel_rfl)) hHeld ?_ ?_
  rotate_left
  · simp only [Act.put, Mat.p1, List.set_cons_zero, List.set_cons_succ]
    rfl
  refine one_ (i := 1) (N := some 36) #[true, true, true, false, false, false, false, false, false, false, false, false, false, false, false, false, false, false, false, false, false, false, false, false, false, false, false, false, false] rfl rfl (one_of HT_.out (by kernel_rfl)) (by decide) (fun K hK => ?_)
  refine goes_ Try.func26 (by kernel_rfl) rfl #[.agg #[.int .i64 a0, .int .i64 a4, .int .i64 a8, .int .i64 ac, .int .i64 a1, .int .i64 a5, .int .i64 a9, .int .i64 ad, .int .i64 a2, .int .i64 a6, .int .i64 aa, .int .i64 ae, .int .i64 a3, .int .i64 a7, .int .i64 ab, .int .i64 af]] (by rfl) rfl rfl (by first | (simp only [List.map_toArray, List.map_cons, List.map_nil]; rfl) | (simp only [List.map_toArray, List.map_nil])) ?_
  with_reducible refine (matrix_Transpose.calls a0 a4 a8 ac a1 a5 a9 ad a2 a6 aa ae a3 a7 ab af a0 a1 a2 a3 a4 a5 a6 a7 a8 a9 aa ab ac ad ae af _ rfl).mono ?_
  rintro e V1 ⟨rfl, hb⟩
  refine ⟨_, rfl, ?_⟩
  replace hA := Mat.bb hb hA
  replace hX := Mat.bb hb hX
  replace hV := Mat.bb hb hV
  replace hT := Mat.bb hb hT
  replace hB := below_step hB hb
  clear hb
  refine hK.out _ _ ⟨hA, hX, hV, hT⟩ (fun hHeld => ?_)
  clear hK K
  refine norm_ (a' := ?_) ?_ ?_
  rotate_left
  · show Act.put _ (some 36) _ = _
    simp only [Act.put, Mat.p1, List.set_cons_zero, List.set_cons_succ]
    rfl
  refine pure_ (i := 3) (N := some 38) (v := .bool true) (a' := ?_) #[true, true, true, true, false, false, false, false, false, false, false, false, false, false, false, false, false, false, false, false, false, false, false, false, false, false, false, false, false] rfl rfl (any_of HT_.out (by kernel_rfl)) (fun _ _ _ h => h) (Or.inl ⟨by rfl, ?_⟩) ?_ ?_
  · intro w'
    go_simp
    first | done | rfl | (simp; done)
  rotate_left
  · simp only [Act.put, Mat.p1, List.set_cons_zero, List.set_cons_succ]
    rfl
  refine pure_ (i := 4) (N := some 39) (v := .bool true) (a' := ?_) #[true, true, true, true, true, false, false, false, false, false, false, false, false, false, false, false, false, false, false, false, false, false, false, false, false, false, false, false, false] rfl rfl (any_of HT_.out (by kernel_rfl)) (fun _ _ _ h => h) (Or.inl ⟨by rfl, ?_⟩) ?_ ?_
  · intro w'
    go_simp
    first | done | rfl | (simp; done)
  rotate_left
  · simp only [Act.put, Mat.p1, List.set_cons_zero, List.set_cons_succ]
    rfl
  refine take_ (i := 5) (N := some 40) (v := .agg #[.int .i64 a0, .int .i64 a1, .int .i64 a2, .int .i64 a3, .int .i64 a4, .int .i64 a5, .int .i64 a6, .int .i64 a7, .int .i64 a8, .int .i64 a9, .int .i64 aa, .int .i64 ab, .int .i64 ac, .int .i64 ad, .int .i64 ae, .int .i64 af]) (a' := ?_) #[true, true, true, true, true, true, false, false, false, false, false, false, false, false, false, false, false, false, false, false, false, false, false, false, false, false, false, false, false] rfl rfl (take_of HT_.out (by kernel_rfl)) (fun _ _ _ h => h) (yieldsIf_load_mid (by rfl) 23 (.tmp 3) rfl (w.heap.size) 0 (by rfl) #[.int .i64 a0, .int .i64 a1, .int .i64 a2, .int .i64 a3, .int .i64 a4, .int .i64 a5, .int .i64 a6, .int .i64 a7, .int .i64 a8, .int .i64 a9, .int .i64 aa, .int .i64 ab, .int .i64 ac, .int .i64 ad, .int .i64 ae, .int .i64 af].toList _ (fun _ h => Mat.range_blk h.1) hu23 rfl (by kernel_rfl)) hHeld ?_ ?_
  rotate_left
  · simp only [Act.put, Mat.p1, List.set_cons_zero, List.set_cons_succ]
    rfl
  refine take_ (i := 6) (N := some 41) (v := .agg #[.int .i64 b0, .int .i64 b1, .int .i64 b2, .int .i64 b3, .int .i64 b4, .int .i64 b5, .int .i64 b6, .int .i64 b7, .int .i64 b8, .int .i64 b9, .int .i64 ba, .int .i64 bb, .int .i64 bc, .int .i64 bd, .int .i64 be, .int .i64 bf]) (a' := ?_) #[true, true, true, true, true, true, true, false, false, false, false, false, false, false, false, false, false, false, false, false, false, false, false, false, false, false, false, false, false] rfl rfl (take_of HT_.out (by kernel_rfl)) (fun _ _ _ h => h) (yieldsIf_load_mid (by rfl) 23 (.tmp 4) rfl (g1) 0 (by rfl) #[.int .i64 b0, .int .i64 b1, .int .i64 b2, .int .i64 b3, .int .i64 b4, .int .i64 b5, .int .i64 b6, .int .i64 b7, .int .i64 b8, .int .i64 b9, .int .i64 ba, .int .i64 bb, .int .i64 bc, .int .i64 bd, .int .i64 be, .int .i64 bf].toList _ (fun _ h => Mat.range_blk h.2.1) hu23 rfl (by kernel_rfl)) hHeld ?_ ?_
  rotate_left
  · simp only [Act.put, Mat.p1, List.set_cons_zero, List.set_cons_succ]
    rfl
  refine take_ (i := 9) (N := some 44) (v := .agg #[.int .i64 b0, .int .i64 b1, .int .i64 b2, .int .i64 b3, .int .i64 b4, .int .i64 b5, .int .i64 b6, .int .i64 b7, .int .i64 b8, .int .i64 b9, .int .i64 ba, .int .i64 bb, .int .i64 bc, .int .i64 bd, .int .i64 be, .int .i64 bf]) (a' := ?_) #[true, true, true, true, true, true, true, false, false, true, false, false, false, false, false, false, false, false, false, false, false, false, false, false, false, false, false, false, false] rfl rfl (take_of HT_.out (by kernel_rfl)) (fun _ _ _ h => h) (yieldsIf_load_mid (by rfl) 23 (.tmp 4) rfl (g1) 0 (by rfl) #[.int .i64 b0, .int .i64 b1, .int .i64 b2, .int .i64 b3, .int .i64 b4, .int .i64 b5, .int .i64 b6, .int .i64 b7, .int .i64 b8, .int .i64 b9, .int .i64 ba, .int .i64 bb, .int .i64 bc, .int .i64 bd, .int .i64 be, .int .i64 bf].toList _ (fun _ h => Mat.range_blk h.2.1) hu23 rfl (by kernel_rfl)) hHeld ?_ ?_
  rotate_left
  · simp only [Act.put, Mat.p1, List.set_cons_zero, List.set_cons_succ]
    rfl
  refine take_ (i := 11) (N := some 46) (v := .agg #[.int .i64 a0, .int .i64 a4, .int .i64 a8, .int .i64 ac, .int .i64 a1, .int .i64 a5, .int .i64 a9, .int .i64 ad, .int .i64 a2, .int .i64 a6, .int .i64 aa, .int .i64 ae, .int .i64 a3, .int .i64 a7, .int .i64 ab, .int .i64 af]) (a' := ?_) #[true, true, true, true, true, true, true, false, false, true, false, true, false, false, false, false, false, false, false, false, false, false, false, false, false, false, false, false, false] rfl rfl (take_of HT_.out (by kernel_rfl)) (fun _ _ _ h => h) (yieldsIf_load_mid (by rfl) 23 (.tmp 7) rfl (g3) 0 (by rfl) #[.int .i64 a0, .int .i64 a4, .int .i64 a8, .int .i64 ac, .int .i64 a1, .int .i64 a5, .int .i64 a9, .int .i64 ad, .int .i64 a2, .int .i64 a6, .int .i64 aa, .int .i64 ae, .int .i64 a3, .int .i64 a7, .int .i64 ab, .int .i64 af].toList _ (fun _ h => Mat.range_blk h.2.2.2) hu23 rfl (by kernel_rfl)) hHeld ?_ ?_
  rotate_left
  · simp only [Act.put, Mat.p1, List.set_cons_zero, List.set_cons_succ]
    rfl
  refine one_ (i := 7) (N := some 42) #[true, true, true, true, true, true, true, true, false, true, false, true, false, false, false, false, false, false, false, false, false, false, false, false, false, false, false, false, false] rfl rfl (one_of HT_.out (by kernel_rfl)) (by decide) (fun K hK => ?_)
  refine goes_ Try.func24 (by kernel_rfl) rfl #[.agg #[.int .i64 a0, .int .i64 a1, .int .i64 a2, .int .i64 a3, .int .i64 a4, .int .i64 a5, .int .i64 a6, .int .i64 a7, .int .i64 a8, .int .i64 a9, .int .i64 aa, .int .i64 ab, .int .i64 ac, .int .i64 ad, .int .i64 ae, .int .i64 af], .agg #[.int .i64 b0, .int .i64 b1, .int .i64 b2, .int .i64 b3, .int .i64 b4, .int .i64 b5, .int .i64 b6, .int .i64 b7, .int .i64 b8, .int .i64 b9, .int .i64 ba, .int .i64 bb, .int .i64 bc, .int .i64 bd, .int .i64 be, .int .i64 bf]] (by rfl) rfl rfl (by first | (simp only [List.map_toArray, List.map_cons, List.map_nil]; rfl) | (simp only [List.map_toArray, List.map_nil])) ?_
  with_reducible refine (matrix_Mul.calls 40 a0 a1 a2 a3 a4 a5 a6 a7 a8 a9 aa ab ac ad ae af b0 b1 b2 b3 b4 b5 b6 b7 b8 b9 ba bb bc bd be bf m0 m1 m2 m3 m4 m5 m6 m7 m8 m9 ma mb mc md me mf _ h3.out).mono ?_
  rintro e V2 ⟨rfl, hb⟩
  refine ⟨_, rfl, ?_⟩
  replace hA := Mat.bb hb hA
  replace hX := Mat.bb hb hX
  replace hV := Mat.bb hb hV
  replace hT := Mat.bb hb hT
  replace hB := below_step hB hb
  clear hb
  refine hK.out _ _ ⟨hA, hX, hV, hT⟩ (fun hHeld => ?_)
  clear hK K
  refine norm_ (a' := ?_) ?_ ?_
  rotate_left
  · show Act.put _ (some 42) _ = _
    simp only [Act.put, Mat.p1, List.set_cons_zero, List.set_cons_succ]
    rfl
  refine one_ (i := 8) (N := some 43) #[true, true, true, true, true, true, true, true, true, true, false, true, false, false, false, false, false, false, false, false, false, false, false, false, false, false, false, false, false] rfl rfl (one_of HT_.out (by kernel_rfl)) (by decide) (fun K hK => ?_)
  refine goes_ Try.func26 (by kernel_rfl) rfl #[.agg #[.int .i64 m0, .int .i64 m1, .int .i64 m2, .int .i64 m3, .int .i64 m4, .int .i64 m5, .int .i64 m6, .int .i64 m7, .int .i64 m8, .int .i64 m9, .int .i64 ma, .int .i64 mb, .int .i64 mc, .int .i64 md, .int .i64 me, .int .i64 mf]] (by rfl) rfl rfl (by first | (simp only [List.map_toArray, List.map_cons, List.map_nil]; rfl) | (simp only [List.map_toArray, List.map_nil])) ?_
  with_reducible refine (matrix_Transpose.calls m0 m1 m2 m3 m4 m5 m6 m7 m8 m9 ma mb mc md me mf m0 m4 m8 mc m1 m5 m9 md m2 m6 ma me m3 m7 mb mf _ rfl).mono ?_
  rintro e V3 ⟨rfl, hb⟩
  refine ⟨_, rfl, ?_⟩
  replace hA := Mat.bb hb hA
  replace hX := Mat.bb hb hX
  replace hV := Mat.bb hb hV
  replace hT := Mat.bb hb hT
  replace hB := below_step hB hb
  clear hb
  refine hK.out _ _ ⟨hA, hX, hV, hT⟩ (fun hHeld => ?_)
  clear hK K
  refine norm_ (a' := ?_) ?_ ?_
  rotate_left
  · show Act.put _ (some 43) _ = _
    simp only [Act.put, Mat.p1, List.set_cons_zero, List.set_cons_succ]
    rfl
  refine one_ (i := 10) (N := some 45) #[true, true, true, true, true, true, true, true, true, true, true, true, false, false, false, false, false, false, false, false, false, false, false, false, false, false, false, false, false] rfl rfl (one_of HT_.out (by kernel_rfl)) (by decide) (fun K hK => ?_)
  refine goes_ Try.func26 (by kernel_rfl) rfl #[.agg #[.int .i64 b0, .int .i64 b1, .int .i64 b2, .int .i64 b3, .int .i64 b4, .int .i64 b5, .int .i64 b6, .int .i64 b7, .int .i64 b8, .int .i64 b9, .int .i64 ba, .int .i64 bb, .int .i64 bc, .int .i64 bd, .int .i64 be, .int .i64 bf]] (by rfl) rfl rfl (by first | (simp only [List.map_toArray, List.map_cons, List.map_nil]; rfl) | (simp only [List.map_toArray, List.map_nil])) ?_
  with_reducible refine (matrix_Transpose.calls b0 b1 b2 b3 b4 b5 b6 b7 b8 b9 ba bb bc bd be bf b0 b4 b8 bc b1 b5 b9 bd b2 b6 ba be b3 b7 bb bf _ rfl).mono ?_
  rintro e V4 ⟨rfl, hb⟩
  refine ⟨_, rfl, ?_⟩
  replace hA := Mat.bb hb hA
  replace hX := Mat.bb hb hX
  replace hV := Mat.bb hb hV
  replace hT := Mat.bb hb hT
  replace hB := below_step hB hb
  clear hb
  refine hK.out _ _ ⟨hA, hX, hV, hT⟩ (fun hHeld => ?_)
  clear hK K
  refine norm_ (a' := ?_) ?_ ?_
  rotate_left
  · show Act.put _ (some 45) _ = _
    simp only [Act.put, Mat.p1, List.set_cons_zero, List.set_cons_succ]
    rfl
  refine one_ (i := 12) (N := some 47) #[true, true, true, true, true, true, true, true, true, true, true, true, true, false, false, false, false, false, false, false, false, false, false, false, false, false, false, false, false] rfl rfl (one_of HT_.out (by kernel_rfl)) (by decide) (fun K hK => ?_)
  refine goes_ Try.func24 (by kernel_rfl) rfl #[.agg #[.int .i64 b0, .int .i64 b4, .int .i64 b8, .int .i64 bc, .int .i64 b1, .int .i64 b5, .int .i64 b9, .int .i64 bd, .int .i64 b2, .int .i64 b6, .int .i64 ba, .int .i64 be, .int .i64 b3, .int .i64 b7, .int .i64 bb, .int .i64 bf], .agg #[.int .i64 a0, .int .i64 a4, .int .i64 a8, .int .i64 ac, .int .i64 a1, .int .i64 a5, .int .i64 a9, .int .i64 ad, .int .i64 a2, .int .i64 a6, .int .i64 aa, .int .i64 ae, .int .i64 a3, .int .i64 a7, .int .i64 ab, .int .i64 af]] (by rfl) rfl rfl (by first | (simp only [List.map_toArray, List.map_cons, List.map_nil]; rfl) | (simp only [List.map_toArray, List.map_nil])) ?_
  with_reducible refine (matrix_Mul.calls 40 b0 b4 b8 bc b1 b5 b9 bd b2 b6 ba be b3 b7 bb bf a0 a4 a8 ac a1 a5 a9 ad a2 a6 aa ae a3 a7 ab af m0 m4 m8 mc m1 m5 m9 md m2 m6 ma me m3 m7 mb mf _ h4.out).mono ?_
  rintro e V5 ⟨rfl, hb⟩
  refine ⟨_, rfl, ?_⟩
  replace hA := Mat.bb hb hA
  replace hX := Mat.bb hb hX
  replace hV := Mat.bb hb hV
  replace hT := Mat.bb hb hT
  replace hB := below_step hB hb
  clear hb
  refine hK.out _ _ ⟨hA, hX, hV, hT⟩ (fun hHeld => ?_)
  clear hK K
  refine norm_ (a' := ?_) ?_ ?_
  rotate_left
  · show Act.put _ (some 47) _ = _
    simp only [Act.put, Mat.p1, List.set_cons_zero, List.set_cons_succ]
    rfl
  refine pure_ (i := 13) (N := some 48) (v := .bool true) (a' := ?_) #[true, true, true, true, true, true, true, true, true, true, true, true, true, true, false, false, false, false, false, false, false, false, false, false, false, false, false, false, false] rfl rfl (any_of HT_.out (by kernel_rfl)) (fun _ _ _ h => h) (Or.inl ⟨by rfl, ?_⟩) ?_ ?_
  · intro w'
    go_simp
    first | done | rfl | (simp; done)
  rotate_left
  · simp only [Act.put, Mat.p1, List.set_cons_zero, List.set_cons_succ]
    rfl
  refine pure_ (i := 14) (N := some 49) (v := .bool true) (a' := ?_) #[true, true, true, true, true, true, true, true, true, true, true, true, true, true, true, false, false, false, false, false, false, false, false, false, false, false, false, false, false] rfl rfl (any_of HT_.out (by kernel_rfl)) (fun _ _ _ h => h) (Or.inl ⟨by rfl, ?_⟩) ?_ ?_
  · intro w'
    go_simp
    first | done | rfl | (simp; done)
  rotate_left
  · simp only [Act.put, Mat.p1, List.set_cons_zero, List.set_cons_succ]
    rfl
  refine pure_ (i := 15) (N := some 50) (v := .bool true) (a' := ?_) #[true, true, true, true, true, true, true, true, true, true, true, true, true, true, true, true, false, false, false, false, false, false, false, false, false, false, false, false, false] rfl rfl (any_of HT_.out (by kernel_rfl)) (fun _ _ _ h => h) (Or.inl ⟨by rfl, ?_⟩) ?_ ?_
  · intro w'
    go_simp
    first | done | rfl | (simp; done)
  rotate_left
  · simp only [Act.put, Mat.p1, List.set_cons_zero, List.set_cons_succ]
    rfl
  refine take_ (i := 16) (N := some 51) (v := .agg #[.int .i64 a0, .int .i64 a4, .int .i64 a8, .int .i64 ac, .int .i64 a1, .int .i64 a5, .int .i64 a9, .int .i64 ad, .int .i64 a2, .int .i64 a6, .int .i64 aa, .int .i64 ae, .int .i64 a3, .int .i64 a7, .int .i64 ab, .int .i64 af]) (a' := ?_) #[true, true, true, true, true, true, true, true, true, true, true, true, true, true, true, true, true, false, false, false, false, false, false, false, false, false, false, false, false] rfl rfl (take_of HT_.out (by kernel_rfl)) (fun _ _ _ h => h) (yieldsIf_load_mid (by rfl) 23 (.tmp 7) rfl (g3) 0 (by rfl) #[.int .i64 a0, .int .i64 a4, .int .i64 a8, .int .i64 ac, .int .i64 a1, .int .i64 a5, .int .i64 a9, .int .i64 ad, .int .i64 a2, .int .i64 a6, .int .i64 aa, .int .i64 ae, .int .i64 a3, .int .i64 a7, .int .i64 ab, .int .i64 af].toList _ (fun _ h => Mat.range_blk h.2.2.2) hu23 rfl (by kernel_rfl)) hHeld ?_ ?_
  rotate_left
  · simp only [Act.put, Mat.p1, List.set_cons_zero, List.set_cons_succ]
    rfl
  refine take_ (i := 18) (N := some 53) (v := .agg #[.int .i64 x, .int .i64 y, .int .i64 z, .int .i64 v]) (a' := ?_) #[true, true, true, true, true, true, true, true, true, true, true, true, true, true, true, true, true, false, true, false, false, false, false, false, false, false, false, false, false] rfl rfl (take_of HT_.out (by kernel_rfl)) (fun _ _ _ h => h) (yieldsIf_load_mid (by rfl) 29 (.tmp 5) rfl (g2) 0 (by rfl) #[.int .i64 x, .int .i64 y, .int .i64 z, .int .i64 v].toList _ (fun _ h => Mat.range_blk h.2.2.1) hu29 rfl (by kernel_rfl)) hHeld ?_ ?_
  rotate_left
  · simp only [Act.put, Mat.p1, List.set_cons_zero, List.set_cons_succ]
    rfl
  refine take_ (i := 20) (N := some 55) (v := .agg #[.int .i64 a0, .int .i64 a1, .int .i64 a2, .int .i64 a3, .int .i64 a4, .int .i64 a5, .int .i64 a6, .int .i64 a7, .int .i64 a8, .int .i64 a9, .int .i64 aa, .int .i64 ab, .int .i64 ac, .int .i64 ad, .int .i64 ae, .int .i64 af]) (a' := ?_) #[true, true, true, true, true, true, true, true, true, true, true, true, true, true, true, true, true, false, true, false, true, false, false, false, false, false, false, false, false] rfl rfl (take_of HT_.out (by kernel_rfl)) (fun _ _ _ h => h) (yieldsIf_load_mid (by rfl) 23 (.tmp 3) rfl (w.heap.size) 0 (by rfl) #[.int .i64 a0, .int .i64 a1, .int .i64 a2, .int .i64 a3, .int .i64 a4, .int .i64 a5, .int .i64 a6, .int .i64 a7, .int .i64 a8, .int .i64 a9, .int .i64 aa, .int .i64 ab, .int .i64 ac, .int .i64 ad, .int .i64 ae, .int .i64 af].toList _ (fun _ h => Mat.range_blk h.1) hu23 rfl (by kernel_rfl)) hHeld ?_ ?_
  rotate_left
  · simp only [Act.put, Mat.p1, List.set_cons_zero, List.set_cons_succ]
    rfl
  refine take_ (i := 21) (N := some 56) (v := .agg #[.int .i64 x, .int .i64 y, .int .i64 z, .int .i64 v]) (a' := ?_) #[true, true, true, true, true, true, true, true, true, true, true, true, true, true, true, true, true, false, true, false, true, true, false, false, false, false, false, false, false] rfl rfl (take_of HT_.out (by kernel_rfl)) (fun _ _ _ h => h) (yieldsIf_load_mid (by rfl) 29 (.tmp 5) rfl (g2) 0 (by rfl) #[.int .i64 x, .int .i64 y, .int .i64 z, .int .i64 v].toList _ (fun _ h => Mat.range_blk h.2.2.1) hu29 rfl (by kernel_rfl)) hHeld ?_ ?_
  rotate_left
  · simp only [Act.put, Mat.p1, List.set_cons_zero, List.set_cons_succ]
    rfl
  refine one_ (i := 17) (N := some 52) #[true, true, true, true, true, true, true, true, true, true, true, true, true, true, true, true, true, true, true, false, true, true, false, false, false, false, false, false, false] rfl rfl (one_of HT_.out (by kernel_rfl)) (by decide) (fun K hK => ?_)
  refine goes_ Try.func26 (by kernel_rfl) rfl #[.agg #[.int .i64 a0, .int .i64 a4, .int .i64 a8, .int .i64 ac, .int .i64 a1, .int .i64 a5, .int .i64 a9, .int .i64 ad, .int .i64 a2, .int .i64 a6, .int .i64 aa, .int .i64 ae, .int .i64 a3, .int .i64 a7, .int .i64 ab, .int .i64 af]] (by rfl) rfl rfl (by first | (simp only [List.map_toArray, List.map_cons, List.map_nil]; rfl) | (simp only [List.map_toArray, List.map_nil])) ?_
  with_reducible refine (matrix_Transpose.calls a0 a4 a8 ac a1 a5 a9 ad a2 a6 aa ae a3 a7 ab af a0 a1 a2 a3 a4 a5 a6 a7 a8 a9 aa ab ac ad ae af _ rfl).mono ?_
  rintro e V6 ⟨rfl, hb⟩
  refine ⟨_, rfl, ?_⟩
  replace hA := Mat.bb hb hA
  replace hX := Mat.bb hb hX
  replace hV := Mat.bb hb hV
  replace hT := Mat.bb hb hT
  replace hB := below_step hB hb
  clear hb
  refine hK.out _ _ ⟨hA, hX, hV, hT⟩ (fun hHeld => ?_)
  clear hK K
  refine norm_ (a' := ?_) ?_ ?_
  rotate_left
  · show Act.put _ (some 52) _ = _
    simp only [Act.put, Mat.p1, List.set_cons_zero, List.set_cons_succ]
    rfl
  refine one_ (i := 19) (N := some 54) #[true, true, true, true, true, true, true, true, true, true, true, true, true, true, true, true, true, true, true, true, true, true, false, false, false, false, false, false, false] rfl rfl (one_of HT_.out (by kernel_rfl)) (by decide) (fun K hK => ?_)
  refine goes_ Try.func18 (by kernel_rfl) rfl #[.agg #[.int .i64 a0, .int .i64 a1, .int .i64 a2, .int .i64 a3, .int .i64 a4, .int .i64 a5, .int .i64 a6, .int .i64 a7, .int .i64 a8, .int .i64 a9, .int .i64 aa, .int .i64 ab, .int .i64 ac, .int .i64 ad, .int .i64 ae, .int .i64 af], .agg #[.int .i64 x, .int .i64 y, .int .i64 z, .int .i64 v]] (by rfl) rfl rfl (by first | (simp only [List.map_toArray, List.map_cons, List.map_nil]; rfl) | (simp only [List.map_toArray, List.map_nil])) ?_
  with_reducible refine (matrix_Apply.calls 40 a0 a1 a2 a3 a4 a5 a6 a7 a8 a9 aa ab ac ad ae af x y z v p0 p1 p2 p3 _ h1.out).mono ?_
  rintro e V7 ⟨rfl, hb⟩
  refine ⟨_, rfl, ?_⟩
  replace hA := Mat.bb hb hA
  replace hX := Mat.bb hb hX
  replace hV := Mat.bb hb hV
  replace hT := Mat.bb hb hT
  replace hB := below_step hB hb
  clear hb
  refine hK.out _ _ ⟨hA, hX, hV, hT⟩ (fun hHeld => ?_)
  clear hK K
  refine norm_ (a' := ?_) ?_ ?_
  rotate_left
  · show Act.put _ (some 54) _ = _
    simp only [Act.put, Mat.p1, List.set_cons_zero, List.set_cons_succ]
    rfl
  refine one_ (i := 22) (N := some 57) #[true, true, true, true, true, true, true, true, true, true, true, true, true, true, true, true, true, true, true, true, true, true, true, false, false, false, false, false, false] rfl rfl (one_of HT_.out (by kernel_rfl)) (by decide) (fun K hK => ?_)
  refine goes_ Try.func18 (by kernel_rfl) rfl #[.agg #[.int .i64 a0, .int .i64 a1, .int .i64 a2, .int .i64 a3, .int .i64 a4, .int .i64 a5, .int .i64 a6, .int .i64 a7, .int .i64 a8, .int .i64 a9, .int .i64 aa, .int .i64 ab, .int .i64 ac, .int .i64 ad, .int .i64 ae, .int .i64 af], .agg #[.int .i64 x, .int .i64 y, .int .i64 z, .int .i64 v]] (by rfl) rfl rfl (by first | (simp only [List.map_toArray, List.map_cons, List.map_nil]; rfl) | (simp only [List.map_toArray, List.map_nil])) ?_
  with_reducible refine (matrix_Apply.calls 40 a0 a1 a2 a3 a4 a5 a6 a7 a8 a9 aa ab ac ad ae af x y z v p0 p1 p2 p3 _ h1.out).mono ?_
  rintro e V8 ⟨rfl, hb⟩
  refine ⟨_, rfl, ?_⟩
  replace hA := Mat.bb hb hA
  replace hX := Mat.bb hb hX
  replace hV := Mat.bb hb hV
  replace hT := Mat.bb hb hT
  replace hB := below_step hB hb
  clear hb
  refine hK.out _ _ ⟨hA, hX, hV, hT⟩ (fun hHeld => ?_)
  clear hK K
  refine norm_ (a' := ?_) ?_ ?_
  rotate_left
  · show Act.put _ (some 57) _ = _
    simp only [Act.put, Mat.p1, List.set_cons_zero, List.set_cons_succ]
    rfl
  refine pure_ (i := 23) (N := some 58) (v := .bool true) (a' := ?_) #[true, true, true, true, true, true, true, true, true, true, true, true, true, true, true, true, true, true, true, true, true, true, true, true, false, false, false, false, false] rfl rfl (any_of HT_.out (by kernel_rfl)) (fun _ _ _ h => h) (Or.inl ⟨by rfl, ?_⟩) ?_ ?_
  · intro w'
    go_simp
    first | done | rfl | (simp; done)
  rotate_left
  · simp only [Act.put, Mat.p1, List.set_cons_zero, List.set_cons_succ]
    rfl
  refine pure_ (i := 24) (N := some 59) (v := .bool true) (a' := ?_) #[true, true, true, true, true, true, true, true, true, true, true, true, true, true, true, true, true, true, true, true, true, true, true, true, true, false, false, false, false] rfl rfl (any_of HT_.out (by kernel_rfl)) (fun _ _ _ h => h) (Or.inl ⟨by rfl, ?_⟩) ?_ ?_
  · intro w'
    go_simp
    first | done | rfl | (simp; done)
  rotate_left
  · simp only [Act.put, Mat.p1, List.set_cons_zero, List.set_cons_succ]
    rfl
  refine pure_ (i := 25) (N := some 60) (v := .bool true) (a' := ?_) #[true, true, true, true, true, true, true, true, true, true, true, true, true, true, true, true, true, true, true, true, true, true, true, true, true, true, false, false, false] rfl rfl (any_of HT_.out (by kernel_rfl)) (fun _ _ _ h => h) (Or.inl ⟨by rfl, ?_⟩) ?_ ?_
  · intro w'
    go_simp
    first | done | rfl | (simp; done)
  rotate_left
  · simp only [Act.put, Mat.p1, List.set_cons_zero, List.set_cons_succ]
    rfl
  refine one_ (i := 26) (N := some 61) #[true, true, true, true, true, true, true, true, true, true, true, true, true, true, true, true, true, true, true, true, true, true, true, true, true, true, true, false, false] rfl rfl (one_of HT_.out (by kernel_rfl)) (by decide) (fun K hK => ?_)
  refine goes_ Try.func16 (by kernel_rfl) rfl #[] (by rfl) rfl rfl (by first | (simp only [List.map_toArray, List.map_cons, List.map_nil]; rfl) | (simp only [List.map_toArray, List.map_nil])) ?_
  with_reducible refine (frustumlaw04_example.calls 40 true _ hex.out).mono ?_
  rintro e V9 ⟨rfl, hb⟩
  refine ⟨_, rfl, ?_⟩
  replace hA := Mat.bb hb hA
  replace hX := Mat.bb hb hX
  replace hV := Mat.bb hb hV
  replace hT := Mat.bb hb hT
  replace hB := below_step hB hb
  clear hb
  refine hK.out _ _ ⟨hA, hX, hV, hT⟩ (fun hHeld => ?_)
  clear hK K
  refine norm_ (a' := ?_) ?_ ?_
  rotate_left
  · show Act.put _ (some 61) _ = _
    simp only [Act.put, Mat.p1, List.set_cons_zero, List.set_cons_succ]
    rfl
  refine pure_ (i := 27) (N := some 62) (v := .bool true) (a' := ?_) #[true, true, true, true, true, true, true, true, true, true, true, true, true, true, true, true, true, true, true, true, true, true, true, true, true, true, true, true, false] rfl rfl (any_of HT_.out (by kernel_rfl)) (fun _ _ _ h => h) (Or.inl ⟨by rfl, ?_⟩) ?_ ?_
  · intro w'
    go_simp
    first | done | rfl | (simp; done)
  rotate_left
  · simp only [Act.put, Mat.p1, List.set_cons_zero, List.set_cons_succ]
    rfl
  refine pure_ (i := 28) (N := some 6) (v := .bool true) (a' := ?_) #[true, true, true, true, true, true, true, true, true, true, true, true, true, true, true, true, true, true, true, true, true, true, true, true, true, true, true, true, true] rfl rfl (any_of HT_.out (by kernel_rfl)) (fun _ _ _ h => h) (Or.inl ⟨by rfl, ?_⟩) ?_ ?_
  · intro w'
    go_simp
    first | done | rfl | (simp; done)
  rotate_left
  · simp only [Act.put, Mat.p1, List.set_cons_zero, List.set_cons_succ]
    rfl
  refine done_ (done_of HT_.out (by kernel_rfl)) ?_
  clear HT_
  go_wp2
  go_ret
  exact ⟨rfl, hB⟩
theorem transposes_all (a0 : Int) (a1 : Int) (a2 : Int) (a3 : Int) (a4 : Int) (a5 : Int) (a6 : Int) (a7 : Int) (a8 : Int) (a9 : Int) (aa : Int) (ab : Int) (ac : Int) (ad : Int) (ae : Int) (af : Int) (b0 : Int) (b1 : Int) (b2 : Int) (b3 : Int) (b4 : Int) (b5 : Int) (b6 : Int) (b7 : Int) (b8 : Int) (b9 : Int) (ba : Int) (bb : Int) (bc : Int) (bd : Int) (be : Int) (bf : Int) (x : Int) (y : Int) (z : Int) (v : Int) (w : World) : Calls Try.prog 6 #[.agg #[.int .i64 a0, .int .i64 a1, .int .i64 a2, .int .i64 a3, .int .i64 a4, .int .i64 a5, .int .i64 a6, .int .i64 a7, .int .i64 a8, .int .i64 a9, .int .i64 aa, .int .i64 ab, .int .i64 ac, .int .i64 ad, .int .i64 ae, .int .i64 af], .agg #[.int .i64 b0, .int .i64 b1, .int .i64 b2, .int .i64 b3, .int .i64 b4, .int .i64 b5, .int .i64 b6, .int .i64 b7, .int .i64 b8, .int .i64 b9, .int .i64 ba, .int .i64 bb, .int .i64 bc, .int .i64 bd, .int .i64 be, .int .i64 bf], .agg #[.int .i64 x, .int .i64 y, .int .i64 z, .int .i64 v]] w fun e w' => e = .returned (.bool true) ∧ Below w.heap.size w w' := by
  obtain ⟨m0, m1, m2, m3, m4, m5, m6, m7, m8, m9, ma, mb, mc, md, me, mf, e3, e4⟩ := mul_trans a0 a1 a2 a3 a4 a5 a6 a7 a8 a9 aa ab ac ad ae af b0 b1 b2 b3 b4 b5 b6 b7 b8 b9 ba bb bc bd be bf
  exact transposes_walk a0 a1 a2 a3 a4 a5 a6 a7 a8 a9 aa ab ac ad ae af b0 b1 b2 b3 b4 b5 b6 b7 b8 b9 ba bb bc bd be bf x y z v m0 m1 m2 m3 m4 m5 m6 m7 m8 m9 ma mb mc md me mf _ _ _ _ (E_Apply (by decide) _ _ _ _ _ _ _ _ _ _ _ _ _ _ _ _ _ _ _ _) e3 e4 w
end Go.Proofs.Ytmofipnpnepfaaa.PMatrixTransposes
