/- The law function MatrixIdentity, walked by hand: no condition. -/
import Derived.Test.YtmofipnpnepfaaaPureMatrixIdentity
import Derived.Deep.Cut
import Derived.Test.YtmofipnpnepfaaaMatStore
namespace Go.Proofs.Ytmofipnpnepfaaa.PMatrixIdentity
open Go.RowKit Go.Proofs.YtmofipnpnepfaaaW.PrintWords Go.Proofs.YtmofipnpnepfaaaW.PrintLast Go.Proofs.YtmofipnpnepfaaaW.PrintMore Go.Proofs.Ytmofipnpnepfaaa.Pure
set_option linter.unusedVariables false
set_option linter.unusedSimpArgs false
theorem eqi_cons {P : Program} {d : Nat} {e : TypeId} {c : Nat} {xs ys : Array Value} {w : World} {a b : Value} {r s : Bool} {i : Nat} {is : List Nat} (ha : (part e xs (i * c)).run P w = .ok a w) (hb : (part e ys (i * c)).run P w = .ok b w) (he : (Op.equalIn d e a b).run P w = .ok r w) (hr : (Op.eqItems d e c xs ys is).run P w = .ok s w) :
    (Op.eqItems d e c xs ys (i :: is)).run P w = .ok (r && s) w := by
  rw [Op.eqItems]
  simp only [Sem.run_bind, ha, hb, he, Result.andThen_ok]
  cases r
  · simp
  · simpa using hr
theorem eqi_last {P : Program} {d : Nat} {e : TypeId} {c : Nat} {xs ys : Array Value} {w : World} {a b : Value} {r : Bool} {i : Nat} (ha : (part e xs (i * c)).run P w = .ok a w) (hb : (part e ys (i * c)).run P w = .ok b w) (he : (Op.equalIn d e a b).run P w = .ok r w) :
    (Op.eqItems d e c xs ys [i]).run P w = .ok r w := by
  have h := eqi_cons ha hb he (is := []) (s := true) (by simp [Op.eqItems])
  rwa [Bool.and_true] at h
theorem eqA23 (d : Nat) (w : World) (x0 y0 : Int) (x1 y1 : Int) (x2 y2 : Int) (x3 y3 : Int) (x4 y4 : Int) (x5 y5 : Int) (x6 y6 : Int) (x7 y7 : Int) (x8 y8 : Int) (x9 y9 : Int) (x10 y10 : Int) (x11 y11 : Int) (x12 y12 : Int) (x13 y13 : Int) (x14 y14 : Int) (x15 y15 : Int) :
    (Op.equalIn (d + 2) 23 (.agg #[.int .i64 x0, .int .i64 x1, .int .i64 x2, .int .i64 x3, .int .i64 x4, .int .i64 x5, .int .i64 x6, .int .i64 x7, .int .i64 x8, .int .i64 x9, .int .i64 x10, .int .i64 x11, .int .i64 x12, .int .i64 x13, .int .i64 x14, .int .i64 x15]) (.agg #[.int .i64 y0, .int .i64 y1, .int .i64 y2, .int .i64 y3, .int .i64 y4, .int .i64 y5, .int .i64 y6, .int .i64 y7, .int .i64 y8, .int .i64 y9, .int .i64 y10, .int .i64 y11, .int .i64 y12, .int .i64 y13, .int .i64 y14, .int .i64 y15])).run Try.prog w = .ok (x0 == y0 && (x1 == y1 && (x2 == y2 && (x3 == y3 && (x4 == y4 && (x5 == y5 && (x6 == y6 && (x7 == y7 && (x8 == y8 && (x9 == y9 && (x10 == y10 && (x11 == y11 && (x12 == y12 && (x13 == y13 && (x14 == y14 && (x15 == y15)))))))))))))))) w := by
  obtain ⟨i_, hi_⟩ : ∃ i, Try.prog.info? 3 = some i := by
    cases h : Try.prog.info? 3 with
    | none => exact absurd (show (Try.prog.info? 3).isSome = true by kernel_rfl) (by rw [h]; simp)
    | some i => exact ⟨i, rfl⟩
  rw [run_equalIn_array _ _ _ _ Try.underlying23 hi_, show Try.prog.cellsOf 3 = 1 by kernel_rfl, show List.range 16 = [0, 1, 2, 3, 4, 5, 6, 7, 8, 9, 10, 11, 12, 13, 14, 15] from rfl]
  refine eqi_cons (by go_simp; rfl) (by go_simp; rfl) (by go_simp) ?_
  refine eqi_cons (by go_simp; rfl) (by go_simp; rfl) (by go_simp) ?_
  refine eqi_cons (by go_simp; rfl) (by go_simp; rfl) (by go_simp) ?_
  refine eqi_cons (by go_simp; rfl) (by go_simp; rfl) (by go_simp) ?_
  refine eqi_cons (by go_simp; rfl) (by go_simp; rfl) (by go_simp) ?_
  refine eqi_cons (by go_simp; rfl) (by go_simp; rfl) (by go_simp) ?_
  refine eqi_cons (by go_simp; rfl) (by go_simp; rfl) (by go_simp) ?_
  refine eqi_cons (by go_simp; rfl) (by go_simp; rfl) (by go_simp) ?_
  refine eqi_cons (by go_simp; rfl) (by go_simp; rfl) (by go_simp) ?_
  refine eqi_cons (by go_simp; rfl) (by go_simp; rfl) (by go_simp) ?_
  refine eqi_cons (by go_simp; rfl) (by go_simp; rfl) (by go_simp) ?_
  refine eqi_cons (by go_simp; rfl) (by go_simp; rfl) (by go_simp) ?_
  refine eqi_cons (by go_simp; rfl) (by go_simp; rfl) (by go_simp) ?_
  refine eqi_cons (by go_simp; rfl) (by go_simp; rfl) (by go_simp) ?_
  refine eqi_cons (by go_simp; rfl) (by go_simp; rfl) (by go_simp) ?_
  exact eqi_last (by go_simp; rfl) (by go_simp; rfl) (by go_simp)
attribute [local go_sem high] eqA23 eqA29
def MatrixIdentity.T1 : Bool × List (List Nat × List Nat) := (true, [([], []), ([], []), ([1, 0], [1]), ([], []), ([], []), ([3, 0, 2, 0, 3, 4], [0, 3]), ([4, 2, 5, 0, 1, 2, 3, 4, 5], [2, 4])])
theorem MatrixIdentity.tab1 : rtab .any (opsOf Try.f7 1) = MatrixIdentity.T1 := by kernel_rfl
def MatrixIdentity.T2 : Bool × List (List Nat × List Nat) := (true, [([], []), ([], []), ([0, 1], [0, 1]), ([], []), ([3, 2], [3]), ([2, 4], [2, 4]), ([5, 4], [5]), ([6], [6]), ([6], [6]), ([7, 8, 6, 6], [6, 7, 8]), ([6], [6]), ([9, 10, 6], [6, 9, 10]), ([6, 11], [6, 11]), ([12, 9], [12]), ([13], [13]), ([13], [13]), ([14, 15, 13, 13], [13, 14, 15]), ([13], [13]), ([16, 17, 13], [13, 16, 17]), ([13, 18], [13, 18]), ([19, 16], [19]), ([20, 20], [20]), ([20], [20]), ([21, 22, 20], [20, 21, 22]), ([20, 23], [20, 23]), ([24, 21], [24]), ([25, 25], [25]), ([25], [25]), ([26, 27, 25], [25, 26, 27]), ([25, 28], [25, 28]), ([29, 26], [29]), ([30, 30], [30]), ([30, 31], [30, 31]), ([32, 31, 0, 1, 2, 3, 4, 5, 6, 7, 8, 9, 10, 11, 12, 13, 14, 15, 16, 17, 18, 19, 20, 21, 22, 23, 24, 25, 26, 27, 28, 29, 30, 31, 32], [32])])
theorem MatrixIdentity.tab2 : rtab .any (opsOf Try.f7 2) = MatrixIdentity.T2 := by kernel_rfl
set_option maxHeartbeats 8000000 in
set_option maxRecDepth 100000 in
theorem identity_walk (a0 : Int) (a1 : Int) (a2 : Int) (a3 : Int) (a4 : Int) (a5 : Int) (a6 : Int) (a7 : Int) (a8 : Int) (a9 : Int) (aa : Int) (ab : Int) (ac : Int) (ad : Int) (ae : Int) (af : Int) (x : Int) (y : Int) (z : Int) (v : Int) (e0 : Int) (e1 : Int) (e2 : Int) (e3 : Int) (e4 : Int) (e5 : Int) (e6 : Int) (e7 : Int) (e8 : Int) (e9 : Int) (ea : Int) (eb : Int) (ec : Int) (ed : Int) (ee : Int) (ef : Int) (s0 : Int) (s1 : Int) (s2 : Int) (s3 : Int) (s4 : Int) (s5 : Int) (s6 : Int) (s7 : Int) (s8 : Int) (s9 : Int) (sa : Int) (sb : Int) (sc : Int) (sd : Int) (se : Int) (sf : Int) (r0 : Int) (r1 : Int) (r2 : Int) (r3 : Int) (A3 : Aside0 (matrix_Identity.f = some (e0, e1, e2, e3, e4, e5, e6, e7, e8, e9, ea, eb, ec, ed, ee, ef))) (A4 : Aside0 (frustumlaw04_limitedMatrix.f a0 a1 a2 a3 a4 a5 a6 a7 a8 a9 aa ab ac ad ae af = some (s0, s1, s2, s3, s4, s5, s6, s7, s8, s9, sa, sb, sc, sd, se, sf))) (h1 : matrix_Apply.f 40 e0 e1 e2 e3 e4 e5 e6 e7 e8 e9 ea eb ec ed ee ef x y z v = some (r0, r1, r2, r3)) (h2 : frustumlaw04_limitedVec.f x y z v = some (r0, r1, r2, r3)) (h3 : matrix_Mul.f 40 e0 e1 e2 e3 e4 e5 e6 e7 e8 e9 ea eb ec ed ee ef a0 a1 a2 a3 a4 a5 a6 a7 a8 a9 aa ab ac ad ae af = some (s0, s1, s2, s3, s4, s5, s6, s7, s8, s9, sa, sb, sc, sd, se, sf)) (h4 : matrix_Mul.f 40 a0 a1 a2 a3 a4 a5 a6 a7 a8 a9 aa ab ac ad ae af e0 e1 e2 e3 e4 e5 e6 e7 e8 e9 ea eb ec ed ee ef = some (s0, s1, s2, s3, s4, s5, s6, s7, s8, s9, sa, sb, sc, sd, se, sf)) (h5 : matrix_Translate.f 0 0 0 = some (e0, e1, e2, e3, e4, e5, e6, e7, e8, e9, ea, eb, ec, ed, ee, ef)) (h6 : matrix_ScaleBy.f 65536 65536 65536 = some (e0, e1, e2, e3, e4, e5, e6, e7, e8, e9, ea, eb, ec, ed, ee, ef)) (w : World) :
    Calls Try.prog 7 #[.agg #[.int .i64 a0, .int .i64 a1, .int .i64 a2, .int .i64 a3, .int .i64 a4, .int .i64 a5, .int .i64 a6, .int .i64 a7, .int .i64 a8, .int .i64 a9, .int .i64 aa, .int .i64 ab, .int .i64 ac, .int .i64 ad, .int .i64 ae, .int .i64 af], .agg #[.int .i64 x, .int .i64 y, .int .i64 z, .int .i64 v]] w fun e w' => e = .returned (.bool true) ∧ Below w.heap.size w w' := by
  have hu29 := Try.underlying29
  have hu23 := Try.underlying23
  have hex := E_ex04 (k := 40) (by decide)
  replace h1 := Aside0.mk h1
  replace h2 := Aside0.mk h2
  replace h3 := Aside0.mk h3
  replace h4 := Aside0.mk h4
  replace h5 := Aside0.mk h5
  replace h6 := Aside0.mk h6
  replace hex := Aside0.mk hex
  go_enter Try.func7, Try.ntmps7
  go_upto_region 1 with (fail)
  generalize hg1 : w.heap.size + 1 = g1
  have l1 : w.heap.size < g1 := by omega
  refine Mat.gen_ (Pr := fun W => W.heap[w.heap.size]? = some (.cells #[.int .i64 a0, .int .i64 a1, .int .i64 a2, .int .i64 a3, .int .i64 a4, .int .i64 a5, .int .i64 a6, .int .i64 a7, .int .i64 a8, .int .i64 a9, .int .i64 aa, .int .i64 ab, .int .i64 ac, .int .i64 ad, .int .i64 ae, .int .i64 af] 23 (0, 0)) ∧ W.heap[g1]? = some (.cells #[.int .i64 x, .int .i64 y, .int .i64 z, .int .i64 v] 29 (0, 0)) ∧ Below w.heap.size w W) (G := fun W => Code.wp Try.prog _ _ _ W) ⟨blk_alloc (MapKept.heap_alloc w _).1 _, (by rw [← hg1]; have := (MapKept.heap_alloc (w.alloc (.cells #[.int .i64 a0, .int .i64 a1, .int .i64 a2, .int .i64 a3, .int .i64 a4, .int .i64 a5, .int .i64 a6, .int .i64 a7, .int .i64 a8, .int .i64 a9, .int .i64 aa, .int .i64 ab, .int .i64 ac, .int .i64 ad, .int .i64 ae, .int .i64 af] 23)) (.cells #[.int .i64 x, .int .i64 y, .int .i64 z, .int .i64 v] 29)).1; simpa using this), below_alloc ((Below.refl w.heap.size w).alloc (Nat.le_refl _) _) _⟩ ?_
  clear hg1
  rintro W1 ⟨hA, hV, hB⟩
  as_aux_lemma =>
  replace hA := blk_drew hA
  replace hV := blk_drew hV
  replace hB := below_drew1 hB
  refine start_ (n := 7) (S := fun w' => w'.heap[w.heap.size]? = some (.cells #[.int .i64 a0, .int .i64 a1, .int .i64 a2, .int .i64 a3, .int .i64 a4, .int .i64 a5, .int .i64 a6, .int .i64 a7, .int .i64 a8, .int .i64 a9, .int .i64 aa, .int .i64 ab, .int .i64 ac, .int .i64 ad, .int .i64 ae, .int .i64 af] 23 (0, 0)) ∧ w'.heap[g1]? = some (.cells #[.int .i64 x, .int .i64 y, .int .i64 z, .int .i64 v] 29 (0, 0))) (ds := []) #[false, false, false, false, false, false, false] (by kernel_rfl) rfl rfl (⟨hA, hV⟩) (fun hHeld => ?_); refine with_tab MatrixIdentity.tab1 (fun HT_ => ?_)
  generalize W1.drew = V1_ at hA hV hB hHeld ⊢
  refine take_ (i := 1) (N := some 8) (v := .agg #[.int .i64 a0, .int .i64 a1, .int .i64 a2, .int .i64 a3, .int .i64 a4, .int .i64 a5, .int .i64 a6, .int .i64 a7, .int .i64 a8, .int .i64 a9, .int .i64 aa, .int .i64 ab, .int .i64 ac, .int .i64 ad, .int .i64 ae, .int .i64 af]) (a' := ?_) #[false, true, false, false, false, false, false] rfl rfl (take_of HT_.out (by kernel_rfl)) (fun _ _ _ h => h) (yieldsIf_load_mid (by rfl) 23 (.tmp 2) rfl (w.heap.size) 0 (by rfl) (#[.int .i64 a0, .int .i64 a1, .int .i64 a2, .int .i64 a3, .int .i64 a4, .int .i64 a5, .int .i64 a6, .int .i64 a7, .int .i64 a8, .int .i64 a9, .int .i64 aa, .int .i64 ab, .int .i64 ac, .int .i64 ad, .int .i64 ae, .int .i64 af] : Array Value).toList _ (fun _ h => Mat.range_blk h.1) hu23 rfl (by kernel_rfl)) hHeld ?_ ?_
  rotate_left
  · simp only [Act.put, Mat.p1, List.set_cons_zero, List.set_cons_succ]
    rfl
  refine join_ (σ := Nat × Nat) 2 #[true, true, true, true, true, false, false] (fun s_ => [(7, .agg #[.int .i64 e0, .int .i64 e1, .int .i64 e2, .int .i64 e3, .int .i64 e4, .int .i64 e5, .int .i64 e6, .int .i64 e7, .int .i64 e8, .int .i64 e9, .int .i64 ea, .int .i64 eb, .int .i64 ec, .int .i64 ed, .int .i64 ee, .int .i64 ef]), (9, .agg #[.int .i64 s0, .int .i64 s1, .int .i64 s2, .int .i64 s3, .int .i64 s4, .int .i64 s5, .int .i64 s6, .int .i64 s7, .int .i64 s8, .int .i64 s9, .int .i64 sa, .int .i64 sb, .int .i64 sc, .int .i64 sd, .int .i64 se, .int .i64 sf]), (5, .pointer (some ⟨s_.1, 0, none⟩)), (6, .pointer (some ⟨s_.2, 0, none⟩))]) (fun s_ w' => (w'.heap[w.heap.size]? = some (.cells #[.int .i64 a0, .int .i64 a1, .int .i64 a2, .int .i64 a3, .int .i64 a4, .int .i64 a5, .int .i64 a6, .int .i64 a7, .int .i64 a8, .int .i64 a9, .int .i64 aa, .int .i64 ab, .int .i64 ac, .int .i64 ad, .int .i64 ae, .int .i64 af] 23 (0, 0))) ∧ (w'.heap[g1]? = some (.cells #[.int .i64 x, .int .i64 y, .int .i64 z, .int .i64 v] 29 (0, 0))) ∧ (w'.heap[s_.1]? = some (.cells #[.int .i64 0, .int .i64 0, .int .i64 0, .int .i64 0, .int .i64 0, .int .i64 0, .int .i64 0, .int .i64 0, .int .i64 0, .int .i64 0, .int .i64 0, .int .i64 0, .int .i64 0, .int .i64 0, .int .i64 0, .int .i64 0] 23 (0, 0))) ∧ (w'.heap[s_.2]? = some (.cells #[.int .i64 0, .int .i64 0, .int .i64 0, .int .i64 0, .int .i64 0, .int .i64 0, .int .i64 0, .int .i64 0, .int .i64 0, .int .i64 0, .int .i64 0, .int .i64 0, .int .i64 0, .int .i64 0, .int .i64 0, .int .i64 0] 23 (0, 0))) ∧ (Below w.heap.size w w') ∧ (w.heap.size ≠ s_.1) ∧ (g1 ≠ s_.1) ∧ (w.heap.size ≤ s_.1) ∧ (w.heap.size ≠ s_.2) ∧ (g1 ≠ s_.2) ∧ (w.heap.size ≤ s_.2) ∧ (s_.1 ≠ s_.2)) ?_ ?_
  rotate_left
  · intro hJ0_2_3_4
    refine join_ (σ := Nat) 3 #[true, true, true, true, false, false, false] (fun s_ => [(7, .agg #[.int .i64 e0, .int .i64 e1, .int .i64 e2, .int .i64 e3, .int .i64 e4, .int .i64 e5, .int .i64 e6, .int .i64 e7, .int .i64 e8, .int .i64 e9, .int .i64 ea, .int .i64 eb, .int .i64 ec, .int .i64 ed, .int .i64 ee, .int .i64 ef]), (9, .agg #[.int .i64 s0, .int .i64 s1, .int .i64 s2, .int .i64 s3, .int .i64 s4, .int .i64 s5, .int .i64 s6, .int .i64 s7, .int .i64 s8, .int .i64 s9, .int .i64 sa, .int .i64 sb, .int .i64 sc, .int .i64 sd, .int .i64 se, .int .i64 sf]), (5, .pointer (some ⟨s_, 0, none⟩))]) (fun s_ w' => (w'.heap[w.heap.size]? = some (.cells #[.int .i64 a0, .int .i64 a1, .int .i64 a2, .int .i64 a3, .int .i64 a4, .int .i64 a5, .int .i64 a6, .int .i64 a7, .int .i64 a8, .int .i64 a9, .int .i64 aa, .int .i64 ab, .int .i64 ac, .int .i64 ad, .int .i64 ae, .int .i64 af] 23 (0, 0))) ∧ (w'.heap[g1]? = some (.cells #[.int .i64 x, .int .i64 y, .int .i64 z, .int .i64 v] 29 (0, 0))) ∧ (w'.heap[s_]? = some (.cells #[.int .i64 0, .int .i64 0, .int .i64 0, .int .i64 0, .int .i64 0, .int .i64 0, .int .i64 0, .int .i64 0, .int .i64 0, .int .i64 0, .int .i64 0, .int .i64 0, .int .i64 0, .int .i64 0, .int .i64 0, .int .i64 0] 23 (0, 0))) ∧ (Below w.heap.size w w') ∧ (w.heap.size ≠ s_) ∧ (g1 ≠ s_) ∧ (w.heap.size ≤ s_)) ?_ ?_
    rotate_left
    · intro hJ0_2_3
      refine join_ (σ := Nat) 3 #[true, true, true, false, true, false, false] (fun s_ => [(7, .agg #[.int .i64 e0, .int .i64 e1, .int .i64 e2, .int .i64 e3, .int .i64 e4, .int .i64 e5, .int .i64 e6, .int .i64 e7, .int .i64 e8, .int .i64 e9, .int .i64 ea, .int .i64 eb, .int .i64 ec, .int .i64 ed, .int .i64 ee, .int .i64 ef]), (9, .agg #[.int .i64 s0, .int .i64 s1, .int .i64 s2, .int .i64 s3, .int .i64 s4, .int .i64 s5, .int .i64 s6, .int .i64 s7, .int .i64 s8, .int .i64 s9, .int .i64 sa, .int .i64 sb, .int .i64 sc, .int .i64 sd, .int .i64 se, .int .i64 sf]), (6, .pointer (some ⟨s_, 0, none⟩))]) (fun s_ w' => (w'.heap[w.heap.size]? = some (.cells #[.int .i64 a0, .int .i64 a1, .int .i64 a2, .int .i64 a3, .int .i64 a4, .int .i64 a5, .int .i64 a6, .int .i64 a7, .int .i64 a8, .int .i64 a9, .int .i64 aa, .int .i64 ab, .int .i64 ac, .int .i64 ad, .int .i64 ae, .int .i64 af] 23 (0, 0))) ∧ (w'.heap[g1]? = some (.cells #[.int .i64 x, .int .i64 y, .int .i64 z, .int .i64 v] 29 (0, 0))) ∧ (w'.heap[s_]? = some (.cells #[.int .i64 0, .int .i64 0, .int .i64 0, .int .i64 0, .int .i64 0, .int .i64 0, .int .i64 0, .int .i64 0, .int .i64 0, .int .i64 0, .int .i64 0, .int .i64 0, .int .i64 0, .int .i64 0, .int .i64 0, .int .i64 0] 23 (0, 0))) ∧ (Below w.heap.size w w') ∧ (w.heap.size ≠ s_) ∧ (g1 ≠ s_) ∧ (w.heap.size ≤ s_)) ?_ ?_
      rotate_left
      · intro hJ0_2_4
        refine join_ (σ := Nat × Nat) 3 #[true, true, false, true, true, false, false] (fun s_ => [(7, .agg #[.int .i64 e0, .int .i64 e1, .int .i64 e2, .int .i64 e3, .int .i64 e4, .int .i64 e5, .int .i64 e6, .int .i64 e7, .int .i64 e8, .int .i64 e9, .int .i64 ea, .int .i64 eb, .int .i64 ec, .int .i64 ed, .int .i64 ee, .int .i64 ef]), (5, .pointer (some ⟨s_.1, 0, none⟩)), (6, .pointer (some ⟨s_.2, 0, none⟩))]) (fun s_ w' => (w'.heap[w.heap.size]? = some (.cells #[.int .i64 a0, .int .i64 a1, .int .i64 a2, .int .i64 a3, .int .i64 a4, .int .i64 a5, .int .i64 a6, .int .i64 a7, .int .i64 a8, .int .i64 a9, .int .i64 aa, .int .i64 ab, .int .i64 ac, .int .i64 ad, .int .i64 ae, .int .i64 af] 23 (0, 0))) ∧ (w'.heap[g1]? = some (.cells #[.int .i64 x, .int .i64 y, .int .i64 z, .int .i64 v] 29 (0, 0))) ∧ (w'.heap[s_.1]? = some (.cells #[.int .i64 0, .int .i64 0, .int .i64 0, .int .i64 0, .int .i64 0, .int .i64 0, .int .i64 0, .int .i64 0, .int .i64 0, .int .i64 0, .int .i64 0, .int .i64 0, .int .i64 0, .int .i64 0, .int .i64 0, .int .i64 0] 23 (0, 0))) ∧ (w'.heap[s_.2]? = some (.cells #[.int .i64 0, .int .i64 0, .int .i64 0, .int .i64 0, .int .i64 0, .int .i64 0, .int .i64 0, .int .i64 0, .int .i64 0, .int .i64 0, .int .i64 0, .int .i64 0, .int .i64 0, .int .i64 0, .int .i64 0, .int .i64 0] 23 (0, 0))) ∧ (Below w.heap.size w w') ∧ (w.heap.size ≠ s_.1) ∧ (g1 ≠ s_.1) ∧ (w.heap.size ≤ s_.1) ∧ (w.heap.size ≠ s_.2) ∧ (g1 ≠ s_.2) ∧ (w.heap.size ≤ s_.2) ∧ (s_.1 ≠ s_.2)) ?_ ?_
        rotate_left
        · intro hJ0_3_4
          refine join_ (σ := Unit) 4 #[true, true, true, false, false, false, false] (fun s_ => [(7, .agg #[.int .i64 e0, .int .i64 e1, .int .i64 e2, .int .i64 e3, .int .i64 e4, .int .i64 e5, .int .i64 e6, .int .i64 e7, .int .i64 e8, .int .i64 e9, .int .i64 ea, .int .i64 eb, .int .i64 ec, .int .i64 ed, .int .i64 ee, .int .i64 ef]), (9, .agg #[.int .i64 s0, .int .i64 s1, .int .i64 s2, .int .i64 s3, .int .i64 s4, .int .i64 s5, .int .i64 s6, .int .i64 s7, .int .i64 s8, .int .i64 s9, .int .i64 sa, .int .i64 sb, .int .i64 sc, .int .i64 sd, .int .i64 se, .int .i64 sf])]) (fun s_ w' => (w'.heap[w.heap.size]? = some (.cells #[.int .i64 a0, .int .i64 a1, .int .i64 a2, .int .i64 a3, .int .i64 a4, .int .i64 a5, .int .i64 a6, .int .i64 a7, .int .i64 a8, .int .i64 a9, .int .i64 aa, .int .i64 ab, .int .i64 ac, .int .i64 ad, .int .i64 ae, .int .i64 af] 23 (0, 0))) ∧ (w'.heap[g1]? = some (.cells #[.int .i64 x, .int .i64 y, .int .i64 z, .int .i64 v] 29 (0, 0))) ∧ (Below w.heap.size w w')) ?_ ?_
          rotate_left
          · intro hJ0_2
            refine join_ (σ := Nat) 4 #[true, true, false, true, false, false, false] (fun s_ => [(7, .agg #[.int .i64 e0, .int .i64 e1, .int .i64 e2, .int .i64 e3, .int .i64 e4, .int .i64 e5, .int .i64 e6, .int .i64 e7, .int .i64 e8, .int .i64 e9, .int .i64 ea, .int .i64 eb, .int .i64 ec, .int .i64 ed, .int .i64 ee, .int .i64 ef]), (5, .pointer (some ⟨s_, 0, none⟩))]) (fun s_ w' => (w'.heap[w.heap.size]? = some (.cells #[.int .i64 a0, .int .i64 a1, .int .i64 a2, .int .i64 a3, .int .i64 a4, .int .i64 a5, .int .i64 a6, .int .i64 a7, .int .i64 a8, .int .i64 a9, .int .i64 aa, .int .i64 ab, .int .i64 ac, .int .i64 ad, .int .i64 ae, .int .i64 af] 23 (0, 0))) ∧ (w'.heap[g1]? = some (.cells #[.int .i64 x, .int .i64 y, .int .i64 z, .int .i64 v] 29 (0, 0))) ∧ (w'.heap[s_]? = some (.cells #[.int .i64 0, .int .i64 0, .int .i64 0, .int .i64 0, .int .i64 0, .int .i64 0, .int .i64 0, .int .i64 0, .int .i64 0, .int .i64 0, .int .i64 0, .int .i64 0, .int .i64 0, .int .i64 0, .int .i64 0, .int .i64 0] 23 (0, 0))) ∧ (Below w.heap.size w w') ∧ (w.heap.size ≠ s_) ∧ (g1 ≠ s_) ∧ (w.heap.size ≤ s_)) ?_ ?_
            rotate_left
            · intro hJ0_3
              refine join_ (σ := Nat) 4 #[true, true, false, false, true, false, false] (fun s_ => [(7, .agg #[.int .i64 e0, .int .i64 e1, .int .i64 e2, .int .i64 e3, .int .i64 e4, .int .i64 e5, .int .i64 e6, .int .i64 e7, .int .i64 e8, .int .i64 e9, .int .i64 ea, .int .i64 eb, .int .i64 ec, .int .i64 ed, .int .i64 ee, .int .i64 ef]), (6, .pointer (some ⟨s_, 0, none⟩))]) (fun s_ w' => (w'.heap[w.heap.size]? = some (.cells #[.int .i64 a0, .int .i64 a1, .int .i64 a2, .int .i64 a3, .int .i64 a4, .int .i64 a5, .int .i64 a6, .int .i64 a7, .int .i64 a8, .int .i64 a9, .int .i64 aa, .int .i64 ab, .int .i64 ac, .int .i64 ad, .int .i64 ae, .int .i64 af] 23 (0, 0))) ∧ (w'.heap[g1]? = some (.cells #[.int .i64 x, .int .i64 y, .int .i64 z, .int .i64 v] 29 (0, 0))) ∧ (w'.heap[s_]? = some (.cells #[.int .i64 0, .int .i64 0, .int .i64 0, .int .i64 0, .int .i64 0, .int .i64 0, .int .i64 0, .int .i64 0, .int .i64 0, .int .i64 0, .int .i64 0, .int .i64 0, .int .i64 0, .int .i64 0, .int .i64 0, .int .i64 0] 23 (0, 0))) ∧ (Below w.heap.size w w') ∧ (w.heap.size ≠ s_) ∧ (g1 ≠ s_) ∧ (w.heap.size ≤ s_)) ?_ ?_
              rotate_left
              · intro hJ0_4
                refine join_ (σ := Nat × Nat) 4 #[false, true, false, true, true, false, false] (fun s_ => [(5, .pointer (some ⟨s_.1, 0, none⟩)), (6, .pointer (some ⟨s_.2, 0, none⟩))]) (fun s_ w' => (w'.heap[w.heap.size]? = some (.cells #[.int .i64 a0, .int .i64 a1, .int .i64 a2, .int .i64 a3, .int .i64 a4, .int .i64 a5, .int .i64 a6, .int .i64 a7, .int .i64 a8, .int .i64 a9, .int .i64 aa, .int .i64 ab, .int .i64 ac, .int .i64 ad, .int .i64 ae, .int .i64 af] 23 (0, 0))) ∧ (w'.heap[g1]? = some (.cells #[.int .i64 x, .int .i64 y, .int .i64 z, .int .i64 v] 29 (0, 0))) ∧ (w'.heap[s_.1]? = some (.cells #[.int .i64 0, .int .i64 0, .int .i64 0, .int .i64 0, .int .i64 0, .int .i64 0, .int .i64 0, .int .i64 0, .int .i64 0, .int .i64 0, .int .i64 0, .int .i64 0, .int .i64 0, .int .i64 0, .int .i64 0, .int .i64 0] 23 (0, 0))) ∧ (w'.heap[s_.2]? = some (.cells #[.int .i64 0, .int .i64 0, .int .i64 0, .int .i64 0, .int .i64 0, .int .i64 0, .int .i64 0, .int .i64 0, .int .i64 0, .int .i64 0, .int .i64 0, .int .i64 0, .int .i64 0, .int .i64 0, .int .i64 0, .int .i64 0] 23 (0, 0))) ∧ (Below w.heap.size w w') ∧ (w.heap.size ≠ s_.1) ∧ (g1 ≠ s_.1) ∧ (w.heap.size ≤ s_.1) ∧ (w.heap.size ≠ s_.2) ∧ (g1 ≠ s_.2) ∧ (w.heap.size ≤ s_.2) ∧ (s_.1 ≠ s_.2)) ?_ ?_
                rotate_left
                · intro hJ3_4
                  refine join_ (σ := Unit) 5 #[true, true, false, false, false, false, false] (fun s_ => [(7, .agg #[.int .i64 e0, .int .i64 e1, .int .i64 e2, .int .i64 e3, .int .i64 e4, .int .i64 e5, .int .i64 e6, .int .i64 e7, .int .i64 e8, .int .i64 e9, .int .i64 ea, .int .i64 eb, .int .i64 ec, .int .i64 ed, .int .i64 ee, .int .i64 ef])]) (fun s_ w' => (w'.heap[w.heap.size]? = some (.cells #[.int .i64 a0, .int .i64 a1, .int .i64 a2, .int .i64 a3, .int .i64 a4, .int .i64 a5, .int .i64 a6, .int .i64 a7, .int .i64 a8, .int .i64 a9, .int .i64 aa, .int .i64 ab, .int .i64 ac, .int .i64 ad, .int .i64 ae, .int .i64 af] 23 (0, 0))) ∧ (w'.heap[g1]? = some (.cells #[.int .i64 x, .int .i64 y, .int .i64 z, .int .i64 v] 29 (0, 0))) ∧ (Below w.heap.size w w')) ?_ ?_
                  rotate_left
                  · intro hJ0
                    refine join_ (σ := Nat) 5 #[false, true, false, true, false, false, false] (fun s_ => [(5, .pointer (some ⟨s_, 0, none⟩))]) (fun s_ w' => (w'.heap[w.heap.size]? = some (.cells #[.int .i64 a0, .int .i64 a1, .int .i64 a2, .int .i64 a3, .int .i64 a4, .int .i64 a5, .int .i64 a6, .int .i64 a7, .int .i64 a8, .int .i64 a9, .int .i64 aa, .int .i64 ab, .int .i64 ac, .int .i64 ad, .int .i64 ae, .int .i64 af] 23 (0, 0))) ∧ (w'.heap[g1]? = some (.cells #[.int .i64 x, .int .i64 y, .int .i64 z, .int .i64 v] 29 (0, 0))) ∧ (w'.heap[s_]? = some (.cells #[.int .i64 0, .int .i64 0, .int .i64 0, .int .i64 0, .int .i64 0, .int .i64 0, .int .i64 0, .int .i64 0, .int .i64 0, .int .i64 0, .int .i64 0, .int .i64 0, .int .i64 0, .int .i64 0, .int .i64 0, .int .i64 0] 23 (0, 0))) ∧ (Below w.heap.size w w') ∧ (w.heap.size ≠ s_) ∧ (g1 ≠ s_) ∧ (w.heap.size ≤ s_)) ?_ ?_
                    rotate_left
                    · intro hJ3
                      refine join_ (σ := Nat) 5 #[false, true, false, false, true, false, false] (fun s_ => [(6, .pointer (some ⟨s_, 0, none⟩))]) (fun s_ w' => (w'.heap[w.heap.size]? = some (.cells #[.int .i64 a0, .int .i64 a1, .int .i64 a2, .int .i64 a3, .int .i64 a4, .int .i64 a5, .int .i64 a6, .int .i64 a7, .int .i64 a8, .int .i64 a9, .int .i64 aa, .int .i64 ab, .int .i64 ac, .int .i64 ad, .int .i64 ae, .int .i64 af] 23 (0, 0))) ∧ (w'.heap[g1]? = some (.cells #[.int .i64 x, .int .i64 y, .int .i64 z, .int .i64 v] 29 (0, 0))) ∧ (w'.heap[s_]? = some (.cells #[.int .i64 0, .int .i64 0, .int .i64 0, .int .i64 0, .int .i64 0, .int .i64 0, .int .i64 0, .int .i64 0, .int .i64 0, .int .i64 0, .int .i64 0, .int .i64 0, .int .i64 0, .int .i64 0, .int .i64 0, .int .i64 0] 23 (0, 0))) ∧ (Below w.heap.size w w') ∧ (w.heap.size ≠ s_) ∧ (g1 ≠ s_) ∧ (w.heap.size ≤ s_)) ?_ ?_
                      rotate_left
                      · intro hJ4
                        refine three_ (i := 0) (j := 3) (k := 4) (Ni := some 7) (Nj := some 5) (Nk := some 6) #[true, true, false, false, false, false, false] #[false, true, false, true, false, false, false] #[false, true, false, false, true, false, false] rfl rfl rfl rfl rfl rfl (by kernel_rfl) (by decide) (by decide) (by decide) (fun K hK => ?_) (fun K hK => ?_) (fun K hK => ?_)
                        · refine goes_ Try.func10 (by kernel_rfl) rfl #[] (by rfl) rfl rfl (by first | (simp only [List.map_toArray, List.map_cons, List.map_nil]; rfl) | (simp only [List.map_toArray, List.map_nil])) ?_
                          with_reducible refine (matrix_Identity.calls e0 e1 e2 e3 e4 e5 e6 e7 e8 e9 ea eb ec ed ee ef _ A3.out).mono ?_
                          rintro e V2_ ⟨rfl, hb_⟩
                          refine ⟨_, rfl, ?_⟩
                          replace hA := Mat.bb hb_ hA
                          replace hV := Mat.bb hb_ hV
                          replace hB := below_step hB hb_
                          clear hb_
                          refine hK.out _ _ (⟨hA, hV⟩) (fun hHeld => ?_)
                          clear hK K
                          refine norm_ (a' := ?_) ?_ ?_
                          rotate_left
                          · show Act.put _ (some 7) _ = _
                            simp only [Act.put, Mat.p1, List.set_cons_zero, List.set_cons_succ]
                            rfl
                          exact norm_ (by first | (simp only [putAll, Act.put, Mat.p1, List.set_cons_zero, List.set_cons_succ]; done) | (simp only [putAll, Act.put, Mat.p1, List.set_cons_zero, List.set_cons_succ]; rfl)) (hJ0 () _ ⟨hA, hV, hB⟩)
                        · refine box_step ?hg (N := 5) ?hd (cs := #[.int .i64 0, .int .i64 0, .int .i64 0, .int .i64 0, .int .i64 0, .int .i64 0, .int .i64 0, .int .i64 0, .int .i64 0, .int .i64 0, .int .i64 0, .int .i64 0, .int .i64 0, .int .i64 0, .int .i64 0, .int .i64 0]) (t := 23) ?hr ?_; (case hd => rfl); (case hg => rfl); (case hr => first | (go_simp; done) | (go_simp; rfl))
                          intro gE hg_ V3_ hbox_ hb_
                          have n4_l : w.heap.size < gE := by rw [hg_]; exact blk_lt hA
                          have n4_r : w.heap.size ≠ gE := Nat.ne_of_lt n4_l
                          have n5_l : g1 < gE := by rw [hg_]; exact blk_lt hV
                          have n5_r : g1 ≠ gE := Nat.ne_of_lt n5_l
                          have le6_ : w.heap.size ≤ gE := by rw [hg_]; exact below_size hB
                          replace hA := Mat.bb hb_ hA
                          replace hV := Mat.bb hb_ hV
                          replace hB := below_step hB hb_
                          have hE := hbox_
                          clear hb_ hbox_ hg_
                          refine hK.out _ _ (⟨hA, hV⟩) (fun hHeld => ?_)
                          clear hK K
                          refine norm_ (a' := ?_) ?_ ?_
                          rotate_left
                          · show Act.put _ (some 5) _ = _
                            simp only [Act.put, Mat.p1, List.set_cons_zero, List.set_cons_succ]
                            rfl
                          exact norm_ (by first | (simp only [putAll, Act.put, Mat.p1, List.set_cons_zero, List.set_cons_succ]; done) | (simp only [putAll, Act.put, Mat.p1, List.set_cons_zero, List.set_cons_succ]; rfl)) (hJ3 gE _ ⟨hA, hV, hE, hB, n4_r, n5_r, le6_⟩)
                        · refine box_step ?hg (N := 6) ?hd (cs := #[.int .i64 0, .int .i64 0, .int .i64 0, .int .i64 0, .int .i64 0, .int .i64 0, .int .i64 0, .int .i64 0, .int .i64 0, .int .i64 0, .int .i64 0, .int .i64 0, .int .i64 0, .int .i64 0, .int .i64 0, .int .i64 0]) (t := 23) ?hr ?_; (case hd => rfl); (case hg => rfl); (case hr => first | (go_simp; done) | (go_simp; rfl))
                          intro gS hg_ V7_ hbox_ hb_
                          have n8_l : w.heap.size < gS := by rw [hg_]; exact blk_lt hA
                          have n8_r : w.heap.size ≠ gS := Nat.ne_of_lt n8_l
                          have n9_l : g1 < gS := by rw [hg_]; exact blk_lt hV
                          have n9_r : g1 ≠ gS := Nat.ne_of_lt n9_l
                          have le10_ : w.heap.size ≤ gS := by rw [hg_]; exact below_size hB
                          replace hA := Mat.bb hb_ hA
                          replace hV := Mat.bb hb_ hV
                          replace hB := below_step hB hb_
                          have hS := hbox_
                          clear hb_ hbox_ hg_
                          refine hK.out _ _ (⟨hA, hV⟩) (fun hHeld => ?_)
                          clear hK K
                          refine norm_ (a' := ?_) ?_ ?_
                          rotate_left
                          · show Act.put _ (some 6) _ = _
                            simp only [Act.put, Mat.p1, List.set_cons_zero, List.set_cons_succ]
                            rfl
                          exact norm_ (by first | (simp only [putAll, Act.put, Mat.p1, List.set_cons_zero, List.set_cons_succ]; done) | (simp only [putAll, Act.put, Mat.p1, List.set_cons_zero, List.set_cons_succ]; rfl)) (hJ4 gS _ ⟨hA, hV, hS, hB, n8_r, n9_r, le10_⟩)
                      rintro gS V11_ ⟨f0_, f1_, f2_, f3_, f4_, f5_, f6_⟩
                      replace hA : V11_.heap[w.heap.size]? = some (.cells #[.int .i64 a0, .int .i64 a1, .int .i64 a2, .int .i64 a3, .int .i64 a4, .int .i64 a5, .int .i64 a6, .int .i64 a7, .int .i64 a8, .int .i64 a9, .int .i64 aa, .int .i64 ab, .int .i64 ac, .int .i64 ad, .int .i64 ae, .int .i64 af] 23 (0, 0)) := f0_
                      replace hV : V11_.heap[g1]? = some (.cells #[.int .i64 x, .int .i64 y, .int .i64 z, .int .i64 v] 29 (0, 0)) := f1_
                      have hS : V11_.heap[gS]? = some (.cells #[.int .i64 0, .int .i64 0, .int .i64 0, .int .i64 0, .int .i64 0, .int .i64 0, .int .i64 0, .int .i64 0, .int .i64 0, .int .i64 0, .int .i64 0, .int .i64 0, .int .i64 0, .int .i64 0, .int .i64 0, .int .i64 0] 23 (0, 0)) := f2_
                      replace hB : Below w.heap.size w V11_ := f3_
                      have q12_ : w.heap.size ≠ gS := f4_
                      have q13_ : g1 ≠ gS := f5_
                      have q14_ : w.heap.size ≤ gS := f6_
                      clear f0_ f1_ f2_ f3_ f4_ f5_ f6_
                      clear hHeld
                      have hHeld : V11_.heap[w.heap.size]? = some (.cells #[.int .i64 a0, .int .i64 a1, .int .i64 a2, .int .i64 a3, .int .i64 a4, .int .i64 a5, .int .i64 a6, .int .i64 a7, .int .i64 a8, .int .i64 a9, .int .i64 aa, .int .i64 ab, .int .i64 ac, .int .i64 ad, .int .i64 ae, .int .i64 af] 23 (0, 0)) ∧ V11_.heap[g1]? = some (.cells #[.int .i64 x, .int .i64 y, .int .i64 z, .int .i64 v] 29 (0, 0)) := ⟨hA, hV⟩
                      refine norm_ (a' := ?_) ?_ ?_
                      rotate_left
                      · simp only [putAll, Act.put, Mat.p1, List.set_cons_zero, List.set_cons_succ]
                        rfl
                      refine two_ (i := 0) (j := 3) (Ni := some 7) (Nj := some 5) #[true, true, false, false, true, false, false] #[false, true, false, true, true, false, false] rfl rfl rfl rfl (two_of HT_.out (by kernel_rfl)) (by decide) (by decide) (fun K hK => ?_) (fun K hK => ?_)
                      · refine goes_ Try.func10 (by kernel_rfl) rfl #[] (by rfl) rfl rfl (by first | (simp only [List.map_toArray, List.map_cons, List.map_nil]; rfl) | (simp only [List.map_toArray, List.map_nil])) ?_
                        with_reducible refine (matrix_Identity.calls e0 e1 e2 e3 e4 e5 e6 e7 e8 e9 ea eb ec ed ee ef _ A3.out).mono ?_
                        rintro e V15_ ⟨rfl, hb_⟩
                        refine ⟨_, rfl, ?_⟩
                        replace hA := Mat.bb hb_ hA
                        replace hV := Mat.bb hb_ hV
                        replace hS := Mat.bb hb_ hS
                        replace hB := below_step hB hb_
                        clear hb_
                        refine hK.out _ _ (⟨hA, hV⟩) (fun hHeld => ?_)
                        clear hK K
                        refine norm_ (a' := ?_) ?_ ?_
                        rotate_left
                        · show Act.put _ (some 7) _ = _
                          simp only [Act.put, Mat.p1, List.set_cons_zero, List.set_cons_succ]
                          rfl
                        exact norm_ (by first | (simp only [putAll, Act.put, Mat.p1, List.set_cons_zero, List.set_cons_succ]; done) | (simp only [putAll, Act.put, Mat.p1, List.set_cons_zero, List.set_cons_succ]; rfl)) (hJ0_4 gS _ ⟨hA, hV, hS, hB, q12_, q13_, q14_⟩)
                      · refine box_step ?hg (N := 5) ?hd (cs := #[.int .i64 0, .int .i64 0, .int .i64 0, .int .i64 0, .int .i64 0, .int .i64 0, .int .i64 0, .int .i64 0, .int .i64 0, .int .i64 0, .int .i64 0, .int .i64 0, .int .i64 0, .int .i64 0, .int .i64 0, .int .i64 0]) (t := 23) ?hr ?_; (case hd => rfl); (case hg => rfl); (case hr => first | (go_simp; done) | (go_simp; rfl))
                        intro gE hg_ V16_ hbox_ hb_
                        have n17_l : w.heap.size < gE := by rw [hg_]; exact blk_lt hA
                        have n17_r : w.heap.size ≠ gE := Nat.ne_of_lt n17_l
                        have n18_l : g1 < gE := by rw [hg_]; exact blk_lt hV
                        have n18_r : g1 ≠ gE := Nat.ne_of_lt n18_l
                        have n19_l : gS < gE := by rw [hg_]; exact blk_lt hS
                        have n19_r : gS ≠ gE := Nat.ne_of_lt n19_l
                        have le20_ : w.heap.size ≤ gE := by rw [hg_]; exact below_size hB
                        replace hA := Mat.bb hb_ hA
                        replace hV := Mat.bb hb_ hV
                        replace hS := Mat.bb hb_ hS
                        replace hB := below_step hB hb_
                        have hE := hbox_
                        clear hb_ hbox_ hg_
                        refine hK.out _ _ (⟨hA, hV⟩) (fun hHeld => ?_)
                        clear hK K
                        refine norm_ (a' := ?_) ?_ ?_
                        rotate_left
                        · show Act.put _ (some 5) _ = _
                          simp only [Act.put, Mat.p1, List.set_cons_zero, List.set_cons_succ]
                          rfl
                        exact norm_ (by first | (simp only [putAll, Act.put, Mat.p1, List.set_cons_zero, List.set_cons_succ]; done) | (simp only [putAll, Act.put, Mat.p1, List.set_cons_zero, List.set_cons_succ]; rfl)) (hJ3_4 (gE, gS) _ ⟨hA, hV, hE, hS, hB, n17_r, n18_r, le20_, q12_, q13_, q14_, (Ne.symm n19_r)⟩)
                    rintro gE V21_ ⟨f0_, f1_, f2_, f3_, f4_, f5_, f6_⟩
                    replace hA : V21_.heap[w.heap.size]? = some (.cells #[.int .i64 a0, .int .i64 a1, .int .i64 a2, .int .i64 a3, .int .i64 a4, .int .i64 a5, .int .i64 a6, .int .i64 a7, .int .i64 a8, .int .i64 a9, .int .i64 aa, .int .i64 ab, .int .i64 ac, .int .i64 ad, .int .i64 ae, .int .i64 af] 23 (0, 0)) := f0_
                    replace hV : V21_.heap[g1]? = some (.cells #[.int .i64 x, .int .i64 y, .int .i64 z, .int .i64 v] 29 (0, 0)) := f1_
                    have hE : V21_.heap[gE]? = some (.cells #[.int .i64 0, .int .i64 0, .int .i64 0, .int .i64 0, .int .i64 0, .int .i64 0, .int .i64 0, .int .i64 0, .int .i64 0, .int .i64 0, .int .i64 0, .int .i64 0, .int .i64 0, .int .i64 0, .int .i64 0, .int .i64 0] 23 (0, 0)) := f2_
                    replace hB : Below w.heap.size w V21_ := f3_
                    have q22_ : w.heap.size ≠ gE := f4_
                    have q23_ : g1 ≠ gE := f5_
                    have q24_ : w.heap.size ≤ gE := f6_
                    clear f0_ f1_ f2_ f3_ f4_ f5_ f6_
                    clear hHeld
                    have hHeld : V21_.heap[w.heap.size]? = some (.cells #[.int .i64 a0, .int .i64 a1, .int .i64 a2, .int .i64 a3, .int .i64 a4, .int .i64 a5, .int .i64 a6, .int .i64 a7, .int .i64 a8, .int .i64 a9, .int .i64 aa, .int .i64 ab, .int .i64 ac, .int .i64 ad, .int .i64 ae, .int .i64 af] 23 (0, 0)) ∧ V21_.heap[g1]? = some (.cells #[.int .i64 x, .int .i64 y, .int .i64 z, .int .i64 v] 29 (0, 0)) := ⟨hA, hV⟩
                    refine norm_ (a' := ?_) ?_ ?_
                    rotate_left
                    · simp only [putAll, Act.put, Mat.p1, List.set_cons_zero, List.set_cons_succ]
                      rfl
                    refine two_ (i := 0) (j := 4) (Ni := some 7) (Nj := some 6) #[true, true, false, true, false, false, false] #[false, true, false, true, true, false, false] rfl rfl rfl rfl (two_of HT_.out (by kernel_rfl)) (by decide) (by decide) (fun K hK => ?_) (fun K hK => ?_)
                    · refine goes_ Try.func10 (by kernel_rfl) rfl #[] (by rfl) rfl rfl (by first | (simp only [List.map_toArray, List.map_cons, List.map_nil]; rfl) | (simp only [List.map_toArray, List.map_nil])) ?_
                      with_reducible refine (matrix_Identity.calls e0 e1 e2 e3 e4 e5 e6 e7 e8 e9 ea eb ec ed ee ef _ A3.out).mono ?_
                      rintro e V25_ ⟨rfl, hb_⟩
                      refine ⟨_, rfl, ?_⟩
                      replace hA := Mat.bb hb_ hA
                      replace hV := Mat.bb hb_ hV
                      replace hE := Mat.bb hb_ hE
                      replace hB := below_step hB hb_
                      clear hb_
                      refine hK.out _ _ (⟨hA, hV⟩) (fun hHeld => ?_)
                      clear hK K
                      refine norm_ (a' := ?_) ?_ ?_
                      rotate_left
                      · show Act.put _ (some 7) _ = _
                        simp only [Act.put, Mat.p1, List.set_cons_zero, List.set_cons_succ]
                        rfl
                      exact norm_ (by first | (simp only [putAll, Act.put, Mat.p1, List.set_cons_zero, List.set_cons_succ]; done) | (simp only [putAll, Act.put, Mat.p1, List.set_cons_zero, List.set_cons_succ]; rfl)) (hJ0_3 gE _ ⟨hA, hV, hE, hB, q22_, q23_, q24_⟩)
                    · refine box_step ?hg (N := 6) ?hd (cs := #[.int .i64 0, .int .i64 0, .int .i64 0, .int .i64 0, .int .i64 0, .int .i64 0, .int .i64 0, .int .i64 0, .int .i64 0, .int .i64 0, .int .i64 0, .int .i64 0, .int .i64 0, .int .i64 0, .int .i64 0, .int .i64 0]) (t := 23) ?hr ?_; (case hd => rfl); (case hg => rfl); (case hr => first | (go_simp; done) | (go_simp; rfl))
                      intro gS hg_ V26_ hbox_ hb_
                      have n27_l : w.heap.size < gS := by rw [hg_]; exact blk_lt hA
                      have n27_r : w.heap.size ≠ gS := Nat.ne_of_lt n27_l
                      have n28_l : g1 < gS := by rw [hg_]; exact blk_lt hV
                      have n28_r : g1 ≠ gS := Nat.ne_of_lt n28_l
                      have n29_l : gE < gS := by rw [hg_]; exact blk_lt hE
                      have n29_r : gE ≠ gS := Nat.ne_of_lt n29_l
                      have le30_ : w.heap.size ≤ gS := by rw [hg_]; exact below_size hB
                      replace hA := Mat.bb hb_ hA
                      replace hV := Mat.bb hb_ hV
                      replace hE := Mat.bb hb_ hE
                      replace hB := below_step hB hb_
                      have hS := hbox_
                      clear hb_ hbox_ hg_
                      refine hK.out _ _ (⟨hA, hV⟩) (fun hHeld => ?_)
                      clear hK K
                      refine norm_ (a' := ?_) ?_ ?_
                      rotate_left
                      · show Act.put _ (some 6) _ = _
                        simp only [Act.put, Mat.p1, List.set_cons_zero, List.set_cons_succ]
                        rfl
                      exact norm_ (by first | (simp only [putAll, Act.put, Mat.p1, List.set_cons_zero, List.set_cons_succ]; done) | (simp only [putAll, Act.put, Mat.p1, List.set_cons_zero, List.set_cons_succ]; rfl)) (hJ3_4 (gE, gS) _ ⟨hA, hV, hE, hS, hB, q22_, q23_, q24_, n27_r, n28_r, le30_, n29_r⟩)
                  rintro s_ V31_ ⟨f0_, f1_, f2_⟩
                  replace hA : V31_.heap[w.heap.size]? = some (.cells #[.int .i64 a0, .int .i64 a1, .int .i64 a2, .int .i64 a3, .int .i64 a4, .int .i64 a5, .int .i64 a6, .int .i64 a7, .int .i64 a8, .int .i64 a9, .int .i64 aa, .int .i64 ab, .int .i64 ac, .int .i64 ad, .int .i64 ae, .int .i64 af] 23 (0, 0)) := f0_
                  replace hV : V31_.heap[g1]? = some (.cells #[.int .i64 x, .int .i64 y, .int .i64 z, .int .i64 v] 29 (0, 0)) := f1_
                  replace hB : Below w.heap.size w V31_ := f2_
                  clear f0_ f1_ f2_
                  clear hHeld
                  have hHeld : V31_.heap[w.heap.size]? = some (.cells #[.int .i64 a0, .int .i64 a1, .int .i64 a2, .int .i64 a3, .int .i64 a4, .int .i64 a5, .int .i64 a6, .int .i64 a7, .int .i64 a8, .int .i64 a9, .int .i64 aa, .int .i64 ab, .int .i64 ac, .int .i64 ad, .int .i64 ae, .int .i64 af] 23 (0, 0)) ∧ V31_.heap[g1]? = some (.cells #[.int .i64 x, .int .i64 y, .int .i64 z, .int .i64 v] 29 (0, 0)) := ⟨hA, hV⟩
                  refine norm_ (a' := ?_) ?_ ?_
                  rotate_left
                  · simp only [putAll, Act.put, Mat.p1, List.set_cons_zero, List.set_cons_succ]
                    rfl
                  refine three_ (i := 2) (j := 3) (k := 4) (Ni := some 9) (Nj := some 5) (Nk := some 6) #[true, true, true, false, false, false, false] #[true, true, false, true, false, false, false] #[true, true, false, false, true, false, false] rfl rfl rfl rfl rfl rfl (by kernel_rfl) (by decide) (by decide) (by decide) (fun K hK => ?_) (fun K hK => ?_) (fun K hK => ?_)
                  · refine goes_ Try.func28 (by kernel_rfl) rfl #[.agg #[.int .i64 a0, .int .i64 a1, .int .i64 a2, .int .i64 a3, .int .i64 a4, .int .i64 a5, .int .i64 a6, .int .i64 a7, .int .i64 a8, .int .i64 a9, .int .i64 aa, .int .i64 ab, .int .i64 ac, .int .i64 ad, .int .i64 ae, .int .i64 af]] (by rfl) rfl rfl (by first | (simp only [List.map_toArray, List.map_cons, List.map_nil]; rfl) | (simp only [List.map_toArray, List.map_nil])) ?_
                    with_reducible refine (frustumlaw04_limitedMatrix.calls a0 a1 a2 a3 a4 a5 a6 a7 a8 a9 aa ab ac ad ae af s0 s1 s2 s3 s4 s5 s6 s7 s8 s9 sa sb sc sd se sf _ A4.out).mono ?_
                    rintro e V32_ ⟨rfl, hb_⟩
                    refine ⟨_, rfl, ?_⟩
                    replace hA := Mat.bb hb_ hA
                    replace hV := Mat.bb hb_ hV
                    replace hB := below_step hB hb_
                    clear hb_
                    refine hK.out _ _ (⟨hA, hV⟩) (fun hHeld => ?_)
                    clear hK K
                    refine norm_ (a' := ?_) ?_ ?_
                    rotate_left
                    · show Act.put _ (some 9) _ = _
                      simp only [Act.put, Mat.p1, List.set_cons_zero, List.set_cons_succ]
                      rfl
                    exact norm_ (by first | (simp only [putAll, Act.put, Mat.p1, List.set_cons_zero, List.set_cons_succ]; done) | (simp only [putAll, Act.put, Mat.p1, List.set_cons_zero, List.set_cons_succ]; rfl)) (hJ0_2 () _ ⟨hA, hV, hB⟩)
                  · refine box_step ?hg (N := 5) ?hd (cs := #[.int .i64 0, .int .i64 0, .int .i64 0, .int .i64 0, .int .i64 0, .int .i64 0, .int .i64 0, .int .i64 0, .int .i64 0, .int .i64 0, .int .i64 0, .int .i64 0, .int .i64 0, .int .i64 0, .int .i64 0, .int .i64 0]) (t := 23) ?hr ?_; (case hd => rfl); (case hg => rfl); (case hr => first | (go_simp; done) | (go_simp; rfl))
                    intro gE hg_ V33_ hbox_ hb_
                    have n34_l : w.heap.size < gE := by rw [hg_]; exact blk_lt hA
                    have n34_r : w.heap.size ≠ gE := Nat.ne_of_lt n34_l
                    have n35_l : g1 < gE := by rw [hg_]; exact blk_lt hV
                    have n35_r : g1 ≠ gE := Nat.ne_of_lt n35_l
                    have le36_ : w.heap.size ≤ gE := by rw [hg_]; exact below_size hB
                    replace hA := Mat.bb hb_ hA
                    replace hV := Mat.bb hb_ hV
                    replace hB := below_step hB hb_
                    have hE := hbox_
                    clear hb_ hbox_ hg_
                    refine hK.out _ _ (⟨hA, hV⟩) (fun hHeld => ?_)
                    clear hK K
                    refine norm_ (a' := ?_) ?_ ?_
                    rotate_left
                    · show Act.put _ (some 5) _ = _
                      simp only [Act.put, Mat.p1, List.set_cons_zero, List.set_cons_succ]
                      rfl
                    exact norm_ (by first | (simp only [putAll, Act.put, Mat.p1, List.set_cons_zero, List.set_cons_succ]; done) | (simp only [putAll, Act.put, Mat.p1, List.set_cons_zero, List.set_cons_succ]; rfl)) (hJ0_3 gE _ ⟨hA, hV, hE, hB, n34_r, n35_r, le36_⟩)
                  · refine box_step ?hg (N := 6) ?hd (cs := #[.int .i64 0, .int .i64 0, .int .i64 0, .int .i64 0, .int .i64 0, .int .i64 0, .int .i64 0, .int .i64 0, .int .i64 0, .int .i64 0, .int .i64 0, .int .i64 0, .int .i64 0, .int .i64 0, .int .i64 0, .int .i64 0]) (t := 23) ?hr ?_; (case hd => rfl); (case hg => rfl); (case hr => first | (go_simp; done) | (go_simp; rfl))
                    intro gS hg_ V37_ hbox_ hb_
                    have n38_l : w.heap.size < gS := by rw [hg_]; exact blk_lt hA
                    have n38_r : w.heap.size ≠ gS := Nat.ne_of_lt n38_l
                    have n39_l : g1 < gS := by rw [hg_]; exact blk_lt hV
                    have n39_r : g1 ≠ gS := Nat.ne_of_lt n39_l
                    have le40_ : w.heap.size ≤ gS := by rw [hg_]; exact below_size hB
                    replace hA := Mat.bb hb_ hA
                    replace hV := Mat.bb hb_ hV
                    replace hB := below_step hB hb_
                    have hS := hbox_
                    clear hb_ hbox_ hg_
                    refine hK.out _ _ (⟨hA, hV⟩) (fun hHeld => ?_)
                    clear hK K
                    refine norm_ (a' := ?_) ?_ ?_
                    rotate_left
                    · show Act.put _ (some 6) _ = _
                      simp only [Act.put, Mat.p1, List.set_cons_zero, List.set_cons_succ]
                      rfl
                    exact norm_ (by first | (simp only [putAll, Act.put, Mat.p1, List.set_cons_zero, List.set_cons_succ]; done) | (simp only [putAll, Act.put, Mat.p1, List.set_cons_zero, List.set_cons_succ]; rfl)) (hJ0_4 gS _ ⟨hA, hV, hS, hB, n38_r, n39_r, le40_⟩)
                rintro ⟨gE, gS⟩ V41_ ⟨f0_, f1_, f2_, f3_, f4_, f5_, f6_, f7_, f8_, f9_, f10_, f11_⟩
                replace hA : V41_.heap[w.heap.size]? = some (.cells #[.int .i64 a0, .int .i64 a1, .int .i64 a2, .int .i64 a3, .int .i64 a4, .int .i64 a5, .int .i64 a6, .int .i64 a7, .int .i64 a8, .int .i64 a9, .int .i64 aa, .int .i64 ab, .int .i64 ac, .int .i64 ad, .int .i64 ae, .int .i64 af] 23 (0, 0)) := f0_
                replace hV : V41_.heap[g1]? = some (.cells #[.int .i64 x, .int .i64 y, .int .i64 z, .int .i64 v] 29 (0, 0)) := f1_
                have hE : V41_.heap[gE]? = some (.cells #[.int .i64 0, .int .i64 0, .int .i64 0, .int .i64 0, .int .i64 0, .int .i64 0, .int .i64 0, .int .i64 0, .int .i64 0, .int .i64 0, .int .i64 0, .int .i64 0, .int .i64 0, .int .i64 0, .int .i64 0, .int .i64 0] 23 (0, 0)) := f2_
                have hS : V41_.heap[gS]? = some (.cells #[.int .i64 0, .int .i64 0, .int .i64 0, .int .i64 0, .int .i64 0, .int .i64 0, .int .i64 0, .int .i64 0, .int .i64 0, .int .i64 0, .int .i64 0, .int .i64 0, .int .i64 0, .int .i64 0, .int .i64 0, .int .i64 0] 23 (0, 0)) := f3_
                replace hB : Below w.heap.size w V41_ := f4_
                have q42_ : w.heap.size ≠ gE := f5_
                have q43_ : g1 ≠ gE := f6_
                have q44_ : w.heap.size ≤ gE := f7_
                have q45_ : w.heap.size ≠ gS := f8_
                have q46_ : g1 ≠ gS := f9_
                have q47_ : w.heap.size ≤ gS := f10_
                have q48_ : gE ≠ gS := f11_
                clear f0_ f1_ f2_ f3_ f4_ f5_ f6_ f7_ f8_ f9_ f10_ f11_
                clear hHeld
                have hHeld : V41_.heap[w.heap.size]? = some (.cells #[.int .i64 a0, .int .i64 a1, .int .i64 a2, .int .i64 a3, .int .i64 a4, .int .i64 a5, .int .i64 a6, .int .i64 a7, .int .i64 a8, .int .i64 a9, .int .i64 aa, .int .i64 ab, .int .i64 ac, .int .i64 ad, .int .i64 ae, .int .i64 af] 23 (0, 0)) ∧ V41_.heap[g1]? = some (.cells #[.int .i64 x, .int .i64 y, .int .i64 z, .int .i64 v] 29 (0, 0)) := ⟨hA, hV⟩
                refine norm_ (a' := ?_) ?_ ?_
                rotate_left
                · simp only [putAll, Act.put, Mat.p1, List.set_cons_zero, List.set_cons_succ]
                  rfl
                refine one_ (i := 0) (N := some 7) #[true, true, false, true, true, false, false] rfl rfl (one_of HT_.out (by kernel_rfl)) (by decide) (fun K hK => ?_)
                · refine goes_ Try.func10 (by kernel_rfl) rfl #[] (by rfl) rfl rfl (by first | (simp only [List.map_toArray, List.map_cons, List.map_nil]; rfl) | (simp only [List.map_toArray, List.map_nil])) ?_
                  with_reducible refine (matrix_Identity.calls e0 e1 e2 e3 e4 e5 e6 e7 e8 e9 ea eb ec ed ee ef _ A3.out).mono ?_
                  rintro e V49_ ⟨rfl, hb_⟩
                  refine ⟨_, rfl, ?_⟩
                  replace hA := Mat.bb hb_ hA
                  replace hV := Mat.bb hb_ hV
                  replace hE := Mat.bb hb_ hE
                  replace hS := Mat.bb hb_ hS
                  replace hB := below_step hB hb_
                  clear hb_
                  refine hK.out _ _ (⟨hA, hV⟩) (fun hHeld => ?_)
                  clear hK K
                  refine norm_ (a' := ?_) ?_ ?_
                  rotate_left
                  · show Act.put _ (some 7) _ = _
                    simp only [Act.put, Mat.p1, List.set_cons_zero, List.set_cons_succ]
                    rfl
                  exact norm_ (by first | (simp only [putAll, Act.put, Mat.p1, List.set_cons_zero, List.set_cons_succ]; done) | (simp only [putAll, Act.put, Mat.p1, List.set_cons_zero, List.set_cons_succ]; rfl)) (hJ0_3_4 (gE, gS) _ ⟨hA, hV, hE, hS, hB, q42_, q43_, q44_, q45_, q46_, q47_, q48_⟩)
              rintro gS V50_ ⟨f0_, f1_, f2_, f3_, f4_, f5_, f6_⟩
              replace hA : V50_.heap[w.heap.size]? = some (.cells #[.int .i64 a0, .int .i64 a1, .int .i64 a2, .int .i64 a3, .int .i64 a4, .int .i64 a5, .int .i64 a6, .int .i64 a7, .int .i64 a8, .int .i64 a9, .int .i64 aa, .int .i64 ab, .int .i64 ac, .int .i64 ad, .int .i64 ae, .int .i64 af] 23 (0, 0)) := f0_
              replace hV : V50_.heap[g1]? = some (.cells #[.int .i64 x, .int .i64 y, .int .i64 z, .int .i64 v] 29 (0, 0)) := f1_
              have hS : V50_.heap[gS]? = some (.cells #[.int .i64 0, .int .i64 0, .int .i64 0, .int .i64 0, .int .i64 0, .int .i64 0, .int .i64 0, .int .i64 0, .int .i64 0, .int .i64 0, .int .i64 0, .int .i64 0, .int .i64 0, .int .i64 0, .int .i64 0, .int .i64 0] 23 (0, 0)) := f2_
              replace hB : Below w.heap.size w V50_ := f3_
              have q51_ : w.heap.size ≠ gS := f4_
              have q52_ : g1 ≠ gS := f5_
              have q53_ : w.heap.size ≤ gS := f6_
              clear f0_ f1_ f2_ f3_ f4_ f5_ f6_
              clear hHeld
              have hHeld : V50_.heap[w.heap.size]? = some (.cells #[.int .i64 a0, .int .i64 a1, .int .i64 a2, .int .i64 a3, .int .i64 a4, .int .i64 a5, .int .i64 a6, .int .i64 a7, .int .i64 a8, .int .i64 a9, .int .i64 aa, .int .i64 ab, .int .i64 ac, .int .i64 ad, .int .i64 ae, .int .i64 af] 23 (0, 0)) ∧ V50_.heap[g1]? = some (.cells #[.int .i64 x, .int .i64 y, .int .i64 z, .int .i64 v] 29 (0, 0)) := ⟨hA, hV⟩
              refine norm_ (a' := ?_) ?_ ?_
              rotate_left
              · simp only [putAll, Act.put, Mat.p1, List.set_cons_zero, List.set_cons_succ]
                rfl
              refine two_ (i := 2) (j := 3) (Ni := some 9) (Nj := some 5) #[true, true, true, false, true, false, false] #[true, true, false, true, true, false, false] rfl rfl rfl rfl (two_of HT_.out (by kernel_rfl)) (by decide) (by decide) (fun K hK => ?_) (fun K hK => ?_)
              · refine goes_ Try.func28 (by kernel_rfl) rfl #[.agg #[.int .i64 a0, .int .i64 a1, .int .i64 a2, .int .i64 a3, .int .i64 a4, .int .i64 a5, .int .i64 a6, .int .i64 a7, .int .i64 a8, .int .i64 a9, .int .i64 aa, .int .i64 ab, .int .i64 ac, .int .i64 ad, .int .i64 ae, .int .i64 af]] (by rfl) rfl rfl (by first | (simp only [List.map_toArray, List.map_cons, List.map_nil]; rfl) | (simp only [List.map_toArray, List.map_nil])) ?_
                with_reducible refine (frustumlaw04_limitedMatrix.calls a0 a1 a2 a3 a4 a5 a6 a7 a8 a9 aa ab ac ad ae af s0 s1 s2 s3 s4 s5 s6 s7 s8 s9 sa sb sc sd se sf _ A4.out).mono ?_
                rintro e V54_ ⟨rfl, hb_⟩
                refine ⟨_, rfl, ?_⟩
                replace hA := Mat.bb hb_ hA
                replace hV := Mat.bb hb_ hV
                replace hS := Mat.bb hb_ hS
                replace hB := below_step hB hb_
                clear hb_
                refine hK.out _ _ (⟨hA, hV⟩) (fun hHeld => ?_)
                clear hK K
                refine norm_ (a' := ?_) ?_ ?_
                rotate_left
                · show Act.put _ (some 9) _ = _
                  simp only [Act.put, Mat.p1, List.set_cons_zero, List.set_cons_succ]
                  rfl
                exact norm_ (by first | (simp only [putAll, Act.put, Mat.p1, List.set_cons_zero, List.set_cons_succ]; done) | (simp only [putAll, Act.put, Mat.p1, List.set_cons_zero, List.set_cons_succ]; rfl)) (hJ0_2_4 gS _ ⟨hA, hV, hS, hB, q51_, q52_, q53_⟩)
              · refine box_step ?hg (N := 5) ?hd (cs := #[.int .i64 0, .int .i64 0, .int .i64 0, .int .i64 0, .int .i64 0, .int .i64 0, .int .i64 0, .int .i64 0, .int .i64 0, .int .i64 0, .int .i64 0, .int .i64 0, .int .i64 0, .int .i64 0, .int .i64 0, .int .i64 0]) (t := 23) ?hr ?_; (case hd => rfl); (case hg => rfl); (case hr => first | (go_simp; done) | (go_simp; rfl))
                intro gE hg_ V55_ hbox_ hb_
                have n56_l : w.heap.size < gE := by rw [hg_]; exact blk_lt hA
                have n56_r : w.heap.size ≠ gE := Nat.ne_of_lt n56_l
                have n57_l : g1 < gE := by rw [hg_]; exact blk_lt hV
                have n57_r : g1 ≠ gE := Nat.ne_of_lt n57_l
                have n58_l : gS < gE := by rw [hg_]; exact blk_lt hS
                have n58_r : gS ≠ gE := Nat.ne_of_lt n58_l
                have le59_ : w.heap.size ≤ gE := by rw [hg_]; exact below_size hB
                replace hA := Mat.bb hb_ hA
                replace hV := Mat.bb hb_ hV
                replace hS := Mat.bb hb_ hS
                replace hB := below_step hB hb_
                have hE := hbox_
                clear hb_ hbox_ hg_
                refine hK.out _ _ (⟨hA, hV⟩) (fun hHeld => ?_)
                clear hK K
                refine norm_ (a' := ?_) ?_ ?_
                rotate_left
                · show Act.put _ (some 5) _ = _
                  simp only [Act.put, Mat.p1, List.set_cons_zero, List.set_cons_succ]
                  rfl
                exact norm_ (by first | (simp only [putAll, Act.put, Mat.p1, List.set_cons_zero, List.set_cons_succ]; done) | (simp only [putAll, Act.put, Mat.p1, List.set_cons_zero, List.set_cons_succ]; rfl)) (hJ0_3_4 (gE, gS) _ ⟨hA, hV, hE, hS, hB, n56_r, n57_r, le59_, q51_, q52_, q53_, (Ne.symm n58_r)⟩)
            rintro gE V60_ ⟨f0_, f1_, f2_, f3_, f4_, f5_, f6_⟩
            replace hA : V60_.heap[w.heap.size]? = some (.cells #[.int .i64 a0, .int .i64 a1, .int .i64 a2, .int .i64 a3, .int .i64 a4, .int .i64 a5, .int .i64 a6, .int .i64 a7, .int .i64 a8, .int .i64 a9, .int .i64 aa, .int .i64 ab, .int .i64 ac, .int .i64 ad, .int .i64 ae, .int .i64 af] 23 (0, 0)) := f0_
            replace hV : V60_.heap[g1]? = some (.cells #[.int .i64 x, .int .i64 y, .int .i64 z, .int .i64 v] 29 (0, 0)) := f1_
            have hE : V60_.heap[gE]? = some (.cells #[.int .i64 0, .int .i64 0, .int .i64 0, .int .i64 0, .int .i64 0, .int .i64 0, .int .i64 0, .int .i64 0, .int .i64 0, .int .i64 0, .int .i64 0, .int .i64 0, .int .i64 0, .int .i64 0, .int .i64 0, .int .i64 0] 23 (0, 0)) := f2_
            replace hB : Below w.heap.size w V60_ := f3_
            have q61_ : w.heap.size ≠ gE := f4_
            have q62_ : g1 ≠ gE := f5_
            have q63_ : w.heap.size ≤ gE := f6_
            clear f0_ f1_ f2_ f3_ f4_ f5_ f6_
            clear hHeld
            have hHeld : V60_.heap[w.heap.size]? = some (.cells #[.int .i64 a0, .int .i64 a1, .int .i64 a2, .int .i64 a3, .int .i64 a4, .int .i64 a5, .int .i64 a6, .int .i64 a7, .int .i64 a8, .int .i64 a9, .int .i64 aa, .int .i64 ab, .int .i64 ac, .int .i64 ad, .int .i64 ae, .int .i64 af] 23 (0, 0)) ∧ V60_.heap[g1]? = some (.cells #[.int .i64 x, .int .i64 y, .int .i64 z, .int .i64 v] 29 (0, 0)) := ⟨hA, hV⟩
            refine norm_ (a' := ?_) ?_ ?_
            rotate_left
            · simp only [putAll, Act.put, Mat.p1, List.set_cons_zero, List.set_cons_succ]
              rfl
            refine two_ (i := 2) (j := 4) (Ni := some 9) (Nj := some 6) #[true, true, true, true, false, false, false] #[true, true, false, true, true, false, false] rfl rfl rfl rfl (two_of HT_.out (by kernel_rfl)) (by decide) (by decide) (fun K hK => ?_) (fun K hK => ?_)
            · refine goes_ Try.func28 (by kernel_rfl) rfl #[.agg #[.int .i64 a0, .int .i64 a1, .int .i64 a2, .int .i64 a3, .int .i64 a4, .int .i64 a5, .int .i64 a6, .int .i64 a7, .int .i64 a8, .int .i64 a9, .int .i64 aa, .int .i64 ab, .int .i64 ac, .int .i64 ad, .int .i64 ae, .int .i64 af]] (by rfl) rfl rfl (by first | (simp only [List.map_toArray, List.map_cons, List.map_nil]; rfl) | (simp only [List.map_toArray, List.map_nil])) ?_
              with_reducible refine (frustumlaw04_limitedMatrix.calls a0 a1 a2 a3 a4 a5 a6 a7 a8 a9 aa ab ac ad ae af s0 s1 s2 s3 s4 s5 s6 s7 s8 s9 sa sb sc sd se sf _ A4.out).mono ?_
              rintro e V64_ ⟨rfl, hb_⟩
              refine ⟨_, rfl, ?_⟩
              replace hA := Mat.bb hb_ hA
              replace hV := Mat.bb hb_ hV
              replace hE := Mat.bb hb_ hE
              replace hB := below_step hB hb_
              clear hb_
              refine hK.out _ _ (⟨hA, hV⟩) (fun hHeld => ?_)
              clear hK K
              refine norm_ (a' := ?_) ?_ ?_
              rotate_left
              · show Act.put _ (some 9) _ = _
                simp only [Act.put, Mat.p1, List.set_cons_zero, List.set_cons_succ]
                rfl
              exact norm_ (by first | (simp only [putAll, Act.put, Mat.p1, List.set_cons_zero, List.set_cons_succ]; done) | (simp only [putAll, Act.put, Mat.p1, List.set_cons_zero, List.set_cons_succ]; rfl)) (hJ0_2_3 gE _ ⟨hA, hV, hE, hB, q61_, q62_, q63_⟩)
            · refine box_step ?hg (N := 6) ?hd (cs := #[.int .i64 0, .int .i64 0, .int .i64 0, .int .i64 0, .int .i64 0, .int .i64 0, .int .i64 0, .int .i64 0, .int .i64 0, .int .i64 0, .int .i64 0, .int .i64 0, .int .i64 0, .int .i64 0, .int .i64 0, .int .i64 0]) (t := 23) ?hr ?_; (case hd => rfl); (case hg => rfl); (case hr => first | (go_simp; done) | (go_simp; rfl))
              intro gS hg_ V65_ hbox_ hb_
              have n66_l : w.heap.size < gS := by rw [hg_]; exact blk_lt hA
              have n66_r : w.heap.size ≠ gS := Nat.ne_of_lt n66_l
              have n67_l : g1 < gS := by rw [hg_]; exact blk_lt hV
              have n67_r : g1 ≠ gS := Nat.ne_of_lt n67_l
              have n68_l : gE < gS := by rw [hg_]; exact blk_lt hE
              have n68_r : gE ≠ gS := Nat.ne_of_lt n68_l
              have le69_ : w.heap.size ≤ gS := by rw [hg_]; exact below_size hB
              replace hA := Mat.bb hb_ hA
              replace hV := Mat.bb hb_ hV
              replace hE := Mat.bb hb_ hE
              replace hB := below_step hB hb_
              have hS := hbox_
              clear hb_ hbox_ hg_
              refine hK.out _ _ (⟨hA, hV⟩) (fun hHeld => ?_)
              clear hK K
              refine norm_ (a' := ?_) ?_ ?_
              rotate_left
              · show Act.put _ (some 6) _ = _
                simp only [Act.put, Mat.p1, List.set_cons_zero, List.set_cons_succ]
                rfl
              exact norm_ (by first | (simp only [putAll, Act.put, Mat.p1, List.set_cons_zero, List.set_cons_succ]; done) | (simp only [putAll, Act.put, Mat.p1, List.set_cons_zero, List.set_cons_succ]; rfl)) (hJ0_3_4 (gE, gS) _ ⟨hA, hV, hE, hS, hB, q61_, q62_, q63_, n66_r, n67_r, le69_, n68_r⟩)
          rintro s_ V70_ ⟨f0_, f1_, f2_⟩
          replace hA : V70_.heap[w.heap.size]? = some (.cells #[.int .i64 a0, .int .i64 a1, .int .i64 a2, .int .i64 a3, .int .i64 a4, .int .i64 a5, .int .i64 a6, .int .i64 a7, .int .i64 a8, .int .i64 a9, .int .i64 aa, .int .i64 ab, .int .i64 ac, .int .i64 ad, .int .i64 ae, .int .i64 af] 23 (0, 0)) := f0_
          replace hV : V70_.heap[g1]? = some (.cells #[.int .i64 x, .int .i64 y, .int .i64 z, .int .i64 v] 29 (0, 0)) := f1_
          replace hB : Below w.heap.size w V70_ := f2_
          clear f0_ f1_ f2_
          clear hHeld
          have hHeld : V70_.heap[w.heap.size]? = some (.cells #[.int .i64 a0, .int .i64 a1, .int .i64 a2, .int .i64 a3, .int .i64 a4, .int .i64 a5, .int .i64 a6, .int .i64 a7, .int .i64 a8, .int .i64 a9, .int .i64 aa, .int .i64 ab, .int .i64 ac, .int .i64 ad, .int .i64 ae, .int .i64 af] 23 (0, 0)) ∧ V70_.heap[g1]? = some (.cells #[.int .i64 x, .int .i64 y, .int .i64 z, .int .i64 v] 29 (0, 0)) := ⟨hA, hV⟩
          refine norm_ (a' := ?_) ?_ ?_
          rotate_left
          · simp only [putAll, Act.put, Mat.p1, List.set_cons_zero, List.set_cons_succ]
            rfl
          refine two_ (i := 3) (j := 4) (Ni := some 5) (Nj := some 6) #[true, true, true, true, false, false, false] #[true, true, true, false, true, false, false] rfl rfl rfl rfl (two_of HT_.out (by kernel_rfl)) (by decide) (by decide) (fun K hK => ?_) (fun K hK => ?_)
          · refine box_step ?hg (N := 5) ?hd (cs := #[.int .i64 0, .int .i64 0, .int .i64 0, .int .i64 0, .int .i64 0, .int .i64 0, .int .i64 0, .int .i64 0, .int .i64 0, .int .i64 0, .int .i64 0, .int .i64 0, .int .i64 0, .int .i64 0, .int .i64 0, .int .i64 0]) (t := 23) ?hr ?_; (case hd => rfl); (case hg => rfl); (case hr => first | (go_simp; done) | (go_simp; rfl))
            intro gE hg_ V71_ hbox_ hb_
            have n72_l : w.heap.size < gE := by rw [hg_]; exact blk_lt hA
            have n72_r : w.heap.size ≠ gE := Nat.ne_of_lt n72_l
            have n73_l : g1 < gE := by rw [hg_]; exact blk_lt hV
            have n73_r : g1 ≠ gE := Nat.ne_of_lt n73_l
            have le74_ : w.heap.size ≤ gE := by rw [hg_]; exact below_size hB
            replace hA := Mat.bb hb_ hA
            replace hV := Mat.bb hb_ hV
            replace hB := below_step hB hb_
            have hE := hbox_
            clear hb_ hbox_ hg_
            refine hK.out _ _ (⟨hA, hV⟩) (fun hHeld => ?_)
            clear hK K
            refine norm_ (a' := ?_) ?_ ?_
            rotate_left
            · show Act.put _ (some 5) _ = _
              simp only [Act.put, Mat.p1, List.set_cons_zero, List.set_cons_succ]
              rfl
            exact norm_ (by first | (simp only [putAll, Act.put, Mat.p1, List.set_cons_zero, List.set_cons_succ]; done) | (simp only [putAll, Act.put, Mat.p1, List.set_cons_zero, List.set_cons_succ]; rfl)) (hJ0_2_3 gE _ ⟨hA, hV, hE, hB, n72_r, n73_r, le74_⟩)
          · refine box_step ?hg (N := 6) ?hd (cs := #[.int .i64 0, .int .i64 0, .int .i64 0, .int .i64 0, .int .i64 0, .int .i64 0, .int .i64 0, .int .i64 0, .int .i64 0, .int .i64 0, .int .i64 0, .int .i64 0, .int .i64 0, .int .i64 0, .int .i64 0, .int .i64 0]) (t := 23) ?hr ?_; (case hd => rfl); (case hg => rfl); (case hr => first | (go_simp; done) | (go_simp; rfl))
            intro gS hg_ V75_ hbox_ hb_
            have n76_l : w.heap.size < gS := by rw [hg_]; exact blk_lt hA
            have n76_r : w.heap.size ≠ gS := Nat.ne_of_lt n76_l
            have n77_l : g1 < gS := by rw [hg_]; exact blk_lt hV
            have n77_r : g1 ≠ gS := Nat.ne_of_lt n77_l
            have le78_ : w.heap.size ≤ gS := by rw [hg_]; exact below_size hB
            replace hA := Mat.bb hb_ hA
            replace hV := Mat.bb hb_ hV
            replace hB := below_step hB hb_
            have hS := hbox_
            clear hb_ hbox_ hg_
            refine hK.out _ _ (⟨hA, hV⟩) (fun hHeld => ?_)
            clear hK K
            refine norm_ (a' := ?_) ?_ ?_
            rotate_left
            · show Act.put _ (some 6) _ = _
              simp only [Act.put, Mat.p1, List.set_cons_zero, List.set_cons_succ]
              rfl
            exact norm_ (by first | (simp only [putAll, Act.put, Mat.p1, List.set_cons_zero, List.set_cons_succ]; done) | (simp only [putAll, Act.put, Mat.p1, List.set_cons_zero, List.set_cons_succ]; rfl)) (hJ0_2_4 gS _ ⟨hA, hV, hS, hB, n76_r, n77_r, le78_⟩)
        rintro ⟨gE, gS⟩ V79_ ⟨f0_, f1_, f2_, f3_, f4_, f5_, f6_, f7_, f8_, f9_, f10_, f11_⟩
        replace hA : V79_.heap[w.heap.size]? = some (.cells #[.int .i64 a0, .int .i64 a1, .int .i64 a2, .int .i64 a3, .int .i64 a4, .int .i64 a5, .int .i64 a6, .int .i64 a7, .int .i64 a8, .int .i64 a9, .int .i64 aa, .int .i64 ab, .int .i64 ac, .int .i64 ad, .int .i64 ae, .int .i64 af] 23 (0, 0)) := f0_
        replace hV : V79_.heap[g1]? = some (.cells #[.int .i64 x, .int .i64 y, .int .i64 z, .int .i64 v] 29 (0, 0)) := f1_
        have hE : V79_.heap[gE]? = some (.cells #[.int .i64 0, .int .i64 0, .int .i64 0, .int .i64 0, .int .i64 0, .int .i64 0, .int .i64 0, .int .i64 0, .int .i64 0, .int .i64 0, .int .i64 0, .int .i64 0, .int .i64 0, .int .i64 0, .int .i64 0, .int .i64 0] 23 (0, 0)) := f2_
        have hS : V79_.heap[gS]? = some (.cells #[.int .i64 0, .int .i64 0, .int .i64 0, .int .i64 0, .int .i64 0, .int .i64 0, .int .i64 0, .int .i64 0, .int .i64 0, .int .i64 0, .int .i64 0, .int .i64 0, .int .i64 0, .int .i64 0, .int .i64 0, .int .i64 0] 23 (0, 0)) := f3_
        replace hB : Below w.heap.size w V79_ := f4_
        have q80_ : w.heap.size ≠ gE := f5_
        have q81_ : g1 ≠ gE := f6_
        have q82_ : w.heap.size ≤ gE := f7_
        have q83_ : w.heap.size ≠ gS := f8_
        have q84_ : g1 ≠ gS := f9_
        have q85_ : w.heap.size ≤ gS := f10_
        have q86_ : gE ≠ gS := f11_
        clear f0_ f1_ f2_ f3_ f4_ f5_ f6_ f7_ f8_ f9_ f10_ f11_
        clear hHeld
        have hHeld : V79_.heap[w.heap.size]? = some (.cells #[.int .i64 a0, .int .i64 a1, .int .i64 a2, .int .i64 a3, .int .i64 a4, .int .i64 a5, .int .i64 a6, .int .i64 a7, .int .i64 a8, .int .i64 a9, .int .i64 aa, .int .i64 ab, .int .i64 ac, .int .i64 ad, .int .i64 ae, .int .i64 af] 23 (0, 0)) ∧ V79_.heap[g1]? = some (.cells #[.int .i64 x, .int .i64 y, .int .i64 z, .int .i64 v] 29 (0, 0)) := ⟨hA, hV⟩
        refine norm_ (a' := ?_) ?_ ?_
        rotate_left
        · simp only [putAll, Act.put, Mat.p1, List.set_cons_zero, List.set_cons_succ]
          rfl
        refine one_ (i := 2) (N := some 9) #[true, true, true, true, true, false, false] rfl rfl (one_of HT_.out (by kernel_rfl)) (by decide) (fun K hK => ?_)
        · refine goes_ Try.func28 (by kernel_rfl) rfl #[.agg #[.int .i64 a0, .int .i64 a1, .int .i64 a2, .int .i64 a3, .int .i64 a4, .int .i64 a5, .int .i64 a6, .int .i64 a7, .int .i64 a8, .int .i64 a9, .int .i64 aa, .int .i64 ab, .int .i64 ac, .int .i64 ad, .int .i64 ae, .int .i64 af]] (by rfl) rfl rfl (by first | (simp only [List.map_toArray, List.map_cons, List.map_nil]; rfl) | (simp only [List.map_toArray, List.map_nil])) ?_
          with_reducible refine (frustumlaw04_limitedMatrix.calls a0 a1 a2 a3 a4 a5 a6 a7 a8 a9 aa ab ac ad ae af s0 s1 s2 s3 s4 s5 s6 s7 s8 s9 sa sb sc sd se sf _ A4.out).mono ?_
          rintro e V87_ ⟨rfl, hb_⟩
          refine ⟨_, rfl, ?_⟩
          replace hA := Mat.bb hb_ hA
          replace hV := Mat.bb hb_ hV
          replace hE := Mat.bb hb_ hE
          replace hS := Mat.bb hb_ hS
          replace hB := below_step hB hb_
          clear hb_
          refine hK.out _ _ (⟨hA, hV⟩) (fun hHeld => ?_)
          clear hK K
          refine norm_ (a' := ?_) ?_ ?_
          rotate_left
          · show Act.put _ (some 9) _ = _
            simp only [Act.put, Mat.p1, List.set_cons_zero, List.set_cons_succ]
            rfl
          exact norm_ (by first | (simp only [putAll, Act.put, Mat.p1, List.set_cons_zero, List.set_cons_succ]; done) | (simp only [putAll, Act.put, Mat.p1, List.set_cons_zero, List.set_cons_succ]; rfl)) (hJ0_2_3_4 (gE, gS) _ ⟨hA, hV, hE, hS, hB, q80_, q81_, q82_, q83_, q84_, q85_, q86_⟩)
      rintro gS V88_ ⟨f0_, f1_, f2_, f3_, f4_, f5_, f6_⟩
      replace hA : V88_.heap[w.heap.size]? = some (.cells #[.int .i64 a0, .int .i64 a1, .int .i64 a2, .int .i64 a3, .int .i64 a4, .int .i64 a5, .int .i64 a6, .int .i64 a7, .int .i64 a8, .int .i64 a9, .int .i64 aa, .int .i64 ab, .int .i64 ac, .int .i64 ad, .int .i64 ae, .int .i64 af] 23 (0, 0)) := f0_
      replace hV : V88_.heap[g1]? = some (.cells #[.int .i64 x, .int .i64 y, .int .i64 z, .int .i64 v] 29 (0, 0)) := f1_
      have hS : V88_.heap[gS]? = some (.cells #[.int .i64 0, .int .i64 0, .int .i64 0, .int .i64 0, .int .i64 0, .int .i64 0, .int .i64 0, .int .i64 0, .int .i64 0, .int .i64 0, .int .i64 0, .int .i64 0, .int .i64 0, .int .i64 0, .int .i64 0, .int .i64 0] 23 (0, 0)) := f2_
      replace hB : Below w.heap.size w V88_ := f3_
      have q89_ : w.heap.size ≠ gS := f4_
      have q90_ : g1 ≠ gS := f5_
      have q91_ : w.heap.size ≤ gS := f6_
      clear f0_ f1_ f2_ f3_ f4_ f5_ f6_
      clear hHeld
      have hHeld : V88_.heap[w.heap.size]? = some (.cells #[.int .i64 a0, .int .i64 a1, .int .i64 a2, .int .i64 a3, .int .i64 a4, .int .i64 a5, .int .i64 a6, .int .i64 a7, .int .i64 a8, .int .i64 a9, .int .i64 aa, .int .i64 ab, .int .i64 ac, .int .i64 ad, .int .i64 ae, .int .i64 af] 23 (0, 0)) ∧ V88_.heap[g1]? = some (.cells #[.int .i64 x, .int .i64 y, .int .i64 z, .int .i64 v] 29 (0, 0)) := ⟨hA, hV⟩
      refine norm_ (a' := ?_) ?_ ?_
      rotate_left
      · simp only [putAll, Act.put, Mat.p1, List.set_cons_zero, List.set_cons_succ]
        rfl
      refine one_ (i := 3) (N := some 5) #[true, true, true, true, true, false, false] rfl rfl (one_of HT_.out (by kernel_rfl)) (by decide) (fun K hK => ?_)
      · refine box_step ?hg (N := 5) ?hd (cs := #[.int .i64 0, .int .i64 0, .int .i64 0, .int .i64 0, .int .i64 0, .int .i64 0, .int .i64 0, .int .i64 0, .int .i64 0, .int .i64 0, .int .i64 0, .int .i64 0, .int .i64 0, .int .i64 0, .int .i64 0, .int .i64 0]) (t := 23) ?hr ?_; (case hd => rfl); (case hg => rfl); (case hr => first | (go_simp; done) | (go_simp; rfl))
        intro gE hg_ V92_ hbox_ hb_
        have n93_l : w.heap.size < gE := by rw [hg_]; exact blk_lt hA
        have n93_r : w.heap.size ≠ gE := Nat.ne_of_lt n93_l
        have n94_l : g1 < gE := by rw [hg_]; exact blk_lt hV
        have n94_r : g1 ≠ gE := Nat.ne_of_lt n94_l
        have n95_l : gS < gE := by rw [hg_]; exact blk_lt hS
        have n95_r : gS ≠ gE := Nat.ne_of_lt n95_l
        have le96_ : w.heap.size ≤ gE := by rw [hg_]; exact below_size hB
        replace hA := Mat.bb hb_ hA
        replace hV := Mat.bb hb_ hV
        replace hS := Mat.bb hb_ hS
        replace hB := below_step hB hb_
        have hE := hbox_
        clear hb_ hbox_ hg_
        refine hK.out _ _ (⟨hA, hV⟩) (fun hHeld => ?_)
        clear hK K
        refine norm_ (a' := ?_) ?_ ?_
        rotate_left
        · show Act.put _ (some 5) _ = _
          simp only [Act.put, Mat.p1, List.set_cons_zero, List.set_cons_succ]
          rfl
        exact norm_ (by first | (simp only [putAll, Act.put, Mat.p1, List.set_cons_zero, List.set_cons_succ]; done) | (simp only [putAll, Act.put, Mat.p1, List.set_cons_zero, List.set_cons_succ]; rfl)) (hJ0_2_3_4 (gE, gS) _ ⟨hA, hV, hE, hS, hB, n93_r, n94_r, le96_, q89_, q90_, q91_, (Ne.symm n95_r)⟩)
    rintro gE V97_ ⟨f0_, f1_, f2_, f3_, f4_, f5_, f6_⟩
    replace hA : V97_.heap[w.heap.size]? = some (.cells #[.int .i64 a0, .int .i64 a1, .int .i64 a2, .int .i64 a3, .int .i64 a4, .int .i64 a5, .int .i64 a6, .int .i64 a7, .int .i64 a8, .int .i64 a9, .int .i64 aa, .int .i64 ab, .int .i64 ac, .int .i64 ad, .int .i64 ae, .int .i64 af] 23 (0, 0)) := f0_
    replace hV : V97_.heap[g1]? = some (.cells #[.int .i64 x, .int .i64 y, .int .i64 z, .int .i64 v] 29 (0, 0)) := f1_
    have hE : V97_.heap[gE]? = some (.cells #[.int .i64 0, .int .i64 0, .int .i64 0, .int .i64 0, .int .i64 0, .int .i64 0, .int .i64 0, .int .i64 0, .int .i64 0, .int .i64 0, .int .i64 0, .int .i64 0, .int .i64 0, .int .i64 0, .int .i64 0, .int .i64 0] 23 (0, 0)) := f2_
    replace hB : Below w.heap.size w V97_ := f3_
    have q98_ : w.heap.size ≠ gE := f4_
    have q99_ : g1 ≠ gE := f5_
    have q100_ : w.heap.size ≤ gE := f6_
    clear f0_ f1_ f2_ f3_ f4_ f5_ f6_
    clear hHeld
    have hHeld : V97_.heap[w.heap.size]? = some (.cells #[.int .i64 a0, .int .i64 a1, .int .i64 a2, .int .i64 a3, .int .i64 a4, .int .i64 a5, .int .i64 a6, .int .i64 a7, .int .i64 a8, .int .i64 a9, .int .i64 aa, .int .i64 ab, .int .i64 ac, .int .i64 ad, .int .i64 ae, .int .i64 af] 23 (0, 0)) ∧ V97_.heap[g1]? = some (.cells #[.int .i64 x, .int .i64 y, .int .i64 z, .int .i64 v] 29 (0, 0)) := ⟨hA, hV⟩
    refine norm_ (a' := ?_) ?_ ?_
    rotate_left
    · simp only [putAll, Act.put, Mat.p1, List.set_cons_zero, List.set_cons_succ]
      rfl
    refine one_ (i := 4) (N := some 6) #[true, true, true, true, true, false, false] rfl rfl (one_of HT_.out (by kernel_rfl)) (by decide) (fun K hK => ?_)
    · refine box_step ?hg (N := 6) ?hd (cs := #[.int .i64 0, .int .i64 0, .int .i64 0, .int .i64 0, .int .i64 0, .int .i64 0, .int .i64 0, .int .i64 0, .int .i64 0, .int .i64 0, .int .i64 0, .int .i64 0, .int .i64 0, .int .i64 0, .int .i64 0, .int .i64 0]) (t := 23) ?hr ?_; (case hd => rfl); (case hg => rfl); (case hr => first | (go_simp; done) | (go_simp; rfl))
      intro gS hg_ V101_ hbox_ hb_
      have n102_l : w.heap.size < gS := by rw [hg_]; exact blk_lt hA
      have n102_r : w.heap.size ≠ gS := Nat.ne_of_lt n102_l
      have n103_l : g1 < gS := by rw [hg_]; exact blk_lt hV
      have n103_r : g1 ≠ gS := Nat.ne_of_lt n103_l
      have n104_l : gE < gS := by rw [hg_]; exact blk_lt hE
      have n104_r : gE ≠ gS := Nat.ne_of_lt n104_l
      have le105_ : w.heap.size ≤ gS := by rw [hg_]; exact below_size hB
      replace hA := Mat.bb hb_ hA
      replace hV := Mat.bb hb_ hV
      replace hE := Mat.bb hb_ hE
      replace hB := below_step hB hb_
      have hS := hbox_
      clear hb_ hbox_ hg_
      refine hK.out _ _ (⟨hA, hV⟩) (fun hHeld => ?_)
      clear hK K
      refine norm_ (a' := ?_) ?_ ?_
      rotate_left
      · show Act.put _ (some 6) _ = _
        simp only [Act.put, Mat.p1, List.set_cons_zero, List.set_cons_succ]
        rfl
      exact norm_ (by first | (simp only [putAll, Act.put, Mat.p1, List.set_cons_zero, List.set_cons_succ]; done) | (simp only [putAll, Act.put, Mat.p1, List.set_cons_zero, List.set_cons_succ]; rfl)) (hJ0_2_3_4 (gE, gS) _ ⟨hA, hV, hE, hS, hB, q98_, q99_, q100_, n102_r, n103_r, le105_, n104_r⟩)
  rintro ⟨gE, gS⟩ V106_ ⟨f0_, f1_, f2_, f3_, f4_, f5_, f6_, f7_, f8_, f9_, f10_, f11_⟩
  replace hA : V106_.heap[w.heap.size]? = some (.cells #[.int .i64 a0, .int .i64 a1, .int .i64 a2, .int .i64 a3, .int .i64 a4, .int .i64 a5, .int .i64 a6, .int .i64 a7, .int .i64 a8, .int .i64 a9, .int .i64 aa, .int .i64 ab, .int .i64 ac, .int .i64 ad, .int .i64 ae, .int .i64 af] 23 (0, 0)) := f0_
  replace hV : V106_.heap[g1]? = some (.cells #[.int .i64 x, .int .i64 y, .int .i64 z, .int .i64 v] 29 (0, 0)) := f1_
  have hE : V106_.heap[gE]? = some (.cells #[.int .i64 0, .int .i64 0, .int .i64 0, .int .i64 0, .int .i64 0, .int .i64 0, .int .i64 0, .int .i64 0, .int .i64 0, .int .i64 0, .int .i64 0, .int .i64 0, .int .i64 0, .int .i64 0, .int .i64 0, .int .i64 0] 23 (0, 0)) := f2_
  have hS : V106_.heap[gS]? = some (.cells #[.int .i64 0, .int .i64 0, .int .i64 0, .int .i64 0, .int .i64 0, .int .i64 0, .int .i64 0, .int .i64 0, .int .i64 0, .int .i64 0, .int .i64 0, .int .i64 0, .int .i64 0, .int .i64 0, .int .i64 0, .int .i64 0] 23 (0, 0)) := f3_
  replace hB : Below w.heap.size w V106_ := f4_
  have q107_ : w.heap.size ≠ gE := f5_
  have q108_ : g1 ≠ gE := f6_
  have q109_ : w.heap.size ≤ gE := f7_
  have q110_ : w.heap.size ≠ gS := f8_
  have q111_ : g1 ≠ gS := f9_
  have q112_ : w.heap.size ≤ gS := f10_
  have q113_ : gE ≠ gS := f11_
  clear f0_ f1_ f2_ f3_ f4_ f5_ f6_ f7_ f8_ f9_ f10_ f11_
  clear hHeld
  have hHeld : V106_.heap[w.heap.size]? = some (.cells #[.int .i64 a0, .int .i64 a1, .int .i64 a2, .int .i64 a3, .int .i64 a4, .int .i64 a5, .int .i64 a6, .int .i64 a7, .int .i64 a8, .int .i64 a9, .int .i64 aa, .int .i64 ab, .int .i64 ac, .int .i64 ad, .int .i64 ae, .int .i64 af] 23 (0, 0)) ∧ V106_.heap[g1]? = some (.cells #[.int .i64 x, .int .i64 y, .int .i64 z, .int .i64 v] 29 (0, 0)) := ⟨hA, hV⟩
  refine norm_ (a' := ?_) ?_ ?_
  rotate_left
  · simp only [putAll, Act.put, Mat.p1, List.set_cons_zero, List.set_cons_succ]
    rfl
  refine one_ (i := 5) (N := none) #[true, true, true, true, true, true, false] rfl rfl (one_of HT_.out (by kernel_rfl)) (by decide) (fun K hK => ?_)
  refine skip_ (w1 := V106_.setCells gE 0 (#[.int .i64 e0, .int .i64 e1, .int .i64 e2, .int .i64 e3, .int .i64 e4, .int .i64 e5, .int .i64 e6, .int .i64 e7, .int .i64 e8, .int .i64 e9, .int .i64 ea, .int .i64 eb, .int .i64 ec, .int .i64 ed, .int .i64 ee, .int .i64 ef] : Array Value).toList) (by rfl) rfl (Mat.run_store 23 5 7 gE #[.int .i64 e0, .int .i64 e1, .int .i64 e2, .int .i64 e3, .int .i64 e4, .int .i64 e5, .int .i64 e6, .int .i64 e7, .int .i64 e8, .int .i64 e9, .int .i64 ea, .int .i64 eb, .int .i64 ec, .int .i64 ed, .int .i64 ee, .int .i64 ef] #[.int .i64 0, .int .i64 0, .int .i64 0, .int .i64 0, .int .i64 0, .int .i64 0, .int .i64 0, .int .i64 0, .int .i64 0, .int .i64 0, .int .i64 0, .int .i64 0, .int .i64 0, .int .i64 0, .int .i64 0, .int .i64 0] rfl (by rfl) (by rfl) hE rfl (by kernel_rfl) (by kernel_rfl)) ?_
  replace hA := Mat.far_stored (g := gE) q107_ (#[.int .i64 e0, .int .i64 e1, .int .i64 e2, .int .i64 e3, .int .i64 e4, .int .i64 e5, .int .i64 e6, .int .i64 e7, .int .i64 e8, .int .i64 e9, .int .i64 ea, .int .i64 eb, .int .i64 ec, .int .i64 ed, .int .i64 ee, .int .i64 ef] : Array Value).toList 0 _ hA
  replace hV := Mat.far_stored (g := gE) q108_ (#[.int .i64 e0, .int .i64 e1, .int .i64 e2, .int .i64 e3, .int .i64 e4, .int .i64 e5, .int .i64 e6, .int .i64 e7, .int .i64 e8, .int .i64 e9, .int .i64 ea, .int .i64 eb, .int .i64 ec, .int .i64 ed, .int .i64 ee, .int .i64 ef] : Array Value).toList 0 _ hV
  replace hS := Mat.far_stored (g := gE) (Ne.symm q113_) (#[.int .i64 e0, .int .i64 e1, .int .i64 e2, .int .i64 e3, .int .i64 e4, .int .i64 e5, .int .i64 e6, .int .i64 e7, .int .i64 e8, .int .i64 e9, .int .i64 ea, .int .i64 eb, .int .i64 ec, .int .i64 ed, .int .i64 ee, .int .i64 ef] : Array Value).toList 0 _ hS
  replace hB := Mat.below_stored (g := gE) q109_ (#[.int .i64 e0, .int .i64 e1, .int .i64 e2, .int .i64 e3, .int .i64 e4, .int .i64 e5, .int .i64 e6, .int .i64 e7, .int .i64 e8, .int .i64 e9, .int .i64 ea, .int .i64 eb, .int .i64 ec, .int .i64 ed, .int .i64 ee, .int .i64 ef] : Array Value).toList 0 _ hB
  replace hE := Mat.blk_stored (cs := #[.int .i64 e0, .int .i64 e1, .int .i64 e2, .int .i64 e3, .int .i64 e4, .int .i64 e5, .int .i64 e6, .int .i64 e7, .int .i64 e8, .int .i64 e9, .int .i64 ea, .int .i64 eb, .int .i64 ec, .int .i64 ed, .int .i64 ee, .int .i64 ef]) hE rfl
  generalize V106_.setCells gE 0 (#[.int .i64 e0, .int .i64 e1, .int .i64 e2, .int .i64 e3, .int .i64 e4, .int .i64 e5, .int .i64 e6, .int .i64 e7, .int .i64 e8, .int .i64 e9, .int .i64 ea, .int .i64 eb, .int .i64 ec, .int .i64 ed, .int .i64 ee, .int .i64 ef] : Array Value).toList = V114_ at hA hV hE hS hB ⊢
  refine hK.out _ _ (⟨hA, hV⟩) (fun hHeld => ?_)
  clear hK K
  refine one_ (i := 6) (N := none) #[true, true, true, true, true, true, true] rfl rfl (one_of HT_.out (by kernel_rfl)) (by decide) (fun K hK => ?_)
  refine skip_ (w1 := V114_.setCells gS 0 (#[.int .i64 s0, .int .i64 s1, .int .i64 s2, .int .i64 s3, .int .i64 s4, .int .i64 s5, .int .i64 s6, .int .i64 s7, .int .i64 s8, .int .i64 s9, .int .i64 sa, .int .i64 sb, .int .i64 sc, .int .i64 sd, .int .i64 se, .int .i64 sf] : Array Value).toList) (by rfl) rfl (Mat.run_store 23 6 9 gS #[.int .i64 s0, .int .i64 s1, .int .i64 s2, .int .i64 s3, .int .i64 s4, .int .i64 s5, .int .i64 s6, .int .i64 s7, .int .i64 s8, .int .i64 s9, .int .i64 sa, .int .i64 sb, .int .i64 sc, .int .i64 sd, .int .i64 se, .int .i64 sf] #[.int .i64 0, .int .i64 0, .int .i64 0, .int .i64 0, .int .i64 0, .int .i64 0, .int .i64 0, .int .i64 0, .int .i64 0, .int .i64 0, .int .i64 0, .int .i64 0, .int .i64 0, .int .i64 0, .int .i64 0, .int .i64 0] rfl (by rfl) (by rfl) hS rfl (by kernel_rfl) (by kernel_rfl)) ?_
  replace hA := Mat.far_stored (g := gS) q110_ (#[.int .i64 s0, .int .i64 s1, .int .i64 s2, .int .i64 s3, .int .i64 s4, .int .i64 s5, .int .i64 s6, .int .i64 s7, .int .i64 s8, .int .i64 s9, .int .i64 sa, .int .i64 sb, .int .i64 sc, .int .i64 sd, .int .i64 se, .int .i64 sf] : Array Value).toList 0 _ hA
  replace hV := Mat.far_stored (g := gS) q111_ (#[.int .i64 s0, .int .i64 s1, .int .i64 s2, .int .i64 s3, .int .i64 s4, .int .i64 s5, .int .i64 s6, .int .i64 s7, .int .i64 s8, .int .i64 s9, .int .i64 sa, .int .i64 sb, .int .i64 sc, .int .i64 sd, .int .i64 se, .int .i64 sf] : Array Value).toList 0 _ hV
  replace hE := Mat.far_stored (g := gS) q113_ (#[.int .i64 s0, .int .i64 s1, .int .i64 s2, .int .i64 s3, .int .i64 s4, .int .i64 s5, .int .i64 s6, .int .i64 s7, .int .i64 s8, .int .i64 s9, .int .i64 sa, .int .i64 sb, .int .i64 sc, .int .i64 sd, .int .i64 se, .int .i64 sf] : Array Value).toList 0 _ hE
  replace hB := Mat.below_stored (g := gS) q112_ (#[.int .i64 s0, .int .i64 s1, .int .i64 s2, .int .i64 s3, .int .i64 s4, .int .i64 s5, .int .i64 s6, .int .i64 s7, .int .i64 s8, .int .i64 s9, .int .i64 sa, .int .i64 sb, .int .i64 sc, .int .i64 sd, .int .i64 se, .int .i64 sf] : Array Value).toList 0 _ hB
  replace hS := Mat.blk_stored (cs := #[.int .i64 s0, .int .i64 s1, .int .i64 s2, .int .i64 s3, .int .i64 s4, .int .i64 s5, .int .i64 s6, .int .i64 s7, .int .i64 s8, .int .i64 s9, .int .i64 sa, .int .i64 sb, .int .i64 sc, .int .i64 sd, .int .i64 se, .int .i64 sf]) hS rfl
  generalize V114_.setCells gS 0 (#[.int .i64 s0, .int .i64 s1, .int .i64 s2, .int .i64 s3, .int .i64 s4, .int .i64 s5, .int .i64 s6, .int .i64 s7, .int .i64 s8, .int .i64 s9, .int .i64 sa, .int .i64 sb, .int .i64 sc, .int .i64 sd, .int .i64 se, .int .i64 sf] : Array Value).toList = V115_ at hA hV hE hS hB ⊢
  refine hK.out _ _ (⟨hA, hV⟩) (fun hHeld => ?_)
  clear hK K
  refine done_ (done_of HT_.out (by kernel_rfl)) ?_
  clear HT_ hHeld
  go_upto_region 2 with (fail)
  refine Mat.gen_ (Pr := fun W => W.heap[w.heap.size]? = some (.cells #[.int .i64 a0, .int .i64 a1, .int .i64 a2, .int .i64 a3, .int .i64 a4, .int .i64 a5, .int .i64 a6, .int .i64 a7, .int .i64 a8, .int .i64 a9, .int .i64 aa, .int .i64 ab, .int .i64 ac, .int .i64 ad, .int .i64 ae, .int .i64 af] 23 (0, 0)) ∧ W.heap[g1]? = some (.cells #[.int .i64 x, .int .i64 y, .int .i64 z, .int .i64 v] 29 (0, 0)) ∧ W.heap[gE]? = some (.cells #[.int .i64 e0, .int .i64 e1, .int .i64 e2, .int .i64 e3, .int .i64 e4, .int .i64 e5, .int .i64 e6, .int .i64 e7, .int .i64 e8, .int .i64 e9, .int .i64 ea, .int .i64 eb, .int .i64 ec, .int .i64 ed, .int .i64 ee, .int .i64 ef] 23 (0, 0)) ∧ W.heap[gS]? = some (.cells #[.int .i64 s0, .int .i64 s1, .int .i64 s2, .int .i64 s3, .int .i64 s4, .int .i64 s5, .int .i64 s6, .int .i64 s7, .int .i64 s8, .int .i64 s9, .int .i64 sa, .int .i64 sb, .int .i64 sc, .int .i64 sd, .int .i64 se, .int .i64 sf] 23 (0, 0)) ∧ Below w.heap.size w W) (G := fun W => Code.wp Try.prog _ _ _ W) ⟨hA, hV, hE, hS, hB⟩ ?_
  clear hA hV hE hS hB
  rintro U0 ⟨hA, hV, hE, hS, hB⟩
  as_aux_lemma =>
  replace hA := blk_drew hA
  replace hV := blk_drew hV
  replace hE := blk_drew hE
  replace hS := blk_drew hS
  replace hB := below_drew1 hB
  refine start_ (n := 34) (S := fun w' => w'.heap[w.heap.size]? = some (.cells #[.int .i64 a0, .int .i64 a1, .int .i64 a2, .int .i64 a3, .int .i64 a4, .int .i64 a5, .int .i64 a6, .int .i64 a7, .int .i64 a8, .int .i64 a9, .int .i64 aa, .int .i64 ab, .int .i64 ac, .int .i64 ad, .int .i64 ae, .int .i64 af] 23 (0, 0)) ∧ w'.heap[g1]? = some (.cells #[.int .i64 x, .int .i64 y, .int .i64 z, .int .i64 v] 29 (0, 0)) ∧ w'.heap[gE]? = some (.cells #[.int .i64 e0, .int .i64 e1, .int .i64 e2, .int .i64 e3, .int .i64 e4, .int .i64 e5, .int .i64 e6, .int .i64 e7, .int .i64 e8, .int .i64 e9, .int .i64 ea, .int .i64 eb, .int .i64 ec, .int .i64 ed, .int .i64 ee, .int .i64 ef] 23 (0, 0)) ∧ w'.heap[gS]? = some (.cells #[.int .i64 s0, .int .i64 s1, .int .i64 s2, .int .i64 s3, .int .i64 s4, .int .i64 s5, .int .i64 s6, .int .i64 s7, .int .i64 s8, .int .i64 s9, .int .i64 sa, .int .i64 sb, .int .i64 sc, .int .i64 sd, .int .i64 se, .int .i64 sf] 23 (0, 0))) (ds := []) #[false, false, false, false, false, false, false, false, false, false, false, false, false, false, false, false, false, false, false, false, false, false, false, false, false, false, false, false, false, false, false, false, false, false] (by kernel_rfl) rfl rfl ⟨hA, hV, hE, hS⟩ (fun hHeld => ?_); refine with_tab MatrixIdentity.tab2 (fun HT_ => ?_)
  generalize U0.drew = V0 at hA hV hE hS hB hHeld ⊢
  refine take_ (i := 0) (N := some 10) (v := .agg #[.int .i64 e0, .int .i64 e1, .int .i64 e2, .int .i64 e3, .int .i64 e4, .int .i64 e5, .int .i64 e6, .int .i64 e7, .int .i64 e8, .int .i64 e9, .int .i64 ea, .int .i64 eb, .int .i64 ec, .int .i64 ed, .int .i64 ee, .int .i64 ef]) (a' := ?_) #[true, false, false, false, false, false, false, false, false, false, false, false, false, false, false, false, false, false, false, false, false, false, false, false, false, false, false, false, false, false, false, false, false, false] rfl rfl (take_of HT_.out (by kernel_rfl)) (fun _ _ _ h => h) (yieldsIf_load_mid (by rfl) 23 (.tmp 5) rfl (gE) 0 (by rfl) #[.int .i64 e0, .int .i64 e1, .int .i64 e2, .int .i64 e3, .int .i64 e4, .int .i64 e5, .int .i64 e6, .int .i64 e7, .int .i64 e8, .int .i64 e9, .int .i64 ea, .int .i64 eb, .int .i64 ec, .int .i64 ed, .int .i64 ee, .int .i64 ef].toList _ (fun _ h => Mat.range_blk h.2.2.1) hu23 rfl (by kernel_rfl)) hHeld ?_ ?_
  rotate_left
  · simp only [Act.put, Mat.p1, List.set_cons_zero, List.set_cons_succ]
    rfl
  refine take_ (i := 1) (N := some 11) (v := .agg #[.int .i64 x, .int .i64 y, .int .i64 z, .int .i64 v]) (a' := ?_) #[true, true, false, false, false, false, false, false, false, false, false, false, false, false, false, false, false, false, false, false, false, false, false, false, false, false, false, false, false, false, false, false, false, false] rfl rfl (take_of HT_.out (by kernel_rfl)) (fun _ _ _ h => h) (yieldsIf_load_mid (by rfl) 29 (.tmp 3) rfl (g1) 0 (by rfl) #[.int .i64 x, .int .i64 y, .int .i64 z, .int .i64 v].toList _ (fun _ h => Mat.range_blk h.2.1) hu29 rfl (by kernel_rfl)) hHeld ?_ ?_
  rotate_left
  · simp only [Act.put, Mat.p1, List.set_cons_zero, List.set_cons_succ]
    rfl
  refine take_ (i := 3) (N := some 13) (v := .agg #[.int .i64 x, .int .i64 y, .int .i64 z, .int .i64 v]) (a' := ?_) #[true, true, false, true, false, false, false, false, false, false, false, false, false, false, false, false, false, false, false, false, false, false, false, false, false, false, false, false, false, false, false, false, false, false] rfl rfl (take_of HT_.out (by kernel_rfl)) (fun _ _ _ h => h) (yieldsIf_load_mid (by rfl) 29 (.tmp 3) rfl (g1) 0 (by rfl) #[.int .i64 x, .int .i64 y, .int .i64 z, .int .i64 v].toList _ (fun _ h => Mat.range_blk h.2.1) hu29 rfl (by kernel_rfl)) hHeld ?_ ?_
  rotate_left
  · simp only [Act.put, Mat.p1, List.set_cons_zero, List.set_cons_succ]
    rfl
  refine one_ (i := 2) (N := some 12) #[true, true, true, true, false, false, false, false, false, false, false, false, false, false, false, false, false, false, false, false, false, false, false, false, false, false, false, false, false, false, false, false, false, false] rfl rfl (one_of HT_.out (by kernel_rfl)) (by decide) (fun K hK => ?_)
  refine goes_ Try.func18 (by kernel_rfl) rfl #[.agg #[.int .i64 e0, .int .i64 e1, .int .i64 e2, .int .i64 e3, .int .i64 e4, .int .i64 e5, .int .i64 e6, .int .i64 e7, .int .i64 e8, .int .i64 e9, .int .i64 ea, .int .i64 eb, .int .i64 ec, .int .i64 ed, .int .i64 ee, .int .i64 ef], .agg #[.int .i64 x, .int .i64 y, .int .i64 z, .int .i64 v]] (by rfl) rfl rfl (by first | (simp only [List.map_toArray, List.map_cons, List.map_nil]; rfl) | (simp only [List.map_toArray, List.map_nil])) ?_
  with_reducible refine (matrix_Apply.calls 40 e0 e1 e2 e3 e4 e5 e6 e7 e8 e9 ea eb ec ed ee ef x y z v r0 r1 r2 r3 _ h1.out).mono ?_
  rintro e V1 ⟨rfl, hb⟩
  refine ⟨_, rfl, ?_⟩
  replace hA := Mat.bb hb hA
  replace hV := Mat.bb hb hV
  replace hE := Mat.bb hb hE
  replace hS := Mat.bb hb hS
  replace hB := below_step hB hb
  clear hb
  refine hK.out _ _ ⟨hA, hV, hE, hS⟩ (fun hHeld => ?_)
  clear hK K
  refine norm_ (a' := ?_) ?_ ?_
  rotate_left
  · show Act.put _ (some 12) _ = _
    simp only [Act.put, Mat.p1, List.set_cons_zero, List.set_cons_succ]
    rfl
  refine one_ (i := 4) (N := some 14) #[true, true, true, true, true, false, false, false, false, false, false, false, false, false, false, false, false, false, false, false, false, false, false, false, false, false, false, false, false, false, false, false, false, false] rfl rfl (one_of HT_.out (by kernel_rfl)) (by decide) (fun K hK => ?_)
  refine goes_ Try.func17 (by kernel_rfl) rfl #[.agg #[.int .i64 x, .int .i64 y, .int .i64 z, .int .i64 v]] (by rfl) rfl rfl (by first | (simp only [List.map_toArray, List.map_cons, List.map_nil]; rfl) | (simp only [List.map_toArray, List.map_nil])) ?_
  with_reducible refine (frustumlaw04_limitedVec.calls x y z v r0 r1 r2 r3 _ h2.out).mono ?_
  rintro e V2 ⟨rfl, hb⟩
  refine ⟨_, rfl, ?_⟩
  replace hA := Mat.bb hb hA
  replace hV := Mat.bb hb hV
  replace hE := Mat.bb hb hE
  replace hS := Mat.bb hb hS
  replace hB := below_step hB hb
  clear hb
  refine hK.out _ _ ⟨hA, hV, hE, hS⟩ (fun hHeld => ?_)
  clear hK K
  refine norm_ (a' := ?_) ?_ ?_
  rotate_left
  · show Act.put _ (some 14) _ = _
    simp only [Act.put, Mat.p1, List.set_cons_zero, List.set_cons_succ]
    rfl
  refine pure_ (i := 5) (N := some 15) (v := .bool true) (a' := ?_) #[true, true, true, true, true, true, false, false, false, false, false, false, false, false, false, false, false, false, false, false, false, false, false, false, false, false, false, false, false, false, false, false, false, false] rfl rfl (any_of HT_.out (by kernel_rfl)) (fun _ _ _ h => h) (Or.inl ⟨by rfl, ?_⟩) ?_ ?_
  · intro w'
    go_simp
    first | done | rfl | (simp; done)
  rotate_left
  · simp only [Act.put, Mat.p1, List.set_cons_zero, List.set_cons_succ]
    rfl
  refine pure_ (i := 6) (N := some 16) (v := .bool true) (a' := ?_) #[true, true, true, true, true, true, true, false, false, false, false, false, false, false, false, false, false, false, false, false, false, false, false, false, false, false, false, false, false, false, false, false, false, false] rfl rfl (any_of HT_.out (by kernel_rfl)) (fun _ _ _ h => h) (Or.inl ⟨by rfl, ?_⟩) ?_ ?_
  · intro w'
    go_simp
    first | done | rfl | (simp; done)
  rotate_left
  · simp only [Act.put, Mat.p1, List.set_cons_zero, List.set_cons_succ]
    rfl
  refine take_ (i := 7) (N := some 17) (v := .agg #[.int .i64 e0, .int .i64 e1, .int .i64 e2, .int .i64 e3, .int .i64 e4, .int .i64 e5, .int .i64 e6, .int .i64 e7, .int .i64 e8, .int .i64 e9, .int .i64 ea, .int .i64 eb, .int .i64 ec, .int .i64 ed, .int .i64 ee, .int .i64 ef]) (a' := ?_) #[true, true, true, true, true, true, true, true, false, false, false, false, false, false, false, false, false, false, false, false, false, false, false, false, false, false, false, false, false, false, false, false, false, false] rfl rfl (take_of HT_.out (by kernel_rfl)) (fun _ _ _ h => h) (yieldsIf_load_mid (by rfl) 23 (.tmp 5) rfl (gE) 0 (by rfl) #[.int .i64 e0, .int .i64 e1, .int .i64 e2, .int .i64 e3, .int .i64 e4, .int .i64 e5, .int .i64 e6, .int .i64 e7, .int .i64 e8, .int .i64 e9, .int .i64 ea, .int .i64 eb, .int .i64 ec, .int .i64 ed, .int .i64 ee, .int .i64 ef].toList _ (fun _ h => Mat.range_blk h.2.2.1) hu23 rfl (by kernel_rfl)) hHeld ?_ ?_
  rotate_left
  · simp only [Act.put, Mat.p1, List.set_cons_zero, List.set_cons_succ]
    rfl
  refine take_ (i := 8) (N := some 18) (v := .agg #[.int .i64 a0, .int .i64 a1, .int .i64 a2, .int .i64 a3, .int .i64 a4, .int .i64 a5, .int .i64 a6, .int .i64 a7, .int .i64 a8, .int .i64 a9, .int .i64 aa, .int .i64 ab, .int .i64 ac, .int .i64 ad, .int .i64 ae, .int .i64 af]) (a' := ?_) #[true, true, true, true, true, true, true, true, true, false, false, false, false, false, false, false, false, false, false, false, false, false, false, false, false, false, false, false, false, false, false, false, false, false] rfl rfl (take_of HT_.out (by kernel_rfl)) (fun _ _ _ h => h) (yieldsIf_load_mid (by rfl) 23 (.tmp 2) rfl (w.heap.size) 0 (by rfl) #[.int .i64 a0, .int .i64 a1, .int .i64 a2, .int .i64 a3, .int .i64 a4, .int .i64 a5, .int .i64 a6, .int .i64 a7, .int .i64 a8, .int .i64 a9, .int .i64 aa, .int .i64 ab, .int .i64 ac, .int .i64 ad, .int .i64 ae, .int .i64 af].toList _ (fun _ h => Mat.range_blk h.1) hu23 rfl (by kernel_rfl)) hHeld ?_ ?_
  rotate_left
  · simp only [Act.put, Mat.p1, List.set_cons_zero, List.set_cons_succ]
    rfl
  refine take_ (i := 10) (N := some 20) (v := .agg #[.int .i64 s0, .int .i64 s1, .int .i64 s2, .int .i64 s3, .int .i64 s4, .int .i64 s5, .int .i64 s6, .int .i64 s7, .int .i64 s8, .int .i64 s9, .int .i64 sa, .int .i64 sb, .int .i64 sc, .int .i64 sd, .int .i64 se, .int .i64 sf]) (a' := ?_) #[true, true, true, true, true, true, true, true, true, false, true, false, false, false, false, false, false, false, false, false, false, false, false, false, false, false, false, false, false, false, false, false, false, false] rfl rfl (take_of HT_.out (by kernel_rfl)) (fun _ _ _ h => h) (yieldsIf_load_mid (by rfl) 23 (.tmp 6) rfl (gS) 0 (by rfl) #[.int .i64 s0, .int .i64 s1, .int .i64 s2, .int .i64 s3, .int .i64 s4, .int .i64 s5, .int .i64 s6, .int .i64 s7, .int .i64 s8, .int .i64 s9, .int .i64 sa, .int .i64 sb, .int .i64 sc, .int .i64 sd, .int .i64 se, .int .i64 sf].toList _ (fun _ h => Mat.range_blk h.2.2.2) hu23 rfl (by kernel_rfl)) hHeld ?_ ?_
  rotate_left
  · simp only [Act.put, Mat.p1, List.set_cons_zero, List.set_cons_succ]
    rfl
  refine one_ (i := 9) (N := some 19) #[true, true, true, true, true, true, true, true, true, true, true, false, false, false, false, false, false, false, false, false, false, false, false, false, false, false, false, false, false, false, false, false, false, false] rfl rfl (one_of HT_.out (by kernel_rfl)) (by decide) (fun K hK => ?_)
  refine goes_ Try.func24 (by kernel_rfl) rfl #[.agg #[.int .i64 e0, .int .i64 e1, .int .i64 e2, .int .i64 e3, .int .i64 e4, .int .i64 e5, .int .i64 e6, .int .i64 e7, .int .i64 e8, .int .i64 e9, .int .i64 ea, .int .i64 eb, .int .i64 ec, .int .i64 ed, .int .i64 ee, .int .i64 ef], .agg #[.int .i64 a0, .int .i64 a1, .int .i64 a2, .int .i64 a3, .int .i64 a4, .int .i64 a5, .int .i64 a6, .int .i64 a7, .int .i64 a8, .int .i64 a9, .int .i64 aa, .int .i64 ab, .int .i64 ac, .int .i64 ad, .int .i64 ae, .int .i64 af]] (by rfl) rfl rfl (by first | (simp only [List.map_toArray, List.map_cons, List.map_nil]; rfl) | (simp only [List.map_toArray, List.map_nil])) ?_
  with_reducible refine (matrix_Mul.calls 40 e0 e1 e2 e3 e4 e5 e6 e7 e8 e9 ea eb ec ed ee ef a0 a1 a2 a3 a4 a5 a6 a7 a8 a9 aa ab ac ad ae af s0 s1 s2 s3 s4 s5 s6 s7 s8 s9 sa sb sc sd se sf _ h3.out).mono ?_
  rintro e V3 ⟨rfl, hb⟩
  refine ⟨_, rfl, ?_⟩
  replace hA := Mat.bb hb hA
  replace hV := Mat.bb hb hV
  replace hE := Mat.bb hb hE
  replace hS := Mat.bb hb hS
  replace hB := below_step hB hb
  clear hb
  refine hK.out _ _ ⟨hA, hV, hE, hS⟩ (fun hHeld => ?_)
  clear hK K
  refine norm_ (a' := ?_) ?_ ?_
  rotate_left
  · show Act.put _ (some 19) _ = _
    simp only [Act.put, Mat.p1, List.set_cons_zero, List.set_cons_succ]
    rfl
  refine pure_ (i := 11) (N := some 21) (v := .bool true) (a' := ?_) #[true, true, true, true, true, true, true, true, true, true, true, true, false, false, false, false, false, false, false, false, false, false, false, false, false, false, false, false, false, false, false, false, false, false] rfl rfl (any_of HT_.out (by kernel_rfl)) (fun _ _ _ h => h) (Or.inl ⟨by rfl, ?_⟩) ?_ ?_
  · intro w'
    go_simp
    first | done | rfl | (simp; done)
  rotate_left
  · simp only [Act.put, Mat.p1, List.set_cons_zero, List.set_cons_succ]
    rfl
  refine pure_ (i := 12) (N := some 22) (v := .bool true) (a' := ?_) #[true, true, true, true, true, true, true, true, true, true, true, true, true, false, false, false, false, false, false, false, false, false, false, false, false, false, false, false, false, false, false, false, false, false] rfl rfl (any_of HT_.out (by kernel_rfl)) (fun _ _ _ h => h) (Or.inl ⟨by rfl, ?_⟩) ?_ ?_
  · intro w'
    go_simp
    first | done | rfl | (simp; done)
  rotate_left
  · simp only [Act.put, Mat.p1, List.set_cons_zero, List.set_cons_succ]
    rfl
  refine pure_ (i := 13) (N := some 23) (v := .bool true) (a' := ?_) #[true, true, true, true, true, true, true, true, true, true, true, true, true, true, false, false, false, false, false, false, false, false, false, false, false, false, false, false, false, false, false, false, false, false] rfl rfl (any_of HT_.out (by kernel_rfl)) (fun _ _ _ h => h) (Or.inl ⟨by rfl, ?_⟩) ?_ ?_
  · intro w'
    go_simp
    first | done | rfl | (simp; done)
  rotate_left
  · simp only [Act.put, Mat.p1, List.set_cons_zero, List.set_cons_succ]
    rfl
  refine take_ (i := 14) (N := some 24) (v := .agg #[.int .i64 a0, .int .i64 a1, .int .i64 a2, .int .i64 a3, .int .i64 a4, .int .i64 a5, .int .i64 a6, .int .i64 a7, .int .i64 a8, .int .i64 a9, .int .i64 aa, .int .i64 ab, .int .i64 ac, .int .i64 ad, .int .i64 ae, .int .i64 af]) (a' := ?_) #[true, true, true, true, true, true, true, true, true, true, true, true, true, true, true, false, false, false, false, false, false, false, false, false, false, false, false, false, false, false, false, false, false, false] rfl rfl (take_of HT_.out (by kernel_rfl)) (fun _ _ _ h => h) (yieldsIf_load_mid (by rfl) 23 (.tmp 2) rfl (w.heap.size) 0 (by rfl) #[.int .i64 a0, .int .i64 a1, .int .i64 a2, .int .i64 a3, .int .i64 a4, .int .i64 a5, .int .i64 a6, .int .i64 a7, .int .i64 a8, .int .i64 a9, .int .i64 aa, .int .i64 ab, .int .i64 ac, .int .i64 ad, .int .i64 ae, .int .i64 af].toList _ (fun _ h => Mat.range_blk h.1) hu23 rfl (by kernel_rfl)) hHeld ?_ ?_
  rotate_left
  · simp only [Act.put, Mat.p1, List.set_cons_zero, List.set_cons_succ]
    rfl
  refine take_ (i := 15) (N := some 25) (v := .agg #[.int .i64 e0, .int .i64 e1, .int .i64 e2, .int .i64 e3, .int .i64 e4, .int .i64 e5, .int .i64 e6, .int .i64 e7, .int .i64 e8, .int .i64 e9, .int .i64 ea, .int .i64 eb, .int .i64 ec, .int .i64 ed, .int .i64 ee, .int .i64 ef]) (a' := ?_) #[true, true, true, true, true, true, true, true, true, true, true, true, true, true, true, true, false, false, false, false, false, false, false, false, false, false, false, false, false, false, false, false, false, false] rfl rfl (take_of HT_.out (by kernel_rfl)) (fun _ _ _ h => h) (yieldsIf_load_mid (by rfl) 23 (.tmp 5) rfl (gE) 0 (by rfl) #[.int .i64 e0, .int .i64 e1, .int .i64 e2, .int .i64 e3, .int .i64 e4, .int .i64 e5, .int .i64 e6, .int .i64 e7, .int .i64 e8, .int .i64 e9, .int .i64 ea, .int .i64 eb, .int .i64 ec, .int .i64 ed, .int .i64 ee, .int .i64 ef].toList _ (fun _ h => Mat.range_blk h.2.2.1) hu23 rfl (by kernel_rfl)) hHeld ?_ ?_
  rotate_left
  · simp only [Act.put, Mat.p1, List.set_cons_zero, List.set_cons_succ]
    rfl
  refine take_ (i := 17) (N := some 27) (v := .agg #[.int .i64 s0, .int .i64 s1, .int .i64 s2, .int .i64 s3, .int .i64 s4, .int .i64 s5, .int .i64 s6, .int .i64 s7, .int .i64 s8, .int .i64 s9, .int .i64 sa, .int .i64 sb, .int .i64 sc, .int .i64 sd, .int .i64 se, .int .i64 sf]) (a' := ?_) #[true, true, true, true, true, true, true, true, true, true, true, true, true, true, true, true, false, true, false, false, false, false, false, false, false, false, false, false, false, false, false, false, false, false] rfl rfl (take_of HT_.out (by kernel_rfl)) (fun _ _ _ h => h) (yieldsIf_load_mid (by rfl) 23 (.tmp 6) rfl (gS) 0 (by rfl) #[.int .i64 s0, .int .i64 s1, .int .i64 s2, .int .i64 s3, .int .i64 s4, .int .i64 s5, .int .i64 s6, .int .i64 s7, .int .i64 s8, .int .i64 s9, .int .i64 sa, .int .i64 sb, .int .i64 sc, .int .i64 sd, .int .i64 se, .int .i64 sf].toList _ (fun _ h => Mat.range_blk h.2.2.2) hu23 rfl (by kernel_rfl)) hHeld ?_ ?_
  rotate_left
  · simp only [Act.put, Mat.p1, List.set_cons_zero, List.set_cons_succ]
    rfl
  refine one_ (i := 16) (N := some 26) #[true, true, true, true, true, true, true, true, true, true, true, true, true, true, true, true, true, true, false, false, false, false, false, false, false, false, false, false, false, false, false, false, false, false] rfl rfl (one_of HT_.out (by kernel_rfl)) (by decide) (fun K hK => ?_)
  refine goes_ Try.func24 (by kernel_rfl) rfl #[.agg #[.int .i64 a0, .int .i64 a1, .int .i64 a2, .int .i64 a3, .int .i64 a4, .int .i64 a5, .int .i64 a6, .int .i64 a7, .int .i64 a8, .int .i64 a9, .int .i64 aa, .int .i64 ab, .int .i64 ac, .int .i64 ad, .int .i64 ae, .int .i64 af], .agg #[.int .i64 e0, .int .i64 e1, .int .i64 e2, .int .i64 e3, .int .i64 e4, .int .i64 e5, .int .i64 e6, .int .i64 e7, .int .i64 e8, .int .i64 e9, .int .i64 ea, .int .i64 eb, .int .i64 ec, .int .i64 ed, .int .i64 ee, .int .i64 ef]] (by rfl) rfl rfl (by first | (simp only [List.map_toArray, List.map_cons, List.map_nil]; rfl) | (simp only [List.map_toArray, List.map_nil])) ?_
  with_reducible refine (matrix_Mul.calls 40 a0 a1 a2 a3 a4 a5 a6 a7 a8 a9 aa ab ac ad ae af e0 e1 e2 e3 e4 e5 e6 e7 e8 e9 ea eb ec ed ee ef s0 s1 s2 s3 s4 s5 s6 s7 s8 s9 sa sb sc sd se sf _ h4.out).mono ?_
  rintro e V4 ⟨rfl, hb⟩
  refine ⟨_, rfl, ?_⟩
  replace hA := Mat.bb hb hA
  replace hV := Mat.bb hb hV
  replace hE := Mat.bb hb hE
  replace hS := Mat.bb hb hS
  replace hB := below_step hB hb
  clear hb
  refine hK.out _ _ ⟨hA, hV, hE, hS⟩ (fun hHeld => ?_)
  clear hK K
  refine norm_ (a' := ?_) ?_ ?_
  rotate_left
  · show Act.put _ (some 26) _ = _
    simp only [Act.put, Mat.p1, List.set_cons_zero, List.set_cons_succ]
    rfl
  refine pure_ (i := 18) (N := some 28) (v := .bool true) (a' := ?_) #[true, true, true, true, true, true, true, true, true, true, true, true, true, true, true, true, true, true, true, false, false, false, false, false, false, false, false, false, false, false, false, false, false, false] rfl rfl (any_of HT_.out (by kernel_rfl)) (fun _ _ _ h => h) (Or.inl ⟨by rfl, ?_⟩) ?_ ?_
  · intro w'
    go_simp
    first | done | rfl | (simp; done)
  rotate_left
  · simp only [Act.put, Mat.p1, List.set_cons_zero, List.set_cons_succ]
    rfl
  refine pure_ (i := 19) (N := some 29) (v := .bool true) (a' := ?_) #[true, true, true, true, true, true, true, true, true, true, true, true, true, true, true, true, true, true, true, true, false, false, false, false, false, false, false, false, false, false, false, false, false, false] rfl rfl (any_of HT_.out (by kernel_rfl)) (fun _ _ _ h => h) (Or.inl ⟨by rfl, ?_⟩) ?_ ?_
  · intro w'
    go_simp
    first | done | rfl | (simp; done)
  rotate_left
  · simp only [Act.put, Mat.p1, List.set_cons_zero, List.set_cons_succ]
    rfl
  refine pure_ (i := 20) (N := some 30) (v := .bool true) (a' := ?_) #[true, true, true, true, true, true, true, true, true, true, true, true, true, true, true, true, true, true, true, true, true, false, false, false, false, false, false, false, false, false, false, false, false, false] rfl rfl (any_of HT_.out (by kernel_rfl)) (fun _ _ _ h => h) (Or.inl ⟨by rfl, ?_⟩) ?_ ?_
  · intro w'
    go_simp
    first | done | rfl | (simp; done)
  rotate_left
  · simp only [Act.put, Mat.p1, List.set_cons_zero, List.set_cons_succ]
    rfl
  refine take_ (i := 22) (N := some 32) (v := .agg #[.int .i64 e0, .int .i64 e1, .int .i64 e2, .int .i64 e3, .int .i64 e4, .int .i64 e5, .int .i64 e6, .int .i64 e7, .int .i64 e8, .int .i64 e9, .int .i64 ea, .int .i64 eb, .int .i64 ec, .int .i64 ed, .int .i64 ee, .int .i64 ef]) (a' := ?_) #[true, true, true, true, true, true, true, true, true, true, true, true, true, true, true, true, true, true, true, true, true, false, true, false, false, false, false, false, false, false, false, false, false, false] rfl rfl (take_of HT_.out (by kernel_rfl)) (fun _ _ _ h => h) (yieldsIf_load_mid (by rfl) 23 (.tmp 5) rfl (gE) 0 (by rfl) #[.int .i64 e0, .int .i64 e1, .int .i64 e2, .int .i64 e3, .int .i64 e4, .int .i64 e5, .int .i64 e6, .int .i64 e7, .int .i64 e8, .int .i64 e9, .int .i64 ea, .int .i64 eb, .int .i64 ec, .int .i64 ed, .int .i64 ee, .int .i64 ef].toList _ (fun _ h => Mat.range_blk h.2.2.1) hu23 rfl (by kernel_rfl)) hHeld ?_ ?_
  rotate_left
  · simp only [Act.put, Mat.p1, List.set_cons_zero, List.set_cons_succ]
    rfl
  refine one_ (i := 21) (N := some 31) #[true, true, true, true, true, true, true, true, true, true, true, true, true, true, true, true, true, true, true, true, true, true, true, false, false, false, false, false, false, false, false, false, false, false] rfl rfl (one_of HT_.out (by kernel_rfl)) (by decide) (fun K hK => ?_)
  refine goes_ Try.func12 (by kernel_rfl) rfl #[.int .i64 0, .int .i64 0, .int .i64 0] (by rfl) rfl rfl (by first | (simp only [List.map_toArray, List.map_cons, List.map_nil]; rfl) | (simp only [List.map_toArray, List.map_nil])) ?_
  with_reducible refine (matrix_Translate.calls 0 0 0 e0 e1 e2 e3 e4 e5 e6 e7 e8 e9 ea eb ec ed ee ef _ h5.out).mono ?_
  rintro e V5 ⟨rfl, hb⟩
  refine ⟨_, rfl, ?_⟩
  replace hA := Mat.bb hb hA
  replace hV := Mat.bb hb hV
  replace hE := Mat.bb hb hE
  replace hS := Mat.bb hb hS
  replace hB := below_step hB hb
  clear hb
  refine hK.out _ _ ⟨hA, hV, hE, hS⟩ (fun hHeld => ?_)
  clear hK K
  refine norm_ (a' := ?_) ?_ ?_
  rotate_left
  · show Act.put _ (some 31) _ = _
    simp only [Act.put, Mat.p1, List.set_cons_zero, List.set_cons_succ]
    rfl
  refine pure_ (i := 23) (N := some 33) (v := .bool true) (a' := ?_) #[true, true, true, true, true, true, true, true, true, true, true, true, true, true, true, true, true, true, true, true, true, true, true, true, false, false, false, false, false, false, false, false, false, false] rfl rfl (any_of HT_.out (by kernel_rfl)) (fun _ _ _ h => h) (Or.inl ⟨by rfl, ?_⟩) ?_ ?_
  · intro w'
    go_simp
    first | done | rfl | (simp; done)
  rotate_left
  · simp only [Act.put, Mat.p1, List.set_cons_zero, List.set_cons_succ]
    rfl
  refine pure_ (i := 24) (N := some 34) (v := .bool true) (a' := ?_) #[true, true, true, true, true, true, true, true, true, true, true, true, true, true, true, true, true, true, true, true, true, true, true, true, true, false, false, false, false, false, false, false, false, false] rfl rfl (any_of HT_.out (by kernel_rfl)) (fun _ _ _ h => h) (Or.inl ⟨by rfl, ?_⟩) ?_ ?_
  · intro w'
    go_simp
    first | done | rfl | (simp; done)
  rotate_left
  · simp only [Act.put, Mat.p1, List.set_cons_zero, List.set_cons_succ]
    rfl
  refine pure_ (i := 25) (N := some 35) (v := .bool true) (a' := ?_) #[true, true, true, true, true, true, true, true, true, true, true, true, true, true, true, true, true, true, true, true, true, true, true, true, true, true, false, false, false, false, false, false, false, false] rfl rfl (any_of HT_.out (by kernel_rfl)) (fun _ _ _ h => h) (Or.inl ⟨by rfl, ?_⟩) ?_ ?_
  · intro w'
    go_simp
    first | done | rfl | (simp; done)
  rotate_left
  · simp only [Act.put, Mat.p1, List.set_cons_zero, List.set_cons_succ]
    rfl
  refine take_ (i := 27) (N := some 37) (v := .agg #[.int .i64 e0, .int .i64 e1, .int .i64 e2, .int .i64 e3, .int .i64 e4, .int .i64 e5, .int .i64 e6, .int .i64 e7, .int .i64 e8, .int .i64 e9, .int .i64 ea, .int .i64 eb, .int .i64 ec, .int .i64 ed, .int .i64 ee, .int .i64 ef]) (a' := ?_) #[true, true, true, true, true, true, true, true, true, true, true, true, true, true, true, true, true, true, true, true, true, true, true, true, true, true, false, true, false, false, false, false, false, false] rfl rfl (take_of HT_.out (by kernel_rfl)) (fun _ _ _ h => h) (yieldsIf_load_mid (by rfl) 23 (.tmp 5) rfl (gE) 0 (by rfl) #[.int .i64 e0, .int .i64 e1, .int .i64 e2, .int .i64 e3, .int .i64 e4, .int .i64 e5, .int .i64 e6, .int .i64 e7, .int .i64 e8, .int .i64 e9, .int .i64 ea, .int .i64 eb, .int .i64 ec, .int .i64 ed, .int .i64 ee, .int .i64 ef].toList _ (fun _ h => Mat.range_blk h.2.2.1) hu23 rfl (by kernel_rfl)) hHeld ?_ ?_
  rotate_left
  · simp only [Act.put, Mat.p1, List.set_cons_zero, List.set_cons_succ]
    rfl
  refine one_ (i := 26) (N := some 36) #[true, true, true, true, true, true, true, true, true, true, true, true, true, true, true, true, true, true, true, true, true, true, true, true, true, true, true, true, false, false, false, false, false, false] rfl rfl (one_of HT_.out (by kernel_rfl)) (by decide) (fun K hK => ?_)
  refine goes_ Try.func14 (by kernel_rfl) rfl #[.int .i64 65536, .int .i64 65536, .int .i64 65536] (by rfl) rfl rfl (by first | (simp only [List.map_toArray, List.map_cons, List.map_nil]; rfl) | (simp only [List.map_toArray, List.map_nil])) ?_
  with_reducible refine (matrix_ScaleBy.calls 65536 65536 65536 e0 e1 e2 e3 e4 e5 e6 e7 e8 e9 ea eb ec ed ee ef _ h6.out).mono ?_
  rintro e V6 ⟨rfl, hb⟩
  refine ⟨_, rfl, ?_⟩
  replace hA := Mat.bb hb hA
  replace hV := Mat.bb hb hV
  replace hE := Mat.bb hb hE
  replace hS := Mat.bb hb hS
  replace hB := below_step hB hb
  clear hb
  refine hK.out _ _ ⟨hA, hV, hE, hS⟩ (fun hHeld => ?_)
  clear hK K
  refine norm_ (a' := ?_) ?_ ?_
  rotate_left
  · show Act.put _ (some 36) _ = _
    simp only [Act.put, Mat.p1, List.set_cons_zero, List.set_cons_succ]
    rfl
  refine pure_ (i := 28) (N := some 38) (v := .bool true) (a' := ?_) #[true, true, true, true, true, true, true, true, true, true, true, true, true, true, true, true, true, true, true, true, true, true, true, true, true, true, true, true, true, false, false, false, false, false] rfl rfl (any_of HT_.out (by kernel_rfl)) (fun _ _ _ h => h) (Or.inl ⟨by rfl, ?_⟩) ?_ ?_
  · intro w'
    go_simp
    first | done | rfl | (simp; done)
  rotate_left
  · simp only [Act.put, Mat.p1, List.set_cons_zero, List.set_cons_succ]
    rfl
  refine pure_ (i := 29) (N := some 39) (v := .bool true) (a' := ?_) #[true, true, true, true, true, true, true, true, true, true, true, true, true, true, true, true, true, true, true, true, true, true, true, true, true, true, true, true, true, true, false, false, false, false] rfl rfl (any_of HT_.out (by kernel_rfl)) (fun _ _ _ h => h) (Or.inl ⟨by rfl, ?_⟩) ?_ ?_
  · intro w'
    go_simp
    first | done | rfl | (simp; done)
  rotate_left
  · simp only [Act.put, Mat.p1, List.set_cons_zero, List.set_cons_succ]
    rfl
  refine pure_ (i := 30) (N := some 40) (v := .bool true) (a' := ?_) #[true, true, true, true, true, true, true, true, true, true, true, true, true, true, true, true, true, true, true, true, true, true, true, true, true, true, true, true, true, true, true, false, false, false] rfl rfl (any_of HT_.out (by kernel_rfl)) (fun _ _ _ h => h) (Or.inl ⟨by rfl, ?_⟩) ?_ ?_
  · intro w'
    go_simp
    first | done | rfl | (simp; done)
  rotate_left
  · simp only [Act.put, Mat.p1, List.set_cons_zero, List.set_cons_succ]
    rfl
  refine one_ (i := 31) (N := some 41) #[true, true, true, true, true, true, true, true, true, true, true, true, true, true, true, true, true, true, true, true, true, true, true, true, true, true, true, true, true, true, true, true, false, false] rfl rfl (one_of HT_.out (by kernel_rfl)) (by decide) (fun K hK => ?_)
  refine goes_ Try.func16 (by kernel_rfl) rfl #[] (by rfl) rfl rfl (by first | (simp only [List.map_toArray, List.map_cons, List.map_nil]; rfl) | (simp only [List.map_toArray, List.map_nil])) ?_
  with_reducible refine (frustumlaw04_example.calls 40 true _ hex.out).mono ?_
  rintro e V7 ⟨rfl, hb⟩
  refine ⟨_, rfl, ?_⟩
  replace hA := Mat.bb hb hA
  replace hV := Mat.bb hb hV
  replace hE := Mat.bb hb hE
  replace hS := Mat.bb hb hS
  replace hB := below_step hB hb
  clear hb
  refine hK.out _ _ ⟨hA, hV, hE, hS⟩ (fun hHeld => ?_)
  clear hK K
  refine norm_ (a' := ?_) ?_ ?_
  rotate_left
  · show Act.put _ (some 41) _ = _
    simp only [Act.put, Mat.p1, List.set_cons_zero, List.set_cons_succ]
    rfl
  refine pure_ (i := 32) (N := some 42) (v := .bool true) (a' := ?_) #[true, true, true, true, true, true, true, true, true, true, true, true, true, true, true, true, true, true, true, true, true, true, true, true, true, true, true, true, true, true, true, true, true, false] rfl rfl (any_of HT_.out (by kernel_rfl)) (fun _ _ _ h => h) (Or.inl ⟨by rfl, ?_⟩) ?_ ?_
  · intro w'
    go_simp
    first | done | rfl | (simp; done)
  rotate_left
  · simp only [Act.put, Mat.p1, List.set_cons_zero, List.set_cons_succ]
    rfl
  refine pure_ (i := 33) (N := some 4) (v := .bool true) (a' := ?_) #[true, true, true, true, true, true, true, true, true, true, true, true, true, true, true, true, true, true, true, true, true, true, true, true, true, true, true, true, true, true, true, true, true, true] rfl rfl (any_of HT_.out (by kernel_rfl)) (fun _ _ _ h => h) (Or.inl ⟨by rfl, ?_⟩) ?_ ?_
  · intro w'
    go_simp
    first | done | rfl | (simp; done)
  rotate_left
  · simp only [Act.put, Mat.p1, List.set_cons_zero, List.set_cons_succ]
    rfl
  refine done_ (done_of HT_.out (by kernel_rfl)) ?_
  clear HT_
  go_wp2
  go_ret
  exact ⟨rfl, hB⟩
theorem identity_all (a0 : Int) (a1 : Int) (a2 : Int) (a3 : Int) (a4 : Int) (a5 : Int) (a6 : Int) (a7 : Int) (a8 : Int) (a9 : Int) (aa : Int) (ab : Int) (ac : Int) (ad : Int) (ae : Int) (af : Int) (x : Int) (y : Int) (z : Int) (v : Int) (w : World) : Calls Try.prog 7 #[.agg #[.int .i64 a0, .int .i64 a1, .int .i64 a2, .int .i64 a3, .int .i64 a4, .int .i64 a5, .int .i64 a6, .int .i64 a7, .int .i64 a8, .int .i64 a9, .int .i64 aa, .int .i64 ab, .int .i64 ac, .int .i64 ad, .int .i64 ae, .int .i64 af], .agg #[.int .i64 x, .int .i64 y, .int .i64 z, .int .i64 v]] w fun e w' => e = .returned (.bool true) ∧ Below w.heap.size w w' := by
  exact identity_walk a0 a1 a2 a3 a4 a5 a6 a7 a8 a9 aa ab ac ad ae af x y z v 65536 0 0 0 0 65536 0 0 0 0 65536 0 0 0 0 65536 _ _ _ _ _ _ _ _ _ _ _ _ _ _ _ _ _ _ _ _ ⟨rfl⟩ ⟨limM a0 a1 a2 a3 a4 a5 a6 a7 a8 a9 aa ab ac ad ae af⟩ (app_id x y z v) (E_limitedVec x y z v) (mul_idl a0 a1 a2 a3 a4 a5 a6 a7 a8 a9 aa ab ac ad ae af) (mul_idr a0 a1 a2 a3 a4 a5 a6 a7 a8 a9 aa ab ac ad ae af) tr_id sc_id w
end Go.Proofs.Ytmofipnpnepfaaa.PMatrixIdentity
