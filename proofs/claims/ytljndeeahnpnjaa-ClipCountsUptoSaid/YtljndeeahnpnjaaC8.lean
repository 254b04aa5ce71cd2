/- Chapter 31: the law ClipShared. No condition beyond those that each theorem states. -/
import Derived.Test.YtljndeeahnpnjaaC7
namespace Go.Proofs.Ytljndeeahnpnjaa.Cl
open Go Go.RowKit Go.Proofs.Ytljndeeahnpnjaa.Am
set_option linter.unusedVariables false
set_option linter.unusedSimpArgs false
theorem frustumlaw31_example.ok : SpecOK Try.prog 12 exS := sig0.ok fun v r h => by
  cases h
  refine fnLaw Try.func12 frustumlaw31_example.tr (by kernel_rfl) hE (ok_cons frustumlaw31_at.ok (ok_cons clip_Polygon.ok (ok_cons clip_Inside.ok (ok_cons clip_Clip.ok (ok_cons frustumref31_SameTriangles.ok ok_nil))))) ?_
  unfold frustumlaw31_example.m
  refine seq_reg (σ' := ?_) ?_ ?_
  rotate_left
  · simp -implicitDefEqProofs only [frustumlaw31_example.r0, ex_nil, ex_cons, exK_some, st_n, st_g, gd_b, rn_v, rn_m, rn_s, rn_a, think, prep, mkDsts, St.clear, ev, upd, init, PV.av, St.put, forgetBox, AV.cells, AV.pv, pvs, fillX, chunks, binV, xints, ldX, AV.plain, baseOk, fg_p, fg_tk, mkG, Sig.spec, tab, St.of, List.getElem?_cons_zero, List.getElem?_cons_succ, List.getElem?_nil, Option.map_some, Option.map_none, Option.bind_some, Option.isSome_some, Option.isSome_none, if_true, if_false, reduceIte, Nat.reduceEqDiff, List.map_cons, List.map_nil, List.drop_succ_cons, List.drop_zero, List.take_succ_cons, List.take_zero, List.length_cons, List.length_nil, List.length_append, List.cons_append, List.nil_append, List.append_nil, Nat.reduceAdd, Nat.reduceMul, Nat.reduceLeDiff, Nat.reduceBEq, Nat.zero_le, Nat.le_refl, Nat.zero_add, Nat.add_zero, and_self, and_true, true_and, or_true, true_or, Bool.not_true, Bool.not_false, Bool.false_eq_true, beq_self_eq_true, reduceCtorEq, Int.reduceBEq, Int.reduceBNe, Int.reduceLT, Int.reduceLE, Int.reduceAdd, Int.reduceToNat, Int.toNat_zero, Int.reduceEq, Int.toNat_natCast, c3, eq_self, Int.le_refl, decide_eq_true_eq, decide_eq_false_iff_not, not_true_eq_false, not_false_eq_true, decide_true, decide_false, Bool.true_eq_false, sig0]; rfl
  have hp := ex_poly
  have hc := ex_clip
  have hi := ex_in
  obtain ⟨L, hL⟩ : ∃ L, polyF (exV 0 0 0, exV 131072 0 0, exV 0 65536 0) 7 = L := ⟨_, rfl⟩
  rw [hL] at hp
  have hlen : (((L.map V.cs).length : Nat) : Int) = 4 := by rw [List.length_map, hp]; rfl
  have hl1 : lens (exV 0 0 0, exV 131072 0 0, exV 0 65536 0) := by decide
  have hl2 : lens (exV 0 0 0, exV 65536 0 0, exV 0 65536 0) := by decide
  refine seq_reg (σ' := ?_) ?_ ?_
  rotate_left
  · simp -implicitDefEqProofs only [frustumlaw31_example.r1, ex_nil, ex_cons, exK_some, st_n, st_g, gd_b, rn_v, rn_m, rn_s, rn_a, think, prep, mkDsts, St.clear, ev, upd, init, PV.av, St.put, forgetBox, AV.cells, AV.pv, pvs, fillX, chunks, binV, xints, ldX, AV.plain, baseOk, fg_p, fg_tk, mkG, Sig.spec, tab, St.of, List.getElem?_cons_zero, List.getElem?_cons_succ, List.getElem?_nil, Option.map_some, Option.map_none, Option.bind_some, Option.isSome_some, Option.isSome_none, if_true, if_false, reduceIte, Nat.reduceEqDiff, List.map_cons, List.map_nil, List.drop_succ_cons, List.drop_zero, List.take_succ_cons, List.take_zero, List.length_cons, List.length_nil, List.length_append, List.cons_append, List.nil_append, List.append_nil, Nat.reduceAdd, Nat.reduceMul, Nat.reduceLeDiff, Nat.reduceBEq, Nat.zero_le, Nat.le_refl, Nat.zero_add, Nat.add_zero, and_self, and_true, true_and, or_true, true_or, Bool.not_true, Bool.not_false, Bool.false_eq_true, beq_self_eq_true, reduceCtorEq, Int.reduceBEq, Int.reduceBNe, Int.reduceLT, Int.reduceLE, Int.reduceAdd, Int.reduceToNat, Int.toNat_zero, Int.reduceEq, Int.toNat_natCast, c3, eq_self, Int.le_refl, decide_eq_true_eq, decide_eq_false_iff_not, not_true_eq_false, not_false_eq_true, decide_true, decide_false, Bool.true_eq_false, atS, polyS, sig1, sig3, aInt, aT, rV, V.cs, cInts, dT_ex, eq_true hl1, hL, rVs]; rfl
  have hts : dTs [[.int .i64 0, .int .i64 0, .int .i64 0, .int .i64 65536, .sl 1 [], .int .i64 65536, .int .i64 0, .int .i64 0, .int .i64 65536, .sl 1 [], .int .i64 0, .int .i64 65536, .int .i64 0, .int .i64 65536, .sl 1 []]] = some [(exV 0 0 0, exV 65536 0 0, exV 0 65536 0)] := rfl
  have hd1 : decide ([(exV 0 0 0, exV 65536 0 0, exV 0 65536 0)] = [(exV 0 0 0, exV 65536 0 0, exV 0 65536 0)]) = true := by decide
  have hsm : (∀ v ∈ [(exV 0 0 0, exV 65536 0 0, exV 0 65536 0)], lens v) ∧ 1 * 168 ≤ 140737488355328 := ⟨by simpa using hl2, by decide⟩
  refine seq_reg (σ' := ?_) ?_ ?_
  rotate_left
  · simp -implicitDefEqProofs only [frustumlaw31_example.r2, ex_nil, ex_cons, exK_some, st_n, st_g, gd_b, rn_v, rn_m, rn_s, rn_a, think, prep, mkDsts, St.clear, ev, upd, init, PV.av, St.put, forgetBox, AV.cells, AV.pv, pvs, fillX, chunks, binV, xints, ldX, AV.plain, baseOk, fg_p, fg_tk, mkG, Sig.spec, tab, St.of, List.getElem?_cons_zero, List.getElem?_cons_succ, List.getElem?_nil, Option.map_some, Option.map_none, Option.bind_some, Option.isSome_some, Option.isSome_none, if_true, if_false, reduceIte, Nat.reduceEqDiff, List.map_cons, List.map_nil, List.drop_succ_cons, List.drop_zero, List.take_succ_cons, List.take_zero, List.length_cons, List.length_nil, List.length_append, List.cons_append, List.nil_append, List.append_nil, Nat.reduceAdd, Nat.reduceMul, Nat.reduceLeDiff, Nat.reduceBEq, Nat.zero_le, Nat.le_refl, Nat.zero_add, Nat.add_zero, and_self, and_true, true_and, or_true, true_or, Bool.not_true, Bool.not_false, Bool.false_eq_true, beq_self_eq_true, reduceCtorEq, Int.reduceBEq, Int.reduceBNe, Int.reduceLT, Int.reduceLE, Int.reduceAdd, Int.reduceToNat, Int.toNat_zero, Int.reduceEq, Int.toNat_natCast, c3, eq_self, Int.le_refl, decide_eq_true_eq, decide_eq_false_iff_not, not_true_eq_false, not_false_eq_true, decide_true, decide_false, Bool.true_eq_false, atS, insS, clipS, sameTS, sig1, sig2, sig3, aInt, aV, aT, aTs, rV, V.cs, cInts, cVs, dV_ex, dT_ex, hi, rBool, hlen, eq_true hl2, hc, rTs, cTs, dTs_enc, hts, eq_true hsm, hd1]; rfl
  exact ret_ ⟨.inl rfl, _, rfl, AVle.refl _⟩
theorem lenOk_of {v : V} (h : v.vs.length * 8 ≤ 140737488351232) : lenOk v := by unfold lenOk; omega
/-! ### What the law says, of the plain functions -/
theorem sat_in (x : Int) : -536870911 ≤ satF x ∧ satF x ≤ 536870911 := by
  unfold satF clampF; split <;> first | omega | (split <;> omega)
theorem sat_of_in {x : Int} (h1 : -536870911 ≤ x) (h2 : x ≤ 536870911) : satF x = x := by
  unfold satF clampF; split <;> first | omega | (split <;> omega)
theorem sat_sat (x : Int) : satF (satF x) = satF x := sat_of_in (sat_in x).1 (sat_in x).2
theorem satV_satV (v : V) : satV (satV v) = satV v := by
  simp [satV, sat_sat]
theorem plane_sat (k : Nat) (v : V) : planeF k (satV v).p = planeF k v.p := by
  unfold planeF
  split <;> simp only [V.p, satV, subF, addF, sat_sat]
theorem dist_sat (v : V) (k : Int) : distF (satV v) k = distF v k := by
  unfold distF; rw [plane_sat]
theorem lenOk_inter {a b : V} {k : Int} (ha : lenOk a) (hb : lenOk b) : lenOk (interF a b k) :=
  (lenOk_iff _).2 (inter_len ((lenOk_iff _).1 ha) ((lenOk_iff _).1 hb))
theorem inter_same {a b : V} {k : Int} (h : (decide (distF a k ≥ 0) == decide (distF b k ≥ 0)) = true) : interF a b k = satV a := by
  unfold interF; rw [dist_sat, dist_sat, if_pos h]
theorem inter_comm {a b : V} {k : Int} (h : ¬ (decide (distF a k ≥ 0) == decide (distF b k ≥ 0)) = true) : interF b a k = interF a b k := by
  have h' : ¬ (decide (distF b k ≥ 0) == decide (distF a k ≥ 0)) = true := by
    intro e; apply h; rw [beq_iff_eq] at *; exact e.symm
  unfold interF
  simp only [dist_sat]
  rw [if_neg h, if_neg h']
  by_cases h1 : distF a k < 0
  · have h2 : ¬ distF b k < 0 := by
      intro h2; apply h
      rw [decide_eq_false (show ¬ distF a k ≥ 0 by omega), decide_eq_false (show ¬ distF b k ≥ 0 by omega)]; rfl
    rw [if_pos h1, if_neg h2]
  · have h2 : distF b k < 0 := by
      by_cases h2 : distF b k < 0
      · exact h2
      · exfalso; apply h
        rw [decide_eq_true (show distF a k ≥ 0 by omega), decide_eq_true (show distF b k ≥ 0 by omega)]; rfl
    rw [if_neg h1, if_pos h2]
def frustumlaw31_ClipShared.r0 : List MOp := [⟨some 3, .mkb (.tmp 0), none⟩, ⟨some 4, .mkb (.tmp 1), none⟩, ⟨some 6, .mv (.const (.bool false)), none⟩]
def frustumlaw31_ClipShared.r1 : List MOp := [⟨some 13, .ld 5 true (some 3) (.tmp 3), none⟩, ⟨some 14, .mv (.tmp 2), none⟩, ⟨some 15, .call 9 [.tmp 13, .tmp 14], none⟩, ⟨some 16, .bin .geq (.tmp 15) (.const (.int .i64 0)), none⟩, ⟨some 17, .ld 5 true (some 4) (.tmp 4), none⟩, ⟨some 18, .mv (.tmp 2), none⟩, ⟨some 19, .call 9 [.tmp 17, .tmp 18], none⟩, ⟨some 20, .bin .geq (.tmp 19) (.const (.int .i64 0)), none⟩, ⟨some 7, .mv (.tmp 16), none⟩, ⟨some 8, .mv (.tmp 20), none⟩]
def frustumlaw31_ClipShared.r2 : List MOp := [⟨some 21, .mv (.tmp 7), none⟩, ⟨some 22, .mv (.tmp 8), none⟩, ⟨some 23, .eqb false (.tmp 21) (.tmp 22), none⟩]
def frustumlaw31_ClipShared.r3 : List MOp := [⟨some 24, .ld 5 true (some 3) (.tmp 3), none⟩, ⟨some 25, .ld 5 true (some 4) (.tmp 4), none⟩, ⟨some 26, .mv (.tmp 2), none⟩, ⟨some 27, .call 11 [.tmp 24, .tmp 25, .tmp 26], none⟩, ⟨some 28, .ld 5 true (some 3) (.tmp 3), none⟩, ⟨some 29, .call 10 [.tmp 27, .tmp 28], none⟩, ⟨some 30, .mv (.tmp 29), none⟩, ⟨some 31, .ld 5 true (some 4) (.tmp 4), some (30, true)⟩, ⟨some 32, .ld 5 true (some 3) (.tmp 3), some (30, true)⟩, ⟨some 33, .mv (.tmp 2), some (30, true)⟩, ⟨some 34, .call 11 [.tmp 31, .tmp 32, .tmp 33], some (30, true)⟩, ⟨some 35, .ld 5 true (some 4) (.tmp 4), some (30, true)⟩, ⟨some 36, .call 10 [.tmp 34, .tmp 35], some (30, true)⟩, ⟨some 37, .pick (.tmp 30) (.tmp 36) (.const (.bool false)), none⟩, ⟨some 38, .mv (.tmp 37), none⟩, ⟨some 39, .call 12 [], some (38, true)⟩, ⟨some 40, .pick (.tmp 38) (.tmp 39) (.const (.bool false)), none⟩, ⟨some 6, .mv (.tmp 40), none⟩]
def frustumlaw31_ClipShared.r4 : List MOp := [⟨some 41, .ld 5 true (some 3) (.tmp 3), none⟩, ⟨some 42, .ld 5 true (some 4) (.tmp 4), none⟩, ⟨some 43, .mv (.tmp 2), none⟩, ⟨some 44, .call 11 [.tmp 41, .tmp 42, .tmp 43], none⟩, ⟨some 45, .ld 5 true (some 4) (.tmp 4), none⟩, ⟨some 46, .ld 5 true (some 3) (.tmp 3), none⟩, ⟨some 47, .mv (.tmp 2), none⟩, ⟨some 48, .call 11 [.tmp 45, .tmp 46, .tmp 47], none⟩, ⟨some 9, .new [.p (.int .i64 0), .p (.int .i64 0), .p (.int .i64 0), .p (.int .i64 0), .tk .tight 0 []], none⟩, ⟨some 10, .new [.p (.int .i64 0), .p (.int .i64 0), .p (.int .i64 0), .p (.int .i64 0), .tk .tight 0 []], none⟩, ⟨none, .st 5 (some 9) (.tmp 9) (.tmp 44), none⟩, ⟨none, .st 5 (some 10) (.tmp 10) (.tmp 48), none⟩]
def frustumlaw31_ClipShared.r5 : List MOp := [⟨some 49, .ld 5 true (some 3) (.tmp 3), none⟩, ⟨some 50, .ld 5 true (some 4) (.tmp 4), none⟩, ⟨some 51, .mv (.tmp 2), none⟩, ⟨some 52, .call 13 [.tmp 49, .tmp 50, .tmp 51], none⟩, ⟨some 53, .ld 5 true (some 4) (.tmp 4), none⟩, ⟨some 54, .ld 5 true (some 3) (.tmp 3), none⟩, ⟨some 55, .mv (.tmp 2), none⟩, ⟨some 56, .call 13 [.tmp 53, .tmp 54, .tmp 55], none⟩, ⟨some 11, .mv (.tmp 52), none⟩, ⟨some 12, .mv (.tmp 56), none⟩]
def frustumlaw31_ClipShared.r6 : List MOp := [⟨some 57, .ld 5 true (some 9) (.tmp 9), none⟩, ⟨some 58, .ld 5 true (some 10) (.tmp 10), none⟩, ⟨some 59, .call 14 [.tmp 57, .tmp 58], none⟩, ⟨some 60, .un .not (.tmp 59), none⟩, ⟨some 61, .mv (.tmp 60), none⟩, ⟨some 62, .mv (.tmp 11), some (61, false)⟩, ⟨some 63, .len (.tmp 62), some (61, false)⟩, ⟨some 64, .mv (.tmp 12), some (61, false)⟩, ⟨some 65, .len (.tmp 64), some (61, false)⟩, ⟨some 66, .bin .add (.tmp 63) (.tmp 65), some (61, false)⟩, ⟨some 67, .bin .neq (.tmp 66) (.const (.int .i64 3)), some (61, false)⟩, ⟨some 68, .pick (.tmp 61) (.const (.bool true)) (.tmp 67), none⟩, ⟨some 69, .mv (.tmp 68), none⟩, ⟨some 70, .mv (.tmp 11), some (69, false)⟩, ⟨some 71, .len (.tmp 70), some (69, false)⟩, ⟨some 72, .bin .eql (.tmp 71) (.const (.int .i64 0)), some (69, false)⟩, ⟨some 73, .pick (.tmp 69) (.const (.bool true)) (.tmp 72), none⟩, ⟨some 74, .mv (.tmp 73), none⟩, ⟨some 75, .mv (.tmp 12), some (74, false)⟩, ⟨some 76, .len (.tmp 75), some (74, false)⟩, ⟨some 77, .bin .eql (.tmp 76) (.const (.int .i64 0)), some (74, false)⟩, ⟨some 78, .pick (.tmp 74) (.const (.bool true)) (.tmp 77), none⟩]
def frustumlaw31_ClipShared.r7 : List MOp := [⟨some 6, .mv (.const (.bool false)), none⟩]
def frustumlaw31_ClipShared.r8 : List MOp := [⟨some 79, .mv (.tmp 11), none⟩, ⟨some 80, .idx 5 (.tmp 79) (.const (.int .i64 0)), none⟩, ⟨some 81, .ld 5 true (some 1000000) (.tmp 80), none⟩, ⟨some 82, .mv (.tmp 12), none⟩, ⟨some 83, .idx 5 (.tmp 82) (.const (.int .i64 0)), none⟩, ⟨some 84, .ld 5 true (some 1000000) (.tmp 83), none⟩, ⟨some 85, .call 14 [.tmp 81, .tmp 84], none⟩, ⟨some 86, .mv (.tmp 85), none⟩, ⟨some 87, .mv (.tmp 11), some (86, true)⟩, ⟨some 88, .len (.tmp 87), some (86, true)⟩, ⟨some 89, .bin .eql (.tmp 88) (.const (.int .i64 1)), some (86, true)⟩, ⟨some 90, .mv (.tmp 7), some (86, true)⟩, ⟨some 91, .eqb false (.tmp 89) (.tmp 90), some (86, true)⟩, ⟨some 92, .pick (.tmp 86) (.tmp 91) (.const (.bool false)), none⟩, ⟨some 93, .mv (.tmp 92), none⟩, ⟨some 94, .call 12 [], some (93, true)⟩, ⟨some 95, .pick (.tmp 93) (.tmp 94) (.const (.bool false)), none⟩, ⟨some 6, .mv (.tmp 95), none⟩]
def frustumlaw31_ClipShared.m : MC := .seq (.reg frustumlaw31_ClipShared.r0) (.seq (.reg frustumlaw31_ClipShared.r1) (.seq (.seq (.reg frustumlaw31_ClipShared.r2) (.cond (.tmp 23) (.seq (.reg frustumlaw31_ClipShared.r3) .ret) .skip)) (.seq (.reg frustumlaw31_ClipShared.r4) (.seq (.reg frustumlaw31_ClipShared.r5) (.seq (.seq (.reg frustumlaw31_ClipShared.r6) (.cond (.tmp 78) (.seq (.reg frustumlaw31_ClipShared.r7) .ret) .skip)) (.seq (.reg frustumlaw31_ClipShared.r8) .ret))))))
theorem frustumlaw31_ClipShared.tr : trF Try.prog [23] Try.f3 = some (frustumlaw31_ClipShared.m, .tmp 6) := by kernel_rfl
def sharedS : Am.Spec := (sig3 aV aV aInt).spec fun a => if lenOk a.1 ∧ lenOk a.2.1 then some (rBool true) else none
theorem frustumlaw31_ClipShared.ok : SpecOK Try.prog 3 sharedS := (sig3 aV aV aInt).ok fun a r h => by
  obtain ⟨a, b, k⟩ := a
  (try simp only at h)
  split at h
  case isFalse => cases h
  rename_i hl
  obtain ⟨la, lb⟩ := hl
  cases h
  refine fnLaw Try.func3 frustumlaw31_ClipShared.tr (by kernel_rfl) hE (ok_cons clip_Distance.ok (ok_cons clip_Intersect.ok (ok_cons frustumlaw31_saturatedEqual.ok (ok_cons frustumlaw31_example.ok (ok_cons clip_Edge.ok (ok_cons frustumref31_Same.ok ok_nil)))))) ?_
  unfold frustumlaw31_ClipShared.m
  have da := dV_lit a
  have db := dV_lit b
  refine seq_reg (σ' := ?_) ?_ ?_
  rotate_left
  · simp -implicitDefEqProofs only [frustumlaw31_ClipShared.r0, ex_nil, ex_cons, exK_some, st_n, st_g, gd_b, rn_v, rn_m, rn_s, rn_a, think, prep, mkDsts, St.clear, ev, upd, init, PV.av, St.put, forgetBox, AV.cells, AV.pv, pvs, fillX, chunks, binV, xints, ldX, AV.plain, baseOk, fg_p, fg_tk, mkG, Sig.spec, tab, St.of, List.getElem?_cons_zero, List.getElem?_cons_succ, List.getElem?_nil, Option.map_some, Option.map_none, Option.bind_some, Option.isSome_some, Option.isSome_none, if_true, if_false, reduceIte, Nat.reduceEqDiff, List.map_cons, List.map_nil, List.drop_succ_cons, List.drop_zero, List.take_succ_cons, List.take_zero, List.length_cons, List.length_nil, List.length_append, List.cons_append, List.nil_append, List.append_nil, Nat.reduceAdd, Nat.reduceMul, Nat.reduceLeDiff, Nat.reduceBEq, Nat.zero_le, Nat.le_refl, Nat.zero_add, Nat.add_zero, and_self, and_true, true_and, or_true, true_or, Bool.not_true, Bool.not_false, Bool.false_eq_true, beq_self_eq_true, reduceCtorEq, Int.reduceBEq, Int.reduceBNe, Int.reduceLT, Int.reduceLE, Int.reduceAdd, Int.reduceToNat, Int.toNat_zero, Int.reduceEq, Int.toNat_natCast, c3, eq_self, Int.le_refl, decide_eq_true_eq, decide_eq_false_iff_not, not_true_eq_false, not_false_eq_true, decide_true, decide_false, Bool.true_eq_false, sig3, aV, aInt, V.cs]; rfl
  obtain ⟨x, hx⟩ : ∃ x, decide (distF a k ≥ 0) = x := ⟨_, rfl⟩
  obtain ⟨y, hy⟩ : ∃ x, decide (distF b k ≥ 0) = x := ⟨_, rfl⟩
  refine seq_ex (σ'' := St.of [(2, rInt k), (3, .box 3 0), (4, .box 4 0), (7, rBool x), (8, rBool y)] [(3, a.cs.map .p), (4, b.cs.map .p)] [] (0)) ⟨_, by simp -implicitDefEqProofs only [frustumlaw31_ClipShared.r1, ex_nil, ex_cons, exK_some, st_n, st_g, gd_b, rn_v, rn_m, rn_s, rn_a, think, prep, mkDsts, St.clear, ev, upd, init, PV.av, St.put, forgetBox, AV.cells, AV.pv, pvs, fillX, chunks, binV, xints, ldX, AV.plain, baseOk, fg_p, fg_tk, mkG, Sig.spec, tab, St.of, List.getElem?_cons_zero, List.getElem?_cons_succ, List.getElem?_nil, Option.map_some, Option.map_none, Option.bind_some, Option.isSome_some, Option.isSome_none, if_true, if_false, reduceIte, Nat.reduceEqDiff, List.map_cons, List.map_nil, List.drop_succ_cons, List.drop_zero, List.take_succ_cons, List.take_zero, List.length_cons, List.length_nil, List.length_append, List.cons_append, List.nil_append, List.append_nil, Nat.reduceAdd, Nat.reduceMul, Nat.reduceLeDiff, Nat.reduceBEq, Nat.zero_le, Nat.le_refl, Nat.zero_add, Nat.add_zero, and_self, and_true, true_and, or_true, true_or, Bool.not_true, Bool.not_false, Bool.false_eq_true, beq_self_eq_true, reduceCtorEq, Int.reduceBEq, Int.reduceBNe, Int.reduceLT, Int.reduceLE, Int.reduceAdd, Int.reduceToNat, Int.toNat_zero, Int.reduceEq, Int.toNat_natCast, c3, eq_self, Int.le_refl, decide_eq_true_eq, decide_eq_false_iff_not, not_true_eq_false, not_false_eq_true, decide_true, decide_false, Bool.true_eq_false, distS, sig2, aV, aInt, da, db, rInt, hx, hy]; rfl, sub_of (all_cons rfl (all_cons rfl (all_cons rfl (all_cons rfl (all_cons rfl all_nil))))) (all_cons rfl (all_cons rfl all_nil)) all_nil (Nat.le_refl _)⟩ ?_
  refine seq_ (seq_ ?_)
  have hab : ∀ z, (decide (distF a k ≥ 0) == decide (distF b k ≥ 0)) = z → (x == y) = z := fun z h => by rw [← hx, ← hy]; exact h
  have lia := lenOk_inter (k := k) la lb
  have lib := lenOk_inter (k := k) lb la
  by_cases hs : x = y
  · have hsb : (x == y) = true := by rw [hs]; exact beq_self_eq_true _
    have e1 : interF a b k = satV a := inter_same (by rw [hx, hy]; exact hsb)
    have e2 : interF b a k = satV b := inter_same (by rw [hx, hy, hs]; exact beq_self_eq_true _)
    obtain ⟨c, hc⟩ : ∃ c, interF a b k = c := ⟨_, rfl⟩
    obtain ⟨d, hd⟩ : ∃ c, interF b a k = c := ⟨_, rfl⟩
    rw [hc] at e1 lia
    rw [hd] at e2 lib
    have dc := dV_lit c
    have dd := dV_lit d
    have h1 : decide (c = satV a) = true := by rw [e1]; exact decide_eq_true rfl
    have h2 : decide (d = satV b) = true := by rw [e2]; exact decide_eq_true rfl
    refine seq_reg (σ' := ?_) ?_ ?_
    rotate_left
    · simp -implicitDefEqProofs only [frustumlaw31_ClipShared.r2, ex_nil, ex_cons, exK_some, st_n, st_g, gd_b, rn_v, rn_m, rn_s, rn_a, think, prep, mkDsts, St.clear, ev, upd, init, PV.av, St.put, forgetBox, AV.cells, AV.pv, pvs, fillX, chunks, binV, xints, ldX, AV.plain, baseOk, fg_p, fg_tk, mkG, Sig.spec, tab, St.of, List.getElem?_cons_zero, List.getElem?_cons_succ, List.getElem?_nil, Option.map_some, Option.map_none, Option.bind_some, Option.isSome_some, Option.isSome_none, if_true, if_false, reduceIte, Nat.reduceEqDiff, List.map_cons, List.map_nil, List.drop_succ_cons, List.drop_zero, List.take_succ_cons, List.take_zero, List.length_cons, List.length_nil, List.length_append, List.cons_append, List.nil_append, List.append_nil, Nat.reduceAdd, Nat.reduceMul, Nat.reduceLeDiff, Nat.reduceBEq, Nat.zero_le, Nat.le_refl, Nat.zero_add, Nat.add_zero, and_self, and_true, true_and, or_true, true_or, Bool.not_true, Bool.not_false, Bool.false_eq_true, beq_self_eq_true, reduceCtorEq, Int.reduceBEq, Int.reduceBNe, Int.reduceLT, Int.reduceLE, Int.reduceAdd, Int.reduceToNat, Int.toNat_zero, Int.reduceEq, Int.toNat_natCast, c3, eq_self, Int.le_refl, decide_eq_true_eq, decide_eq_false_iff_not, not_true_eq_false, not_false_eq_true, decide_true, decide_false, Bool.true_eq_false, rBool, hsb]; rfl
    refine cond_ rfl (fun _ => ?_) (fun h => by cases h)
    refine seq_reg (σ' := ?_) ?_ ?_
    rotate_left
    · simp -implicitDefEqProofs only [frustumlaw31_ClipShared.r3, ex_nil, ex_cons, exK_some, st_n, st_g, gd_b, rn_v, rn_m, rn_s, rn_a, think, prep, mkDsts, St.clear, ev, upd, init, PV.av, St.put, forgetBox, AV.cells, AV.pv, pvs, fillX, chunks, binV, xints, ldX, AV.plain, baseOk, fg_p, fg_tk, mkG, Sig.spec, tab, St.of, List.getElem?_cons_zero, List.getElem?_cons_succ, List.getElem?_nil, Option.map_some, Option.map_none, Option.bind_some, Option.isSome_some, Option.isSome_none, if_true, if_false, reduceIte, Nat.reduceEqDiff, List.map_cons, List.map_nil, List.drop_succ_cons, List.drop_zero, List.take_succ_cons, List.take_zero, List.length_cons, List.length_nil, List.length_append, List.cons_append, List.nil_append, List.append_nil, Nat.reduceAdd, Nat.reduceMul, Nat.reduceLeDiff, Nat.reduceBEq, Nat.zero_le, Nat.le_refl, Nat.zero_add, Nat.add_zero, and_self, and_true, true_and, or_true, true_or, Bool.not_true, Bool.not_false, Bool.false_eq_true, beq_self_eq_true, reduceCtorEq, Int.reduceBEq, Int.reduceBNe, Int.reduceLT, Int.reduceLE, Int.reduceAdd, Int.reduceToNat, Int.toNat_zero, Int.reduceEq, Int.toNat_natCast, c3, eq_self, Int.le_refl, decide_eq_true_eq, decide_eq_false_iff_not, not_true_eq_false, not_false_eq_true, decide_true, decide_false, Bool.true_eq_false, rInt, interS, satEqS, exS, sig0, sig2, sig3, aV, aInt, da, db, dc, dd, la, lb, lia, lib, hc, hd, h1, h2, V.cs, rV, rBool]; rfl
    exact ret_ ⟨.inl rfl, _, rfl, AVle.refl _⟩
  have hsb : (x == y) = false := by cases x <;> cases y <;> first | rfl | exact absurd rfl hs
  have hne : ¬ (decide (distF a k ≥ 0) == decide (distF b k ≥ 0)) = true := by rw [hx, hy, hsb]; decide
  have e1 := inter_comm hne
  obtain ⟨c, hc⟩ : ∃ c, interF a b k = c := ⟨_, rfl⟩
  rw [hc] at e1 lia
  have dc := dV_lit c
  have hcc : decide (c = c) = true := decide_eq_true rfl
  refine seq_reg (σ' := ?_) ?_ ?_
  rotate_left
  · simp -implicitDefEqProofs only [frustumlaw31_ClipShared.r2, ex_nil, ex_cons, exK_some, st_n, st_g, gd_b, rn_v, rn_m, rn_s, rn_a, think, prep, mkDsts, St.clear, ev, upd, init, PV.av, St.put, forgetBox, AV.cells, AV.pv, pvs, fillX, chunks, binV, xints, ldX, AV.plain, baseOk, fg_p, fg_tk, mkG, Sig.spec, tab, St.of, List.getElem?_cons_zero, List.getElem?_cons_succ, List.getElem?_nil, Option.map_some, Option.map_none, Option.bind_some, Option.isSome_some, Option.isSome_none, if_true, if_false, reduceIte, Nat.reduceEqDiff, List.map_cons, List.map_nil, List.drop_succ_cons, List.drop_zero, List.take_succ_cons, List.take_zero, List.length_cons, List.length_nil, List.length_append, List.cons_append, List.nil_append, List.append_nil, Nat.reduceAdd, Nat.reduceMul, Nat.reduceLeDiff, Nat.reduceBEq, Nat.zero_le, Nat.le_refl, Nat.zero_add, Nat.add_zero, and_self, and_true, true_and, or_true, true_or, Bool.not_true, Bool.not_false, Bool.false_eq_true, beq_self_eq_true, reduceCtorEq, Int.reduceBEq, Int.reduceBNe, Int.reduceLT, Int.reduceLE, Int.reduceAdd, Int.reduceToNat, Int.toNat_zero, Int.reduceEq, Int.toNat_natCast, c3, eq_self, Int.le_refl, decide_eq_true_eq, decide_eq_false_iff_not, not_true_eq_false, not_false_eq_true, decide_true, decide_false, Bool.true_eq_false, rBool, hsb]; rfl
  refine cond_ rfl (fun h => by cases h) (fun _ => skip_ (norm_ ?_))
  refine seq_ex (σ'' := St.of [(2, rInt k), (3, .box 3 0), (4, .box 4 0), (7, rBool x), (8, rBool y), (9, .box 9 0), (10, .box 10 0)] [(3, a.cs.map .p), (4, b.cs.map .p), (9, c.cs.map .p), (10, c.cs.map .p)] [] (0)) ⟨_, by simp -implicitDefEqProofs only [frustumlaw31_ClipShared.r4, ex_nil, ex_cons, exK_some, st_n, st_g, gd_b, rn_v, rn_m, rn_s, rn_a, think, prep, mkDsts, St.clear, ev, upd, init, PV.av, St.put, forgetBox, AV.cells, AV.pv, pvs, fillX, chunks, binV, xints, ldX, AV.plain, baseOk, fg_p, fg_tk, mkG, Sig.spec, tab, St.of, List.getElem?_cons_zero, List.getElem?_cons_succ, List.getElem?_nil, Option.map_some, Option.map_none, Option.bind_some, Option.isSome_some, Option.isSome_none, if_true, if_false, reduceIte, Nat.reduceEqDiff, List.map_cons, List.map_nil, List.drop_succ_cons, List.drop_zero, List.take_succ_cons, List.take_zero, List.length_cons, List.length_nil, List.length_append, List.cons_append, List.nil_append, List.append_nil, Nat.reduceAdd, Nat.reduceMul, Nat.reduceLeDiff, Nat.reduceBEq, Nat.zero_le, Nat.le_refl, Nat.zero_add, Nat.add_zero, and_self, and_true, true_and, or_true, true_or, Bool.not_true, Bool.not_false, Bool.false_eq_true, beq_self_eq_true, reduceCtorEq, Int.reduceBEq, Int.reduceBNe, Int.reduceLT, Int.reduceLE, Int.reduceAdd, Int.reduceToNat, Int.toNat_zero, Int.reduceEq, Int.toNat_natCast, c3, eq_self, Int.le_refl, decide_eq_true_eq, decide_eq_false_iff_not, not_true_eq_false, not_false_eq_true, decide_true, decide_false, Bool.true_eq_false, rInt, interS, sig3, aV, aInt, da, db, la, lb, hc, e1, V.cs, rV]; rfl, sub_of (all_cons rfl (all_cons rfl (all_cons rfl (all_cons rfl (all_cons rfl (all_cons rfl (all_cons rfl all_nil))))))) (all_cons rfl (all_cons rfl (all_cons rfl (all_cons rfl all_nil)))) all_nil (Nat.le_refl _)⟩ ?_
  have hne' : ¬ (decide (distF (satV a) k ≥ 0) == decide (distF (satV b) k ≥ 0)) = true := by rw [dist_sat, dist_sat]; exact hne
  have e2 := inter_comm hne'
  obtain ⟨e, he⟩ : ∃ c, interF (satV a) (satV b) k = c := ⟨_, rfl⟩
  rw [he] at e2
  have le : lenOk e := by rw [← he]; exact lenOk_inter (lenOk_sat la) (lenOk_sat lb)
  have de := dV_lit e
  have hee : decide (e = e) = true := decide_eq_true rfl
  cases x with
  | true =>
    have hx' : distF (satV a) k ≥ 0 := by rw [dist_sat]; exact of_decide_eq_true hx
    have hy' : ¬ distF (satV b) k ≥ 0 := by
      rw [dist_sat]; cases y with
      | true => cases hsb
      | false => exact of_decide_eq_false hy
    have g1 : edgeF a b k = [e] := by unfold edgeF; rw [if_pos hx', if_neg hy', he]
    have g2 : edgeF b a k = [e, satV a] := by unfold edgeF; rw [if_neg hy', if_pos hx', e2]
    obtain ⟨sa, hsa⟩ : ∃ c, satV a = c := ⟨_, rfl⟩
    rw [hsa] at g2
    refine seq_ex (σ'' := St.of [(7, rBool true), (9, .box 9 0), (10, .box 10 0), (11, rVs [e]), (12, rVs [e, sa])] [(9, c.cs.map .p), (10, c.cs.map .p)] [] (0)) ⟨_, by simp -implicitDefEqProofs only [frustumlaw31_ClipShared.r5, ex_nil, ex_cons, exK_some, st_n, st_g, gd_b, rn_v, rn_m, rn_s, rn_a, think, prep, mkDsts, St.clear, ev, upd, init, PV.av, St.put, forgetBox, AV.cells, AV.pv, pvs, fillX, chunks, binV, xints, ldX, AV.plain, baseOk, fg_p, fg_tk, mkG, Sig.spec, tab, St.of, List.getElem?_cons_zero, List.getElem?_cons_succ, List.getElem?_nil, Option.map_some, Option.map_none, Option.bind_some, Option.isSome_some, Option.isSome_none, if_true, if_false, reduceIte, Nat.reduceEqDiff, List.map_cons, List.map_nil, List.drop_succ_cons, List.drop_zero, List.take_succ_cons, List.take_zero, List.length_cons, List.length_nil, List.length_append, List.cons_append, List.nil_append, List.append_nil, Nat.reduceAdd, Nat.reduceMul, Nat.reduceLeDiff, Nat.reduceBEq, Nat.zero_le, Nat.le_refl, Nat.zero_add, Nat.add_zero, and_self, and_true, true_and, or_true, true_or, Bool.not_true, Bool.not_false, Bool.false_eq_true, beq_self_eq_true, reduceCtorEq, Int.reduceBEq, Int.reduceBNe, Int.reduceLT, Int.reduceLE, Int.reduceAdd, Int.reduceToNat, Int.toNat_zero, Int.reduceEq, Int.toNat_natCast, c3, eq_self, Int.le_refl, decide_eq_true_eq, decide_eq_false_iff_not, not_true_eq_false, not_false_eq_true, decide_true, decide_false, Bool.true_eq_false, rInt, edgeS, sig3, aV, aInt, da, db, la, lb, g1, g2, V.cs, rVs, cVs]; rfl, sub_of (all_cons rfl (all_cons rfl (all_cons rfl (all_cons rfl (all_cons rfl all_nil))))) (all_cons rfl (all_cons rfl all_nil)) all_nil (Nat.le_refl _)⟩ ?_
    refine seq_ (seq_ ?_)
    refine seq_reg (σ' := ?_) ?_ ?_
    rotate_left
    · simp -implicitDefEqProofs only [frustumlaw31_ClipShared.r6, ex_nil, ex_cons, exK_some, st_n, st_g, gd_b, rn_v, rn_m, rn_s, rn_a, think, prep, mkDsts, St.clear, ev, upd, init, PV.av, St.put, forgetBox, AV.cells, AV.pv, pvs, fillX, chunks, binV, xints, ldX, AV.plain, baseOk, fg_p, fg_tk, mkG, Sig.spec, tab, St.of, List.getElem?_cons_zero, List.getElem?_cons_succ, List.getElem?_nil, Option.map_some, Option.map_none, Option.bind_some, Option.isSome_some, Option.isSome_none, if_true, if_false, reduceIte, Nat.reduceEqDiff, List.map_cons, List.map_nil, List.drop_succ_cons, List.drop_zero, List.take_succ_cons, List.take_zero, List.length_cons, List.length_nil, List.length_append, List.cons_append, List.nil_append, List.append_nil, Nat.reduceAdd, Nat.reduceMul, Nat.reduceLeDiff, Nat.reduceBEq, Nat.zero_le, Nat.le_refl, Nat.zero_add, Nat.add_zero, and_self, and_true, true_and, or_true, true_or, Bool.not_true, Bool.not_false, Bool.false_eq_true, beq_self_eq_true, reduceCtorEq, Int.reduceBEq, Int.reduceBNe, Int.reduceLT, Int.reduceLE, Int.reduceAdd, Int.reduceToNat, Int.toNat_zero, Int.reduceEq, Int.toNat_natCast, c3, eq_self, Int.le_refl, decide_eq_true_eq, decide_eq_false_iff_not, not_true_eq_false, not_false_eq_true, decide_true, decide_false, Bool.true_eq_false, sameS, sig2, aV, dc, lia, hcc, V.cs, rVs, cVs, rBool]; rfl
    refine cond_ rfl (fun h => by cases h) (fun _ => skip_ (norm_ ?_))
    refine seq_reg (σ' := ?_) ?_ ?_
    rotate_left
    · simp -implicitDefEqProofs only [frustumlaw31_ClipShared.r8, ex_nil, ex_cons, exK_some, st_n, st_g, gd_b, rn_v, rn_m, rn_s, rn_a, think, prep, mkDsts, St.clear, ev, upd, init, PV.av, St.put, forgetBox, AV.cells, AV.pv, pvs, fillX, chunks, binV, xints, ldX, AV.plain, baseOk, fg_p, fg_tk, mkG, Sig.spec, tab, St.of, List.getElem?_cons_zero, List.getElem?_cons_succ, List.getElem?_nil, Option.map_some, Option.map_none, Option.bind_some, Option.isSome_some, Option.isSome_none, if_true, if_false, reduceIte, Nat.reduceEqDiff, List.map_cons, List.map_nil, List.drop_succ_cons, List.drop_zero, List.take_succ_cons, List.take_zero, List.length_cons, List.length_nil, List.length_append, List.cons_append, List.nil_append, List.append_nil, Nat.reduceAdd, Nat.reduceMul, Nat.reduceLeDiff, Nat.reduceBEq, Nat.zero_le, Nat.le_refl, Nat.zero_add, Nat.add_zero, and_self, and_true, true_and, or_true, true_or, Bool.not_true, Bool.not_false, Bool.false_eq_true, beq_self_eq_true, reduceCtorEq, Int.reduceBEq, Int.reduceBNe, Int.reduceLT, Int.reduceLE, Int.reduceAdd, Int.reduceToNat, Int.toNat_zero, Int.reduceEq, Int.toNat_natCast, c3, eq_self, Int.le_refl, decide_eq_true_eq, decide_eq_false_iff_not, not_true_eq_false, not_false_eq_true, decide_true, decide_false, Bool.true_eq_false, sameS, exS, sig0, sig2, aV, de, le, hee, V.cs, rVs, cVs, rBool]; rfl
    exact ret_ ⟨.inl rfl, _, rfl, AVle.refl _⟩
  | false =>
    have hx' : ¬ distF (satV a) k ≥ 0 := by rw [dist_sat]; exact of_decide_eq_false hx
    have hy' : distF (satV b) k ≥ 0 := by
      rw [dist_sat]; cases y with
      | true => exact of_decide_eq_true hy
      | false => cases hsb
    have g1 : edgeF a b k = [e, satV b] := by unfold edgeF; rw [if_neg hx', if_pos hy', he]
    have g2 : edgeF b a k = [e] := by unfold edgeF; rw [if_pos hy', if_neg hx', e2]
    obtain ⟨sa, hsa⟩ : ∃ c, satV b = c := ⟨_, rfl⟩
    rw [hsa] at g1
    refine seq_ex (σ'' := St.of [(7, rBool false), (9, .box 9 0), (10, .box 10 0), (11, rVs [e, sa]), (12, rVs [e])] [(9, c.cs.map .p), (10, c.cs.map .p)] [] (0)) ⟨_, by simp -implicitDefEqProofs only [frustumlaw31_ClipShared.r5, ex_nil, ex_cons, exK_some, st_n, st_g, gd_b, rn_v, rn_m, rn_s, rn_a, think, prep, mkDsts, St.clear, ev, upd, init, PV.av, St.put, forgetBox, AV.cells, AV.pv, pvs, fillX, chunks, binV, xints, ldX, AV.plain, baseOk, fg_p, fg_tk, mkG, Sig.spec, tab, St.of, List.getElem?_cons_zero, List.getElem?_cons_succ, List.getElem?_nil, Option.map_some, Option.map_none, Option.bind_some, Option.isSome_some, Option.isSome_none, if_true, if_false, reduceIte, Nat.reduceEqDiff, List.map_cons, List.map_nil, List.drop_succ_cons, List.drop_zero, List.take_succ_cons, List.take_zero, List.length_cons, List.length_nil, List.length_append, List.cons_append, List.nil_append, List.append_nil, Nat.reduceAdd, Nat.reduceMul, Nat.reduceLeDiff, Nat.reduceBEq, Nat.zero_le, Nat.le_refl, Nat.zero_add, Nat.add_zero, and_self, and_true, true_and, or_true, true_or, Bool.not_true, Bool.not_false, Bool.false_eq_true, beq_self_eq_true, reduceCtorEq, Int.reduceBEq, Int.reduceBNe, Int.reduceLT, Int.reduceLE, Int.reduceAdd, Int.reduceToNat, Int.toNat_zero, Int.reduceEq, Int.toNat_natCast, c3, eq_self, Int.le_refl, decide_eq_true_eq, decide_eq_false_iff_not, not_true_eq_false, not_false_eq_true, decide_true, decide_false, Bool.true_eq_false, rInt, edgeS, sig3, aV, aInt, da, db, la, lb, g1, g2, V.cs, rVs, cVs]; rfl, sub_of (all_cons rfl (all_cons rfl (all_cons rfl (all_cons rfl (all_cons rfl all_nil))))) (all_cons rfl (all_cons rfl all_nil)) all_nil (Nat.le_refl _)⟩ ?_
    refine seq_ (seq_ ?_)
    refine seq_reg (σ' := ?_) ?_ ?_
    rotate_left
    · simp -implicitDefEqProofs only [frustumlaw31_ClipShared.r6, ex_nil, ex_cons, exK_some, st_n, st_g, gd_b, rn_v, rn_m, rn_s, rn_a, think, prep, mkDsts, St.clear, ev, upd, init, PV.av, St.put, forgetBox, AV.cells, AV.pv, pvs, fillX, chunks, binV, xints, ldX, AV.plain, baseOk, fg_p, fg_tk, mkG, Sig.spec, tab, St.of, List.getElem?_cons_zero, List.getElem?_cons_succ, List.getElem?_nil, Option.map_some, Option.map_none, Option.bind_some, Option.isSome_some, Option.isSome_none, if_true, if_false, reduceIte, Nat.reduceEqDiff, List.map_cons, List.map_nil, List.drop_succ_cons, List.drop_zero, List.take_succ_cons, List.take_zero, List.length_cons, List.length_nil, List.length_append, List.cons_append, List.nil_append, List.append_nil, Nat.reduceAdd, Nat.reduceMul, Nat.reduceLeDiff, Nat.reduceBEq, Nat.zero_le, Nat.le_refl, Nat.zero_add, Nat.add_zero, and_self, and_true, true_and, or_true, true_or, Bool.not_true, Bool.not_false, Bool.false_eq_true, beq_self_eq_true, reduceCtorEq, Int.reduceBEq, Int.reduceBNe, Int.reduceLT, Int.reduceLE, Int.reduceAdd, Int.reduceToNat, Int.toNat_zero, Int.reduceEq, Int.toNat_natCast, c3, eq_self, Int.le_refl, decide_eq_true_eq, decide_eq_false_iff_not, not_true_eq_false, not_false_eq_true, decide_true, decide_false, Bool.true_eq_false, sameS, sig2, aV, dc, lia, hcc, V.cs, rVs, cVs, rBool]; rfl
    refine cond_ rfl (fun h => by cases h) (fun _ => skip_ (norm_ ?_))
    refine seq_reg (σ' := ?_) ?_ ?_
    rotate_left
    · simp -implicitDefEqProofs only [frustumlaw31_ClipShared.r8, ex_nil, ex_cons, exK_some, st_n, st_g, gd_b, rn_v, rn_m, rn_s, rn_a, think, prep, mkDsts, St.clear, ev, upd, init, PV.av, St.put, forgetBox, AV.cells, AV.pv, pvs, fillX, chunks, binV, xints, ldX, AV.plain, baseOk, fg_p, fg_tk, mkG, Sig.spec, tab, St.of, List.getElem?_cons_zero, List.getElem?_cons_succ, List.getElem?_nil, Option.map_some, Option.map_none, Option.bind_some, Option.isSome_some, Option.isSome_none, if_true, if_false, reduceIte, Nat.reduceEqDiff, List.map_cons, List.map_nil, List.drop_succ_cons, List.drop_zero, List.take_succ_cons, List.take_zero, List.length_cons, List.length_nil, List.length_append, List.cons_append, List.nil_append, List.append_nil, Nat.reduceAdd, Nat.reduceMul, Nat.reduceLeDiff, Nat.reduceBEq, Nat.zero_le, Nat.le_refl, Nat.zero_add, Nat.add_zero, and_self, and_true, true_and, or_true, true_or, Bool.not_true, Bool.not_false, Bool.false_eq_true, beq_self_eq_true, reduceCtorEq, Int.reduceBEq, Int.reduceBNe, Int.reduceLT, Int.reduceLE, Int.reduceAdd, Int.reduceToNat, Int.toNat_zero, Int.reduceEq, Int.toNat_natCast, c3, eq_self, Int.le_refl, decide_eq_true_eq, decide_eq_false_iff_not, not_true_eq_false, not_false_eq_true, decide_true, decide_false, Bool.true_eq_false, sameS, exS, sig0, sig2, aV, de, le, hee, V.cs, rVs, cVs, rBool]; rfl
    exact ret_ ⟨.inl rfl, _, rfl, AVle.refl _⟩
theorem sharedS_at (a b : V) (k : Int) (ha : a.vs.length * 8 ≤ 140737488351232) (hb : b.vs.length * 8 ≤ 140737488351232) : sharedS [.agg a.cs, .agg b.cs, .c (.int .i64 k)] = some (rBool true) := by
  have h : (sig3 aV aV aInt).dec [.agg a.cs, .agg b.cs, .c (.int .i64 k)] = some (a, b, k) := by simp only [sig3, aV, aInt, dV_enc]
  unfold sharedS Sig.spec
  rw [h]
  exact if_pos ⟨lenOk_of ha, lenOk_of hb⟩
end Go.Proofs.Ytljndeeahnpnjaa.Cl
