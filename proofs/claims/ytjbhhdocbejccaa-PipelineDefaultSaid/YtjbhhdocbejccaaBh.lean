/- Chapter 43: PipelineDefault, walked: whatever the number, the law returns true. No condition. -/
import Derived.Test.YtjbhhdocbejccaaBg
namespace Go.Proofs.Ytjbhhdocbejccaa.Bl
open Go Go.RowKit Go.Proofs.Ytjbhhdocbejccaa.Bm
set_option linter.unusedVariables false
set_option linter.unusedSimpArgs false
set_option maxRecDepth 100000
def rawX (v : Value) : XV := .p (.raw v)
def iX (n : Int) : AV := .c (.p (.int .i64 n))
theorem raw_eq {w : World} {ok : Nat → Nat → Prop} {nt : Nat} {lv : Nat → Bool} {tip : Tip} : ∀ {X vs : List Value}, RepXs w ok nt lv tip (X.map rawX) vs → vs = X
  | [], [], _ => rfl
  | x :: X, v :: vs, h => by
    have h1 : RepC w ok (.raw x) v := h.1
    cases h1
    rw [raw_eq h.2]
  | [], _ :: _, h => h.elim
  | _ :: _, [], h => h.elim
theorem raw_rep {w : World} {ok : Nat → Nat → Prop} {nt : Nat} {lv : Nat → Bool} {tip : Tip} : ∀ {X : List Value}, (∀ v ∈ X, v.oneCell' = true) → RepXs w ok nt lv tip (X.map rawX) X
  | [], _ => trivial
  | x :: X, h => ⟨RepC.raw x (h x (by simp)), raw_rep (fun v hv => h v (by simp [hv]))⟩
theorem alloc_ev (n : Int) (X Y : List Value) (hX : X.length = 62) (hY : Y.length = 62) : (execL gD PipelineDefault.r1 [2, 3, 4, 5] (St.of [(0, iX n), (6, .agg (X.map rawX)), (7, .agg (Y.map rawX))] [] [] 0)).map (fun σ => (σ.tm 0, σ.tm 3, σ.tm 4, σ.hp 3, σ.hp 4)) =
    some (some (iX n), some (.box 3 0), some (.box 4 0), some (X.map rawX), some (Y.map rawX)) := by
  obtain ⟨y0, y1, y2, y3, y4, y5, y6, y7, y8, y9, y10, y11, y12, y13, y14, y15, y16, y17, y18, y19, y20, y21, y22, y23, y24, y25, y26, y27, y28, y29, y30, y31, y32, y33, y34, y35, y36, y37, y38, y39, y40, y41, y42, y43, y44, y45, y46, y47, y48, y49, y50, y51, y52, y53, y54, y55, y56, y57, y58, y59, y60, y61, rfl⟩ := ex_all hX
  obtain ⟨z0, z1, z2, z3, z4, z5, z6, z7, z8, z9, z10, z11, z12, z13, z14, z15, z16, z17, z18, z19, z20, z21, z22, z23, z24, z25, z26, z27, z28, z29, z30, z31, z32, z33, z34, z35, z36, z37, z38, z39, z40, z41, z42, z43, z44, z45, z46, z47, z48, z49, z50, z51, z52, z53, z54, z55, z56, z57, z58, z59, z60, z61, rfl⟩ := ex_all hY
  kernel_rfl
theorem and_ev (n : Int) (A3 A4 : Nat × Nat) : (execS gD PipelineDefault.r4 (prep PipelineDefault.r4 (s2 n A3 A4 vV vA none))).map (fun σ => (σ.tm 5, σ.tm 3, σ.tm 4)) =
    some (some (iX (IntKind.i64.wrap ((BitVec.ofInt 64 n &&& BitVec.ofInt 64 7).toNat))), some (.elt (some A3) (dCs vV vA)), some (.elt (some A4) (dCs vV vA))) := by kernel_rfl
theorem and_lt (n : Int) : ∃ k : Nat, k < 8 ∧ IntKind.i64.wrap ((BitVec.ofInt 64 n &&& BitVec.ofInt 64 7).toNat) = k := by
  have h : (BitVec.ofInt 64 n &&& BitVec.ofInt 64 7).toNat ≤ 7 := by
    rw [BitVec.toNat_and]; exact Nat.and_le_right
  refine ⟨(BitVec.ofInt 64 n &&& BitVec.ofInt 64 7).toNat, by omega, ?_⟩
  rw [IntKind.wrap_i64]; omega
theorem vk (k : Nat) (hk : k < 8) : ∃ x, vV[k * 6 + 5]? = some x ∧ IntKind.i64.wrap (x + 1) = x + 1 ∧ vV.set (k * 6 + 5) (x + 1) = vVk k := by
  match k, hk with
  | 0, _ => exact ⟨_, rfl, by decide +kernel, rfl⟩
  | 1, _ => exact ⟨_, rfl, by decide +kernel, rfl⟩
  | 2, _ => exact ⟨_, rfl, by decide +kernel, rfl⟩
  | 3, _ => exact ⟨_, rfl, by decide +kernel, rfl⟩
  | 4, _ => exact ⟨_, rfl, by decide +kernel, rfl⟩
  | 5, _ => exact ⟨_, rfl, by decide +kernel, rfl⟩
  | 6, _ => exact ⟨_, rfl, by decide +kernel, rfl⟩
  | 7, _ => exact ⟨_, rfl, by decide +kernel, rfl⟩
theorem r1_get : ∃ o0 o1, (opsOf (sq1 t1))[0]? = some o0 ∧ (opsOf (sq1 t1))[1]? = some o1 ∧ o0.guard = none ∧ o1.guard = none ∧ o0.dst = some 6 ∧ o1.dst = some 7 ∧
    o0.op = .call { callee := .value (.func 10), args := #[], argTypes := #[] } ∧ o1.op = .call { callee := .value (.func 10), args := #[], argTypes := #[] } := ⟨_, _, rfl, rfl, rfl, rfl, rfl, rfl, rfl, rfl⟩
theorem step_call {P : Program} {f : FuncId} {r : AV} (hc : CA P f [] r) {o : Oper} (ho : o.op = .call { callee := .value (.func f), args := #[], argTypes := #[] }) {a : Act} {w : World} {rest : Act → World → Prop} {Q : Exit → Act → World → Prop}
    (h : ∀ v w', Below w.heap.size w w' → RepA w' (fun b i => b < w.heap.size → False) 0 (fun _ => false) (fun _ => none) (fun _ => 0) r v → rest (a.put o.dst v) w') : o.wp P a w rest Q := by
  obtain ⟨⟨fn, hfn, hbody, hname⟩, hc⟩ := hc
  have hy : (execOp a.eval o).run P w = .ok (.enter f #[]) w := by
    unfold execOp
    have hfv : a.eval (.func f) = .func (.func f) #[] #[] := rfl
    simp only [ho, resolve, hfv, Deferred.ofValue, Sem.run_bind, Sem.run_pure, Result.andThen_ok, invoke, callFunc, run_program, hfn]
    simp [hname, hbody]
  unfold Oper.wp
  rw [hy, Oper.upon_enter]
  refine (hc w (fun _ _ => False) [] trivial).mono ?_
  rintro e w' ⟨v, rfl, hb, hv⟩
  exact h v w' hb hv
theorem no16 (k : Nat) (hk : k < 8) (j : Nat) (hj : j < (vVk k).length) : some (Value.int .i64 16) ≠ some (.int .i64 (vVk k)[j]) := fun h => by
  simp only [Option.some.injEq, Value.int.injEq, true_and] at h
  have h1 : ∀ k, k < 8 → ∀ y ∈ vVk k, y ≠ 16 := by decide +kernel
  exact h1 k hk _ (List.getElem_mem hj) h.symm
theorem def_vs {w : World} {ok : Nat → Nat → Prop} {v : Value} (h : RepA w ok 0 (fun _ => false) (fun _ => none) (fun _ => 0) (.agg rawD) v) :
    ∃ d : Dat, v = .agg d.vs.toArray ∧ d.Ok ∧ d.At w vV vA ∧ ok d.c (d.o + 0) ∧ ok d.f (d.fo + 0) ∧ ok d.a (d.ao + 0) ∧ d.vs.length = 62 ∧ ∀ u ∈ d.vs, u.oneCell' = true := by
  obtain ⟨vs, rfl, hr⟩ := h
  have h1 := RepXs.one hr
  have h2 := RepXs.forget hr
  rw [raw_cs] at h2
  have h3 := RepCs.length h2
  obtain ⟨d, rfl, hk, hat, o1, o2, o3⟩ := dat_of h2
  exact ⟨d, rfl, hk, hat, o1, o2, o3, h3.trans rfl, h1⟩
theorem wp_step {P : Program} {c1 c2 : Code} {Q : Exit → Act → World → Prop} {a : Act} {w : World} {R : Act → World → Prop} (h1 : c1.wp P (fun e a' w' => e = .normal ∧ R a' w') a w) (h2 : ∀ a' w', R a' w' → c2.wp P Q a' w') : (Code.seq c1 c2).wp P Q a w := by
  refine wp_seq (wp_mono h1 ?_)
  rintro e a' w' ⟨rfl, h⟩
  exact h2 a' w' h
theorem default_ok (n : Int) : CA Try.prog 5 [.c (.int .i64 n)] (.c (.p (.bool true))) := by
  refine ⟨⟨Try.f5, Try.func5, by rw [body_eq]; rfl, by kernel_rfl⟩, fun w okA vs hvs => ?_⟩
  obtain ⟨v0, hv0, rfl⟩ : ∃ v0, RepC w okA (.int .i64 n) v0 ∧ vs = [v0] := by
    match vs, hvs with
    | [v], h => exact ⟨v, h.1, rfl⟩
    | [], h => exact h.elim
    | _ :: _ :: _, h => exact h.2.elim
  cases hv0
  refine calls_of_wp Try.func5 body_eq ?_
  have hnt : Try.f5.ntmps = 62 := by kernel_rfl
  rw [hnt]
  -- region 0
  have hR0 : Rel w (fun _ _ => True) 62 (St.of [(0, iX n)] [] [] 0) { tmps := [Value.int .i64 n].toArray ++ Array.replicate (62 - [Value.int .i64 n].toArray.size) Go.undef, defers := [] } w :=
    rel_of (by simp) rfl (all_cons ⟨.int .i64 n, by simp, RepC.int _ _⟩ all_nil) (all_cons (by simp [iX]) all_nil)
  refine wp_step (R := fun a' w' => Below w.heap.size w w' ∧ a'.tmps.size = 62 ∧ a'.defers = [] ∧ a'.tmps[0]? = some (.int .i64 n)) (wp_mono (sound_code gD_ok hE _ _ (fun e σ => e = .normal ∧ σ.tm 0 = some (iX n)) _ _ _ tr0 ⟨_, rfl, rfl, rfl⟩ hR0) ?_) ?_
  · rintro e a' w' ⟨σ', ⟨β, tip, hR⟩, rfl, ht⟩
    obtain ⟨v, hv, hr⟩ := hR.tmB 0 _ ht
    cases hr
    exact ⟨rfl, hR.bel, hR.size, hR.dfs, hv⟩
  clear hR0
  rintro a1 w1 ⟨B1, z1, d1, g1⟩
  -- region 1: the two pipelines
  refine wp_step (R := fun a' w' => ∃ (w2 w3 : World) (p q : Dat) (b3 b4 : Nat) (ty ty' : TypeId), Below w1.heap.size w1 w2 ∧ Below w2.heap.size w2 w3 ∧ Below w3.heap.size w3 w' ∧ p.Ok ∧ q.Ok ∧ p.At w2 vV vA ∧ q.At w3 vV vA ∧
      (w1.heap.size ≤ p.c ∧ w1.heap.size ≤ p.f ∧ w1.heap.size ≤ p.a) ∧ (w2.heap.size ≤ q.c ∧ w2.heap.size ≤ q.f ∧ w2.heap.size ≤ q.a) ∧
      w3.heap.size ≤ b3 ∧ w3.heap.size ≤ b4 ∧ w'.heap[b3]? = some (.cells p.vs.toArray ty (0, 0)) ∧ w'.heap[b4]? = some (.cells q.vs.toArray ty' (0, 0)) ∧
      a'.tmps.size = 62 ∧ a'.defers = [] ∧ a'.tmps[0]? = some (.int .i64 n) ∧ a'.tmps[3]? = some (.pointer (some ⟨b3, 0, none⟩)) ∧ a'.tmps[4]? = some (.pointer (some ⟨b4, 0, none⟩))) ?_ ?_
  · rw [r1_eq]
    refine wp_region ?_
    have hsz : (opsOf (sq1 t1)).size = 6 := by kernel_rfl
    rw [hsz]
    obtain ⟨o0, o1, e0, e1, gd0, gd1, ds0, ds1, op0, op1⟩ := r1_get
    have hca : CA Try.prog 10 [] (.agg rawD) := gD_ok 10 [] _ rfl
    show wpOps _ _ _ (0 :: 1 :: [2, 3, 4, 5]) _ _
    rw [wpOps]
    simp only [e0]
    rw [if_pos (by simp [Region.wanted, gd0])]
    refine .inl (step_call hca op0 fun v6 w2 B2 r6 => ?_)
    rw [wpOps]
    simp only [e1]
    rw [if_pos (by simp [Region.wanted, gd1])]
    refine .inl (step_call hca op1 fun v7 w3 B3 r7 => ?_)
    rw [ds0, ds1]
    obtain ⟨p, rfl, pk, pa, p1, p2, p3, pl, pn⟩ := def_vs r6
    obtain ⟨q, rfl, qk, qa, q1, q2, q3, ql, qn⟩ := def_vs r7
    have hR : Rel w3 (fun _ _ => True) 62 (St.of [(0, iX n), (6, .agg (p.vs.map rawX)), (7, .agg (q.vs.map rawX))] [] [] 0) ((a1.put (some 6) (.agg p.vs.toArray)).put (some 7) (.agg q.vs.toArray)) w3 := by
      refine rel_of (by simp [Act.put, z1]) (by simp [Act.put, d1]) (all_cons ⟨.int .i64 n, ?_, RepC.int _ _⟩ (all_cons ⟨.agg p.vs.toArray, ?_, _, rfl, raw_rep pn⟩ (all_cons ⟨.agg q.vs.toArray, ?_, _, rfl, raw_rep qn⟩ all_nil))) (all_cons (by simp [iX]) (all_cons (by simp) (all_cons (by simp) all_nil)))
      · simp [Act.put, g1]
      · simp [Act.put, z1]
      · simp [Act.put, z1]
    obtain ⟨σ4, hx, hy⟩ := Option.map_eq_some_iff.1 (alloc_ev n p.vs q.vs pl ql)
    simp only [Prod.mk.injEq] at hy
    obtain ⟨y0, y3, y4, h3, h4⟩ := hy
    refine sound_list gD_ok hE tr1 ?_ _ _ _ _ hx hR
    rintro a' w' ⟨β, tip, hR⟩
    refine ⟨rfl, w2, w3, p, q, β 3, β 4, ?_⟩
    obtain ⟨l3, x3, ty3, k3, s3⟩ := hR.hpB 3 _ h3
    obtain ⟨l4, x4, ty4, k4, s4⟩ := hR.hpB 4 _ h4
    obtain rfl := raw_eq s3
    obtain rfl := raw_eq s4
    obtain ⟨v0, hv0, r0⟩ := hR.tmB 0 _ y0
    obtain ⟨v3, hv3, r3⟩ := hR.tmB 3 _ y3
    obtain ⟨v4, hv4, r4⟩ := hR.tmB 4 _ y4
    cases r0; cases r3; cases r4
    exact ⟨ty3, ty4, B2, B3, hR.bel, pk, qk, pa, qa, ⟨Nat.le_of_not_lt p1, Nat.le_of_not_lt p2, Nat.le_of_not_lt p3⟩, ⟨Nat.le_of_not_lt q1, Nat.le_of_not_lt q2, Nat.le_of_not_lt q3⟩, l3, l4, k3, k4, hR.size, hR.dfs, hv0, hv3, hv4⟩
  rintro a4 w4 ⟨w2, w3, p, q, b3, b4, ty, ty', B2, B3, B4, pk, qk, pa, qa, ⟨pc, pf, pp⟩, ⟨qc, qf, qq⟩, l3, l4, k3, k4, z4, d4, g0, g3, g4⟩
  have s12 := B2.size
  have s23 := B3.size
  have s34 := B4.size
  have pc2 := pa.v.lt (by decide)
  have pf2 := pa.f.lt (by decide)
  have pa2 := pa.a.lt (by decide)
  have qc3 := qa.v.lt (by decide)
  have qf3 := qa.f.lt (by decide)
  have qa3 := qa.a.lt (by decide)
  have l34 : b3 < w4.heap.size := (Array.getElem?_eq_some_iff.1 k3).1
  have l44 : b4 < w4.heap.size := (Array.getElem?_eq_some_iff.1 k4).1
  have pa4 : p.At w4 vV vA := (pa.below B3 pc2 pf2 pa2).below B4 (by omega) (by omega) (by omega)
  have qa4 : q.At w4 vV vA := qa.below B4 qc3 qf3 qa3
  -- region 2: the first question
  have hR4 : Rel w4 (fun _ _ => True) 62 (s2 n (b3, 0) (b4, 0) vV vA none) a4 w4 :=
    rel_of z4 d4 (all_cons ⟨_, g0, RepC.int _ _⟩ (all_cons ⟨_, g3, dat_elt pk pa4 rfl rfl k3⟩ (all_cons ⟨_, g4, dat_elt qk qa4 rfl rfl k4⟩ all_nil))) (all_cons (by simp) (all_cons (by simp) (all_cons (by simp) all_nil)))
  obtain ⟨⟨e5, σ5⟩, hx5, hy5⟩ := Option.map_eq_some_iff.1 (first_ev n (b3, 0) (b4, 0))
  simp only [Prod.mk.injEq] at hy5
  obtain ⟨rfl, y0, y3, y4, yn⟩ := hy5
  refine wp_step (R := fun a' w' => Rel w4 (fun _ _ => True) 62 (s2 n (b3, 0) (b4, 0) vV vA none) a' w') (wp_mono (sound_code gD_ok hE _ _ (fun e σ => e = .normal ∧ Sub (s2 n (b3, 0) (b4, 0) vV vA none) σ) _ _ _ tr2 (mrun_mwp _ _ _ _ _ hx5 ⟨rfl, sub_of (all_cons y0 (all_cons y3 (all_cons y4 all_nil))) all_nil all_nil (Nat.le_of_eq yn)⟩) hR4) ?_) ?_
  · rintro e a' w' ⟨σ', hR, rfl, hs⟩
    exact ⟨rfl, hR.sub hs⟩
  clear hR4 hx5 y0 y3 y4
  rintro a5 w5 hR5
  -- region 4: the number
  obtain ⟨k, hk, ek⟩ := and_lt n
  obtain ⟨σ6, hx6, hy6⟩ := Option.map_eq_some_iff.1 (and_ev n (b3, 0) (b4, 0))
  simp only [Prod.mk.injEq] at hy6
  obtain ⟨y5, y3, y4⟩ := hy6
  rw [ek] at y5
  refine wp_step (R := fun a' w' => Below w4.heap.size w4 w' ∧ a'.tmps.size = 62 ∧ a'.defers = [] ∧ a'.tmps[5]? = some (.int .i64 k) ∧ a'.tmps[3]? = some (.pointer (some ⟨b3, 0, none⟩)) ∧ a'.tmps[4]? = some (.pointer (some ⟨b4, 0, none⟩)))
    (wp_mono (sound_code gD_ok hE _ _ (fun e σ => e = .normal ∧ σ.tm 5 = some (iX k) ∧ σ.tm 3 = some (.elt (some (b3, 0)) (dCs vV vA)) ∧ σ.tm 4 = some (.elt (some (b4, 0)) (dCs vV vA))) _ _ _ tr4 ⟨_, hx6, rfl, y5, y3, y4⟩ hR5) ?_) ?_
  · rintro e a' w' ⟨σ', ⟨β, tip, hR⟩, rfl, t5, t3, t4⟩
    obtain ⟨v5, hv5, r5⟩ := hR.tmB 5 _ t5
    obtain ⟨v3, hv3, r3⟩ := hR.tmB 3 _ t3
    obtain ⟨v4, hv4, r4⟩ := hR.tmB 4 _ t4
    cases r5
    rw [elt_ptr r3] at hv3
    rw [elt_ptr r4] at hv4
    exact ⟨rfl, hR.bel, hR.size, hR.dfs, hv5, hv3, hv4⟩
  clear hR5 hx6 y5 y3 y4
  rintro a7 w7 ⟨B7, z7, d7, g5, g3, g4⟩
  have k37 : w7.heap[b3]? = some (.cells p.vs.toArray ty (0, 0)) := (B7.block b3 l34).trans k3
  have k47 : w7.heap[b4]? = some (.cells q.vs.toArray ty' (0, 0)) := (B7.block b4 l44).trans k4
  have pa7 : p.At w7 vV vA := pa4.below B7 (by omega) (by omega) (by omega)
  have qa7 : q.At w7 vV vA := qa4.below B7 (by omega) (by omega) (by omega)
  -- region 5: the instruction
  obtain ⟨x, hx1, hx2, hx3⟩ := vk k hk
  have hc5 : cz w7 ⟨p.c, p.o + (k * 6 + 5), none⟩ = some (.int .i64 x) := pa7.v _ _ hx1
  rw [← Nat.add_assoc] at hc5
  have hs7 : w7.cell? ⟨b3, 7, none⟩ = some (.slice (some ⟨p.c, p.o, none⟩) 8 p.cc) := by rw [cell_of_blk k37]; exact dat_v pk
  refine wp_step (r5_walk a7 w7 b3 p.c p.o p.cc k x _ hk hx2 z7 d7 g3 g4 g5 hs7 (cz_cell hc5) (cz_frozen hc5)) ?_
  rintro a8 w8 ⟨z8, d8, g3, g4, rfl⟩
  have pa7' : p.At w7.drew vV vA := ⟨pa7.v, pa7.f, pa7.a⟩
  have qa7' : q.At w7.drew vV vA := ⟨qa7.v, qa7.f, qa7.a⟩
  have ss := B7.size
  have hp48 : k * 6 + 5 < vV.length := by show _ < 48; omega
  have pa8 : p.At (w7.drew.setCell ⟨p.c, p.o + k * 6 + 5, none⟩ (.int .i64 (x + 1))) (vVk k) vA := by
    rw [Nat.add_assoc]
    refine ⟨by rw [← hx3]; exact pa7'.v.set hp48, pa7'.f.other fun e j hj => ?_, pa7'.a.other fun e j hj => ?_⟩
    · have h1 := pa7'.v; rw [← e] at h1
      exact Ne.symm (apart h1 pa7'.f vF_ap hp48 hj)
    · have h1 := pa7'.v; rw [← e] at h1
      exact Ne.symm (apart h1 pa7'.a vA_ap hp48 hj)
  have qa8 : q.At (w7.drew.setCell ⟨p.c, p.o + k * 6 + 5, none⟩ (.int .i64 (x + 1))) vV vA := ⟨qa7'.v.other (fun e => by omega), qa7'.f.other (fun e => by omega), qa7'.a.other (fun e => by omega)⟩
  have k38 : (w7.drew.setCell ⟨p.c, p.o + k * 6 + 5, none⟩ (.int .i64 (x + 1))).heap[b3]? = some (.cells p.vs.toArray ty (0, 0)) := (heap_setCell_other w7.drew _ b3 _ (by simp; omega)).trans k37
  have k48 : (w7.drew.setCell ⟨p.c, p.o + k * 6 + 5, none⟩ (.int .i64 (x + 1))).heap[b4]? = some (.cells q.vs.toArray ty' (0, 0)) := (heap_setCell_other w7.drew _ b4 _ (by simp; omega)).trans k47
  have B8 : Below w.heap.size w (w7.drew.setCell ⟨p.c, p.o + k * 6 + 5, none⟩ (.int .i64 (x + 1))) := by
    have s01 := B1.size
    refine Below.setCell ?_ (by simp; omega) _
    exact ((((B1.trans (B2.mono s01)).trans (B3.mono (by omega))).trans (B4.mono (by omega))).trans (B7.mono (by omega))).drew
  generalize w7.drew.setCell ⟨p.c, p.o + k * 6 + 5, none⟩ (.int .i64 (x + 1)) = w8 at pa8 qa8 k38 k48 B8 ⊢
  clear pa7' qa7' pa7 qa7 hc5 hs7
  -- region 6: the attribute
  have hc6 : cz w8 ⟨p.a, p.ao + 2, none⟩ = some (.int .i64 16) := pa8.a 2 16 rfl
  have hs8 : w8.cell? ⟨b3, 25, none⟩ = some (.slice (some ⟨p.a, p.ao, none⟩) 1 p.ac) := by rw [cell_of_blk k38]; exact dat_a pk
  refine wp_step (r6_walk a8 w8 b3 p.a p.ao p.ac 16 _ z8 d8 g3 g4 hs8 (cz_cell hc6) (cz_frozen hc6)) ?_
  rintro a9 w9 ⟨z9, d9, g3, g4, rfl⟩
  have pa9 : p.At (w8.setCell ⟨p.a, p.ao + 2, none⟩ (.int .i64 99)) (vVk k) vA2 := by
    refine ⟨pa8.v.other fun e j hj h => ?_, pa8.f.other fun e j hj h => ?_, pa8.a.set (p := 2) (by decide)⟩
    · have h1 := pa8.v j _ (List.getElem?_eq_getElem hj)
      rw [e, h, hc6] at h1
      exact absurd h1 (no16 k hk j hj)
    · have h1 := pa8.a; rw [← e] at h1
      exact absurd h (apart pa8.f h1 fA_ap hj (by decide))
  have qa9 : q.At (w8.setCell ⟨p.a, p.ao + 2, none⟩ (.int .i64 99)) vV vA := ⟨qa8.v.other (fun e => by omega), qa8.f.other (fun e => by omega), qa8.a.other (fun e => by omega)⟩
  have k39 : (w8.setCell ⟨p.a, p.ao + 2, none⟩ (.int .i64 99)).heap[b3]? = some (.cells p.vs.toArray ty (0, 0)) := (heap_setCell_other w8 _ b3 _ (by simp; omega)).trans k38
  have k49 : (w8.setCell ⟨p.a, p.ao + 2, none⟩ (.int .i64 99)).heap[b4]? = some (.cells q.vs.toArray ty' (0, 0)) := (heap_setCell_other w8 _ b4 _ (by simp; omega)).trans k48
  have B9 : Below w.heap.size w (w8.setCell ⟨p.a, p.ao + 2, none⟩ (.int .i64 99)) := B8.setCell (by have := B1.size; simp; omega) _
  generalize w8.setCell ⟨p.a, p.ao + 2, none⟩ (.int .i64 99) = w9 at pa9 qa9 k39 k49 B9 ⊢
  -- region 7: the last question
  have hVk : (vVk k).length = 48 := by unfold vVk; rw [List.length_set]; rfl
  have hR9 : Rel w9 (fun _ _ => True) 62 (St.of [(3, .elt (some (b3, 0)) (dCs (vVk k) vA2)), (4, .elt (some (b4, 0)) (dCs vV vA))] [] [] 0) a9 w9 :=
    rel_of z9 d9 (all_cons ⟨_, g3, dat_elt pk pa9 hVk rfl k39⟩ (all_cons ⟨_, g4, dat_elt qk qa9 rfl rfl k49⟩ all_nil)) (all_cons (by simp) (all_cons (by simp) all_nil))
  have hl := List.all_eq_true.1 (last_ev (b3, 0) (b4, 0)) k (List.mem_range.2 hk)
  obtain ⟨σt, hrun, ht⟩ : ∃ σt, mrun gD 1 (.seq (.reg PipelineDefault.r7) .ret) (St.of [(3, .elt (some (b3, 0)) (dCs (vVk k) vA2)), (4, .elt (some (b4, 0)) (dCs vV vA))] [] [] 0) = some (.ret, σt) ∧ σt.tm 2 = some (.c (.p (.bool true))) := by
    generalize mrun gD 1 (.seq (.reg PipelineDefault.r7) .ret) (St.of [(3, .elt (some (b3, 0)) (dCs (vVk k) vA2)), (4, .elt (some (b4, 0)) (dCs vV vA))] [] [] 0) = r at hl
    unfold isR at hl
    split at hl
    · rename_i σ
      split at hl
      · rename_i c hc
        subst hl
        exact ⟨σ, rfl, hc⟩
      · cases hl
    · cases hl
  refine wp_mono (sound_code gD_ok hE _ _ (fun e σ => e = .ret ∧ σ.tm 2 = some (.c (.p (.bool true)))) _ _ _ tr7 (mrun_mwp _ _ _ _ _ hrun ⟨rfl, ht⟩) hR9) ?_
  rintro e a' w' ⟨σ', ⟨β, tip, hR'⟩, rfl, ht'⟩
  obtain ⟨v, hv1, hv2⟩ := result_rep hR' (fn := Try.f5) (rv := .tmp 2) (r := .c (.p (.bool true))) (by kernel_rfl) (by simp only [result, ev, ht']; rfl)
  refine ⟨hR'.dfs, v, hv1, v, rfl, B9.trans (hR'.bel.mono (by have := B9.size; exact this)), ?_⟩
  cases hv2
  exact RepC.bool _
end Go.Proofs.Ytjbhhdocbejccaa.Bl
