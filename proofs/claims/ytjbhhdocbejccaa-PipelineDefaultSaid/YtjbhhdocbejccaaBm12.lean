/- The abstract machine: regions, in whatever order; code; functions. No condition beyond those that each theorem states. -/
import Derived.Test.YtjbhhdocbejccaaBm11
namespace Go.Proofs.Ytjbhhdocbejccaa.Bm
open Go Go.RowKit
set_option linter.unusedVariables false
set_option linter.unusedSimpArgs false

def dstOk (N : Nat) : Option Nat → Bool
  | some d => decide (d < N)
  | none => true
def trO (P : Program) (eqT : List TypeId) (bs : List (Nat × Nat)) (N : Nat) (ops : Array Oper) (o : Oper) : Option MOp :=
  match trOp P eqT bs o with
  | some m => if dstOk N o.dst = true then match o.guard with
        | none => some ⟨o.dst, m, none⟩
        | some (j, want) => match (ops[j]?).bind (·.dst) with
          | some g => some ⟨o.dst, m, some (g, want)⟩
          | none => none
      else none
  | none => none
def trL (P : Program) (eqT : List TypeId) (bs : List (Nat × Nat)) (N : Nat) (ops : Array Oper) : List Oper → Option (List MOp)
  | [] => some []
  | o :: r => match trO P eqT bs N ops o, trL P eqT bs N ops r with
    | some m, some ms => some (m :: ms)
    | _, _ => none
def execL (G : FuncId → Spec) (ms : List MOp) : List Nat → St → Option St
  | [], σ => some σ
  | i :: r, σ => match ms[i]? with
    | some m => (step1 G m σ).bind (execL G ms r)
    | none => execL G ms r σ
def execS (G : FuncId → Spec) : List MOp → St → Option St
  | [], σ => some σ
  | m :: r, σ => (step1 G m σ).bind (execS G r)

theorem trL_get {P : Program} {eqT : List TypeId} {bs : List (Nat × Nat)} {N : Nat} {ops : Array Oper} : ∀ {l : List Oper} {ms : List MOp}, trL P eqT bs N ops l = some ms → ms.length = l.length ∧ ∀ (i : Nat) (o : Oper), l[i]? = some o → ∃ m, ms[i]? = some m ∧ trO P eqT bs N ops o = some m
  | [], ms, h => by cases h; exact ⟨rfl, fun i o h => by simp at h⟩
  | o :: r, ms, h => by
    simp only [trL] at h
    split at h
    · rename_i m ms' hm hms
      cases h
      obtain ⟨h1, h2⟩ := trL_get hms
      refine ⟨by simp [h1], fun i o' ho => ?_⟩
      cases i with
      | zero => simp at ho; subst ho; exact ⟨m, by simp, hm⟩
      | succ i => simpa using h2 i o' (by simpa using ho)
    · cases h
section
variable {P : Program} {w0 : World} {okA : Nat → Nat → Prop} {N : Nat} {σ σ' σ1 : St} {a : Act} {w : World} {β : Nat → Nat} {tip : Tip} {eqT : List TypeId} {o : Oper} {Q : Exit → Act → World → Prop} {G : FuncId → Spec} {ops : Array Oper} {ms : List MOp} {bs : List (Nat × Nat)}
theorem upon_mono {next next' : Act → World → Prop} (hn : ∀ a w, next a w → next' a w) {r : Result Next} (h : o.upon P a next Q r) : o.upon P a next' Q r := by
  cases r with
  | ok n w' =>
    cases n with
    | value v => exact hn _ _ h
    | skip => exact hn _ _ h
    | defer d => exact hn _ _ h
    | enter f args =>
      refine Calls.mono h fun e w'' hr => ?_
      cases e with
      | returned v => exact hn _ _ hr
      | panicked c => exact hr
      | outgrown => exact hr
    | row row args => exact Rows.mono h fun v w'' hr => hn _ _ hr
    | _ => exact h
  | halt x w' => cases x <;> exact h
theorem sound_step (hG : GOK P G) (hE : ∀ t ∈ eqT, EqOk P t) {m : MOp} (hm : trO P eqT bs N ops o = some m) (hs : step1 G m σ = some σ1) (hR : Rel w0 okA N σ a w) {rest : Act → World → Prop} (hrest : ∀ a w, Rel w0 okA N σ1 a w → rest a w) :
    if Region.wanted o (yielded ops a.tmps) then o.wp P a w rest Q ∨ (o.asks P a w ∧ LetsOut Q) else rest (a.put o.dst undef) w := by
  obtain ⟨β, tip, hR⟩ := hR
  unfold trO at hm
  split at hm
  · rename_i mo hmo
    split at hm
    · rename_i hdst
      have hd : ∀ d, o.dst = some d → d < N := fun d h => by rw [h] at hdst; simpa [dstOk] using hdst
      have act : m.op = mo → m.dst = o.dst → (think G σ m.op).bind (fun e => e.run m.dst σ) = some σ1 → o.wp P a w rest Q := fun h1 h2 h3 => by
        simp only [Option.bind_eq_some_iff] at h3
        obtain ⟨e, he, hr⟩ := h3
        rw [h1] at he; rw [h2] at hr
        exact upon_mono hrest (sound_op (Q := Q) hR hG hE hmo he hr hd)
      split at hm
      · rename_i hg
        cases hm
        simp only [step1] at hs
        rw [if_pos (by simp [Region.wanted, hg])]
        exact .inl (act rfl rfl hs)
      · rename_i j want hg
        split at hm
        · rename_i g hj
          cases hm
          simp only [step1] at hs
          split at hs
          · rename_i b hb
            have hev := ev_bool hR hb
            have hy : yielded ops a.tmps j = some b := by
              unfold yielded
              rw [hj]
              simp only [Act.eval] at hev
              cases ht : a.tmps[g]? with
              | none => rw [Array.getD_eq_getD_getElem?, ht] at hev; cases hev
              | some v => rw [Array.getD_eq_getD_getElem?, ht] at hev; simp at hev; simp [ht, hev]
            by_cases hbw : b = want
            · rw [if_pos hbw] at hs
              rw [if_pos (by simp [Region.wanted, hg, hy, hbw])]
              exact .inl (act rfl rfl hs)
            · rw [if_neg hbw] at hs
              cases hs
              rw [if_neg (by simp [Region.wanted, hg, hy, hbw])]
              exact hrest _ _ ⟨β, tip, hR.put o.dst hd rfl⟩
          · rename_i hb
            have hev : a.eval (.tmp g) = Go.undef := (ev_rep hR hb).1
            have hy : yielded ops a.tmps j = none := by
              unfold yielded
              rw [hj]
              simp only [Act.eval] at hev
              cases ht : a.tmps[g]? with
              | none => simp [ht]
              | some v => rw [Array.getD_eq_getD_getElem?, ht] at hev; simp at hev; subst hev; simp [ht, Go.undef]
            cases hs
            rw [if_neg (by simp [Region.wanted, hg, hy])]
            exact hrest _ _ ⟨β, tip, hR.put o.dst hd rfl⟩
          · cases hs
        · cases hm
    · cases hm
  · cases hm
theorem sound_list (hG : GOK P G) (hE : ∀ t ∈ eqT, EqOk P t) (hms : trL P eqT bs N ops ops.toList = some ms) (hQ : ∀ a w, Rel w0 okA N σ' a w → Q .normal a w) :
    ∀ (l : List Nat) (σ : St) (a : Act) (w : World), execL G ms l σ = some σ' → Rel w0 okA N σ a w → wpOps P ops Q l a w
  | [], σ, a, w, h, hR => by cases h; exact hQ a w hR
  | i :: r, σ, a, w, h, hR => by
    obtain ⟨hlen, hget⟩ := trL_get hms
    simp only [wpOps]
    cases ho : ops[i]? with
    | none =>
      have : ms[i]? = none := by
        rw [List.getElem?_eq_none]
        have := Array.getElem?_eq_none_iff.1 ho
        rw [hlen]; simpa using this
      simp only [execL, this] at h
      exact sound_list hG hE hms hQ r σ a w h hR
    | some o =>
      obtain ⟨m, hm, htr⟩ := hget i o (by simpa using ho)
      simp only [execL, hm, Option.bind_eq_some_iff] at h
      obtain ⟨σ1, hs, hr⟩ := h
      exact sound_step hG hE htr hs hR (fun a' w' hR' => sound_list hG hE hms hQ r σ1 a' w' hr hR')
theorem RelB.drew (h : RelB w0 okA N σ a w β tip) : RelB w0 okA N σ a w.drew β tip := by
  have K : Kept w w.drew (okOf w0 okA σ β tip) (okOf w0 okA σ β tip) σ.nt σ.nt σ.lv σ.lv tip tip := ⟨fun b i u hok hc => ⟨hc, hok⟩, Nat.le_refl _, fun k _ h => ⟨h, rfl⟩⟩
  refine ⟨h.bel.drew, fun d cs hd => ?_, h.inj, h.tipB, h.lvB, h.tinj, fun t y hy => ?_, h.size, h.dfs⟩
  · obtain ⟨h1, vs, ty, h2, h3⟩ := h.hpB d cs hd
    exact ⟨h1, vs, ty, h2, RepXs.kept K h3⟩
  · obtain ⟨u, hu, hr⟩ := h.tmB t y hy
    exact ⟨u, hu, RepA.kept K (fun _ _ _ => rfl) hr⟩
/-- The boxes that a region makes anew are let go ahead of it. -/
def mkDsts : List MOp → List Nat
  | [] => []
  | ⟨some d, .mkb _, _⟩ :: r => d :: mkDsts r
  | ⟨some d, .new _, _⟩ :: r => d :: mkDsts r
  | _ :: r => mkDsts r
def St.clear (σ : St) : List Nat → St
  | [] => σ
  | d :: r => St.clear { σ with hp := upd σ.hp d none } r
def prep (ms : List MOp) (σ : St) : St := σ.clear (mkDsts ms)
theorem RelB.clear : ∀ (l : List Nat) {σ : St}, RelB w0 okA N σ a w β tip → RelB w0 okA N (σ.clear l) a w β tip
  | [], σ, h => h
  | d :: r, σ, h => by
    refine RelB.clear r ?_
    have hdom : ∀ d' cs, upd σ.hp d none d' = some cs → σ.hp d' = some cs := fun d' cs h => by
      simp only [upd] at h
      split at h
      · cases h
      · exact h
    have K : Kept w w (okOf w0 okA σ β tip) (okOf w0 okA { σ with hp := upd σ.hp d none } β tip) σ.nt σ.nt σ.lv σ.lv tip tip :=
      ⟨fun b i u hok hc => ⟨hc, hok.1, fun d' cs hd => hok.2.1 d' cs (hdom d' cs hd), hok.2.2⟩, Nat.le_refl _, fun k _ h => ⟨h, rfl⟩⟩
    refine ⟨h.bel, fun d' cs hd => ?_, fun d1 d2 c1 c2 h1 h2 => h.inj d1 d2 c1 c2 (hdom _ _ h1) (hdom _ _ h2), fun k b p l h1 h2 => ?_, h.lvB, h.tinj, fun t y hy => ?_, h.size, h.dfs⟩
    · obtain ⟨h1, vs, ty, h2, h3⟩ := h.hpB d' cs (hdom d' cs hd)
      exact ⟨h1, vs, ty, h2, RepXs.kept K h3⟩
    · obtain ⟨g1, g2, g3⟩ := h.tipB k b p l h1 h2
      exact ⟨g1, fun d' cs hd => g2 d' cs (hdom d' cs hd), g3⟩
    · obtain ⟨u, hu, hr⟩ := h.tmB t y hy
      exact ⟨u, hu, RepA.kept K (fun _ _ _ => rfl) hr⟩
/-! ### In whatever order -/
inductive Anc (ops : Array Oper) : Nat → Nat → Prop
  | one {j : Nat} {o : Oper} {e : Edge} (ho : ops[j]? = some o) (he : e ∈ o.after) (hb : Region.binds .any e = true) : Anc ops e.on j
  | more {i j : Nat} {o : Oper} {e : Edge} (ho : ops[j]? = some o) (he : e ∈ o.after) (hb : Region.binds .any e = true) (h : Anc ops i e.on) : Anc ops i j
def maskOf (o : Oper) (acc : List Nat) : Nat := o.after.toList.foldl (fun s e => if Region.binds .any e = true then s ||| 2 ^ e.on ||| acc.getD e.on 0 else s) 0
def masks : List Oper → List Nat → List Nat
  | [], acc => acc
  | o :: r, acc => masks r (acc ++ [maskOf o acc])
theorem maskOf_anc {o : Oper} {acc : List Nat} {j : Nat} (ho : ops[j]? = some o) (hacc : ∀ k i, (acc.getD k 0).testBit i = true → Anc ops i k) {i : Nat} (h : (maskOf o acc).testBit i = true) : Anc ops i j := by
  have key : ∀ (l : List Edge), (∀ e ∈ l, e ∈ o.after) → ∀ s : Nat, (s.testBit i = true → Anc ops i j) → (l.foldl (fun s e => if Region.binds .any e = true then s ||| 2 ^ e.on ||| acc.getD e.on 0 else s) s).testBit i = true → Anc ops i j := by
    intro l
    induction l with
    | nil => intro _ s hs h; exact hs h
    | cons e l ih =>
      intro hl s hs h
      simp only [List.foldl_cons] at h
      refine ih (fun e' he' => hl e' (by simp [he'])) _ (fun h' => ?_) h
      split at h'
      · rename_i hb
        rw [Nat.testBit_or, Nat.testBit_or, Bool.or_eq_true, Bool.or_eq_true] at h'
        rcases h' with (h' | h') | h'
        · exact hs h'
        · rw [Nat.testBit_two_pow] at h'
          have : e.on = i := by simpa using h'
          subst this
          exact .one ho (hl e (by simp)) hb
        · exact .more ho (hl e (by simp)) hb (hacc _ _ h')
      · exact hs h'
  exact key o.after.toList (fun e he => by simpa using he) 0 (fun h => by simp at h) h
theorem masks_anc : ∀ (l : List Oper) (acc : List Nat), (∀ k o, l[k]? = some o → ops[acc.length + k]? = some o) → (∀ k i, (acc.getD k 0).testBit i = true → Anc ops i k) → ∀ k i, ((masks l acc).getD k 0).testBit i = true → Anc ops i k
  | [], acc, _, hacc, k, i, h => hacc k i h
  | o :: r, acc, hl, hacc, k, i, h => by
    refine masks_anc r (acc ++ [maskOf o acc]) (fun k' o' h' => ?_) (fun k' i' h' => ?_) k i h
    · have := hl (k' + 1) o' (by simpa using h')
      rw [List.length_append, List.length_singleton, Nat.add_assoc, Nat.add_comm 1 k']; exact this
    · by_cases hk : k' < acc.length
      · refine hacc k' i' ?_
        rw [List.getD_eq_getElem?_getD, List.getElem?_append_left hk] at h'
        rw [List.getD_eq_getElem?_getD]; exact h'
      · by_cases hk2 : k' = acc.length
        · subst hk2
          have h0 : ops[acc.length]? = some o := by simpa using hl 0 o (by simp)
          refine maskOf_anc h0 hacc ?_
          simpa [List.getD_eq_getElem?_getD] using h'
        · rw [List.getD_eq_getElem?_getD, List.getElem?_append_right (by omega)] at h'
          have : 1 ≤ k' - acc.length := by omega
          rw [List.getElem?_eq_none (by simpa using this)] at h'
          simp at h'
def chkPairs (bs : List Nat) (ms : List MOp) : Bool := (List.range ms.length).all fun i => (List.range i).all fun j => (bs.getD i 0).testBit j || (match ms[j]?, ms[i]? with
  | some m, some m' => indep m m'
  | _, _ => false)
def chkEdges (m : Region.Mode) (rank : Nat → Nat) (ops : Array Oper) : Bool := (List.range ops.size).all fun i => match ops[i]? with
  | some o => o.after.toList.all fun e => !Region.binds m e || (decide (e.on < ops.size) && decide (rank e.on < rank i))
  | none => false
def chkRegion (ops : Array Oper) (ms : List MOp) : Bool := chkEdges .text (fun i => i) ops && (!Region.departs ops || chkEdges .gc (fun i => (Region.linearise .gc ops 0).idxOf i) ops) && chkPairs (masks ops.toList []) ms
theorem binds_any {m : Region.Mode} {e : Edge} (h : Region.binds .any e = true) : Region.binds m e = true := by
  cases hg : e.ground <;> simp [Region.binds, hg] at h ⊢
theorem chkEdges_get {m : Region.Mode} {rank : Nat → Nat} (h : chkEdges m rank ops = true) {i : Nat} {o : Oper} (ho : ops[i]? = some o) {e : Edge} (he : e ∈ o.after) (hb : Region.binds m e = true) : e.on < ops.size ∧ rank e.on < rank i := by
  have hi : i < ops.size := (Array.getElem?_eq_some_iff.1 ho).1
  have := List.all_eq_true.1 h i (List.mem_range.2 hi)
  rw [ho] at this
  simp only at this
  have := List.all_eq_true.1 this e (by simpa using he)
  simpa [hb] using this
theorem exists_min (rank : Nat → Nat) : ∀ (l : List Nat), l ≠ [] → ∃ i ∈ l, ∀ k ∈ l, rank i ≤ rank k
  | [], h => (h rfl).elim
  | [x], _ => ⟨x, by simp, fun k hk => by simp at hk; subst hk; exact Nat.le_refl _⟩
  | x :: y :: r, _ => by
    obtain ⟨i, hi, hm⟩ := exists_min rank (y :: r) (by simp)
    by_cases h : rank x ≤ rank i
    · exact ⟨x, by simp, fun k hk => by
        rcases List.mem_cons.1 hk with rfl | hk
        · exact Nat.le_refl _
        · exact Nat.le_trans h (hm k hk)⟩
    · exact ⟨i, List.mem_cons_of_mem _ hi, fun k hk => by
        rcases List.mem_cons.1 hk with rfl | hk
        · omega
        · exact hm k hk⟩
theorem execL_front {i : Nat} {m : MOp} (hm : ms[i]? = some m) : ∀ (pre post : List Nat) {σ σ' : St}, (∀ j ∈ pre, ∃ mj, ms[j]? = some mj ∧ indep mj m = true) → execL G ms (pre ++ i :: post) σ = some σ' → execL G ms (i :: (pre ++ post)) σ = some σ'
  | [], post, σ, σ', _, h => h
  | j :: pre, post, σ, σ', hp, h => by
    obtain ⟨mj, hj, hi⟩ := hp j (by simp)
    simp only [List.cons_append, execL, hj, Option.bind_eq_some_iff] at h
    obtain ⟨σ1, h1, h2⟩ := h
    have h3 := execL_front hm pre post (fun k hk => hp k (by simp [hk])) h2
    simp only [execL, hm, Option.bind_eq_some_iff] at h3
    obtain ⟨σ2, h4, h5⟩ := h3
    obtain ⟨σ3, h6, h7⟩ := swap hi h1 h4
    simp only [List.cons_append, execL, hm, hj, Option.bind_eq_some_iff]
    exact ⟨σ3, h6, σ2, h7, h5⟩
def unl (n : Nat) (listed : Array Bool) : List Nat := (List.range n).filter fun i => !listed.getD i true
theorem range_split (n i : Nat) (h : i < n) : List.range n = List.range i ++ i :: List.range' (i + 1) (n - i - 1) := by
  have : n = i + (1 + (n - i - 1)) := by omega
  rw [List.range_eq_range', List.range_eq_range']
  conv => lhs; rw [this, ← List.range'_append_1]
  rw [Nat.zero_add, ← List.range'_append_1]
  rfl
theorem unl_split {n i : Nat} {listed : Array Bool} (hn : listed.size = n) (hi : i < n) (hl : listed.getD i true = false) :
    ∃ pre post, unl n listed = pre ++ i :: post ∧ unl n (listed.setIfInBounds i true) = pre ++ post ∧ ∀ j ∈ pre, j < i ∧ listed.getD j true = false := by
  have hset : ∀ j, j ≠ i → (listed.setIfInBounds i true).getD j true = listed.getD j true := fun j hj => by
    simp only [Array.getD_eq_getD_getElem?]
    rw [Array.getElem?_setIfInBounds_ne (Ne.symm hj)]
  have hself : (listed.setIfInBounds i true).getD i true = true := by
    simp only [Array.getD_eq_getD_getElem?]
    rw [Array.getElem?_setIfInBounds_self]
    simp [hn, hi]
  refine ⟨(List.range i).filter fun i => !listed.getD i true, (List.range' (i + 1) (n - i - 1)).filter fun i => !listed.getD i true, ?_, ?_, ?_⟩
  · unfold unl
    rw [range_split n i hi, List.filter_append, List.filter_cons_of_pos (by simp [hl])]
  · unfold unl
    rw [range_split n i hi, List.filter_append, List.filter_cons_of_neg (by rw [hself]; simp)]
    congr 1
    · refine List.filter_congr fun j hj => ?_
      rw [hset j (by have := List.mem_range.1 hj; omega)]
    · refine List.filter_congr fun j hj => ?_
      rw [hset j (by have := List.mem_range'_1.1 hj; omega)]
  · intro j hj
    rw [List.mem_filter] at hj
    exact ⟨List.mem_range.1 hj.1, by simpa using hj.2⟩
theorem lin_go {m0 : Region.Mode} {rank : Nat → Nat} (hrank : ∀ {i : Nat} {o : Oper}, ops[i]? = some o → ∀ {e : Edge}, e ∈ o.after → Region.binds m0 e = true → e.on < ops.size ∧ rank e.on < rank i) (hpair : chkPairs (masks ops.toList []) ms = true) (hlen : ms.length = ops.size) :
    ∀ (fuel t : Nat) (listed : Array Bool) (acc : List Nat) (σ σ' : St), listed.size = ops.size → (unl ops.size listed).length = fuel →
    (∀ j o e, ops[j]? = some o → listed.getD j true = true → e ∈ o.after → Region.binds m0 e = true → listed.getD e.on true = true) →
    execL G ms (unl ops.size listed) σ = some σ' → ∃ suf, Region.linearise.go m0 ops fuel t listed acc = acc.reverse ++ suf ∧ execL G ms suf σ = some σ'
  | 0, t, listed, acc, σ, σ', hs, hu, hdc, hex => by
    have : unl ops.size listed = [] := List.eq_nil_of_length_eq_zero hu
    rw [this] at hex
    exact ⟨[], by simp [Region.linearise.go], hex⟩
  | fuel + 1, t, listed, acc, σ, σ', hs, hu, hdc, hex => by
    have hgetD : ∀ k, k < ops.size → listed.getD k false = listed.getD k true := fun k hk => by
      simp only [Array.getD_eq_getD_getElem?]
      rw [Array.getElem?_eq_getElem (by omega)]; rfl
    have hne : unl ops.size listed ≠ [] := fun h => by rw [h] at hu; simp at hu
    have hmemU : ∀ i, i ∈ unl ops.size listed ↔ i < ops.size ∧ listed.getD i true = false := fun i => by simp [unl, List.mem_filter]
    obtain ⟨i0, hmem0, hmin0⟩ := exists_min rank _ hne
    have hmin : ∀ k, k < ops.size → rank k < rank i0 → listed.getD k true = true := fun k hk hr => by
      cases hkk : listed.getD k true with
      | true => rfl
      | false => have := hmin0 k ((hmemU k).2 ⟨hk, hkk⟩); omega
    have hready : ∀ i, i < ops.size → listed.getD i true = false → (∀ o, ops[i]? = some o → ∀ e ∈ o.after, Region.binds m0 e = true → listed.getD e.on true = true) →
        i ∈ (List.range ops.size).filter (fun i => !listed.getD i true && ((ops[i]?).map (·.after.all fun e => !Region.binds m0 e || listed.getD e.on false)).getD false) := fun i hi hl hr => by
      rw [List.mem_filter]
      refine ⟨List.mem_range.2 hi, ?_⟩
      rw [hl]
      rw [Array.getElem?_eq_getElem hi]
      simp only [Bool.not_false, Option.map_some, Option.getD_some, Bool.true_and]
      rw [Array.all_eq_true_iff_forall_mem]
      intro e he
      by_cases hb : Region.binds m0 e = true
      · have h1 := hr _ (Array.getElem?_eq_getElem hi) e he hb
        have h2 := hrank (Array.getElem?_eq_getElem hi) he hb
        rw [hgetD _ h2.1]; simp [hb, h1]
      · simp [hb]
    simp only [Region.linearise.go]
    generalize hrs : (List.range ops.size).filter (fun i => !listed.getD i true && ((ops[i]?).map (·.after.all fun e => !Region.binds m0 e || listed.getD e.on false)).getD false) = rs at hready
    have h0 := (hmemU i0).1 hmem0
    have hin0 : i0 ∈ rs := hready i0 h0.1 h0.2 (fun o ho e he hb => hmin _ (hrank ho he hb).1 (hrank ho he hb).2)
    have hpos : 0 < rs.length := List.length_pos_of_mem hin0
    obtain ⟨i, hi⟩ : ∃ i, rs[t % rs.length]? = some i := ⟨_, List.getElem?_eq_getElem (Nat.mod_lt _ hpos)⟩
    rw [hi]
    simp only
    have himem : i ∈ rs := List.mem_of_getElem? hi
    rw [← hrs, List.mem_filter] at himem
    obtain ⟨hin, hcond⟩ := himem
    have hin := List.mem_range.1 hin
    rw [Array.getElem?_eq_getElem hin] at hcond
    simp only [Option.map_some, Option.getD_some, Bool.and_eq_true, Bool.not_eq_true'] at hcond
    obtain ⟨hil, hal⟩ := hcond
    have hpre : ∀ e ∈ (ops[i]'hin).after, Region.binds m0 e = true → listed.getD e.on true = true := fun e he hb => by
      have := Array.all_eq_true_iff_forall_mem.1 hal e he
      have h2 := hrank (Array.getElem?_eq_getElem hin) he hb
      rw [hgetD _ h2.1] at this
      simpa [hb] using this
    obtain ⟨m, hm⟩ : ∃ m, ms[i]? = some m := ⟨_, List.getElem?_eq_getElem (by omega)⟩
    obtain ⟨pre, post, hu1, hu2, hu3⟩ := unl_split hs hin hil
    have hancL : ∀ k j, Anc ops k j → listed.getD j true = true → listed.getD k true = true := fun k j h => by
      induction h with
      | one ho he hb => intro hl; exact hdc _ _ _ ho hl he (binds_any hb)
      | more ho he hb h ih => intro hl; exact ih (hdc _ _ _ ho hl he (binds_any hb))
    have hind : ∀ j ∈ pre, ∃ mj, ms[j]? = some mj ∧ indep mj m = true := fun j hj => by
      obtain ⟨hji, hjl⟩ := hu3 j hj
      obtain ⟨mj, hmj⟩ : ∃ mj, ms[j]? = some mj := ⟨_, List.getElem?_eq_getElem (by omega)⟩
      refine ⟨mj, hmj, ?_⟩
      have h1 := List.all_eq_true.1 hpair i (List.mem_range.2 (by omega))
      have h2 := List.all_eq_true.1 h1 j (List.mem_range.2 hji)
      rw [hmj, hm] at h2
      simp only [Bool.or_eq_true] at h2
      rcases h2 with h2 | h2
      · exfalso
        have hanc := masks_anc (ops := ops) ops.toList [] (fun k o hk => by simpa using hk) (fun k i h => by simp at h) i j h2
        have : listed.getD j true = true := by
          cases hanc with
          | one ho he hb => rw [Array.getElem?_eq_getElem hin] at ho; cases ho; exact hpre _ he (binds_any hb)
          | more ho he hb h =>
            rw [Array.getElem?_eq_getElem hin] at ho; cases ho
            exact hancL _ _ h (hpre _ he (binds_any hb))
        rw [hjl] at this; cases this
      · exact h2
    rw [hu1] at hex
    have hex2 := execL_front hm pre post hind hex
    simp only [execL, hm, Option.bind_eq_some_iff] at hex2
    obtain ⟨σ1, hs1, hs2⟩ := hex2
    rw [← hu2] at hs2
    have hsz : (listed.setIfInBounds i true).size = ops.size := by simp [hs]
    have hcnt : (unl ops.size (listed.setIfInBounds i true)).length = fuel := by
      rw [hu2]; rw [hu1] at hu; simp at hu ⊢; omega
    have hset : ∀ k, (listed.setIfInBounds i true).getD k true = true ↔ k = i ∨ listed.getD k true = true := fun k => by
      by_cases hk : k = i
      · subst hk
        simp [Array.getD_eq_getD_getElem?, Array.getElem?_setIfInBounds_self, hs, hin]
      · simp only [Array.getD_eq_getD_getElem?]
        rw [Array.getElem?_setIfInBounds_ne (Ne.symm hk)]
        simp [hk]
    obtain ⟨suf, hg1, hg2⟩ := lin_go hrank hpair hlen fuel (t / rs.length) (listed.setIfInBounds i true) (i :: acc) σ1 σ' hsz hcnt (fun j o e ho hj he hb => by
      rw [hset] at hj ⊢
      rcases hj with hj | hj
      · subst hj; rw [Array.getElem?_eq_getElem hin] at ho; cases ho; exact .inr (hpre e he hb)
      · exact .inr (hdc j o e ho hj he hb)) hs2
    rw [hg1]
    refine ⟨i :: suf, by simp, ?_⟩
    simp only [execL, hm, hs1, Option.bind_some]
    exact hg2
theorem execL_range : ∀ (pre ms : List MOp) (σ : St), execL G (pre ++ ms) (List.range' pre.length ms.length) σ = execS G ms σ
  | pre, [], σ => by simp [execL, execS]
  | pre, m :: ms, σ => by
    rw [List.length_cons, List.range'_succ]
    simp only [execL, execS]
    rw [List.getElem?_append_right (Nat.le_refl _), Nat.sub_self]
    simp only [List.getElem?_cons_zero]
    congr 1
    funext σ1
    have := execL_range (pre ++ [m]) ms σ1
    simpa using this
/-- A region, its order drawn or not. -/
theorem sound_region {id : Nat} {draw : Bool} (hG : GOK P G) (hE : ∀ t ∈ eqT, EqOk P t) (hms : trL P eqT bs N ops ops.toList = some ms) (hchk : draw = true → chkRegion ops ms = true) (hex : execS G ms (prep ms σ) = some σ')
    (hR : Rel w0 okA N σ a w) (hQ : ∀ a w, Rel w0 okA N σ' a w → Q .normal a w) : (Code.region id ops draw).wp P Q a w := by
  obtain ⟨hlen, _⟩ := trL_get hms
  have hlen' : ms.length = ops.size := by simpa using hlen
  have hcan : execL G ms (List.range ops.size) (prep ms σ) = some σ' := by
    have := execL_range (G := G) [] ms (prep ms σ)
    rw [List.nil_append, List.length_nil, ← List.range_eq_range', hlen'] at this
    rw [this]; exact hex
  obtain ⟨β, tip, hR⟩ := hR
  cases draw with
  | false => exact wp_region (sound_list hG hE hms hQ _ _ _ _ hcan ⟨β, tip, hR.clear _⟩)
  | true =>
    refine wp_region_draw fun t => ?_
    have hc := hchk rfl
    simp only [chkRegion, Bool.and_eq_true] at hc
    obtain ⟨⟨hct, hcg⟩, hcp⟩ := hc
    have hun : unl ops.size (Array.replicate ops.size false) = List.range ops.size := by
      unfold unl
      rw [List.filter_eq_self]
      intro i hi
      have := List.mem_range.1 hi
      simp [Array.getD_eq_getD_getElem?, this]
    have fin : ∀ (m0 : Region.Mode) (rank : Nat → Nat) (t : Nat), (∀ {i : Nat} {o : Oper}, ops[i]? = some o → ∀ {e : Edge}, e ∈ o.after → Region.binds m0 e = true → e.on < ops.size ∧ rank e.on < rank i) → wpOps P ops Q (Region.linearise m0 ops t) a { w with drawn := w.drawn + 1 } := by
      intro m0 rank t hrank
      obtain ⟨suf, h1, h2⟩ := lin_go (G := G) (σ := prep ms σ) (σ' := σ') hrank hcp hlen' ops.size t (Array.replicate ops.size false) [] (by simp) (by rw [hun]; simp) (fun j o e ho hj => by
        have := (Array.getElem?_eq_some_iff.1 ho).1
        simp [Array.getD_eq_getD_getElem?, this] at hj) (by rw [hun]; exact hcan)
      unfold Region.linearise
      rw [h1]
      simp only [List.reverse_nil, List.nil_append]
      exact sound_list hG hE hms hQ _ _ _ _ h2 ⟨β, tip, (hR.drew).clear _⟩
    unfold Region.schedule
    split
    · exact fin .any (fun i => i) t @fun i o ho e he hb => chkEdges_get hct ho he (binds_any hb)
    · rename_i hmix
      have hdep : Region.departs ops = true := by
        cases h : Region.departs ops with
        | true => rfl
        | false => rw [h] at hmix; simp at hmix
      rw [hdep] at hcg
      split
      · exact fin .text (fun i => i) _ @fun i o ho e he hb => chkEdges_get hct ho he hb
      · exact fin .gc _ _ @fun i o ho e he hb => chkEdges_get (by simpa using hcg) ho he hb
end
end Go.Proofs.Ytjbhhdocbejccaa.Bm
