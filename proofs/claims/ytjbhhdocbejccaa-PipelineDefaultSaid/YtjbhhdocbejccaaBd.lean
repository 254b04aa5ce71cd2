/- Chapter 43, for PipelineDefault: the default pipeline, what closed calls come to. No condition beyond those that each theorem states. -/
import Derived.Test.YtjbhhdocbejccaaBk2
namespace Go.Proofs.Ytjbhhdocbejccaa.Bl
open Go Go.RowKit Go.Proofs.Ytjbhhdocbejccaa.Bm
set_option linter.unusedVariables false
set_option linter.unusedSimpArgs false
set_option maxRecDepth 100000

theorem hE : ∀ t ∈ [60, 55, 30, 33, 38, 42], EqOk Try.prog t := fun t ht => by
  simp only [List.mem_cons, List.not_mem_nil, or_false] at ht
  rcases ht with rfl | rfl | rfl | rfl | rfl | rfl <;> exact eqOk_of (by kernel_rfl)
def tb0 : List (Row Try.prog [60, 55, 30, 33, 38, 42]) := [⟨93, isa_class.m, _, 1, _, Try.func93, isa_class.tr, rfl⟩,
  ⟨91, isa_inner.m, _, 1, _, Try.func91, isa_inner.tr, rfl⟩,
  ⟨90, isa_immediate.m, _, 2, _, Try.func90, isa_immediate.tr, rfl⟩,
  ⟨89, isa_registers.m, _, 1, _, Try.func89, isa_registers.tr, rfl⟩,
  ⟨88, isa_Operands.m, _, 1, _, Try.func88, isa_Operands.tr, rfl⟩,
  ⟨87, isa_Valid.m, _, 1, _, Try.func87, isa_Valid.tr, rfl⟩,
  ⟨84, buf_width.m, _, 1, _, Try.func84, buf_width.tr, rfl⟩,
  ⟨83, isa_step.m, _, 3, _, Try.func83, isa_step.tr, rfl⟩]
def tb1 : List (Row Try.prog [60, 55, 30, 33, 38, 42]) := [⟨82, isa_operands.m, _, 2, _, Try.func82, isa_operands.tr, rfl⟩,
  ⟨81, isa_within.m, _, 3, _, Try.func81, isa_within.tr, rfl⟩,
  ⟨69, st_ValidOp.m, _, 1, _, Try.func69, st_ValidOp.tr, rfl⟩,
  ⟨68, buf_Size.m, _, 1, _, Try.func68, buf_Size.tr, rfl⟩,
  ⟨67, isa_Validate.m, _, 1, _, Try.func67, isa_Validate.tr, rfl⟩,
  ⟨48, bl_ValidOp.m, _, 1, _, Try.func48, bl_ValidOp.tr, rfl⟩,
  ⟨47, bl_ValidFactor.m, _, 1, _, Try.func47, bl_ValidFactor.tr, rfl⟩,
  ⟨46, st_inByte.m, _, 1, _, Try.func46, st_inByte.tr, rfl⟩]
def tb2 : List (Row Try.prog [60, 55, 30, 33, 38, 42]) := [⟨45, st_validFace.m, _, 1, _, Try.func45, st_validFace.tr, rfl⟩,
  ⟨44, depth_ValidCompare.m, _, 1, _, Try.func44, depth_ValidCompare.tr, rfl⟩,
  ⟨43, vp_Valid1.m, _, 2, _, Try.func43, vp_Valid1.tr, rfl⟩,
  ⟨42, buf_Components.m, _, 1, _, Try.func42, buf_Components.tr, rfl⟩,
  ⟨41, buf_ValidAttribute.m, _, 1, _, Try.func41, buf_ValidAttribute.tr, rfl⟩,
  ⟨40, pl_shader.m, _, 2, _, Try.func40, pl_shader.tr, rfl⟩,
  ⟨37, isa_Equal.m, _, 2, _, Try.func37, isa_Equal.tr, rfl⟩,
  ⟨27, r22_Equal.m, _, 2, _, Try.func27, r22_Equal.tr, rfl⟩]
def tb3 : List (Row Try.prog [60, 55, 30, 33, 38, 42]) := [⟨36, pl_Varyings.m, _, 1, _, Try.func36, pl_Varyings.tr, rfl⟩,
  ⟨25, cov_ValidSamples.m, _, 1, _, Try.func25, cov_ValidSamples.tr, rfl⟩,
  ⟨24, depth_Bits.m, _, 1, _, Try.func24, depth_Bits.tr, rfl⟩,
  ⟨23, bl_Valid.m, _, 1, _, Try.func23, bl_Valid.tr, rfl⟩,
  ⟨22, st_Valid.m, _, 1, _, Try.func22, st_Valid.tr, rfl⟩,
  ⟨21, depth_ValidState.m, _, 1, _, Try.func21, depth_ValidState.tr, rfl⟩,
  ⟨20, vp_Valid.m, _, 1, _, Try.func20, vp_Valid.tr, rfl⟩,
  ⟨19, pl_linked.m, _, 1, _, Try.func19, pl_linked.tr, rfl⟩]
def tb4 : List (Row Try.prog [60, 55, 30, 33, 38, 42]) := [⟨18, fetch_Components.m, _, 1, _, Try.func18, fetch_Components.tr, rfl⟩,
  ⟨17, fetch_Valid.m, _, 1, _, Try.func17, fetch_Valid.tr, rfl⟩,
  ⟨16, pl_shaders.m, _, 1, _, Try.func16, pl_shaders.tr, rfl⟩,
  ⟨13, pl_Equal.m, _, 2, _, Try.func13, pl_Equal.tr, rfl⟩,
  ⟨12, r43_Default.m, _, 0, _, Try.func12, r43_Default.tr, rfl⟩,
  ⟨11, r43_Equal.m, _, 2, _, Try.func11, r43_Equal.tr, rfl⟩,
  ⟨10, pl_Default.m, _, 0, _, Try.func10, pl_Default.tr, rfl⟩,
  ⟨9, example.m, _, 0, _, Try.func9, example.tr, rfl⟩]
def tb5 : List (Row Try.prog [60, 55, 30, 33, 38, 42]) := [⟨7, pl_Validate.m, _, 1, _, Try.func7, pl_Validate.tr, rfl⟩]
def tb : List (Row Try.prog [60, 55, 30, 33, 38, 42]) := tb0 ++ tb1 ++ tb2 ++ tb3 ++ tb4 ++ tb5
def vV : List Int := [37, 0, 0, 0, 0, 0, 39, 0, 0, 0, 0, 0, 37, 1, 0, 0, 0, 1, 39, 0, 1, 0, 0, 1, 37, 2, 0, 0, 0, 2, 39, 0, 2, 0, 0, 2, 37, 3, 0, 0, 0, 3, 39, 0, 3, 0, 0, 3]
def vF : List Int := [1, 0, 0, 0, 0, 65536, 39, 0, 0, 0, 0, 0, 39, 0, 0, 0, 0, 1, 39, 0, 0, 0, 0, 2, 39, 0, 0, 0, 0, 3]
def vA : List Int := [0, 0, 16, 4]
def ic (n : Int) : CV := .int .i64 n
def rowsOf (sz n : Nat) (l : List Int) : List (List CV) := chunks sz n (l.map ic)
def c1 : List CV := [1, 4, 4, 4, 0, 0, 0].map ic
def c2 (z : Nat) : List CV := [0, 0, 0, 0, 0, 0, 0].map ic ++ [.sl z []] ++ [3, 1, 0, 4, 0, 0, 0].map ic
def c3 : List CV := [.int .i64 1, .int .i64 1, .bool false, .int .i64 0, .int .i64 0, .int .i64 64, .int .i64 64, .int .i64 0, .int .i64 65536, .bool false, .bool false, .int .i64 8, .int .i64 0, .bool false, .int .i64 8, .int .i64 1, .int .i64 1, .int .i64 1, .int .i64 8, .int .i64 1, .int .i64 1, .int .i64 1, .int .i64 0, .int .i64 255, .int .i64 255, .bool false, .int .i64 2, .int .i64 1, .int .i64 1, .int .i64 2, .int .i64 1, .int .i64 1, .int .i64 15, .int .i64 1, .int .i64 2, .int .i64 1]
/-- The cells of the default pipeline, the vertex program's code and the attributes as told. -/
def dCs (V A : List Int) : List CV := c1 ++ ([.sl 6 (rowsOf 6 8 V)] ++ (c2 0 ++ ([.sl 6 (rowsOf 6 5 vF)] ++ ([.bool false] ++ ([.sl 4 (rowsOf 4 1 A)] ++ c3)))))
def isD : Option AV → Bool
  | some (.agg _) => true
  | _ => false
def cellsD : Option AV → List XV
  | some (.agg xs) => xs
  | _ => []
def rawD : List XV := cellsD (evalF tb 300 30 10 [])
def rawR : List XV := cellsD (evalF tb 300 30 12 [])
theorem def_ev : evalF tb 300 30 10 [] = some (.agg rawD) := by kernel_rfl
theorem ref_ev : evalF tb 300 30 12 [] = some (.agg rawR) := by kernel_rfl
theorem raw_cs : rawD.map XV.forget = dCs vV vA := by kernel_rfl
theorem example_ev : evalF tb 300 30 9 [] = some (.c (.p (.bool true))) := by kernel_rfl
/-- What is known of the calls. -/
def gD : FuncId → Bm.Spec := fun f args => if f = 9 then (match args with
    | [] => some (.c (.p (.bool true)))
    | _ => none)
  else if f = 10 then (match args with
    | [] => some (.agg rawD)
    | _ => none)
  else if f = 12 then (match args with
    | [] => some (.agg rawR)
    | _ => none)
  else evalF tb 300 30 f args
theorem gD_ok : GOK Try.prog gD := fun f args r h => by
  unfold gD at h
  split at h
  · rename_i e; subst e
    split at h
    · cases h; exact evalF_ok hE tb 300 30 9 [] _ example_ev
    · cases h
  · split at h
    · rename_i e; subst e
      split at h
      · cases h; exact evalF_ok hE tb 300 30 10 [] _ def_ev
      · cases h
    · split at h
      · rename_i e; subst e
        split at h
        · cases h; exact evalF_ok hE tb 300 30 12 [] _ ref_ev
        · cases h
      · exact evalF_ok hE tb 300 30 f args r h
/-- The state ahead of the first question, of the last. -/
def s2 (at_ : Int) (A3 A4 : Nat × Nat) (V A : List Int) (k : Option Int) : St := St.of ((match k with
  | some k => [(5, AV.c (.p (.int .i64 k)))]
  | none => []) ++ [(0, .c (.p (.int .i64 at_))), (3, .elt (some A3) (dCs V A)), (4, .elt (some A4) (dCs vV vA))]) [] [] 0
theorem first_ev (at_ : Int) (A3 A4 : Nat × Nat) : (mrun gD 1 (.seq (.reg PipelineDefault.r2) (.cond (.tmp 24) (.seq (.reg PipelineDefault.r3) .ret) .skip)) (s2 at_ A3 A4 vV vA none)).map (fun r => (r.1, r.2.tm 0, r.2.tm 3, r.2.tm 4, r.2.nt)) =
    some (.normal, some (.c (.p (.int .i64 at_))), some (.elt (some A3) (dCs vV vA)), some (.elt (some A4) (dCs vV vA)), 0) := by kernel_rfl
def vVk (k : Nat) : List Int := vV.set (6 * k + 5) (vV.getD (6 * k + 5) 0 + 1)
def vA2 : List Int := [0, 0, 99, 4]
def isR (t : Nat) : Option (Exit × St) → Bool
  | some (.ret, σ) => (match σ.tm t with
    | some (.c (.p (.bool c))) => c
    | _ => false)
  | _ => false
theorem last_ev (A3 A4 : Nat × Nat) : (List.range 8).all (fun k => isR 2 (mrun gD 1 (.seq (.reg PipelineDefault.r7) .ret) (St.of [(3, .elt (some A3) (dCs (vVk k) vA2)), (4, .elt (some A4) (dCs vV vA))] [] [] 0))) = true := by kernel_rfl
/-- The lists, laid one over another, differ. -/
def clash (V F : List Int) (p q : Nat) : Bool := (List.range V.length).any fun j => decide (p ≤ j + q) && (match V[j]?, F[j + q - p]? with
  | some x, some y => x != y
  | _, _ => false)
def apartB (V F : List Int) : Bool := (List.range V.length).all fun p => (List.range F.length).all fun q => clash V F p q
theorem vF_ap : apartB vV vF = true := by kernel_rfl
theorem vA_ap : apartB vV vA = true := by kernel_rfl
theorem fA_ap : apartB vF vA = true := by kernel_rfl
end Go.Proofs.Ytjbhhdocbejccaa.Bl
