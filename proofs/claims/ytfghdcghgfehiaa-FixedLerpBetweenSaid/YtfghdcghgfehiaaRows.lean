/-
  No cell of these rows narrows 'for every input' (looked for: loops, veiled, ifaces, maps, wideKeys, modest, calm, conditions, laid).
  DERIVED. THE GIVEN ROWS OF THIS SEAT. 8 by the template 'for every input the law returns true; each argument reads behind the call as it read before'; 0 by the template 'total and deterministic' (their statements: YtfghdcghgfehiaaTotals.lean).
  GIVEN WITH THE SEED: the statements are not yours to turn. If you find one false, say at which input.
  Laid BY PROGRAM, IN A SANDBOX (cutbox-rows.mjs): the forced cells as the released guide's own fill.sh prints them over the translation 39f81bcff4fcc457… (all of the seat's roots in one cut). By AI agents, Wed Nov 11 2026. No macro, syntax, notation, axiom, sorry.
-/
import Derived.Test.YtfghdcghgfehiaaChecked
import GoSem.Claim
import GoSem.ClaimJoined
import GoSem.ClaimMapViews
import Derived.JoinedTies
import Derived.KernelRfl
namespace Go.Proofs.Ytfghdcghgfehiaa
/- THE CELL 'sum', in the pinned program and in every row, IS THE sha256 OF THE DUMP (.gsa) THAT YtfghdcghgfehiaaProg.lean LOADS. Nothing in Lean hashes anything: it is a label: what it is worth is what the hold of that sum in a sandbox is worth. -/
noncomputable def Try.pinned : Pinned := { name := "ytfghdcghgfehiaa", sum := "39f81bcff4fcc4570a06068666be1346282cf621be30e4d094ea48638b3e6ecd", checked := Try.checked }
namespace Rows
def none {H : Type} : Left H := { results := [], args := [] }

/-- 'frustumlaw01.FixedRoundDivError': WHATEVER THE INPUT: true; the input reads as it did. -/
def fixedRoundDivErrorSpec : ChangeSpec := { name := "fixedRoundDivError", fn := fun _ => fun
  | [d1, d2] => { results := [.lit (.bool true)], args := [d1, d2] }
  | _ => none }
def fixedRoundDivErrorRow : OpenClaim := { program := "ytfghdcghgfehiaa", sum := "39f81bcff4fcc4570a06068666be1346282cf621be30e4d094ea48638b3e6ecd", func := "frustum/frustumlaw01.FixedRoundDivError", spec := "fixedRoundDivError", recurses := true, apart := false }
def FixedRoundDivErrorSaid : Prop := fixedRoundDivErrorRow.holds Try.pinned (OpenSpec.ofChange fixedRoundDivErrorSpec)

/-- ITS FALSE NEIGHBOUR: 'it returns false'. Refute it at one input. -/
def fixedRoundDivErrorWrong : ChangeSpec := { name := "fixedRoundDivError", fn := fun _ => fun
  | [d1, d2] => { results := [.lit (.bool false)], args := [d1, d2] }
  | _ => none }
def FixedRoundDivErrorWrongFalsely : Prop := fixedRoundDivErrorRow.holds Try.pinned (OpenSpec.ofChange fixedRoundDivErrorWrong)

/-- 'frustumlaw01.FixedFloorFract': WHATEVER THE INPUT: true; the input reads as it did. -/
def fixedFloorFractSpec : ChangeSpec := { name := "fixedFloorFract", fn := fun _ => fun
  | [d] => { results := [.lit (.bool true)], args := [d] }
  | _ => none }
def fixedFloorFractRow : OpenClaim := { program := "ytfghdcghgfehiaa", sum := "39f81bcff4fcc4570a06068666be1346282cf621be30e4d094ea48638b3e6ecd", func := "frustum/frustumlaw01.FixedFloorFract", spec := "fixedFloorFract", recurses := true, apart := false }
def FixedFloorFractSaid : Prop := fixedFloorFractRow.holds Try.pinned (OpenSpec.ofChange fixedFloorFractSpec)

/-- ITS FALSE NEIGHBOUR: 'it returns false'. Refute it at one input. -/
def fixedFloorFractWrong : ChangeSpec := { name := "fixedFloorFract", fn := fun _ => fun
  | [d] => { results := [.lit (.bool false)], args := [d] }
  | _ => none }
def FixedFloorFractWrongFalsely : Prop := fixedFloorFractRow.holds Try.pinned (OpenSpec.ofChange fixedFloorFractWrong)

/-- 'frustumlaw01.FixedLerpBetween': WHATEVER THE INPUT: true; the input reads as it did. -/
def fixedLerpBetweenSpec : ChangeSpec := { name := "fixedLerpBetween", fn := fun _ => fun
  | [d1, d2, d3] => { results := [.lit (.bool true)], args := [d1, d2, d3] }
  | _ => none }
def fixedLerpBetweenRow : OpenClaim := { program := "ytfghdcghgfehiaa", sum := "39f81bcff4fcc4570a06068666be1346282cf621be30e4d094ea48638b3e6ecd", func := "frustum/frustumlaw01.FixedLerpBetween", spec := "fixedLerpBetween", recurses := true, apart := false }
def FixedLerpBetweenSaid : Prop := fixedLerpBetweenRow.holds Try.pinned (OpenSpec.ofChange fixedLerpBetweenSpec)

/-- ITS FALSE NEIGHBOUR: 'it returns false'. Refute it at one input. -/
def fixedLerpBetweenWrong : ChangeSpec := { name := "fixedLerpBetween", fn := fun _ => fun
  | [d1, d2, d3] => { results := [.lit (.bool false)], args := [d1, d2, d3] }
  | _ => none }
def FixedLerpBetweenWrongFalsely : Prop := fixedLerpBetweenRow.holds Try.pinned (OpenSpec.ofChange fixedLerpBetweenWrong)

/-- 'frustumlaw01.FixedSqrtBounds': WHATEVER THE INPUT: true; the input reads as it did. -/
def fixedSqrtBoundsSpec : ChangeSpec := { name := "fixedSqrtBounds", fn := fun _ => fun
  | [d1, d2] => { results := [.lit (.bool true)], args := [d1, d2] }
  | _ => none }
def fixedSqrtBoundsRow : OpenClaim := { program := "ytfghdcghgfehiaa", sum := "39f81bcff4fcc4570a06068666be1346282cf621be30e4d094ea48638b3e6ecd", func := "frustum/frustumlaw01.FixedSqrtBounds", spec := "fixedSqrtBounds", recurses := true, apart := false }
def FixedSqrtBoundsSaid : Prop := fixedSqrtBoundsRow.holds Try.pinned (OpenSpec.ofChange fixedSqrtBoundsSpec)

/-- ITS FALSE NEIGHBOUR: 'it returns false'. Refute it at one input. -/
def fixedSqrtBoundsWrong : ChangeSpec := { name := "fixedSqrtBounds", fn := fun _ => fun
  | [d1, d2] => { results := [.lit (.bool false)], args := [d1, d2] }
  | _ => none }
def FixedSqrtBoundsWrongFalsely : Prop := fixedSqrtBoundsRow.holds Try.pinned (OpenSpec.ofChange fixedSqrtBoundsWrong)

/-- 'frustumlaw01.FixedQuotients': WHATEVER THE INPUT: true; the input reads as it did. -/
def fixedQuotientsSpec : ChangeSpec := { name := "fixedQuotients", fn := fun _ => fun
  | [d1, d2] => { results := [.lit (.bool true)], args := [d1, d2] }
  | _ => none }
def fixedQuotientsRow : OpenClaim := { program := "ytfghdcghgfehiaa", sum := "39f81bcff4fcc4570a06068666be1346282cf621be30e4d094ea48638b3e6ecd", func := "frustum/frustumlaw01.FixedQuotients", spec := "fixedQuotients", recurses := true, apart := false }
def FixedQuotientsSaid : Prop := fixedQuotientsRow.holds Try.pinned (OpenSpec.ofChange fixedQuotientsSpec)

/-- ITS FALSE NEIGHBOUR: 'it returns false'. Refute it at one input. -/
def fixedQuotientsWrong : ChangeSpec := { name := "fixedQuotients", fn := fun _ => fun
  | [d1, d2] => { results := [.lit (.bool false)], args := [d1, d2] }
  | _ => none }
def FixedQuotientsWrongFalsely : Prop := fixedQuotientsRow.holds Try.pinned (OpenSpec.ofChange fixedQuotientsWrong)

/-- 'frustumlaw01.FixedRatioMonotonic': WHATEVER THE INPUT: true; the input reads as it did. -/
def fixedRatioMonotonicSpec : ChangeSpec := { name := "fixedRatioMonotonic", fn := fun _ => fun
  | [d1, d2, d3] => { results := [.lit (.bool true)], args := [d1, d2, d3] }
  | _ => none }
def fixedRatioMonotonicRow : OpenClaim := { program := "ytfghdcghgfehiaa", sum := "39f81bcff4fcc4570a06068666be1346282cf621be30e4d094ea48638b3e6ecd", func := "frustum/frustumlaw01.FixedRatioMonotonic", spec := "fixedRatioMonotonic", recurses := true, apart := false }
def FixedRatioMonotonicSaid : Prop := fixedRatioMonotonicRow.holds Try.pinned (OpenSpec.ofChange fixedRatioMonotonicSpec)

/-- ITS FALSE NEIGHBOUR: 'it returns false'. Refute it at one input. -/
def fixedRatioMonotonicWrong : ChangeSpec := { name := "fixedRatioMonotonic", fn := fun _ => fun
  | [d1, d2, d3] => { results := [.lit (.bool false)], args := [d1, d2, d3] }
  | _ => none }
def FixedRatioMonotonicWrongFalsely : Prop := fixedRatioMonotonicRow.holds Try.pinned (OpenSpec.ofChange fixedRatioMonotonicWrong)

/-- 'frustumlaw01.FixedIdentities': WHATEVER THE INPUT: true; the input reads as it did. -/
def fixedIdentitiesSpec : ChangeSpec := { name := "fixedIdentities", fn := fun _ => fun
  | [d1, d2] => { results := [.lit (.bool true)], args := [d1, d2] }
  | _ => none }
def fixedIdentitiesRow : OpenClaim := { program := "ytfghdcghgfehiaa", sum := "39f81bcff4fcc4570a06068666be1346282cf621be30e4d094ea48638b3e6ecd", func := "frustum/frustumlaw01.FixedIdentities", spec := "fixedIdentities", recurses := true, apart := false }
def FixedIdentitiesSaid : Prop := fixedIdentitiesRow.holds Try.pinned (OpenSpec.ofChange fixedIdentitiesSpec)

/-- ITS FALSE NEIGHBOUR: 'it returns false'. Refute it at one input. -/
def fixedIdentitiesWrong : ChangeSpec := { name := "fixedIdentities", fn := fun _ => fun
  | [d1, d2] => { results := [.lit (.bool false)], args := [d1, d2] }
  | _ => none }
def FixedIdentitiesWrongFalsely : Prop := fixedIdentitiesRow.holds Try.pinned (OpenSpec.ofChange fixedIdentitiesWrong)

/-- 'frustumlaw01.FixedArithmetic': WHATEVER THE INPUT: true; the input reads as it did. -/
def fixedArithmeticSpec : ChangeSpec := { name := "fixedArithmetic", fn := fun _ => fun
  | [d1, d2, d3] => { results := [.lit (.bool true)], args := [d1, d2, d3] }
  | _ => none }
def fixedArithmeticRow : OpenClaim := { program := "ytfghdcghgfehiaa", sum := "39f81bcff4fcc4570a06068666be1346282cf621be30e4d094ea48638b3e6ecd", func := "frustum/frustumlaw01.FixedArithmetic", spec := "fixedArithmetic", recurses := true, apart := false }
def FixedArithmeticSaid : Prop := fixedArithmeticRow.holds Try.pinned (OpenSpec.ofChange fixedArithmeticSpec)

/-- ITS FALSE NEIGHBOUR: 'it returns false'. Refute it at one input. -/
def fixedArithmeticWrong : ChangeSpec := { name := "fixedArithmetic", fn := fun _ => fun
  | [d1, d2, d3] => { results := [.lit (.bool false)], args := [d1, d2, d3] }
  | _ => none }
def FixedArithmeticWrongFalsely : Prop := fixedArithmeticRow.holds Try.pinned (OpenSpec.ofChange fixedArithmeticWrong)

/- THE SECOND FORM. 'bulk': how many values and letters a reading holds, each counted each time it is reached (what is shared counts as often as it is met; a slice's spare places count too). A statement '..UptoSaid' is the law's where the arguments, and the package variables that the reading takes, are together of bulk at most 1048576: NARROWER than '..Said'. Prove '..Said' where nothing that the law and all that it calls make is longer than what came in: it says more and counts as full. Else prove '..UptoSaid'. A law counts once. -/
mutual
def uptoBulk {H : Type} : DataW H → Nat
  | .lit (.string bytes) => bytes.length + 1
  | .lit _ => 1
  | .nil => 1
  | .ptr d => uptoBulk d + 1
  | .slice elems spare => uptoBulkAll elems + uptoBulkAll spare + 1
  | .agg parts => uptoBulkAll parts + 1
  | .iface _ d => uptoBulk d + 1
  | .map entries => uptoBulkEntries entries + 1
  | .held _ => 1
def uptoBulkAll {H : Type} : List (DataW H) → Nat
  | [] => 0
  | d :: r => uptoBulk d + uptoBulkAll r
def uptoBulkEntries {H : Type} : List (Lit × DataW H) → Nat
  | [] => 0
  | x :: r => uptoBulkEntry x + uptoBulkEntries r
def uptoBulkEntry {H : Type} : Lit × DataW H → Nat
  | (.string bytes, d) => bytes.length + uptoBulk d + 1
  | (_, d) => uptoBulk d + 1
 end
def uptoSmall : (H : Type) → List (DataW H) → Bool := fun _ ds => decide (uptoBulkAll ds ≤ 1048576)
def OpenSpec.upto (s : _root_.Go.ChangeSpec) : _root_.Go.OpenSpec := { _root_.Go.OpenSpec.ofChange s with cond := some uptoSmall }

/-- 'frustumlaw01.FixedRoundDivError', WHERE WHAT IT READS IS OF BULK AT MOST 1048576: true; the input reads as it did. -/
def fixedRoundDivErrorUptoRow : OpenClaim := { program := "ytfghdcghgfehiaa", sum := "39f81bcff4fcc4570a06068666be1346282cf621be30e4d094ea48638b3e6ecd", func := "frustum/frustumlaw01.FixedRoundDivError", spec := "fixedRoundDivError", recurses := true, apart := false, narrowed := true }
def FixedRoundDivErrorUptoSaid : Prop := fixedRoundDivErrorUptoRow.holds Try.pinned (OpenSpec.upto fixedRoundDivErrorSpec)

/-- 'frustumlaw01.FixedFloorFract', WHERE WHAT IT READS IS OF BULK AT MOST 1048576: true; the input reads as it did. -/
def fixedFloorFractUptoRow : OpenClaim := { program := "ytfghdcghgfehiaa", sum := "39f81bcff4fcc4570a06068666be1346282cf621be30e4d094ea48638b3e6ecd", func := "frustum/frustumlaw01.FixedFloorFract", spec := "fixedFloorFract", recurses := true, apart := false, narrowed := true }
def FixedFloorFractUptoSaid : Prop := fixedFloorFractUptoRow.holds Try.pinned (OpenSpec.upto fixedFloorFractSpec)

/-- 'frustumlaw01.FixedLerpBetween', WHERE WHAT IT READS IS OF BULK AT MOST 1048576: true; the input reads as it did. -/
def fixedLerpBetweenUptoRow : OpenClaim := { program := "ytfghdcghgfehiaa", sum := "39f81bcff4fcc4570a06068666be1346282cf621be30e4d094ea48638b3e6ecd", func := "frustum/frustumlaw01.FixedLerpBetween", spec := "fixedLerpBetween", recurses := true, apart := false, narrowed := true }
def FixedLerpBetweenUptoSaid : Prop := fixedLerpBetweenUptoRow.holds Try.pinned (OpenSpec.upto fixedLerpBetweenSpec)

/-- 'frustumlaw01.FixedSqrtBounds', WHERE WHAT IT READS IS OF BULK AT MOST 1048576: true; the input reads as it did. -/
def fixedSqrtBoundsUptoRow : OpenClaim := { program := "ytfghdcghgfehiaa", sum := "39f81bcff4fcc4570a06068666be1346282cf621be30e4d094ea48638b3e6ecd", func := "frustum/frustumlaw01.FixedSqrtBounds", spec := "fixedSqrtBounds", recurses := true, apart := false, narrowed := true }
def FixedSqrtBoundsUptoSaid : Prop := fixedSqrtBoundsUptoRow.holds Try.pinned (OpenSpec.upto fixedSqrtBoundsSpec)

/-- 'frustumlaw01.FixedQuotients', WHERE WHAT IT READS IS OF BULK AT MOST 1048576: true; the input reads as it did. -/
def fixedQuotientsUptoRow : OpenClaim := { program := "ytfghdcghgfehiaa", sum := "39f81bcff4fcc4570a06068666be1346282cf621be30e4d094ea48638b3e6ecd", func := "frustum/frustumlaw01.FixedQuotients", spec := "fixedQuotients", recurses := true, apart := false, narrowed := true }
def FixedQuotientsUptoSaid : Prop := fixedQuotientsUptoRow.holds Try.pinned (OpenSpec.upto fixedQuotientsSpec)

/-- 'frustumlaw01.FixedRatioMonotonic', WHERE WHAT IT READS IS OF BULK AT MOST 1048576: true; the input reads as it did. -/
def fixedRatioMonotonicUptoRow : OpenClaim := { program := "ytfghdcghgfehiaa", sum := "39f81bcff4fcc4570a06068666be1346282cf621be30e4d094ea48638b3e6ecd", func := "frustum/frustumlaw01.FixedRatioMonotonic", spec := "fixedRatioMonotonic", recurses := true, apart := false, narrowed := true }
def FixedRatioMonotonicUptoSaid : Prop := fixedRatioMonotonicUptoRow.holds Try.pinned (OpenSpec.upto fixedRatioMonotonicSpec)

/-- 'frustumlaw01.FixedIdentities', WHERE WHAT IT READS IS OF BULK AT MOST 1048576: true; the input reads as it did. -/
def fixedIdentitiesUptoRow : OpenClaim := { program := "ytfghdcghgfehiaa", sum := "39f81bcff4fcc4570a06068666be1346282cf621be30e4d094ea48638b3e6ecd", func := "frustum/frustumlaw01.FixedIdentities", spec := "fixedIdentities", recurses := true, apart := false, narrowed := true }
def FixedIdentitiesUptoSaid : Prop := fixedIdentitiesUptoRow.holds Try.pinned (OpenSpec.upto fixedIdentitiesSpec)

/-- 'frustumlaw01.FixedArithmetic', WHERE WHAT IT READS IS OF BULK AT MOST 1048576: true; the input reads as it did. -/
def fixedArithmeticUptoRow : OpenClaim := { program := "ytfghdcghgfehiaa", sum := "39f81bcff4fcc4570a06068666be1346282cf621be30e4d094ea48638b3e6ecd", func := "frustum/frustumlaw01.FixedArithmetic", spec := "fixedArithmetic", recurses := true, apart := false, narrowed := true }
def FixedArithmeticUptoSaid : Prop := fixedArithmeticUptoRow.holds Try.pinned (OpenSpec.upto fixedArithmeticSpec)

end Rows
end Go.Proofs.Ytfghdcghgfehiaa
