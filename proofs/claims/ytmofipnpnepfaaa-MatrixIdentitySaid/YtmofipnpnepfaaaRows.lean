/-
  No cell of these rows narrows 'for every input' (looked for: loops, veiled, ifaces, maps, wideKeys, modest, calm, conditions, laid).
  DERIVED. THE GIVEN ROWS OF THIS SEAT. 7 by the template 'for every input the law returns true; each argument reads behind the call as it read before'; 0 by the template 'total and deterministic' (their statements: YtmofipnpnepfaaaTotals.lean).
  GIVEN WITH THE SEED: the statements are not yours to turn. If you find one false, say at which input.
  Laid BY PROGRAM, IN A SANDBOX (cutbox-rows.mjs): the forced cells as the released guide's own fill.sh prints them over the translation 39ef1ca3652ba5b7… (all of the seat's roots in one cut). By AI agents, Wed Nov 11 2026. No macro, syntax, notation, axiom, sorry.
-/
import Derived.Test.YtmofipnpnepfaaaChecked
import GoSem.Claim
import GoSem.ClaimJoined
import GoSem.ClaimMapViews
import Derived.JoinedTies
import Derived.KernelRfl
namespace Go.Proofs.Ytmofipnpnepfaaa
/- THE CELL 'sum', in the pinned program and in every row, IS THE sha256 OF THE DUMP (.gsa) THAT YtmofipnpnepfaaaProg.lean LOADS. Nothing in Lean hashes anything: it is a label: what it is worth is what the hold of that sum in a sandbox is worth. -/
noncomputable def Try.pinned : Pinned := { name := "ytmofipnpnepfaaa", sum := "39ef1ca3652ba5b794081a1153e840581ba06329cb9b3dd5eae78a52600222e9", checked := Try.checked }
namespace Rows
def none {H : Type} : Left H := { results := [], args := [] }

/-- 'frustumlaw04.MatrixBasics': WHATEVER THE INPUT: true; the input reads as it did. -/
def matrixBasicsSpec : ChangeSpec := { name := "matrixBasics", fn := fun _ => fun
  | [d1, d2, d3] => { results := [.lit (.bool true)], args := [d1, d2, d3] }
  | _ => none }
def matrixBasicsRow : OpenClaim := { program := "ytmofipnpnepfaaa", sum := "39ef1ca3652ba5b794081a1153e840581ba06329cb9b3dd5eae78a52600222e9", func := "frustum/frustumlaw04.MatrixBasics", spec := "matrixBasics", recurses := true, apart := false }
def MatrixBasicsSaid : Prop := matrixBasicsRow.holds Try.pinned (OpenSpec.ofChange matrixBasicsSpec)

/-- ITS FALSE NEIGHBOUR: 'it returns false'. Refute it at one input. -/
def matrixBasicsWrong : ChangeSpec := { name := "matrixBasics", fn := fun _ => fun
  | [d1, d2, d3] => { results := [.lit (.bool false)], args := [d1, d2, d3] }
  | _ => none }
def MatrixBasicsWrongFalsely : Prop := matrixBasicsRow.holds Try.pinned (OpenSpec.ofChange matrixBasicsWrong)

/-- 'frustumlaw04.MatrixAffine': WHATEVER THE INPUT: true; the input reads as it did. -/
def matrixAffineSpec : ChangeSpec := { name := "matrixAffine", fn := fun _ => fun
  | [d1, d2] => { results := [.lit (.bool true)], args := [d1, d2] }
  | _ => none }
def matrixAffineRow : OpenClaim := { program := "ytmofipnpnepfaaa", sum := "39ef1ca3652ba5b794081a1153e840581ba06329cb9b3dd5eae78a52600222e9", func := "frustum/frustumlaw04.MatrixAffine", spec := "matrixAffine", recurses := true, apart := false }
def MatrixAffineSaid : Prop := matrixAffineRow.holds Try.pinned (OpenSpec.ofChange matrixAffineSpec)

/-- ITS FALSE NEIGHBOUR: 'it returns false'. Refute it at one input. -/
def matrixAffineWrong : ChangeSpec := { name := "matrixAffine", fn := fun _ => fun
  | [d1, d2] => { results := [.lit (.bool false)], args := [d1, d2] }
  | _ => none }
def MatrixAffineWrongFalsely : Prop := matrixAffineRow.holds Try.pinned (OpenSpec.ofChange matrixAffineWrong)

/-- 'frustumlaw04.MatrixApplies': WHATEVER THE INPUT: true; the input reads as it did. -/
def matrixAppliesSpec : ChangeSpec := { name := "matrixApplies", fn := fun _ => fun
  | [d1, d2, d3] => { results := [.lit (.bool true)], args := [d1, d2, d3] }
  | _ => none }
def matrixAppliesRow : OpenClaim := { program := "ytmofipnpnepfaaa", sum := "39ef1ca3652ba5b794081a1153e840581ba06329cb9b3dd5eae78a52600222e9", func := "frustum/frustumlaw04.MatrixApplies", spec := "matrixApplies", recurses := true, apart := false }
def MatrixAppliesSaid : Prop := matrixAppliesRow.holds Try.pinned (OpenSpec.ofChange matrixAppliesSpec)

/-- ITS FALSE NEIGHBOUR: 'it returns false'. Refute it at one input. -/
def matrixAppliesWrong : ChangeSpec := { name := "matrixApplies", fn := fun _ => fun
  | [d1, d2, d3] => { results := [.lit (.bool false)], args := [d1, d2, d3] }
  | _ => none }
def MatrixAppliesWrongFalsely : Prop := matrixAppliesRow.holds Try.pinned (OpenSpec.ofChange matrixAppliesWrong)

/-- 'frustumlaw04.MatrixTransposes': WHATEVER THE INPUT: true; the input reads as it did. -/
def matrixTransposesSpec : ChangeSpec := { name := "matrixTransposes", fn := fun _ => fun
  | [d1, d2, d3] => { results := [.lit (.bool true)], args := [d1, d2, d3] }
  | _ => none }
def matrixTransposesRow : OpenClaim := { program := "ytmofipnpnepfaaa", sum := "39ef1ca3652ba5b794081a1153e840581ba06329cb9b3dd5eae78a52600222e9", func := "frustum/frustumlaw04.MatrixTransposes", spec := "matrixTransposes", recurses := true, apart := false }
def MatrixTransposesSaid : Prop := matrixTransposesRow.holds Try.pinned (OpenSpec.ofChange matrixTransposesSpec)

/-- ITS FALSE NEIGHBOUR: 'it returns false'. Refute it at one input. -/
def matrixTransposesWrong : ChangeSpec := { name := "matrixTransposes", fn := fun _ => fun
  | [d1, d2, d3] => { results := [.lit (.bool false)], args := [d1, d2, d3] }
  | _ => none }
def MatrixTransposesWrongFalsely : Prop := matrixTransposesRow.holds Try.pinned (OpenSpec.ofChange matrixTransposesWrong)

/-- 'frustumlaw04.MatrixIdentity': WHATEVER THE INPUT: true; the input reads as it did. -/
def matrixIdentitySpec : ChangeSpec := { name := "matrixIdentity", fn := fun _ => fun
  | [d1, d2] => { results := [.lit (.bool true)], args := [d1, d2] }
  | _ => none }
def matrixIdentityRow : OpenClaim := { program := "ytmofipnpnepfaaa", sum := "39ef1ca3652ba5b794081a1153e840581ba06329cb9b3dd5eae78a52600222e9", func := "frustum/frustumlaw04.MatrixIdentity", spec := "matrixIdentity", recurses := true, apart := false }
def MatrixIdentitySaid : Prop := matrixIdentityRow.holds Try.pinned (OpenSpec.ofChange matrixIdentitySpec)

/-- ITS FALSE NEIGHBOUR: 'it returns false'. Refute it at one input. -/
def matrixIdentityWrong : ChangeSpec := { name := "matrixIdentity", fn := fun _ => fun
  | [d1, d2] => { results := [.lit (.bool false)], args := [d1, d2] }
  | _ => none }
def MatrixIdentityWrongFalsely : Prop := matrixIdentityRow.holds Try.pinned (OpenSpec.ofChange matrixIdentityWrong)

/-- 'frustumlaw04.MatrixPerspective': WHATEVER THE INPUT: true; the input reads as it did. -/
def matrixPerspectiveSpec : ChangeSpec := { name := "matrixPerspective", fn := fun _ => fun
  | [d1, d2] => { results := [.lit (.bool true)], args := [d1, d2] }
  | _ => none }
def matrixPerspectiveRow : OpenClaim := { program := "ytmofipnpnepfaaa", sum := "39ef1ca3652ba5b794081a1153e840581ba06329cb9b3dd5eae78a52600222e9", func := "frustum/frustumlaw04.MatrixPerspective", spec := "matrixPerspective", recurses := true, apart := false }
def MatrixPerspectiveSaid : Prop := matrixPerspectiveRow.holds Try.pinned (OpenSpec.ofChange matrixPerspectiveSpec)

/-- ITS FALSE NEIGHBOUR: 'it returns false'. Refute it at one input. -/
def matrixPerspectiveWrong : ChangeSpec := { name := "matrixPerspective", fn := fun _ => fun
  | [d1, d2] => { results := [.lit (.bool false)], args := [d1, d2] }
  | _ => none }
def MatrixPerspectiveWrongFalsely : Prop := matrixPerspectiveRow.holds Try.pinned (OpenSpec.ofChange matrixPerspectiveWrong)

/-- 'frustumlaw04.MatrixProjections': WHATEVER THE INPUT: true; the input reads as it did. -/
def matrixProjectionsSpec : ChangeSpec := { name := "matrixProjections", fn := fun _ => fun
  | [d] => { results := [.lit (.bool true)], args := [d] }
  | _ => none }
def matrixProjectionsRow : OpenClaim := { program := "ytmofipnpnepfaaa", sum := "39ef1ca3652ba5b794081a1153e840581ba06329cb9b3dd5eae78a52600222e9", func := "frustum/frustumlaw04.MatrixProjections", spec := "matrixProjections", recurses := true, apart := false }
def MatrixProjectionsSaid : Prop := matrixProjectionsRow.holds Try.pinned (OpenSpec.ofChange matrixProjectionsSpec)

/-- ITS FALSE NEIGHBOUR: 'it returns false'. Refute it at one input. -/
def matrixProjectionsWrong : ChangeSpec := { name := "matrixProjections", fn := fun _ => fun
  | [d] => { results := [.lit (.bool false)], args := [d] }
  | _ => none }
def MatrixProjectionsWrongFalsely : Prop := matrixProjectionsRow.holds Try.pinned (OpenSpec.ofChange matrixProjectionsWrong)

/- THE SECOND FORM. 'bulk': how many values and letters a reading holds, each counted each time it is reached (what is shared counts as often as it is met; a slice's spare places count too). A statement '..UptoSaid' is the law's where the arguments, and the package variables that the reading takes, are together of bulk at most 1048576: NARROWER than '..Said'. Prove '..Said' where nothing that the law and all that it calls make is longer than what came in: it says more and counts as full. Else prove '..UptoSaid'. A law counts once. -/
mutual
def uptoBulk {H : Type} : DataW H → Nat
  | .lit (.string bytes) => bytes.length + 1
  | .lit _ => 1
  | .nil => 1
  | .ptr d => uptoBulk d + 1
  | .slice elems spare => uptoBulkAll elems + uptoBulkAll spare + 1
  | .agg parts => uptoBulkAll parts + 1
  | .iface _ d => uptoBulk d + 1
  | .map entries => uptoBulkEntries entries + 1
  | .held _ => 1
def uptoBulkAll {H : Type} : List (DataW H) → Nat
  | [] => 0
  | d :: r => uptoBulk d + uptoBulkAll r
def uptoBulkEntries {H : Type} : List (Lit × DataW H) → Nat
  | [] => 0
  | x :: r => uptoBulkEntry x + uptoBulkEntries r
def uptoBulkEntry {H : Type} : Lit × DataW H → Nat
  | (.string bytes, d) => bytes.length + uptoBulk d + 1
  | (_, d) => uptoBulk d + 1
 end
def uptoSmall : (H : Type) → List (DataW H) → Bool := fun _ ds => decide (uptoBulkAll ds ≤ 1048576)
def OpenSpec.upto (s : _root_.Go.ChangeSpec) : _root_.Go.OpenSpec := { _root_.Go.OpenSpec.ofChange s with cond := some uptoSmall }

/-- 'frustumlaw04.MatrixBasics', WHERE WHAT IT READS IS OF BULK AT MOST 1048576: true; the input reads as it did. -/
def matrixBasicsUptoRow : OpenClaim := { program := "ytmofipnpnepfaaa", sum := "39ef1ca3652ba5b794081a1153e840581ba06329cb9b3dd5eae78a52600222e9", func := "frustum/frustumlaw04.MatrixBasics", spec := "matrixBasics", recurses := true, apart := false, narrowed := true }
def MatrixBasicsUptoSaid : Prop := matrixBasicsUptoRow.holds Try.pinned (OpenSpec.upto matrixBasicsSpec)

/-- 'frustumlaw04.MatrixAffine', WHERE WHAT IT READS IS OF BULK AT MOST 1048576: true; the input reads as it did. -/
def matrixAffineUptoRow : OpenClaim := { program := "ytmofipnpnepfaaa", sum := "39ef1ca3652ba5b794081a1153e840581ba06329cb9b3dd5eae78a52600222e9", func := "frustum/frustumlaw04.MatrixAffine", spec := "matrixAffine", recurses := true, apart := false, narrowed := true }
def MatrixAffineUptoSaid : Prop := matrixAffineUptoRow.holds Try.pinned (OpenSpec.upto matrixAffineSpec)

/-- 'frustumlaw04.MatrixApplies', WHERE WHAT IT READS IS OF BULK AT MOST 1048576: true; the input reads as it did. -/
def matrixAppliesUptoRow : OpenClaim := { program := "ytmofipnpnepfaaa", sum := "39ef1ca3652ba5b794081a1153e840581ba06329cb9b3dd5eae78a52600222e9", func := "frustum/frustumlaw04.MatrixApplies", spec := "matrixApplies", recurses := true, apart := false, narrowed := true }
def MatrixAppliesUptoSaid : Prop := matrixAppliesUptoRow.holds Try.pinned (OpenSpec.upto matrixAppliesSpec)

/-- 'frustumlaw04.MatrixTransposes', WHERE WHAT IT READS IS OF BULK AT MOST 1048576: true; the input reads as it did. -/
def matrixTransposesUptoRow : OpenClaim := { program := "ytmofipnpnepfaaa", sum := "39ef1ca3652ba5b794081a1153e840581ba06329cb9b3dd5eae78a52600222e9", func := "frustum/frustumlaw04.MatrixTransposes", spec := "matrixTransposes", recurses := true, apart := false, narrowed := true }
def MatrixTransposesUptoSaid : Prop := matrixTransposesUptoRow.holds Try.pinned (OpenSpec.upto matrixTransposesSpec)

/-- 'frustumlaw04.MatrixIdentity', WHERE WHAT IT READS IS OF BULK AT MOST 1048576: true; the input reads as it did. -/
def matrixIdentityUptoRow : OpenClaim := { program := "ytmofipnpnepfaaa", sum := "39ef1ca3652ba5b794081a1153e840581ba06329cb9b3dd5eae78a52600222e9", func := "frustum/frustumlaw04.MatrixIdentity", spec := "matrixIdentity", recurses := true, apart := false, narrowed := true }
def MatrixIdentityUptoSaid : Prop := matrixIdentityUptoRow.holds Try.pinned (OpenSpec.upto matrixIdentitySpec)

/-- 'frustumlaw04.MatrixPerspective', WHERE WHAT IT READS IS OF BULK AT MOST 1048576: true; the input reads as it did. -/
def matrixPerspectiveUptoRow : OpenClaim := { program := "ytmofipnpnepfaaa", sum := "39ef1ca3652ba5b794081a1153e840581ba06329cb9b3dd5eae78a52600222e9", func := "frustum/frustumlaw04.MatrixPerspective", spec := "matrixPerspective", recurses := true, apart := false, narrowed := true }
def MatrixPerspectiveUptoSaid : Prop := matrixPerspectiveUptoRow.holds Try.pinned (OpenSpec.upto matrixPerspectiveSpec)

/-- 'frustumlaw04.MatrixProjections', WHERE WHAT IT READS IS OF BULK AT MOST 1048576: true; the input reads as it did. -/
def matrixProjectionsUptoRow : OpenClaim := { program := "ytmofipnpnepfaaa", sum := "39ef1ca3652ba5b794081a1153e840581ba06329cb9b3dd5eae78a52600222e9", func := "frustum/frustumlaw04.MatrixProjections", spec := "matrixProjections", recurses := true, apart := false, narrowed := true }
def MatrixProjectionsUptoSaid : Prop := matrixProjectionsUptoRow.holds Try.pinned (OpenSpec.upto matrixProjectionsSpec)

end Rows
end Go.Proofs.Ytmofipnpnepfaaa
