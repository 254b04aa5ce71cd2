/-
  No cell of these rows narrows 'for every input' (looked for: loops, veiled, ifaces, maps, wideKeys, modest, calm, conditions, laid).
  DERIVED. THE GIVEN ROWS OF THIS SEAT. 8 by the template 'for every input the law returns true; each argument reads behind the call as it read before'; 0 by the template 'total and deterministic' (their statements: YtillihhndaplmaaTotals.lean).
  GIVEN WITH THE SEED: the statements are not yours to turn. If you find one false, say at which input.
  Laid BY PROGRAM, IN A SANDBOX (cutbox-rows.mjs): the forced cells as the released guide's own fill.sh prints them over the translation 4d01b2de7435fe6b… (all of the seat's roots in one cut). By AI agents, Wed Nov 11 2026. No macro, syntax, notation, axiom, sorry.
-/
import Derived.Test.YtillihhndaplmaaChecked
import GoSem.Claim
import GoSem.ClaimJoined
import GoSem.ClaimMapViews
import Derived.JoinedTies
import Derived.KernelRfl
namespace Go.Proofs.Ytillihhndaplmaa
/- THE CELL 'sum', in the pinned program and in every row, IS THE sha256 OF THE DUMP (.gsa) THAT YtillihhndaplmaaProg.lean LOADS. Nothing in Lean hashes anything: it is a label: what it is worth is what the hold of that sum in a sandbox is worth. -/
noncomputable def Try.pinned : Pinned := { name := "ytillihhndaplmaa", sum := "4d01b2de7435fe6b7cacaf6d9ab9c8f662306f218fa545dcd1c087f0fbed2d8c", checked := Try.checked }
namespace Rows
def none {H : Type} : Left H := { results := [], args := [] }

/-- 'frustumlaw32.ViewportCoordinates': WHATEVER THE INPUT: true; the input reads as it did. -/
def viewportCoordinatesSpec : ChangeSpec := { name := "viewportCoordinates", fn := fun _ => fun
  | [d1, d2, d3, d4] => { results := [.lit (.bool true)], args := [d1, d2, d3, d4] }
  | _ => none }
def viewportCoordinatesRow : OpenClaim := { program := "ytillihhndaplmaa", sum := "4d01b2de7435fe6b7cacaf6d9ab9c8f662306f218fa545dcd1c087f0fbed2d8c", func := "frustum/frustumlaw32.ViewportCoordinates", spec := "viewportCoordinates", unfollowed := true, recurses := true, apart := false }
def ViewportCoordinatesSaid : Prop := viewportCoordinatesRow.holds Try.pinned (OpenSpec.ofChange viewportCoordinatesSpec)

/-- ITS FALSE NEIGHBOUR: 'it returns false'. Refute it at one input. -/
def viewportCoordinatesWrong : ChangeSpec := { name := "viewportCoordinates", fn := fun _ => fun
  | [d1, d2, d3, d4] => { results := [.lit (.bool false)], args := [d1, d2, d3, d4] }
  | _ => none }
def ViewportCoordinatesWrongFalsely : Prop := viewportCoordinatesRow.holds Try.pinned (OpenSpec.ofChange viewportCoordinatesWrong)

/-- 'frustumlaw32.ViewportDepths': WHATEVER THE INPUT: true; the input reads as it did. -/
def viewportDepthsSpec : ChangeSpec := { name := "viewportDepths", fn := fun _ => fun
  | [d1, d2, d3] => { results := [.lit (.bool true)], args := [d1, d2, d3] }
  | _ => none }
def viewportDepthsRow : OpenClaim := { program := "ytillihhndaplmaa", sum := "4d01b2de7435fe6b7cacaf6d9ab9c8f662306f218fa545dcd1c087f0fbed2d8c", func := "frustum/frustumlaw32.ViewportDepths", spec := "viewportDepths", unfollowed := true, recurses := true, apart := false }
def ViewportDepthsSaid : Prop := viewportDepthsRow.holds Try.pinned (OpenSpec.ofChange viewportDepthsSpec)

/-- ITS FALSE NEIGHBOUR: 'it returns false'. Refute it at one input. -/
def viewportDepthsWrong : ChangeSpec := { name := "viewportDepths", fn := fun _ => fun
  | [d1, d2, d3] => { results := [.lit (.bool false)], args := [d1, d2, d3] }
  | _ => none }
def ViewportDepthsWrongFalsely : Prop := viewportDepthsRow.holds Try.pinned (OpenSpec.ofChange viewportDepthsWrong)

/-- 'frustumlaw32.ViewportTransforms': WHATEVER THE INPUT: true; the input reads as it did. -/
def viewportTransformsSpec : ChangeSpec := { name := "viewportTransforms", fn := fun _ => fun
  | [d1, d2] => { results := [.lit (.bool true)], args := [d1, d2] }
  | _ => none }
def viewportTransformsRow : OpenClaim := { program := "ytillihhndaplmaa", sum := "4d01b2de7435fe6b7cacaf6d9ab9c8f662306f218fa545dcd1c087f0fbed2d8c", func := "frustum/frustumlaw32.ViewportTransforms", spec := "viewportTransforms", unfollowed := true, recurses := true, apart := false }
def ViewportTransformsSaid : Prop := viewportTransformsRow.holds Try.pinned (OpenSpec.ofChange viewportTransformsSpec)

/-- ITS FALSE NEIGHBOUR: 'it returns false'. Refute it at one input. -/
def viewportTransformsWrong : ChangeSpec := { name := "viewportTransforms", fn := fun _ => fun
  | [d1, d2] => { results := [.lit (.bool false)], args := [d1, d2] }
  | _ => none }
def ViewportTransformsWrongFalsely : Prop := viewportTransformsRow.holds Try.pinned (OpenSpec.ofChange viewportTransformsWrong)

/-- 'frustumlaw32.ViewportInside': WHATEVER THE INPUT: true; the input reads as it did. -/
def viewportInsideSpec : ChangeSpec := { name := "viewportInside", fn := fun _ => fun
  | [d1, d2] => { results := [.lit (.bool true)], args := [d1, d2] }
  | _ => none }
def viewportInsideRow : OpenClaim := { program := "ytillihhndaplmaa", sum := "4d01b2de7435fe6b7cacaf6d9ab9c8f662306f218fa545dcd1c087f0fbed2d8c", func := "frustum/frustumlaw32.ViewportInside", spec := "viewportInside", unfollowed := true, recurses := true, apart := false }
def ViewportInsideSaid : Prop := viewportInsideRow.holds Try.pinned (OpenSpec.ofChange viewportInsideSpec)

/-- ITS FALSE NEIGHBOUR: 'it returns false'. Refute it at one input. -/
def viewportInsideWrong : ChangeSpec := { name := "viewportInside", fn := fun _ => fun
  | [d1, d2] => { results := [.lit (.bool false)], args := [d1, d2] }
  | _ => none }
def ViewportInsideWrongFalsely : Prop := viewportInsideRow.holds Try.pinned (OpenSpec.ofChange viewportInsideWrong)

/-- 'frustumlaw32.ViewportMonotonic': WHATEVER THE INPUT: true; the input reads as it did. -/
def viewportMonotonicSpec : ChangeSpec := { name := "viewportMonotonic", fn := fun _ => fun
  | [d1, d2, d3, d4, d5] => { results := [.lit (.bool true)], args := [d1, d2, d3, d4, d5] }
  | _ => none }
def viewportMonotonicRow : OpenClaim := { program := "ytillihhndaplmaa", sum := "4d01b2de7435fe6b7cacaf6d9ab9c8f662306f218fa545dcd1c087f0fbed2d8c", func := "frustum/frustumlaw32.ViewportMonotonic", spec := "viewportMonotonic", unfollowed := true, recurses := true, apart := false }
def ViewportMonotonicSaid : Prop := viewportMonotonicRow.holds Try.pinned (OpenSpec.ofChange viewportMonotonicSpec)

/-- ITS FALSE NEIGHBOUR: 'it returns false'. Refute it at one input. -/
def viewportMonotonicWrong : ChangeSpec := { name := "viewportMonotonic", fn := fun _ => fun
  | [d1, d2, d3, d4, d5] => { results := [.lit (.bool false)], args := [d1, d2, d3, d4, d5] }
  | _ => none }
def ViewportMonotonicWrongFalsely : Prop := viewportMonotonicRow.holds Try.pinned (OpenSpec.ofChange viewportMonotonicWrong)

/-- 'frustumlaw32.ViewportVaryings': WHATEVER THE INPUT: true; the input reads as it did. -/
def viewportVaryingsSpec : ChangeSpec := { name := "viewportVaryings", fn := fun _ => fun
  | [d1, d2] => { results := [.lit (.bool true)], args := [d1, d2] }
  | _ => none }
def viewportVaryingsRow : OpenClaim := { program := "ytillihhndaplmaa", sum := "4d01b2de7435fe6b7cacaf6d9ab9c8f662306f218fa545dcd1c087f0fbed2d8c", func := "frustum/frustumlaw32.ViewportVaryings", spec := "viewportVaryings", unfollowed := true, recurses := true, apart := false }
def ViewportVaryingsSaid : Prop := viewportVaryingsRow.holds Try.pinned (OpenSpec.ofChange viewportVaryingsSpec)

/-- ITS FALSE NEIGHBOUR: 'it returns false'. Refute it at one input. -/
def viewportVaryingsWrong : ChangeSpec := { name := "viewportVaryings", fn := fun _ => fun
  | [d1, d2] => { results := [.lit (.bool false)], args := [d1, d2] }
  | _ => none }
def ViewportVaryingsWrongFalsely : Prop := viewportVaryingsRow.holds Try.pinned (OpenSpec.ofChange viewportVaryingsWrong)

/-- 'frustumlaw32.ViewportValid': WHATEVER THE INPUT: true; the input reads as it did. -/
def viewportValidSpec : ChangeSpec := { name := "viewportValid", fn := fun _ => fun
  | [d1, d2, d3] => { results := [.lit (.bool true)], args := [d1, d2, d3] }
  | _ => none }
def viewportValidRow : OpenClaim := { program := "ytillihhndaplmaa", sum := "4d01b2de7435fe6b7cacaf6d9ab9c8f662306f218fa545dcd1c087f0fbed2d8c", func := "frustum/frustumlaw32.ViewportValid", spec := "viewportValid", unfollowed := true, recurses := true, apart := false }
def ViewportValidSaid : Prop := viewportValidRow.holds Try.pinned (OpenSpec.ofChange viewportValidSpec)

/-- ITS FALSE NEIGHBOUR: 'it returns false'. Refute it at one input. -/
def viewportValidWrong : ChangeSpec := { name := "viewportValid", fn := fun _ => fun
  | [d1, d2, d3] => { results := [.lit (.bool false)], args := [d1, d2, d3] }
  | _ => none }
def ViewportValidWrongFalsely : Prop := viewportValidRow.holds Try.pinned (OpenSpec.ofChange viewportValidWrong)

/-- 'frustumlaw32.ViewportEqual': WHATEVER THE INPUT: true; the input reads as it did. -/
def viewportEqualSpec : ChangeSpec := { name := "viewportEqual", fn := fun _ => fun
  | [d1, d2] => { results := [.lit (.bool true)], args := [d1, d2] }
  | _ => none }
def viewportEqualRow : OpenClaim := { program := "ytillihhndaplmaa", sum := "4d01b2de7435fe6b7cacaf6d9ab9c8f662306f218fa545dcd1c087f0fbed2d8c", func := "frustum/frustumlaw32.ViewportEqual", spec := "viewportEqual", unfollowed := true, recurses := true, apart := false }
def ViewportEqualSaid : Prop := viewportEqualRow.holds Try.pinned (OpenSpec.ofChange viewportEqualSpec)

/-- ITS FALSE NEIGHBOUR: 'it returns false'. Refute it at one input. -/
def viewportEqualWrong : ChangeSpec := { name := "viewportEqual", fn := fun _ => fun
  | [d1, d2] => { results := [.lit (.bool false)], args := [d1, d2] }
  | _ => none }
def ViewportEqualWrongFalsely : Prop := viewportEqualRow.holds Try.pinned (OpenSpec.ofChange viewportEqualWrong)

/- THE SECOND FORM. 'bulk': how many values and letters a reading holds, each counted each time it is reached (what is shared counts as often as it is met; a slice's spare places count too). A statement '..UptoSaid' is the law's where the arguments, and the package variables that the reading takes, are together of bulk at most 1048576: NARROWER than '..Said'. Prove '..Said' where nothing that the law and all that it calls make is longer than what came in: it says more and counts as full. Else prove '..UptoSaid'. A law counts once. -/
mutual
def uptoBulk {H : Type} : DataW H → Nat
  | .lit (.string bytes) => bytes.length + 1
  | .lit _ => 1
  | .nil => 1
  | .ptr d => uptoBulk d + 1
  | .slice elems spare => uptoBulkAll elems + uptoBulkAll spare + 1
  | .agg parts => uptoBulkAll parts + 1
  | .iface _ d => uptoBulk d + 1
  | .map entries => uptoBulkEntries entries + 1
  | .held _ => 1
def uptoBulkAll {H : Type} : List (DataW H) → Nat
  | [] => 0
  | d :: r => uptoBulk d + uptoBulkAll r
def uptoBulkEntries {H : Type} : List (Lit × DataW H) → Nat
  | [] => 0
  | x :: r => uptoBulkEntry x + uptoBulkEntries r
def uptoBulkEntry {H : Type} : Lit × DataW H → Nat
  | (.string bytes, d) => bytes.length + uptoBulk d + 1
  | (_, d) => uptoBulk d + 1
 end
def uptoSmall : (H : Type) → List (DataW H) → Bool := fun _ ds => decide (uptoBulkAll ds ≤ 1048576)
def OpenSpec.upto (s : _root_.Go.ChangeSpec) : _root_.Go.OpenSpec := { _root_.Go.OpenSpec.ofChange s with cond := some uptoSmall }

/-- 'frustumlaw32.ViewportCoordinates', WHERE WHAT IT READS IS OF BULK AT MOST 1048576: true; the input reads as it did. -/
def viewportCoordinatesUptoRow : OpenClaim := { program := "ytillihhndaplmaa", sum := "4d01b2de7435fe6b7cacaf6d9ab9c8f662306f218fa545dcd1c087f0fbed2d8c", func := "frustum/frustumlaw32.ViewportCoordinates", spec := "viewportCoordinates", unfollowed := true, recurses := true, apart := false, narrowed := true }
def ViewportCoordinatesUptoSaid : Prop := viewportCoordinatesUptoRow.holds Try.pinned (OpenSpec.upto viewportCoordinatesSpec)

/-- 'frustumlaw32.ViewportDepths', WHERE WHAT IT READS IS OF BULK AT MOST 1048576: true; the input reads as it did. -/
def viewportDepthsUptoRow : OpenClaim := { program := "ytillihhndaplmaa", sum := "4d01b2de7435fe6b7cacaf6d9ab9c8f662306f218fa545dcd1c087f0fbed2d8c", func := "frustum/frustumlaw32.ViewportDepths", spec := "viewportDepths", unfollowed := true, recurses := true, apart := false, narrowed := true }
def ViewportDepthsUptoSaid : Prop := viewportDepthsUptoRow.holds Try.pinned (OpenSpec.upto viewportDepthsSpec)

/-- 'frustumlaw32.ViewportTransforms', WHERE WHAT IT READS IS OF BULK AT MOST 1048576: true; the input reads as it did. -/
def viewportTransformsUptoRow : OpenClaim := { program := "ytillihhndaplmaa", sum := "4d01b2de7435fe6b7cacaf6d9ab9c8f662306f218fa545dcd1c087f0fbed2d8c", func := "frustum/frustumlaw32.ViewportTransforms", spec := "viewportTransforms", unfollowed := true, recurses := true, apart := false, narrowed := true }
def ViewportTransformsUptoSaid : Prop := viewportTransformsUptoRow.holds Try.pinned (OpenSpec.upto viewportTransformsSpec)

/-- 'frustumlaw32.ViewportInside', WHERE WHAT IT READS IS OF BULK AT MOST 1048576: true; the input reads as it did. -/
def viewportInsideUptoRow : OpenClaim := { program := "ytillihhndaplmaa", sum := "4d01b2de7435fe6b7cacaf6d9ab9c8f662306f218fa545dcd1c087f0fbed2d8c", func := "frustum/frustumlaw32.ViewportInside", spec := "viewportInside", unfollowed := true, recurses := true, apart := false, narrowed := true }
def ViewportInsideUptoSaid : Prop := viewportInsideUptoRow.holds Try.pinned (OpenSpec.upto viewportInsideSpec)

/-- 'frustumlaw32.ViewportMonotonic', WHERE WHAT IT READS IS OF BULK AT MOST 1048576: true; the input reads as it did. -/
def viewportMonotonicUptoRow : OpenClaim := { program := "ytillihhndaplmaa", sum := "4d01b2de7435fe6b7cacaf6d9ab9c8f662306f218fa545dcd1c087f0fbed2d8c", func := "frustum/frustumlaw32.ViewportMonotonic", spec := "viewportMonotonic", unfollowed := true, recurses := true, apart := false, narrowed := true }
def ViewportMonotonicUptoSaid : Prop := viewportMonotonicUptoRow.holds Try.pinned (OpenSpec.upto viewportMonotonicSpec)

/-- 'frustumlaw32.ViewportVaryings', WHERE WHAT IT READS IS OF BULK AT MOST 1048576: true; the input reads as it did. -/
def viewportVaryingsUptoRow : OpenClaim := { program := "ytillihhndaplmaa", sum := "4d01b2de7435fe6b7cacaf6d9ab9c8f662306f218fa545dcd1c087f0fbed2d8c", func := "frustum/frustumlaw32.ViewportVaryings", spec := "viewportVaryings", unfollowed := true, recurses := true, apart := false, narrowed := true }
def ViewportVaryingsUptoSaid : Prop := viewportVaryingsUptoRow.holds Try.pinned (OpenSpec.upto viewportVaryingsSpec)

/-- 'frustumlaw32.ViewportValid', WHERE WHAT IT READS IS OF BULK AT MOST 1048576: true; the input reads as it did. -/
def viewportValidUptoRow : OpenClaim := { program := "ytillihhndaplmaa", sum := "4d01b2de7435fe6b7cacaf6d9ab9c8f662306f218fa545dcd1c087f0fbed2d8c", func := "frustum/frustumlaw32.ViewportValid", spec := "viewportValid", unfollowed := true, recurses := true, apart := false, narrowed := true }
def ViewportValidUptoSaid : Prop := viewportValidUptoRow.holds Try.pinned (OpenSpec.upto viewportValidSpec)

/-- 'frustumlaw32.ViewportEqual', WHERE WHAT IT READS IS OF BULK AT MOST 1048576: true; the input reads as it did. -/
def viewportEqualUptoRow : OpenClaim := { program := "ytillihhndaplmaa", sum := "4d01b2de7435fe6b7cacaf6d9ab9c8f662306f218fa545dcd1c087f0fbed2d8c", func := "frustum/frustumlaw32.ViewportEqual", spec := "viewportEqual", unfollowed := true, recurses := true, apart := false, narrowed := true }
def ViewportEqualUptoSaid : Prop := viewportEqualUptoRow.holds Try.pinned (OpenSpec.upto viewportEqualSpec)

end Rows
end Go.Proofs.Ytillihhndaplmaa
