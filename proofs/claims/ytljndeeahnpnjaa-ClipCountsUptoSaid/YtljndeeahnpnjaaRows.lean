/-
  No cell of these rows narrows 'for every input' (looked for: loops, veiled, ifaces, maps, wideKeys, modest, calm, conditions, laid).
  DERIVED. THE GIVEN ROWS OF THIS SEAT. 6 by the template 'for every input the law returns true; each argument reads behind the call as it read before'; 0 by the template 'total and deterministic' (their statements: YtljndeeahnpnjaaTotals.lean).
  GIVEN WITH THE SEED: the statements are not yours to turn. If you find one false, say at which input.
  Laid BY PROGRAM, IN A SANDBOX (cutbox-rows.mjs): the forced cells as the released guide's own fill.sh prints them over the translation a4dd08c5e612e35c… (all of the seat's roots in one cut). By AI agents, Wed Nov 11 2026. No macro, syntax, notation, axiom, sorry.
-/
import Derived.Test.YtljndeeahnpnjaaChecked
import GoSem.Claim
import GoSem.ClaimJoined
import GoSem.ClaimMapViews
import Derived.JoinedTies
import Derived.KernelRfl
namespace Go.Proofs.Ytljndeeahnpnjaa
/- THE CELL 'sum', in the pinned program and in every row, IS THE sha256 OF THE DUMP (.gsa) THAT YtljndeeahnpnjaaProg.lean LOADS. Nothing in Lean hashes anything: it is a label: what it is worth is what the hold of that sum in a sandbox is worth. -/
noncomputable def Try.pinned : Pinned := { name := "ytljndeeahnpnjaa", sum := "a4dd08c5e612e35c0abbc7391ab43b0849a0ef8c3db81adc6d3f3f567161ab42", checked := Try.checked }
namespace Rows
def none {H : Type} : Left H := { results := [], args := [] }

/-- 'frustumlaw31.ClipShared': WHATEVER THE INPUT: true; the input reads as it did. -/
def clipSharedSpec : ChangeSpec := { name := "clipShared", fn := fun _ => fun
  | [d1, d2, d3] => { results := [.lit (.bool true)], args := [d1, d2, d3] }
  | _ => none }
def clipSharedRow : OpenClaim := { program := "ytljndeeahnpnjaa", sum := "a4dd08c5e612e35c0abbc7391ab43b0849a0ef8c3db81adc6d3f3f567161ab42", func := "frustum/frustumlaw31.ClipShared", spec := "clipShared", unfollowed := true, recurses := true, apart := false }
def ClipSharedSaid : Prop := clipSharedRow.holds Try.pinned (OpenSpec.ofChange clipSharedSpec)

/-- ITS FALSE NEIGHBOUR: 'it returns false'. Refute it at one input. -/
def clipSharedWrong : ChangeSpec := { name := "clipShared", fn := fun _ => fun
  | [d1, d2, d3] => { results := [.lit (.bool false)], args := [d1, d2, d3] }
  | _ => none }
def ClipSharedWrongFalsely : Prop := clipSharedRow.holds Try.pinned (OpenSpec.ofChange clipSharedWrong)

/-- 'frustumlaw31.ClipTriangles': WHATEVER THE INPUT: true; the input reads as it did. -/
def clipTrianglesSpec : ChangeSpec := { name := "clipTriangles", fn := fun _ => fun
  | [d] => { results := [.lit (.bool true)], args := [d] }
  | _ => none }
def clipTrianglesRow : OpenClaim := { program := "ytljndeeahnpnjaa", sum := "a4dd08c5e612e35c0abbc7391ab43b0849a0ef8c3db81adc6d3f3f567161ab42", func := "frustum/frustumlaw31.ClipTriangles", spec := "clipTriangles", unfollowed := true, recurses := true, apart := false }
def ClipTrianglesSaid : Prop := clipTrianglesRow.holds Try.pinned (OpenSpec.ofChange clipTrianglesSpec)

/-- ITS FALSE NEIGHBOUR: 'it returns false'. Refute it at one input. -/
def clipTrianglesWrong : ChangeSpec := { name := "clipTriangles", fn := fun _ => fun
  | [d] => { results := [.lit (.bool false)], args := [d] }
  | _ => none }
def ClipTrianglesWrongFalsely : Prop := clipTrianglesRow.holds Try.pinned (OpenSpec.ofChange clipTrianglesWrong)

/-- 'frustumlaw31.ClipEdges': WHATEVER THE INPUT: true; the input reads as it did. -/
def clipEdgesSpec : ChangeSpec := { name := "clipEdges", fn := fun _ => fun
  | [d1, d2, d3] => { results := [.lit (.bool true)], args := [d1, d2, d3] }
  | _ => none }
def clipEdgesRow : OpenClaim := { program := "ytljndeeahnpnjaa", sum := "a4dd08c5e612e35c0abbc7391ab43b0849a0ef8c3db81adc6d3f3f567161ab42", func := "frustum/frustumlaw31.ClipEdges", spec := "clipEdges", unfollowed := true, recurses := true, apart := false }
def ClipEdgesSaid : Prop := clipEdgesRow.holds Try.pinned (OpenSpec.ofChange clipEdgesSpec)

/-- ITS FALSE NEIGHBOUR: 'it returns false'. Refute it at one input. -/
def clipEdgesWrong : ChangeSpec := { name := "clipEdges", fn := fun _ => fun
  | [d1, d2, d3] => { results := [.lit (.bool false)], args := [d1, d2, d3] }
  | _ => none }
def ClipEdgesWrongFalsely : Prop := clipEdgesRow.holds Try.pinned (OpenSpec.ofChange clipEdgesWrong)

/-- 'frustumlaw31.ClipPolygons': WHATEVER THE INPUT: true; the input reads as it did. -/
def clipPolygonsSpec : ChangeSpec := { name := "clipPolygons", fn := fun _ => fun
  | [d1, d2] => { results := [.lit (.bool true)], args := [d1, d2] }
  | _ => none }
def clipPolygonsRow : OpenClaim := { program := "ytljndeeahnpnjaa", sum := "a4dd08c5e612e35c0abbc7391ab43b0849a0ef8c3db81adc6d3f3f567161ab42", func := "frustum/frustumlaw31.ClipPolygons", spec := "clipPolygons", unfollowed := true, recurses := true, apart := false }
def ClipPolygonsSaid : Prop := clipPolygonsRow.holds Try.pinned (OpenSpec.ofChange clipPolygonsSpec)

/-- ITS FALSE NEIGHBOUR: 'it returns false'. Refute it at one input. -/
def clipPolygonsWrong : ChangeSpec := { name := "clipPolygons", fn := fun _ => fun
  | [d1, d2] => { results := [.lit (.bool false)], args := [d1, d2] }
  | _ => none }
def ClipPolygonsWrongFalsely : Prop := clipPolygonsRow.holds Try.pinned (OpenSpec.ofChange clipPolygonsWrong)

/-- 'frustumlaw31.ClipInsideUnchanged': WHATEVER THE INPUT: true; the input reads as it did. -/
def clipInsideUnchangedSpec : ChangeSpec := { name := "clipInsideUnchanged", fn := fun _ => fun
  | [d] => { results := [.lit (.bool true)], args := [d] }
  | _ => none }
def clipInsideUnchangedRow : OpenClaim := { program := "ytljndeeahnpnjaa", sum := "a4dd08c5e612e35c0abbc7391ab43b0849a0ef8c3db81adc6d3f3f567161ab42", func := "frustum/frustumlaw31.ClipInsideUnchanged", spec := "clipInsideUnchanged", unfollowed := true, recurses := true, apart := false }
def ClipInsideUnchangedSaid : Prop := clipInsideUnchangedRow.holds Try.pinned (OpenSpec.ofChange clipInsideUnchangedSpec)

/-- ITS FALSE NEIGHBOUR: 'it returns false'. Refute it at one input. -/
def clipInsideUnchangedWrong : ChangeSpec := { name := "clipInsideUnchanged", fn := fun _ => fun
  | [d] => { results := [.lit (.bool false)], args := [d] }
  | _ => none }
def ClipInsideUnchangedWrongFalsely : Prop := clipInsideUnchangedRow.holds Try.pinned (OpenSpec.ofChange clipInsideUnchangedWrong)

/-- 'frustumlaw31.ClipCounts': WHATEVER THE INPUT: true; the input reads as it did. -/
def clipCountsSpec : ChangeSpec := { name := "clipCounts", fn := fun _ => fun
  | [d1, d2] => { results := [.lit (.bool true)], args := [d1, d2] }
  | _ => none }
def clipCountsRow : OpenClaim := { program := "ytljndeeahnpnjaa", sum := "a4dd08c5e612e35c0abbc7391ab43b0849a0ef8c3db81adc6d3f3f567161ab42", func := "frustum/frustumlaw31.ClipCounts", spec := "clipCounts", unfollowed := true, recurses := true, apart := false }
def ClipCountsSaid : Prop := clipCountsRow.holds Try.pinned (OpenSpec.ofChange clipCountsSpec)

/-- ITS FALSE NEIGHBOUR: 'it returns false'. Refute it at one input. -/
def clipCountsWrong : ChangeSpec := { name := "clipCounts", fn := fun _ => fun
  | [d1, d2] => { results := [.lit (.bool false)], args := [d1, d2] }
  | _ => none }
def ClipCountsWrongFalsely : Prop := clipCountsRow.holds Try.pinned (OpenSpec.ofChange clipCountsWrong)

/- THE SECOND FORM. 'bulk': how many values and letters a reading holds, each counted each time it is reached (what is shared counts as often as it is met; a slice's spare places count too). A statement '..UptoSaid' is the law's where the arguments, and the package variables that the reading takes, are together of bulk at most 1048576: NARROWER than '..Said'. Prove '..Said' where nothing that the law and all that it calls make is longer than what came in: it says more and counts as full. Else prove '..UptoSaid'. A law counts once. -/
mutual
def uptoBulk {H : Type} : DataW H → Nat
  | .lit (.string bytes) => bytes.length + 1
  | .lit _ => 1
  | .nil => 1
  | .ptr d => uptoBulk d + 1
  | .slice elems spare => uptoBulkAll elems + uptoBulkAll spare + 1
  | .agg parts => uptoBulkAll parts + 1
  | .iface _ d => uptoBulk d + 1
  | .map entries => uptoBulkEntries entries + 1
  | .held _ => 1
def uptoBulkAll {H : Type} : List (DataW H) → Nat
  | [] => 0
  | d :: r => uptoBulk d + uptoBulkAll r
def uptoBulkEntries {H : Type} : List (Lit × DataW H) → Nat
  | [] => 0
  | x :: r => uptoBulkEntry x + uptoBulkEntries r
def uptoBulkEntry {H : Type} : Lit × DataW H → Nat
  | (.string bytes, d) => bytes.length + uptoBulk d + 1
  | (_, d) => uptoBulk d + 1
 end
def uptoSmall : (H : Type) → List (DataW H) → Bool := fun _ ds => decide (uptoBulkAll ds ≤ 1048576)
def OpenSpec.upto (s : _root_.Go.ChangeSpec) : _root_.Go.OpenSpec := { _root_.Go.OpenSpec.ofChange s with cond := some uptoSmall }

/-- 'frustumlaw31.ClipShared', WHERE WHAT IT READS IS OF BULK AT MOST 1048576: true; the input reads as it did. -/
def clipSharedUptoRow : OpenClaim := { program := "ytljndeeahnpnjaa", sum := "a4dd08c5e612e35c0abbc7391ab43b0849a0ef8c3db81adc6d3f3f567161ab42", func := "frustum/frustumlaw31.ClipShared", spec := "clipShared", unfollowed := true, recurses := true, apart := false, narrowed := true }
def ClipSharedUptoSaid : Prop := clipSharedUptoRow.holds Try.pinned (OpenSpec.upto clipSharedSpec)

/-- 'frustumlaw31.ClipTriangles', WHERE WHAT IT READS IS OF BULK AT MOST 1048576: true; the input reads as it did. -/
def clipTrianglesUptoRow : OpenClaim := { program := "ytljndeeahnpnjaa", sum := "a4dd08c5e612e35c0abbc7391ab43b0849a0ef8c3db81adc6d3f3f567161ab42", func := "frustum/frustumlaw31.ClipTriangles", spec := "clipTriangles", unfollowed := true, recurses := true, apart := false, narrowed := true }
def ClipTrianglesUptoSaid : Prop := clipTrianglesUptoRow.holds Try.pinned (OpenSpec.upto clipTrianglesSpec)

/-- 'frustumlaw31.ClipEdges', WHERE WHAT IT READS IS OF BULK AT MOST 1048576: true; the input reads as it did. -/
def clipEdgesUptoRow : OpenClaim := { program := "ytljndeeahnpnjaa", sum := "a4dd08c5e612e35c0abbc7391ab43b0849a0ef8c3db81adc6d3f3f567161ab42", func := "frustum/frustumlaw31.ClipEdges", spec := "clipEdges", unfollowed := true, recurses := true, apart := false, narrowed := true }
def ClipEdgesUptoSaid : Prop := clipEdgesUptoRow.holds Try.pinned (OpenSpec.upto clipEdgesSpec)

/-- 'frustumlaw31.ClipPolygons', WHERE WHAT IT READS IS OF BULK AT MOST 1048576: true; the input reads as it did. -/
def clipPolygonsUptoRow : OpenClaim := { program := "ytljndeeahnpnjaa", sum := "a4dd08c5e612e35c0abbc7391ab43b0849a0ef8c3db81adc6d3f3f567161ab42", func := "frustum/frustumlaw31.ClipPolygons", spec := "clipPolygons", unfollowed := true, recurses := true, apart := false, narrowed := true }
def ClipPolygonsUptoSaid : Prop := clipPolygonsUptoRow.holds Try.pinned (OpenSpec.upto clipPolygonsSpec)

/-- 'frustumlaw31.ClipInsideUnchanged', WHERE WHAT IT READS IS OF BULK AT MOST 1048576: true; the input reads as it did. -/
def clipInsideUnchangedUptoRow : OpenClaim := { program := "ytljndeeahnpnjaa", sum := "a4dd08c5e612e35c0abbc7391ab43b0849a0ef8c3db81adc6d3f3f567161ab42", func := "frustum/frustumlaw31.ClipInsideUnchanged", spec := "clipInsideUnchanged", unfollowed := true, recurses := true, apart := false, narrowed := true }
def ClipInsideUnchangedUptoSaid : Prop := clipInsideUnchangedUptoRow.holds Try.pinned (OpenSpec.upto clipInsideUnchangedSpec)

/-- 'frustumlaw31.ClipCounts', WHERE WHAT IT READS IS OF BULK AT MOST 1048576: true; the input reads as it did. -/
def clipCountsUptoRow : OpenClaim := { program := "ytljndeeahnpnjaa", sum := "a4dd08c5e612e35c0abbc7391ab43b0849a0ef8c3db81adc6d3f3f567161ab42", func := "frustum/frustumlaw31.ClipCounts", spec := "clipCounts", unfollowed := true, recurses := true, apart := false, narrowed := true }
def ClipCountsUptoSaid : Prop := clipCountsUptoRow.holds Try.pinned (OpenSpec.upto clipCountsSpec)

end Rows
end Go.Proofs.Ytljndeeahnpnjaa
