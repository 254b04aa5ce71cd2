/-
  No cell of these rows narrows 'for every input' (looked for: loops, veiled, ifaces, maps, wideKeys, modest, calm, conditions, laid).
  DERIVED. THE GIVEN ROWS OF THIS SEAT. 6 by the template 'for every input the law returns true; each argument reads behind the call as it read before'; 0 by the template 'total and deterministic' (their statements: YtnhkapbeedfdeaaTotals.lean).
  GIVEN WITH THE SEED: the statements are not yours to turn. If you find one false, say at which input.
  Laid BY PROGRAM, IN A SANDBOX (cutbox-rows.mjs): the forced cells as the released guide's own fill.sh prints them over the translation 744b8805b13670b9… (all of the seat's roots in one cut). By AI agents, Wed Nov 11 2026. No macro, syntax, notation, axiom, sorry.
-/
import Derived.Test.YtnhkapbeedfdeaaChecked
import GoSem.Claim
import GoSem.ClaimJoined
import GoSem.ClaimMapViews
import Derived.JoinedTies
import Derived.KernelRfl
namespace Go.Proofs.Ytnhkapbeedfdeaa
/- THE CELL 'sum', in the pinned program and in every row, IS THE sha256 OF THE DUMP (.gsa) THAT YtnhkapbeedfdeaaProg.lean LOADS. Nothing in Lean hashes anything: it is a label: what it is worth is what the hold of that sum in a sandbox is worth. -/
noncomputable def Try.pinned : Pinned := { name := "ytnhkapbeedfdeaa", sum := "744b8805b13670b9c41b526753695509148a060bce4646048cc53a69e0961b8f", checked := Try.checked }
namespace Rows
def none {H : Type} : Left H := { results := [], args := [] }

/-- 'frustumlaw03.VecDotRounded': WHATEVER THE INPUT: true; the input reads as it did. -/
def vecDotRoundedSpec : ChangeSpec := { name := "vecDotRounded", fn := fun _ => fun
  | [d1, d2] => { results := [.lit (.bool true)], args := [d1, d2] }
  | _ => none }
def vecDotRoundedRow : OpenClaim := { program := "ytnhkapbeedfdeaa", sum := "744b8805b13670b9c41b526753695509148a060bce4646048cc53a69e0961b8f", func := "frustum/frustumlaw03.VecDotRounded", spec := "vecDotRounded", recurses := true, apart := false }
def VecDotRoundedSaid : Prop := vecDotRoundedRow.holds Try.pinned (OpenSpec.ofChange vecDotRoundedSpec)

/-- ITS FALSE NEIGHBOUR: 'it returns false'. Refute it at one input. -/
def vecDotRoundedWrong : ChangeSpec := { name := "vecDotRounded", fn := fun _ => fun
  | [d1, d2] => { results := [.lit (.bool false)], args := [d1, d2] }
  | _ => none }
def VecDotRoundedWrongFalsely : Prop := vecDotRoundedRow.holds Try.pinned (OpenSpec.ofChange vecDotRoundedWrong)

/-- 'frustumlaw03.VecLists': WHATEVER THE INPUT: true; the input reads as it did. -/
def vecListsSpec : ChangeSpec := { name := "vecLists", fn := fun _ => fun
  | [d1, d2, d3] => { results := [.lit (.bool true)], args := [d1, d2, d3] }
  | _ => none }
def vecListsRow : OpenClaim := { program := "ytnhkapbeedfdeaa", sum := "744b8805b13670b9c41b526753695509148a060bce4646048cc53a69e0961b8f", func := "frustum/frustumlaw03.VecLists", spec := "vecLists", recurses := true, apart := false }
def VecListsSaid : Prop := vecListsRow.holds Try.pinned (OpenSpec.ofChange vecListsSpec)

/-- ITS FALSE NEIGHBOUR: 'it returns false'. Refute it at one input. -/
def vecListsWrong : ChangeSpec := { name := "vecLists", fn := fun _ => fun
  | [d1, d2, d3] => { results := [.lit (.bool false)], args := [d1, d2, d3] }
  | _ => none }
def VecListsWrongFalsely : Prop := vecListsRow.holds Try.pinned (OpenSpec.ofChange vecListsWrong)

/-- 'frustumlaw03.VecComponents': WHATEVER THE INPUT: true; the input reads as it did. -/
def vecComponentsSpec : ChangeSpec := { name := "vecComponents", fn := fun _ => fun
  | [d1, d2, d3] => { results := [.lit (.bool true)], args := [d1, d2, d3] }
  | _ => none }
def vecComponentsRow : OpenClaim := { program := "ytnhkapbeedfdeaa", sum := "744b8805b13670b9c41b526753695509148a060bce4646048cc53a69e0961b8f", func := "frustum/frustumlaw03.VecComponents", spec := "vecComponents", recurses := true, apart := false }
def VecComponentsSaid : Prop := vecComponentsRow.holds Try.pinned (OpenSpec.ofChange vecComponentsSpec)

/-- ITS FALSE NEIGHBOUR: 'it returns false'. Refute it at one input. -/
def vecComponentsWrong : ChangeSpec := { name := "vecComponents", fn := fun _ => fun
  | [d1, d2, d3] => { results := [.lit (.bool false)], args := [d1, d2, d3] }
  | _ => none }
def VecComponentsWrongFalsely : Prop := vecComponentsRow.holds Try.pinned (OpenSpec.ofChange vecComponentsWrong)

/-- 'frustumlaw03.VecCommutes': WHATEVER THE INPUT: true; the input reads as it did. -/
def vecCommutesSpec : ChangeSpec := { name := "vecCommutes", fn := fun _ => fun
  | [d1, d2] => { results := [.lit (.bool true)], args := [d1, d2] }
  | _ => none }
def vecCommutesRow : OpenClaim := { program := "ytnhkapbeedfdeaa", sum := "744b8805b13670b9c41b526753695509148a060bce4646048cc53a69e0961b8f", func := "frustum/frustumlaw03.VecCommutes", spec := "vecCommutes", recurses := true, apart := false }
def VecCommutesSaid : Prop := vecCommutesRow.holds Try.pinned (OpenSpec.ofChange vecCommutesSpec)

/-- ITS FALSE NEIGHBOUR: 'it returns false'. Refute it at one input. -/
def vecCommutesWrong : ChangeSpec := { name := "vecCommutes", fn := fun _ => fun
  | [d1, d2] => { results := [.lit (.bool false)], args := [d1, d2] }
  | _ => none }
def VecCommutesWrongFalsely : Prop := vecCommutesRow.holds Try.pinned (OpenSpec.ofChange vecCommutesWrong)

/-- 'frustumlaw03.VecUnit': WHATEVER THE INPUT: true; the input reads as it did. -/
def vecUnitSpec : ChangeSpec := { name := "vecUnit", fn := fun _ => fun
  | [d] => { results := [.lit (.bool true)], args := [d] }
  | _ => none }
def vecUnitRow : OpenClaim := { program := "ytnhkapbeedfdeaa", sum := "744b8805b13670b9c41b526753695509148a060bce4646048cc53a69e0961b8f", func := "frustum/frustumlaw03.VecUnit", spec := "vecUnit", recurses := true, apart := false }
def VecUnitSaid : Prop := vecUnitRow.holds Try.pinned (OpenSpec.ofChange vecUnitSpec)

/-- ITS FALSE NEIGHBOUR: 'it returns false'. Refute it at one input. -/
def vecUnitWrong : ChangeSpec := { name := "vecUnit", fn := fun _ => fun
  | [d] => { results := [.lit (.bool false)], args := [d] }
  | _ => none }
def VecUnitWrongFalsely : Prop := vecUnitRow.holds Try.pinned (OpenSpec.ofChange vecUnitWrong)

/-- 'frustumlaw03.VecArithmetic': WHATEVER THE INPUT: true; the input reads as it did. -/
def vecArithmeticSpec : ChangeSpec := { name := "vecArithmetic", fn := fun _ => fun
  | [d1, d2, d3] => { results := [.lit (.bool true)], args := [d1, d2, d3] }
  | _ => none }
def vecArithmeticRow : OpenClaim := { program := "ytnhkapbeedfdeaa", sum := "744b8805b13670b9c41b526753695509148a060bce4646048cc53a69e0961b8f", func := "frustum/frustumlaw03.VecArithmetic", spec := "vecArithmetic", recurses := true, apart := false }
def VecArithmeticSaid : Prop := vecArithmeticRow.holds Try.pinned (OpenSpec.ofChange vecArithmeticSpec)

/-- ITS FALSE NEIGHBOUR: 'it returns false'. Refute it at one input. -/
def vecArithmeticWrong : ChangeSpec := { name := "vecArithmetic", fn := fun _ => fun
  | [d1, d2, d3] => { results := [.lit (.bool false)], args := [d1, d2, d3] }
  | _ => none }
def VecArithmeticWrongFalsely : Prop := vecArithmeticRow.holds Try.pinned (OpenSpec.ofChange vecArithmeticWrong)

/- THE SECOND FORM. 'bulk': how many values and letters a reading holds, each counted each time it is reached (what is shared counts as often as it is met; a slice's spare places count too). A statement '..UptoSaid' is the law's where the arguments, and the package variables that the reading takes, are together of bulk at most 1048576: NARROWER than '..Said'. Prove '..Said' where nothing that the law and all that it calls make is longer than what came in: it says more and counts as full. Else prove '..UptoSaid'. A law counts once. -/
mutual
def uptoBulk {H : Type} : DataW H → Nat
  | .lit (.string bytes) => bytes.length + 1
  | .lit _ => 1
  | .nil => 1
  | .ptr d => uptoBulk d + 1
  | .slice elems spare => uptoBulkAll elems + uptoBulkAll spare + 1
  | .agg parts => uptoBulkAll parts + 1
  | .iface _ d => uptoBulk d + 1
  | .map entries => uptoBulkEntries entries + 1
  | .held _ => 1
def uptoBulkAll {H : Type} : List (DataW H) → Nat
  | [] => 0
  | d :: r => uptoBulk d + uptoBulkAll r
def uptoBulkEntries {H : Type} : List (Lit × DataW H) → Nat
  | [] => 0
  | x :: r => uptoBulkEntry x + uptoBulkEntries r
def uptoBulkEntry {H : Type} : Lit × DataW H → Nat
  | (.string bytes, d) => bytes.length + uptoBulk d + 1
  | (_, d) => uptoBulk d + 1
 end
def uptoSmall : (H : Type) → List (DataW H) → Bool := fun _ ds => decide (uptoBulkAll ds ≤ 1048576)
def OpenSpec.upto (s : _root_.Go.ChangeSpec) : _root_.Go.OpenSpec := { _root_.Go.OpenSpec.ofChange s with cond := some uptoSmall }

/-- 'frustumlaw03.VecDotRounded', WHERE WHAT IT READS IS OF BULK AT MOST 1048576: true; the input reads as it did. -/
def vecDotRoundedUptoRow : OpenClaim := { program := "ytnhkapbeedfdeaa", sum := "744b8805b13670b9c41b526753695509148a060bce4646048cc53a69e0961b8f", func := "frustum/frustumlaw03.VecDotRounded", spec := "vecDotRounded", recurses := true, apart := false, narrowed := true }
def VecDotRoundedUptoSaid : Prop := vecDotRoundedUptoRow.holds Try.pinned (OpenSpec.upto vecDotRoundedSpec)

/-- 'frustumlaw03.VecLists', WHERE WHAT IT READS IS OF BULK AT MOST 1048576: true; the input reads as it did. -/
def vecListsUptoRow : OpenClaim := { program := "ytnhkapbeedfdeaa", sum := "744b8805b13670b9c41b526753695509148a060bce4646048cc53a69e0961b8f", func := "frustum/frustumlaw03.VecLists", spec := "vecLists", recurses := true, apart := false, narrowed := true }
def VecListsUptoSaid : Prop := vecListsUptoRow.holds Try.pinned (OpenSpec.upto vecListsSpec)

/-- 'frustumlaw03.VecComponents', WHERE WHAT IT READS IS OF BULK AT MOST 1048576: true; the input reads as it did. -/
def vecComponentsUptoRow : OpenClaim := { program := "ytnhkapbeedfdeaa", sum := "744b8805b13670b9c41b526753695509148a060bce4646048cc53a69e0961b8f", func := "frustum/frustumlaw03.VecComponents", spec := "vecComponents", recurses := true, apart := false, narrowed := true }
def VecComponentsUptoSaid : Prop := vecComponentsUptoRow.holds Try.pinned (OpenSpec.upto vecComponentsSpec)

/-- 'frustumlaw03.VecCommutes', WHERE WHAT IT READS IS OF BULK AT MOST 1048576: true; the input reads as it did. -/
def vecCommutesUptoRow : OpenClaim := { program := "ytnhkapbeedfdeaa", sum := "744b8805b13670b9c41b526753695509148a060bce4646048cc53a69e0961b8f", func := "frustum/frustumlaw03.VecCommutes", spec := "vecCommutes", recurses := true, apart := false, narrowed := true }
def VecCommutesUptoSaid : Prop := vecCommutesUptoRow.holds Try.pinned (OpenSpec.upto vecCommutesSpec)

/-- 'frustumlaw03.VecUnit', WHERE WHAT IT READS IS OF BULK AT MOST 1048576: true; the input reads as it did. -/
def vecUnitUptoRow : OpenClaim := { program := "ytnhkapbeedfdeaa", sum := "744b8805b13670b9c41b526753695509148a060bce4646048cc53a69e0961b8f", func := "frustum/frustumlaw03.VecUnit", spec := "vecUnit", recurses := true, apart := false, narrowed := true }
def VecUnitUptoSaid : Prop := vecUnitUptoRow.holds Try.pinned (OpenSpec.upto vecUnitSpec)

/-- 'frustumlaw03.VecArithmetic', WHERE WHAT IT READS IS OF BULK AT MOST 1048576: true; the input reads as it did. -/
def vecArithmeticUptoRow : OpenClaim := { program := "ytnhkapbeedfdeaa", sum := "744b8805b13670b9c41b526753695509148a060bce4646048cc53a69e0961b8f", func := "frustum/frustumlaw03.VecArithmetic", spec := "vecArithmetic", recurses := true, apart := false, narrowed := true }
def VecArithmeticUptoSaid : Prop := vecArithmeticUptoRow.holds Try.pinned (OpenSpec.upto vecArithmeticSpec)

end Rows
end Go.Proofs.Ytnhkapbeedfdeaa
