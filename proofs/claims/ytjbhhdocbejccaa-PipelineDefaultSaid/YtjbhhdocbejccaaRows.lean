/-
  No cell of these rows narrows 'for every input' (looked for: loops, veiled, ifaces, maps, wideKeys, modest, calm, conditions, laid).
  DERIVED. THE GIVEN ROWS OF THIS SEAT. 4 by the template 'for every input the law returns true; each argument reads behind the call as it read before'; 0 by the template 'total and deterministic' (their statements: YtjbhhdocbejccaaTotals.lean).
  GIVEN WITH THE SEED: the statements are not yours to turn. If you find one false, say at which input.
  Laid BY PROGRAM, IN A SANDBOX (cutbox-rows.mjs): the forced cells as the released guide's own fill.sh prints them over the translation 72c370e9b33239c1… (all of the seat's roots in one cut). By AI agents, Wed Nov 11 2026. No macro, syntax, notation, axiom, sorry.
-/
import Derived.Test.YtjbhhdocbejccaaChecked
import GoSem.Claim
import GoSem.ClaimJoined
import GoSem.ClaimMapViews
import Derived.JoinedTies
import Derived.KernelRfl
namespace Go.Proofs.Ytjbhhdocbejccaa
/- THE CELL 'sum', in the pinned program and in every row, IS THE sha256 OF THE DUMP (.gsa) THAT YtjbhhdocbejccaaProg.lean LOADS. Nothing in Lean hashes anything: it is a label: what it is worth is what the hold of that sum in a sandbox is worth. -/
noncomputable def Try.pinned : Pinned := { name := "ytjbhhdocbejccaa", sum := "72c370e9b33239c131330ef7c9a7dccb6d651af9f724101987dd6cb3df3d965c", checked := Try.checked }
namespace Rows
def none {H : Type} : Left H := { results := [], args := [] }

/-- 'frustumlaw43.PipelineValid': WHATEVER THE INPUT: true; the input reads as it did. -/
def pipelineValidSpec : ChangeSpec := { name := "pipelineValid", fn := fun _ => fun
  | [d] => { results := [.lit (.bool true)], args := [d] }
  | _ => none }
def pipelineValidRow : OpenClaim := { program := "ytjbhhdocbejccaa", sum := "72c370e9b33239c131330ef7c9a7dccb6d651af9f724101987dd6cb3df3d965c", func := "frustum/frustumlaw43.PipelineValid", spec := "pipelineValid", unfollowed := true, recurses := true, apart := false }
def PipelineValidSaid : Prop := pipelineValidRow.holds Try.pinned (OpenSpec.ofChange pipelineValidSpec)

/-- ITS FALSE NEIGHBOUR: 'it returns false'. Refute it at one input. -/
def pipelineValidWrong : ChangeSpec := { name := "pipelineValid", fn := fun _ => fun
  | [d] => { results := [.lit (.bool false)], args := [d] }
  | _ => none }
def PipelineValidWrongFalsely : Prop := pipelineValidRow.holds Try.pinned (OpenSpec.ofChange pipelineValidWrong)

/-- 'frustumlaw43.PipelineErrors': WHATEVER THE INPUT: true; the input reads as it did. -/
def pipelineErrorsSpec : ChangeSpec := { name := "pipelineErrors", fn := fun _ => fun
  | [d1, d2] => { results := [.lit (.bool true)], args := [d1, d2] }
  | _ => none }
def pipelineErrorsRow : OpenClaim := { program := "ytjbhhdocbejccaa", sum := "72c370e9b33239c131330ef7c9a7dccb6d651af9f724101987dd6cb3df3d965c", func := "frustum/frustumlaw43.PipelineErrors", spec := "pipelineErrors", unfollowed := true, recurses := true, apart := false }
def PipelineErrorsSaid : Prop := pipelineErrorsRow.holds Try.pinned (OpenSpec.ofChange pipelineErrorsSpec)

/-- ITS FALSE NEIGHBOUR: 'it returns false'. Refute it at one input. -/
def pipelineErrorsWrong : ChangeSpec := { name := "pipelineErrors", fn := fun _ => fun
  | [d1, d2] => { results := [.lit (.bool false)], args := [d1, d2] }
  | _ => none }
def PipelineErrorsWrongFalsely : Prop := pipelineErrorsRow.holds Try.pinned (OpenSpec.ofChange pipelineErrorsWrong)

/-- 'frustumlaw43.PipelineDefault': WHATEVER THE INPUT: true; the input reads as it did. -/
def pipelineDefaultSpec : ChangeSpec := { name := "pipelineDefault", fn := fun _ => fun
  | [d] => { results := [.lit (.bool true)], args := [d] }
  | _ => none }
def pipelineDefaultRow : OpenClaim := { program := "ytjbhhdocbejccaa", sum := "72c370e9b33239c131330ef7c9a7dccb6d651af9f724101987dd6cb3df3d965c", func := "frustum/frustumlaw43.PipelineDefault", spec := "pipelineDefault", unfollowed := true, recurses := true, apart := false }
def PipelineDefaultSaid : Prop := pipelineDefaultRow.holds Try.pinned (OpenSpec.ofChange pipelineDefaultSpec)

/-- ITS FALSE NEIGHBOUR: 'it returns false'. Refute it at one input. -/
def pipelineDefaultWrong : ChangeSpec := { name := "pipelineDefault", fn := fun _ => fun
  | [d] => { results := [.lit (.bool false)], args := [d] }
  | _ => none }
def PipelineDefaultWrongFalsely : Prop := pipelineDefaultRow.holds Try.pinned (OpenSpec.ofChange pipelineDefaultWrong)

/-- 'frustumlaw43.PipelineMatches': WHATEVER THE INPUT: true; the input reads as it did. -/
def pipelineMatchesSpec : ChangeSpec := { name := "pipelineMatches", fn := fun _ => fun
  | [d1, d2] => { results := [.lit (.bool true)], args := [d1, d2] }
  | _ => none }
def pipelineMatchesRow : OpenClaim := { program := "ytjbhhdocbejccaa", sum := "72c370e9b33239c131330ef7c9a7dccb6d651af9f724101987dd6cb3df3d965c", func := "frustum/frustumlaw43.PipelineMatches", spec := "pipelineMatches", unfollowed := true, recurses := true, apart := false }
def PipelineMatchesSaid : Prop := pipelineMatchesRow.holds Try.pinned (OpenSpec.ofChange pipelineMatchesSpec)

/-- ITS FALSE NEIGHBOUR: 'it returns false'. Refute it at one input. -/
def pipelineMatchesWrong : ChangeSpec := { name := "pipelineMatches", fn := fun _ => fun
  | [d1, d2] => { results := [.lit (.bool false)], args := [d1, d2] }
  | _ => none }
def PipelineMatchesWrongFalsely : Prop := pipelineMatchesRow.holds Try.pinned (OpenSpec.ofChange pipelineMatchesWrong)

/- THE SECOND FORM. 'bulk': how many values and letters a reading holds, each counted each time it is reached (what is shared counts as often as it is met; a slice's spare places count too). A statement '..UptoSaid' is the law's where the arguments, and the package variables that the reading takes, are together of bulk at most 1048576: NARROWER than '..Said'. Prove '..Said' where nothing that the law and all that it calls make is longer than what came in: it says more and counts as full. Else prove '..UptoSaid'. A law counts once. -/
mutual
def uptoBulk {H : Type} : DataW H → Nat
  | .lit (.string bytes) => bytes.length + 1
  | .lit _ => 1
  | .nil => 1
  | .ptr d => uptoBulk d + 1
  | .slice elems spare => uptoBulkAll elems + uptoBulkAll spare + 1
  | .agg parts => uptoBulkAll parts + 1
  | .iface _ d => uptoBulk d + 1
  | .map entries => uptoBulkEntries entries + 1
  | .held _ => 1
def uptoBulkAll {H : Type} : List (DataW H) → Nat
  | [] => 0
  | d :: r => uptoBulk d + uptoBulkAll r
def uptoBulkEntries {H : Type} : List (Lit × DataW H) → Nat
  | [] => 0
  | x :: r => uptoBulkEntry x + uptoBulkEntries r
def uptoBulkEntry {H : Type} : Lit × DataW H → Nat
  | (.string bytes, d) => bytes.length + uptoBulk d + 1
  | (_, d) => uptoBulk d + 1
 end
def uptoSmall : (H : Type) → List (DataW H) → Bool := fun _ ds => decide (uptoBulkAll ds ≤ 1048576)
def OpenSpec.upto (s : _root_.Go.ChangeSpec) : _root_.Go.OpenSpec := { _root_.Go.OpenSpec.ofChange s with cond := some uptoSmall }

/-- 'frustumlaw43.PipelineValid', WHERE WHAT IT READS IS OF BULK AT MOST 1048576: true; the input reads as it did. -/
def pipelineValidUptoRow : OpenClaim := { program := "ytjbhhdocbejccaa", sum := "72c370e9b33239c131330ef7c9a7dccb6d651af9f724101987dd6cb3df3d965c", func := "frustum/frustumlaw43.PipelineValid", spec := "pipelineValid", unfollowed := true, recurses := true, apart := false, narrowed := true }
def PipelineValidUptoSaid : Prop := pipelineValidUptoRow.holds Try.pinned (OpenSpec.upto pipelineValidSpec)

/-- 'frustumlaw43.PipelineErrors', WHERE WHAT IT READS IS OF BULK AT MOST 1048576: true; the input reads as it did. -/
def pipelineErrorsUptoRow : OpenClaim := { program := "ytjbhhdocbejccaa", sum := "72c370e9b33239c131330ef7c9a7dccb6d651af9f724101987dd6cb3df3d965c", func := "frustum/frustumlaw43.PipelineErrors", spec := "pipelineErrors", unfollowed := true, recurses := true, apart := false, narrowed := true }
def PipelineErrorsUptoSaid : Prop := pipelineErrorsUptoRow.holds Try.pinned (OpenSpec.upto pipelineErrorsSpec)

/-- 'frustumlaw43.PipelineDefault', WHERE WHAT IT READS IS OF BULK AT MOST 1048576: true; the input reads as it did. -/
def pipelineDefaultUptoRow : OpenClaim := { program := "ytjbhhdocbejccaa", sum := "72c370e9b33239c131330ef7c9a7dccb6d651af9f724101987dd6cb3df3d965c", func := "frustum/frustumlaw43.PipelineDefault", spec := "pipelineDefault", unfollowed := true, recurses := true, apart := false, narrowed := true }
def PipelineDefaultUptoSaid : Prop := pipelineDefaultUptoRow.holds Try.pinned (OpenSpec.upto pipelineDefaultSpec)

/-- 'frustumlaw43.PipelineMatches', WHERE WHAT IT READS IS OF BULK AT MOST 1048576: true; the input reads as it did. -/
def pipelineMatchesUptoRow : OpenClaim := { program := "ytjbhhdocbejccaa", sum := "72c370e9b33239c131330ef7c9a7dccb6d651af9f724101987dd6cb3df3d965c", func := "frustum/frustumlaw43.PipelineMatches", spec := "pipelineMatches", unfollowed := true, recurses := true, apart := false, narrowed := true }
def PipelineMatchesUptoSaid : Prop := pipelineMatchesUptoRow.holds Try.pinned (OpenSpec.upto pipelineMatchesSpec)

end Rows
end Go.Proofs.Ytjbhhdocbejccaa
