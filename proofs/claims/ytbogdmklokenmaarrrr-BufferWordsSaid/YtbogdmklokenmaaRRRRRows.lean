/-
  No cell of these rows narrows 'for every input' (looked for: loops, veiled, ifaces, maps, wideKeys, modest, calm, conditions, laid).
  DERIVED. THE GIVEN ROWS OF THIS SEAT. 3 by the template 'for every input the law returns true; each argument reads behind the call as it read before'; 0 by the template 'total and deterministic' (their statements: YtbogdmklokenmaaRRRRTotals.lean).
  GIVEN WITH THE SEED: the statements are not yours to turn. If you find one false, say at which input.
  Laid BY PROGRAM, IN A SANDBOX (cutbox-rows.mjs): the forced cells as the released guide's own fill.sh prints them over the translation b74e9e4dcffbc9b2… (all of the seat's roots in one cut). By AI agents, Wed Nov 11 2026. No macro, syntax, notation, axiom, sorry.
-/
import Derived.Test.YtbogdmklokenmaaRRRRChecked
import GoSem.Claim
import GoSem.ClaimJoined
import GoSem.ClaimMapViews
import Derived.JoinedTies
import Derived.KernelRfl
namespace Go.Proofs.YtbogdmklokenmaaRRRR
/- THE CELL 'sum', in the pinned program and in every row, IS THE sha256 OF THE DUMP (.gsa) THAT YtbogdmklokenmaaRRRRProg.lean LOADS. Nothing in Lean hashes anything: it is a label: what it is worth is what the hold of that sum in a sandbox is worth. -/
noncomputable def Try.pinned : Pinned := { name := "ytbogdmklokenmaarrrr", sum := "b74e9e4dcffbc9b262156f5fac3e465baf38fb69ddf4c1e9944e4cdb5a54a5a5", checked := Try.checked }
namespace Rows
def none {H : Type} : Left H := { results := [], args := [] }

/-- 'frustumlaw14.BufferInts': WHATEVER THE INPUT: true; the input reads as it did. -/
def bufferIntsSpec : ChangeSpec := { name := "bufferInts", fn := fun _ => fun
  | [d1, d2, d3] => { results := [.lit (.bool true)], args := [d1, d2, d3] }
  | _ => none }
def bufferIntsRow : OpenClaim := { program := "ytbogdmklokenmaarrrr", sum := "b74e9e4dcffbc9b262156f5fac3e465baf38fb69ddf4c1e9944e4cdb5a54a5a5", func := "frustum/frustumlaw14.BufferInts", spec := "bufferInts", apart := false }
def BufferIntsSaid : Prop := bufferIntsRow.holds Try.pinned (OpenSpec.ofChange bufferIntsSpec)

/-- ITS FALSE NEIGHBOUR: 'it returns false'. Refute it at one input. -/
def bufferIntsWrong : ChangeSpec := { name := "bufferInts", fn := fun _ => fun
  | [d1, d2, d3] => { results := [.lit (.bool false)], args := [d1, d2, d3] }
  | _ => none }
def BufferIntsWrongFalsely : Prop := bufferIntsRow.holds Try.pinned (OpenSpec.ofChange bufferIntsWrong)

/-- 'frustumlaw14.BufferWords': WHATEVER THE INPUT: true; the input reads as it did. -/
def bufferWordsSpec : ChangeSpec := { name := "bufferWords", fn := fun _ => fun
  | [d1, d2, d3] => { results := [.lit (.bool true)], args := [d1, d2, d3] }
  | _ => none }
def bufferWordsRow : OpenClaim := { program := "ytbogdmklokenmaarrrr", sum := "b74e9e4dcffbc9b262156f5fac3e465baf38fb69ddf4c1e9944e4cdb5a54a5a5", func := "frustum/frustumlaw14.BufferWords", spec := "bufferWords", apart := false }
def BufferWordsSaid : Prop := bufferWordsRow.holds Try.pinned (OpenSpec.ofChange bufferWordsSpec)

/-- ITS FALSE NEIGHBOUR: 'it returns false'. Refute it at one input. -/
def bufferWordsWrong : ChangeSpec := { name := "bufferWords", fn := fun _ => fun
  | [d1, d2, d3] => { results := [.lit (.bool false)], args := [d1, d2, d3] }
  | _ => none }
def BufferWordsWrongFalsely : Prop := bufferWordsRow.holds Try.pinned (OpenSpec.ofChange bufferWordsWrong)

/-- 'frustumlaw14.BufferFormats': WHATEVER THE INPUT: true; the input reads as it did. -/
def bufferFormatsSpec : ChangeSpec := { name := "bufferFormats", fn := fun _ => fun
  | [d] => { results := [.lit (.bool true)], args := [d] }
  | _ => none }
def bufferFormatsRow : OpenClaim := { program := "ytbogdmklokenmaarrrr", sum := "b74e9e4dcffbc9b262156f5fac3e465baf38fb69ddf4c1e9944e4cdb5a54a5a5", func := "frustum/frustumlaw14.BufferFormats", spec := "bufferFormats", apart := false }
def BufferFormatsSaid : Prop := bufferFormatsRow.holds Try.pinned (OpenSpec.ofChange bufferFormatsSpec)

/-- ITS FALSE NEIGHBOUR: 'it returns false'. Refute it at one input. -/
def bufferFormatsWrong : ChangeSpec := { name := "bufferFormats", fn := fun _ => fun
  | [d] => { results := [.lit (.bool false)], args := [d] }
  | _ => none }
def BufferFormatsWrongFalsely : Prop := bufferFormatsRow.holds Try.pinned (OpenSpec.ofChange bufferFormatsWrong)

/- THE SECOND FORM. 'bulk': how many values and letters a reading holds, each counted each time it is reached (what is shared counts as often as it is met; a slice's spare places count too). A statement '..UptoSaid' is the law's where the arguments, and the package variables that the reading takes, are together of bulk at most 1048576: NARROWER than '..Said'. Prove '..Said' where nothing that the law and all that it calls make is longer than what came in: it says more and counts as full. Else prove '..UptoSaid'. A law counts once. -/
mutual
def uptoBulk {H : Type} : DataW H → Nat
  | .lit (.string bytes) => bytes.length + 1
  | .lit _ => 1
  | .nil => 1
  | .ptr d => uptoBulk d + 1
  | .slice elems spare => uptoBulkAll elems + uptoBulkAll spare + 1
  | .agg parts => uptoBulkAll parts + 1
  | .iface _ d => uptoBulk d + 1
  | .map entries => uptoBulkEntries entries + 1
  | .held _ => 1
def uptoBulkAll {H : Type} : List (DataW H) → Nat
  | [] => 0
  | d :: r => uptoBulk d + uptoBulkAll r
def uptoBulkEntries {H : Type} : List (Lit × DataW H) → Nat
  | [] => 0
  | x :: r => uptoBulkEntry x + uptoBulkEntries r
def uptoBulkEntry {H : Type} : Lit × DataW H → Nat
  | (.string bytes, d) => bytes.length + uptoBulk d + 1
  | (_, d) => uptoBulk d + 1
 end
def uptoSmall : (H : Type) → List (DataW H) → Bool := fun _ ds => decide (uptoBulkAll ds ≤ 1048576)
def OpenSpec.upto (s : _root_.Go.ChangeSpec) : _root_.Go.OpenSpec := { _root_.Go.OpenSpec.ofChange s with cond := some uptoSmall }

/-- 'frustumlaw14.BufferInts', WHERE WHAT IT READS IS OF BULK AT MOST 1048576: true; the input reads as it did. -/
def bufferIntsUptoRow : OpenClaim := { program := "ytbogdmklokenmaarrrr", sum := "b74e9e4dcffbc9b262156f5fac3e465baf38fb69ddf4c1e9944e4cdb5a54a5a5", func := "frustum/frustumlaw14.BufferInts", spec := "bufferInts", apart := false, narrowed := true }
def BufferIntsUptoSaid : Prop := bufferIntsUptoRow.holds Try.pinned (OpenSpec.upto bufferIntsSpec)

/-- 'frustumlaw14.BufferWords', WHERE WHAT IT READS IS OF BULK AT MOST 1048576: true; the input reads as it did. -/
def bufferWordsUptoRow : OpenClaim := { program := "ytbogdmklokenmaarrrr", sum := "b74e9e4dcffbc9b262156f5fac3e465baf38fb69ddf4c1e9944e4cdb5a54a5a5", func := "frustum/frustumlaw14.BufferWords", spec := "bufferWords", apart := false, narrowed := true }
def BufferWordsUptoSaid : Prop := bufferWordsUptoRow.holds Try.pinned (OpenSpec.upto bufferWordsSpec)

/-- 'frustumlaw14.BufferFormats', WHERE WHAT IT READS IS OF BULK AT MOST 1048576: true; the input reads as it did. -/
def bufferFormatsUptoRow : OpenClaim := { program := "ytbogdmklokenmaarrrr", sum := "b74e9e4dcffbc9b262156f5fac3e465baf38fb69ddf4c1e9944e4cdb5a54a5a5", func := "frustum/frustumlaw14.BufferFormats", spec := "bufferFormats", apart := false, narrowed := true }
def BufferFormatsUptoSaid : Prop := bufferFormatsUptoRow.holds Try.pinned (OpenSpec.upto bufferFormatsSpec)

end Rows
end Go.Proofs.YtbogdmklokenmaaRRRR
