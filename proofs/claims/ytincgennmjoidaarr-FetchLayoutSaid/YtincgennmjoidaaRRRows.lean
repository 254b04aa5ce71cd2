/-
  No cell of these rows narrows 'for every input' (looked for: loops, veiled, ifaces, maps, wideKeys, modest, calm, conditions, laid).
  DERIVED. THE GIVEN ROWS OF THIS SEAT. 4 by the template 'for every input the law returns true; each argument reads behind the call as it read before'; 0 by the template 'total and deterministic' (their statements: YtincgennmjoidaaRRTotals.lean).
  GIVEN WITH THE SEED: the statements are not yours to turn. If you find one false, say at which input.
  Laid BY PROGRAM, IN A SANDBOX (cutbox-rows.mjs): the forced cells as the released guide's own fill.sh prints them over the translation 99c2c4d80e5da8f4… (all of the seat's roots in one cut). By AI agents, Wed Nov 11 2026. No macro, syntax, notation, axiom, sorry.
-/
import Derived.Test.YtincgennmjoidaaRRChecked
import GoSem.Claim
import GoSem.ClaimJoined
import GoSem.ClaimMapViews
import Derived.JoinedTies
import Derived.KernelRfl
namespace Go.Proofs.YtincgennmjoidaaRR
/- THE CELL 'sum', in the pinned program and in every row, IS THE sha256 OF THE DUMP (.gsa) THAT YtincgennmjoidaaRRProg.lean LOADS. Nothing in Lean hashes anything: it is a label: what it is worth is what the hold of that sum in a sandbox is worth. -/
noncomputable def Try.pinned : Pinned := { name := "ytincgennmjoidaarr", sum := "99c2c4d80e5da8f4921cdb0367247ed1a239b18eafc18a86ce971d6f30884c34", checked := Try.checked }
namespace Rows
def none {H : Type} : Left H := { results := [], args := [] }

/-- 'frustumlaw15.FetchUnique': WHATEVER THE INPUT: true; the input reads as it did. -/
def fetchUniqueSpec : ChangeSpec := { name := "fetchUnique", fn := fun _ => fun
  | [d] => { results := [.lit (.bool true)], args := [d] }
  | _ => none }
def fetchUniqueRow : OpenClaim := { program := "ytincgennmjoidaarr", sum := "99c2c4d80e5da8f4921cdb0367247ed1a239b18eafc18a86ce971d6f30884c34", func := "frustum/frustumlaw15.FetchUnique", spec := "fetchUnique", apart := false }
def FetchUniqueSaid : Prop := fetchUniqueRow.holds Try.pinned (OpenSpec.ofChange fetchUniqueSpec)

/-- ITS FALSE NEIGHBOUR: 'it returns false'. Refute it at one input. -/
def fetchUniqueWrong : ChangeSpec := { name := "fetchUnique", fn := fun _ => fun
  | [d] => { results := [.lit (.bool false)], args := [d] }
  | _ => none }
def FetchUniqueWrongFalsely : Prop := fetchUniqueRow.holds Try.pinned (OpenSpec.ofChange fetchUniqueWrong)

/-- 'frustumlaw15.FetchPositions': WHATEVER THE INPUT: true; the input reads as it did. -/
def fetchPositionsSpec : ChangeSpec := { name := "fetchPositions", fn := fun _ => fun
  | [d] => { results := [.lit (.bool true)], args := [d] }
  | _ => none }
def fetchPositionsRow : OpenClaim := { program := "ytincgennmjoidaarr", sum := "99c2c4d80e5da8f4921cdb0367247ed1a239b18eafc18a86ce971d6f30884c34", func := "frustum/frustumlaw15.FetchPositions", spec := "fetchPositions", apart := false }
def FetchPositionsSaid : Prop := fetchPositionsRow.holds Try.pinned (OpenSpec.ofChange fetchPositionsSpec)

/-- ITS FALSE NEIGHBOUR: 'it returns false'. Refute it at one input. -/
def fetchPositionsWrong : ChangeSpec := { name := "fetchPositions", fn := fun _ => fun
  | [d] => { results := [.lit (.bool false)], args := [d] }
  | _ => none }
def FetchPositionsWrongFalsely : Prop := fetchPositionsRow.holds Try.pinned (OpenSpec.ofChange fetchPositionsWrong)

/-- 'frustumlaw15.FetchIndices': WHATEVER THE INPUT: true; the input reads as it did. -/
def fetchIndicesSpec : ChangeSpec := { name := "fetchIndices", fn := fun _ => fun
  | [d] => { results := [.lit (.bool true)], args := [d] }
  | _ => none }
def fetchIndicesRow : OpenClaim := { program := "ytincgennmjoidaarr", sum := "99c2c4d80e5da8f4921cdb0367247ed1a239b18eafc18a86ce971d6f30884c34", func := "frustum/frustumlaw15.FetchIndices", spec := "fetchIndices", apart := false }
def FetchIndicesSaid : Prop := fetchIndicesRow.holds Try.pinned (OpenSpec.ofChange fetchIndicesSpec)

/-- ITS FALSE NEIGHBOUR: 'it returns false'. Refute it at one input. -/
def fetchIndicesWrong : ChangeSpec := { name := "fetchIndices", fn := fun _ => fun
  | [d] => { results := [.lit (.bool false)], args := [d] }
  | _ => none }
def FetchIndicesWrongFalsely : Prop := fetchIndicesRow.holds Try.pinned (OpenSpec.ofChange fetchIndicesWrong)

/-- 'frustumlaw15.FetchLayout': WHATEVER THE INPUT: true; the input reads as it did. -/
def fetchLayoutSpec : ChangeSpec := { name := "fetchLayout", fn := fun _ => fun
  | [d1, d2] => { results := [.lit (.bool true)], args := [d1, d2] }
  | _ => none }
def fetchLayoutRow : OpenClaim := { program := "ytincgennmjoidaarr", sum := "99c2c4d80e5da8f4921cdb0367247ed1a239b18eafc18a86ce971d6f30884c34", func := "frustum/frustumlaw15.FetchLayout", spec := "fetchLayout", apart := false }
def FetchLayoutSaid : Prop := fetchLayoutRow.holds Try.pinned (OpenSpec.ofChange fetchLayoutSpec)

/-- ITS FALSE NEIGHBOUR: 'it returns false'. Refute it at one input. -/
def fetchLayoutWrong : ChangeSpec := { name := "fetchLayout", fn := fun _ => fun
  | [d1, d2] => { results := [.lit (.bool false)], args := [d1, d2] }
  | _ => none }
def FetchLayoutWrongFalsely : Prop := fetchLayoutRow.holds Try.pinned (OpenSpec.ofChange fetchLayoutWrong)

/- THE SECOND FORM. 'bulk': how many values and letters a reading holds, each counted each time it is reached (what is shared counts as often as it is met; a slice's spare places count too). A statement '..UptoSaid' is the law's where the arguments, and the package variables that the reading takes, are together of bulk at most 1048576: NARROWER than '..Said'. Prove '..Said' where nothing that the law and all that it calls make is longer than what came in: it says more and counts as full. Else prove '..UptoSaid'. A law counts once. -/
mutual
def uptoBulk {H : Type} : DataW H → Nat
  | .lit (.string bytes) => bytes.length + 1
  | .lit _ => 1
  | .nil => 1
  | .ptr d => uptoBulk d + 1
  | .slice elems spare => uptoBulkAll elems + uptoBulkAll spare + 1
  | .agg parts => uptoBulkAll parts + 1
  | .iface _ d => uptoBulk d + 1
  | .map entries => uptoBulkEntries entries + 1
  | .held _ => 1
def uptoBulkAll {H : Type} : List (DataW H) → Nat
  | [] => 0
  | d :: r => uptoBulk d + uptoBulkAll r
def uptoBulkEntries {H : Type} : List (Lit × DataW H) → Nat
  | [] => 0
  | x :: r => uptoBulkEntry x + uptoBulkEntries r
def uptoBulkEntry {H : Type} : Lit × DataW H → Nat
  | (.string bytes, d) => bytes.length + uptoBulk d + 1
  | (_, d) => uptoBulk d + 1
 end
def uptoSmall : (H : Type) → List (DataW H) → Bool := fun _ ds => decide (uptoBulkAll ds ≤ 1048576)
def OpenSpec.upto (s : _root_.Go.ChangeSpec) : _root_.Go.OpenSpec := { _root_.Go.OpenSpec.ofChange s with cond := some uptoSmall }

/-- 'frustumlaw15.FetchUnique', WHERE WHAT IT READS IS OF BULK AT MOST 1048576: true; the input reads as it did. -/
def fetchUniqueUptoRow : OpenClaim := { program := "ytincgennmjoidaarr", sum := "99c2c4d80e5da8f4921cdb0367247ed1a239b18eafc18a86ce971d6f30884c34", func := "frustum/frustumlaw15.FetchUnique", spec := "fetchUnique", apart := false, narrowed := true }
def FetchUniqueUptoSaid : Prop := fetchUniqueUptoRow.holds Try.pinned (OpenSpec.upto fetchUniqueSpec)

/-- 'frustumlaw15.FetchPositions', WHERE WHAT IT READS IS OF BULK AT MOST 1048576: true; the input reads as it did. -/
def fetchPositionsUptoRow : OpenClaim := { program := "ytincgennmjoidaarr", sum := "99c2c4d80e5da8f4921cdb0367247ed1a239b18eafc18a86ce971d6f30884c34", func := "frustum/frustumlaw15.FetchPositions", spec := "fetchPositions", apart := false, narrowed := true }
def FetchPositionsUptoSaid : Prop := fetchPositionsUptoRow.holds Try.pinned (OpenSpec.upto fetchPositionsSpec)

/-- 'frustumlaw15.FetchIndices', WHERE WHAT IT READS IS OF BULK AT MOST 1048576: true; the input reads as it did. -/
def fetchIndicesUptoRow : OpenClaim := { program := "ytincgennmjoidaarr", sum := "99c2c4d80e5da8f4921cdb0367247ed1a239b18eafc18a86ce971d6f30884c34", func := "frustum/frustumlaw15.FetchIndices", spec := "fetchIndices", apart := false, narrowed := true }
def FetchIndicesUptoSaid : Prop := fetchIndicesUptoRow.holds Try.pinned (OpenSpec.upto fetchIndicesSpec)

/-- 'frustumlaw15.FetchLayout', WHERE WHAT IT READS IS OF BULK AT MOST 1048576: true; the input reads as it did. -/
def fetchLayoutUptoRow : OpenClaim := { program := "ytincgennmjoidaarr", sum := "99c2c4d80e5da8f4921cdb0367247ed1a239b18eafc18a86ce971d6f30884c34", func := "frustum/frustumlaw15.FetchLayout", spec := "fetchLayout", apart := false, narrowed := true }
def FetchLayoutUptoSaid : Prop := fetchLayoutUptoRow.holds Try.pinned (OpenSpec.upto fetchLayoutSpec)

end Rows
end Go.Proofs.YtincgennmjoidaaRR
