/- Written by a program of this session for this claim: Lean functions that tell what Go functions of the program return, each with a proof of that over the program's text; no condition beyond those that each theorem states. -/
import Derived.Test.YtnhkapbeedfdeaaProg
import Derived.Below
import Derived.Deep.Draws
import Derived.Deep.AppendLies
import Derived.Maps.AppendAt
import Derived.OwnWalk
import Derived.Laws.BytesArg
import Derived.Laws.MakeOwn
import Derived.Laws.OwnMore
import Derived.Deep.OwnRows
import Derived.Tactics
import Derived.Lib.ConvBytes
import Derived.Laws.Slices
import Derived.WalkKit
import Derived.KernelRfl
import Derived.RowKit3
import Derived.Deep.LoopGhost
import Derived.Deep.QuietTactic
import Derived.BigQuiet
import Derived.WideLaws
import Derived.Deep.DeepCutAuto
import Derived.Deep.CutBlock
import Derived.Deep.RegionHeld3
import Derived.Laws.Rows
import Derived.Lib.AppendStr
import Derived.ArgAppend
import Derived.Laws.IdiomCopy
import Derived.OrdersHeld
import Derived.Laws.BitsLemmas
import Derived.RowKit
import Derived.Test.YtnhkapbeedfdeaaWWords
import Derived.Test.YtnhkapbeedfdeaaWLast
import Derived.Test.YtnhkapbeedfdeaaWTab
import Derived.Test.YtnhkapbeedfdeaaWFour
import Derived.Test.YtnhkapbeedfdeaaWQPut
import Derived.Test.YtnhkapbeedfdeaaWApart
import Derived.Test.YtnhkapbeedfdeaaWArr
import Derived.Test.YtnhkapbeedfdeaaWZeros
import Derived.Test.YtnhkapbeedfdeaaWFoot
import Derived.Test.YtnhkapbeedfdeaaWKept
import Derived.Test.YtnhkapbeedfdeaaWShare
import Derived.Test.YtnhkapbeedfdeaaWN
import Derived.Test.YtnhkapbeedfdeaaWFootNe
import Derived.Test.YtnhkapbeedfdeaaWAt
import Derived.Test.YtnhkapbeedfdeaaWEqStruct
import Derived.Test.YtnhkapbeedfdeaaWRepsOne
import Derived.Test.YtnhkapbeedfdeaaWInv
import Derived.Test.YtnhkapbeedfdeaaWInvWords
import Derived.Test.YtnhkapbeedfdeaaWGuard
import Derived.Test.YtnhkapbeedfdeaaWNEv
import Derived.Test.YtnhkapbeedfdeaaWMore
namespace Go.Proofs.Ytnhkapbeedfdeaa.PVecArithmetic
open Go.RowKit Go.Proofs.YtnhkapbeedfdeaaW.PrintWords Go.Proofs.YtnhkapbeedfdeaaW.PrintLast Go.Proofs.YtnhkapbeedfdeaaW.PrintMore
attribute [local go_sem] max2_int min2_int max_two min_two max_three min_three max_four min_four   -- for this text's walks alone
set_option linter.unusedVariables false
set_option linter.unusedSimpArgs false



def errW : Option Int → Value
  | none => .nilIface
  | some c => .iface 0 (.int .i64 c)
theorem errW_none : errW none = .nilIface := rfl
theorem errW_some (c : Int) : errW (some c) = .iface 0 (.int .i64 c) := rfl

theorem info3 : (Try.prog.info? 3).map (fun i => (i.zero, i.size, i.bytes)) = some (some (.int .i64 0), 1, 8) := by kernel_rfl
-- the values' own types

end Go.Proofs.Ytnhkapbeedfdeaa.PVecArithmetic
