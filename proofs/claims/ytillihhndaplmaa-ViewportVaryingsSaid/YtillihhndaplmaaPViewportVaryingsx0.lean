/- Written by a program of this session for this claim: Lean functions that tell what Go functions of the program return, each with a proof of that over the program's text; no condition beyond those that each theorem states. -/
import Derived.Test.YtillihhndaplmaaProg
import Derived.Below
import Derived.Deep.Draws
import Derived.Deep.AppendLies
import Derived.Maps.AppendAt
import Derived.OwnWalk
import Derived.Laws.BytesArg
import Derived.Laws.MakeOwn
import Derived.Laws.OwnMore
import Derived.Deep.OwnRows
import Derived.Tactics
import Derived.Lib.ConvBytes
import Derived.Laws.Slices
import Derived.WalkKit
import Derived.KernelRfl
import Derived.RowKit3
import Derived.Deep.LoopGhost
import Derived.Deep.QuietTactic
import Derived.BigQuiet
import Derived.WideLaws
import Derived.Deep.DeepCutAuto
import Derived.Deep.CutBlock
import Derived.Deep.RegionHeld3
import Derived.Laws.Rows
import Derived.Lib.AppendStr
import Derived.ArgAppend
import Derived.Laws.IdiomCopy
import Derived.OrdersHeld
import Derived.Laws.BitsLemmas
import Derived.RowKit
import Derived.Test.YtillihhndaplmaaWWords
import Derived.Test.YtillihhndaplmaaWLast
import Derived.Test.YtillihhndaplmaaWTab
import Derived.Test.YtillihhndaplmaaWFour
import Derived.Test.YtillihhndaplmaaWQPut
import Derived.Test.YtillihhndaplmaaWApart
import Derived.Test.YtillihhndaplmaaWArr
import Derived.Test.YtillihhndaplmaaWZeros
import Derived.Test.YtillihhndaplmaaWFoot
import Derived.Test.YtillihhndaplmaaWKept
import Derived.Test.YtillihhndaplmaaWShare
import Derived.Test.YtillihhndaplmaaWN
import Derived.Test.YtillihhndaplmaaWFootNe
import Derived.Test.YtillihhndaplmaaWAt
import Derived.Test.YtillihhndaplmaaWEqStruct
import Derived.Test.YtillihhndaplmaaWRepsOne
import Derived.Test.YtillihhndaplmaaWInv
import Derived.Test.YtillihhndaplmaaWInvWords
import Derived.Test.YtillihhndaplmaaWGuard
import Derived.Test.YtillihhndaplmaaWNEv
import Derived.Test.YtillihhndaplmaaWMore
namespace Go.Proofs.Ytillihhndaplmaa.PViewportVaryings
open Go.RowKit Go.Proofs.YtillihhndaplmaaW.PrintWords Go.Proofs.YtillihhndaplmaaW.PrintLast Go.Proofs.YtillihhndaplmaaW.PrintMore
attribute [local go_sem] max2_int min2_int max_two min_two max_three min_three max_four min_four   -- for this text's walks alone
set_option linter.unusedVariables false
set_option linter.unusedSimpArgs false



def errW : Option Int → Value
  | none => .nilIface
  | some c => .iface 0 (.int .i64 c)
theorem errW_none : errW none = .nilIface := rfl
theorem errW_some (c : Int) : errW (some c) = .iface 0 (.int .i64 c) := rfl

theorem info3 : (Try.prog.info? 3).map (fun i => (i.zero, i.size, i.bytes)) = some (some (.int .i64 0), 1, 8) := by kernel_rfl
-- the values' own types

end Go.Proofs.Ytillihhndaplmaa.PViewportVaryings
