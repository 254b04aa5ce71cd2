/- Written by a program of this session for this claim: Lean functions that tell what Go functions of the program return, each with a proof of that over the program's text; no condition beyond those that each theorem states. -/
import Derived.Test.YtbogdmklokenmaaRRRRProg
import Derived.Below
import Derived.Deep.Draws
import Derived.Deep.AppendLies
import Derived.Maps.AppendAt
import Derived.OwnWalk
import Derived.Laws.BytesArg
import Derived.Laws.MakeOwn
import Derived.Laws.OwnMore
import Derived.Deep.OwnRows
import Derived.Tactics
import Derived.Lib.ConvBytes
import Derived.Laws.Slices
import Derived.WalkKit
import Derived.KernelRfl
import Derived.RowKit3
import Derived.Deep.LoopGhost
import Derived.Deep.QuietTactic
import Derived.BigQuiet
import Derived.WideLaws
import Derived.Deep.DeepCutAuto
import Derived.Deep.CutBlock
import Derived.Deep.RegionHeld3
import Derived.Laws.Rows
import Derived.Lib.AppendStr
import Derived.ArgAppend
import Derived.Laws.IdiomCopy
import Derived.OrdersHeld
import Derived.Laws.BitsLemmas
import Derived.RowKit
import Derived.Test.YtbogdmklokenmaaRRRRWWords
import Derived.Test.YtbogdmklokenmaaRRRRWLast
import Derived.Test.YtbogdmklokenmaaRRRRWTab
import Derived.Test.YtbogdmklokenmaaRRRRWFour
import Derived.Test.YtbogdmklokenmaaRRRRWQPut
import Derived.Test.YtbogdmklokenmaaRRRRWApart
import Derived.Test.YtbogdmklokenmaaRRRRWArr
import Derived.Test.YtbogdmklokenmaaRRRRWZeros
import Derived.Test.YtbogdmklokenmaaRRRRWFoot
import Derived.Test.YtbogdmklokenmaaRRRRWKept
import Derived.Test.YtbogdmklokenmaaRRRRWShare
import Derived.Test.YtbogdmklokenmaaRRRRWN
import Derived.Test.YtbogdmklokenmaaRRRRWFootNe
import Derived.Test.YtbogdmklokenmaaRRRRWAt
import Derived.Test.YtbogdmklokenmaaRRRRWEqStruct
import Derived.Test.YtbogdmklokenmaaRRRRWRepsOne
import Derived.Test.YtbogdmklokenmaaRRRRWInv
import Derived.Test.YtbogdmklokenmaaRRRRWInvWords
import Derived.Test.YtbogdmklokenmaaRRRRWGuard
import Derived.Test.YtbogdmklokenmaaRRRRWNEv
import Derived.Test.YtbogdmklokenmaaRRRRWMore
namespace Go.Proofs.YtbogdmklokenmaaRRRR.PBufferWords
open Go.RowKit Go.Proofs.YtbogdmklokenmaaRRRRW.PrintWords Go.Proofs.YtbogdmklokenmaaRRRRW.PrintLast Go.Proofs.YtbogdmklokenmaaRRRRW.PrintMore
attribute [local go_sem] max2_int min2_int max_two min_two max_three min_three max_four min_four   -- for this text's walks alone
set_option linter.unusedVariables false
set_option linter.unusedSimpArgs false



def errW : Option Int → Value
  | none => .nilIface
  | some c => .iface 0 (.int .i64 c)
theorem errW_none : errW none = .nilIface := rfl
theorem errW_some (c : Int) : errW (some c) = .iface 0 (.int .i64 c) := rfl

theorem info5 : (Try.prog.info? 5).map (fun i => (i.zero, i.size, i.bytes)) = some (some (.int .u8 0), 1, 1) := by kernel_rfl
-- the values' own types

end Go.Proofs.YtbogdmklokenmaaRRRR.PBufferWords
