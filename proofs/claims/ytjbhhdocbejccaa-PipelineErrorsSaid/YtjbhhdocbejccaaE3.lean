/- Chapter 43: PipelineErrors, at its arguments. No condition beyond those that each theorem states. -/
import Derived.Test.YtjbhhdocbejccaaE2
namespace Go.Proofs.Ytjbhhdocbejccaa.Pl
open Go Go.RowKit Go.Proofs.Ytjbhhdocbejccaa.Am
theorem PipelineErrors_at (p : Pl) (c : Int) : PipelineErrors.S [.agg p.cs, .c (.int .u8 c)] = some (rBool true) := cSpec_eq encEr_inj (p, c)
end Go.Proofs.Ytjbhhdocbejccaa.Pl
