/- The store of a whole array into a block, as one run: a law of the model, no condition beyond those that it states. -/
import Derived.Test.YtmofipnpnepfaaaMat
namespace Go.Proofs.Ytmofipnpnepfaaa.Mat
open Go.RowKit Go.Proofs.YtmofipnpnepfaaaW.PrintWords
set_option linter.unusedVariables false
set_option linter.unusedSimpArgs false
theorem run_store {P : Program} {oi : Oper} {a : Act} {w : World} (ty : TypeId) (x y b : Nat) (cs zs : Array Value) (ho : oi.op = .store ty (.tmp x) (.tmp y))
    (hx : a.eval (.tmp x) = .pointer (some ⟨b, 0, none⟩)) (hy : a.eval (.tmp y) = .agg cs) (hb : w.heap[b]? = some (.cells zs ty (0, 0))) (hs : zs.size = cs.size)
    (hi : (P.info? ty).map (·.size) = some cs.size) (h1 : cs.all (·.oneCell') = true) : (execOp a.eval oi).run P w = .ok .skip (w.setCells b 0 cs.toList) := by
  unfold execOp
  simp only [ho, hx, hy, Instr.storeAt, Instr.sureAddr, Sem.run_bind, Sem.run_pure, Result.andThen_ok, run_storeVar_mid w b 0 ty cs (there_blk hb (by omega)) hi h1]
end Go.Proofs.Ytmofipnpnepfaaa.Mat
