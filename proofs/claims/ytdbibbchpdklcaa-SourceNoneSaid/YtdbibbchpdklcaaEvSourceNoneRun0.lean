/- SourceNone: the evaluator's answers, by the kernel. -/
import Derived.Test.YtdbibbchpdklcaaEvSourceNoneRun
import Derived.KernelRfl
namespace Go.Proofs.Ytdbibbchpdklcaa.sourceNone
open Go.YtdbibbchpdklcaaEv
set_option maxRecDepth 100000
theorem g0 : tsts [[]] = true := by kernel_rfl
theorem g0_0 : tst [] = true := (tsts_cons g0).1
end Go.Proofs.Ytdbibbchpdklcaa.sourceNone
