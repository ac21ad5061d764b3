/- LinkEnds: the evaluator's answers, by the kernel. -/
import Derived.Test.YtofmpjkdfgofaaaDoorEvLinkEndsRun
import Derived.KernelRfl
namespace Go.Proofs.YtofmpjkdfgofaaaDoor.linkEnds
open Go.YtofmpjkdfgofaaaDoorEv
set_option maxRecDepth 100000
theorem s0 (m0 : Nat) : tst [.int .i64 (.negSucc m0)] = true := by kernel_rfl
theorem s1 (m0 : Nat) : tst [.int .i64 (.ofNat (m0 + 11))] = true := by kernel_rfl
end Go.Proofs.YtofmpjkdfgofaaaDoor.linkEnds
