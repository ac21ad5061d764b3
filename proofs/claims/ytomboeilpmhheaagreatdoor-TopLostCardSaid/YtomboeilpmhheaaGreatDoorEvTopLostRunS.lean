/- TopLost: the evaluator's answers, by the kernel. -/
import Derived.Test.YtomboeilpmhheaaGreatDoorEvTopLostRun
import Derived.KernelRfl
namespace Go.Proofs.YtomboeilpmhheaaGreatDoor.topLost
open Go.YtomboeilpmhheaaGreatDoorEv
set_option maxRecDepth 100000
theorem s0 (a0 : Int) : tst [.int .i64 a0] = true := by kernel_rfl
end Go.Proofs.YtomboeilpmhheaaGreatDoor.topLost
