/- TopReloadPending: the evaluator's answers, by the kernel. -/
import Derived.Test.YtbdiajndgbnlcaaGreatDoorEvTopReloadPendingRun
import Derived.KernelRfl
namespace Go.Proofs.YtbdiajndgbnlcaaGreatDoor.topReloadPending
open Go.YtbdiajndgbnlcaaGreatDoorEv
set_option maxRecDepth 100000
theorem g0 (W : World) : tsts W [[.bool true]] = true := by kernel_rfl
theorem g0_0 (W : World) : tst W [.bool true] = true := (tsts_cons (g0 W)).1
end Go.Proofs.YtbdiajndgbnlcaaGreatDoor.topReloadPending
