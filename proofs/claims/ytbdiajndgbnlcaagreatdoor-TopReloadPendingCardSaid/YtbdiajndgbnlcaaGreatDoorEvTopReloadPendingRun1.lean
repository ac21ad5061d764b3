/- TopReloadPending: the evaluator's answers, by the kernel. -/
import Derived.Test.YtbdiajndgbnlcaaGreatDoorEvTopReloadPendingRun
import Derived.KernelRfl
namespace Go.Proofs.YtbdiajndgbnlcaaGreatDoor.topReloadPending
open Go.YtbdiajndgbnlcaaGreatDoorEv
set_option maxRecDepth 100000
theorem g1 (W : World) : tsts W [[.bool false]] = true := by kernel_rfl
theorem g1_0 (W : World) : tst W [.bool false] = true := (tsts_cons (g1 W)).1
end Go.Proofs.YtbdiajndgbnlcaaGreatDoor.topReloadPending
