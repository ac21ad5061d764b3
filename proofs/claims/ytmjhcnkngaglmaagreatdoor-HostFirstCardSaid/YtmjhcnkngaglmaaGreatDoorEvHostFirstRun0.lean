/- HostFirst: the evaluator's answers, by the kernel. -/
import Derived.Test.YtmjhcnkngaglmaaGreatDoorEvHostFirstRun
import Derived.KernelRfl
namespace Go.Proofs.YtmjhcnkngaglmaaGreatDoor.hostFirst
open Go.YtmjhcnkngaglmaaGreatDoorEv
set_option maxRecDepth 100000
theorem g0 (W : World) : tsts W [[.int .i64 (.ofNat 0)]] = true := by kernel_rfl
theorem g0_0 (W : World) : tst W [.int .i64 (.ofNat 0)] = true := (tsts_cons (g0 W)).1
theorem g1 (W : World) : tsts W [[.int .i64 (.ofNat 1)]] = true := by kernel_rfl
theorem g1_0 (W : World) : tst W [.int .i64 (.ofNat 1)] = true := (tsts_cons (g1 W)).1
theorem g2 (W : World) : tsts W [[.int .i64 (.ofNat 2)]] = true := by kernel_rfl
theorem g2_0 (W : World) : tst W [.int .i64 (.ofNat 2)] = true := (tsts_cons (g2 W)).1
end Go.Proofs.YtmjhcnkngaglmaaGreatDoor.hostFirst
