/- HostFirst: the evaluator's answers, by the kernel. -/
import Derived.Test.YtmjhcnkngaglmaaGreatDoorEvHostFirstRun
import Derived.KernelRfl
namespace Go.Proofs.YtmjhcnkngaglmaaGreatDoor.hostFirst
open Go.YtmjhcnkngaglmaaGreatDoorEv
set_option maxRecDepth 100000
theorem g18 (W : World) : tsts W [[.int .i64 (.ofNat 18)]] = true := by kernel_rfl
theorem g18_0 (W : World) : tst W [.int .i64 (.ofNat 18)] = true := (tsts_cons (g18 W)).1
theorem g19 (W : World) : tsts W [[.int .i64 (.ofNat 19)]] = true := by kernel_rfl
theorem g19_0 (W : World) : tst W [.int .i64 (.ofNat 19)] = true := (tsts_cons (g19 W)).1
theorem g20 (W : World) : tsts W [[.int .i64 (.ofNat 20)]] = true := by kernel_rfl
theorem g20_0 (W : World) : tst W [.int .i64 (.ofNat 20)] = true := (tsts_cons (g20 W)).1
end Go.Proofs.YtmjhcnkngaglmaaGreatDoor.hostFirst
