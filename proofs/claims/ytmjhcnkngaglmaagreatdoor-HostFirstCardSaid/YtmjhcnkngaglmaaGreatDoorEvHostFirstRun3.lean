/- HostFirst: the evaluator's answers, by the kernel. -/
import Derived.Test.YtmjhcnkngaglmaaGreatDoorEvHostFirstRun
import Derived.KernelRfl
namespace Go.Proofs.YtmjhcnkngaglmaaGreatDoor.hostFirst
open Go.YtmjhcnkngaglmaaGreatDoorEv
set_option maxRecDepth 100000
theorem g9 (W : World) : tsts W [[.int .i64 (.ofNat 9)]] = true := by kernel_rfl
theorem g9_0 (W : World) : tst W [.int .i64 (.ofNat 9)] = true := (tsts_cons (g9 W)).1
theorem g10 (W : World) : tsts W [[.int .i64 (.ofNat 10)]] = true := by kernel_rfl
theorem g10_0 (W : World) : tst W [.int .i64 (.ofNat 10)] = true := (tsts_cons (g10 W)).1
theorem g11 (W : World) : tsts W [[.int .i64 (.ofNat 11)]] = true := by kernel_rfl
theorem g11_0 (W : World) : tst W [.int .i64 (.ofNat 11)] = true := (tsts_cons (g11 W)).1
end Go.Proofs.YtmjhcnkngaglmaaGreatDoor.hostFirst
