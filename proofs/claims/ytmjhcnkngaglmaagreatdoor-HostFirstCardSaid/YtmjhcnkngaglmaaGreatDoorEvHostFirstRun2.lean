/- HostFirst: the evaluator's answers, by the kernel. -/
import Derived.Test.YtmjhcnkngaglmaaGreatDoorEvHostFirstRun
import Derived.KernelRfl
namespace Go.Proofs.YtmjhcnkngaglmaaGreatDoor.hostFirst
open Go.YtmjhcnkngaglmaaGreatDoorEv
set_option maxRecDepth 100000
theorem g6 (W : World) : tsts W [[.int .i64 (.ofNat 6)]] = true := by kernel_rfl
theorem g6_0 (W : World) : tst W [.int .i64 (.ofNat 6)] = true := (tsts_cons (g6 W)).1
theorem g7 (W : World) : tsts W [[.int .i64 (.ofNat 7)]] = true := by kernel_rfl
theorem g7_0 (W : World) : tst W [.int .i64 (.ofNat 7)] = true := (tsts_cons (g7 W)).1
theorem g8 (W : World) : tsts W [[.int .i64 (.ofNat 8)]] = true := by kernel_rfl
theorem g8_0 (W : World) : tst W [.int .i64 (.ofNat 8)] = true := (tsts_cons (g8 W)).1
end Go.Proofs.YtmjhcnkngaglmaaGreatDoor.hostFirst
