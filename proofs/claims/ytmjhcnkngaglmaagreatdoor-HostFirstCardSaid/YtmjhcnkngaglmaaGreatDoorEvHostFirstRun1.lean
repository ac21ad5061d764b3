/- HostFirst: the evaluator's answers, by the kernel. -/
import Derived.Test.YtmjhcnkngaglmaaGreatDoorEvHostFirstRun
import Derived.KernelRfl
namespace Go.Proofs.YtmjhcnkngaglmaaGreatDoor.hostFirst
open Go.YtmjhcnkngaglmaaGreatDoorEv
set_option maxRecDepth 100000
theorem g3 (W : World) : tsts W [[.int .i64 (.ofNat 3)]] = true := by kernel_rfl
theorem g3_0 (W : World) : tst W [.int .i64 (.ofNat 3)] = true := (tsts_cons (g3 W)).1
theorem g4 (W : World) : tsts W [[.int .i64 (.ofNat 4)]] = true := by kernel_rfl
theorem g4_0 (W : World) : tst W [.int .i64 (.ofNat 4)] = true := (tsts_cons (g4 W)).1
theorem g5 (W : World) : tsts W [[.int .i64 (.ofNat 5)]] = true := by kernel_rfl
theorem g5_0 (W : World) : tst W [.int .i64 (.ofNat 5)] = true := (tsts_cons (g5 W)).1
end Go.Proofs.YtmjhcnkngaglmaaGreatDoor.hostFirst
