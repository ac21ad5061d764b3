/- HostFirst: the evaluator's answers, by the kernel. -/
import Derived.Test.YtmjhcnkngaglmaaGreatDoorEvHostFirstRun
import Derived.KernelRfl
namespace Go.Proofs.YtmjhcnkngaglmaaGreatDoor.hostFirst
open Go.YtmjhcnkngaglmaaGreatDoorEv
set_option maxRecDepth 100000
theorem g15 (W : World) : tsts W [[.int .i64 (.ofNat 15)]] = true := by kernel_rfl
theorem g15_0 (W : World) : tst W [.int .i64 (.ofNat 15)] = true := (tsts_cons (g15 W)).1
theorem g16 (W : World) : tsts W [[.int .i64 (.ofNat 16)]] = true := by kernel_rfl
theorem g16_0 (W : World) : tst W [.int .i64 (.ofNat 16)] = true := (tsts_cons (g16 W)).1
theorem g17 (W : World) : tsts W [[.int .i64 (.ofNat 17)]] = true := by kernel_rfl
theorem g17_0 (W : World) : tst W [.int .i64 (.ofNat 17)] = true := (tsts_cons (g17 W)).1
end Go.Proofs.YtmjhcnkngaglmaaGreatDoor.hostFirst
