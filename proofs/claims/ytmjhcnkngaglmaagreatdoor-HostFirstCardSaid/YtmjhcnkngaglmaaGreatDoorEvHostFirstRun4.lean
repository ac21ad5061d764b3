/- HostFirst: the evaluator's answers, by the kernel. -/
import Derived.Test.YtmjhcnkngaglmaaGreatDoorEvHostFirstRun
import Derived.KernelRfl
namespace Go.Proofs.YtmjhcnkngaglmaaGreatDoor.hostFirst
open Go.YtmjhcnkngaglmaaGreatDoorEv
set_option maxRecDepth 100000
theorem g12 (W : World) : tsts W [[.int .i64 (.ofNat 12)]] = true := by kernel_rfl
theorem g12_0 (W : World) : tst W [.int .i64 (.ofNat 12)] = true := (tsts_cons (g12 W)).1
theorem g13 (W : World) : tsts W [[.int .i64 (.ofNat 13)]] = true := by kernel_rfl
theorem g13_0 (W : World) : tst W [.int .i64 (.ofNat 13)] = true := (tsts_cons (g13 W)).1
theorem g14 (W : World) : tsts W [[.int .i64 (.ofNat 14)]] = true := by kernel_rfl
theorem g14_0 (W : World) : tst W [.int .i64 (.ofNat 14)] = true := (tsts_cons (g14 W)).1
end Go.Proofs.YtmjhcnkngaglmaaGreatDoor.hostFirst
