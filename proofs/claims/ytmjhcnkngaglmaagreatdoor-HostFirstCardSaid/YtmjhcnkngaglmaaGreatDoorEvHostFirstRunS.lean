/- HostFirst: the evaluator's answers, by the kernel. -/
import Derived.Test.YtmjhcnkngaglmaaGreatDoorEvHostFirstRun
import Derived.KernelRfl
namespace Go.Proofs.YtmjhcnkngaglmaaGreatDoor.hostFirst
open Go.YtmjhcnkngaglmaaGreatDoorEv
set_option maxRecDepth 100000
theorem s0 (W : World) (m0 : Nat) : tst W [.int .i64 (.negSucc m0)] = true := by kernel_rfl
theorem s1 (W : World) (m0 : Nat) : tst W [.int .i64 (.ofNat (m0 + 21))] = true := by kernel_rfl
end Go.Proofs.YtmjhcnkngaglmaaGreatDoor.hostFirst
