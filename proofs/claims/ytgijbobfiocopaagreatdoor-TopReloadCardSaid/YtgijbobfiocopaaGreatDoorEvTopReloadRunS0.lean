/- TopReload: the evaluator's answers, by the kernel. -/
import Derived.Test.YtgijbobfiocopaaGreatDoorEvTopReloadRun
import Derived.KernelRfl
namespace Go.Proofs.YtgijbobfiocopaaGreatDoor.topReload
open Go.YtgijbobfiocopaaGreatDoorEv
set_option maxRecDepth 100000
theorem s0 (W : World)  : tst W [.bool true, .resl (.ofNat 250) (lanT 1 0)] = true := by kernel_rfl
theorem s1 (W : World)  : tst W [.bool true, .resl (.ofNat 250) (lanT 9 1)] = true := by kernel_rfl
theorem s2 (W : World)  : tst W [.bool true, .resl (.ofNat 250) (lanT 90 10)] = true := by kernel_rfl
theorem s3 (W : World)  : tst W [.bool true, .resl (.ofNat 250) (lanT 28 100)] = true := by kernel_rfl
end Go.Proofs.YtgijbobfiocopaaGreatDoor.topReload
