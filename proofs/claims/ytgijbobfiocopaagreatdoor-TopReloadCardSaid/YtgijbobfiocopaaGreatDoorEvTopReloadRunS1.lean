/- TopReload: the evaluator's answers, by the kernel. -/
import Derived.Test.YtgijbobfiocopaaGreatDoorEvTopReloadRun
import Derived.KernelRfl
namespace Go.Proofs.YtgijbobfiocopaaGreatDoor.topReload
open Go.YtgijbobfiocopaaGreatDoorEv
set_option maxRecDepth 100000
theorem s4 (W : World)  : tst W [.bool true, .resl (.ofNat 250) (lanT 122 128)] = true := by kernel_rfl
theorem s5 (W : World)  : tst W [.bool false, .resl (.ofNat 250) (lanT 1 0)] = true := by kernel_rfl
theorem s6 (W : World)  : tst W [.bool false, .resl (.ofNat 250) (lanT 9 1)] = true := by kernel_rfl
theorem s7 (W : World)  : tst W [.bool false, .resl (.ofNat 250) (lanT 90 10)] = true := by kernel_rfl
end Go.Proofs.YtgijbobfiocopaaGreatDoor.topReload
