/- TopReload: the evaluator's answers, by the kernel. -/
import Derived.Test.YtgijbobfiocopaaGreatDoorEvTopReloadRun
import Derived.KernelRfl
namespace Go.Proofs.YtgijbobfiocopaaGreatDoor.topReload
open Go.YtgijbobfiocopaaGreatDoorEv
set_option maxRecDepth 100000
theorem s8 (W : World)  : tst W [.bool false, .resl (.ofNat 250) (lanT 28 100)] = true := by kernel_rfl
theorem s9 (W : World)  : tst W [.bool false, .resl (.ofNat 250) (lanT 122 128)] = true := by kernel_rfl
end Go.Proofs.YtgijbobfiocopaaGreatDoor.topReload
