/- TopAlone: the evaluator's answers, by the kernel. -/
import Derived.Test.YtgijbobfiocopaaGreatDoorEvTopAloneRun
import Derived.KernelRfl
namespace Go.Proofs.YtgijbobfiocopaaGreatDoor.topAlone
open Go.YtgijbobfiocopaaGreatDoorEv
set_option maxRecDepth 100000
theorem s3 (W : World)  : tst W [.resl (.ofNat 250) (lanT 28 100)] = true := by kernel_rfl
end Go.Proofs.YtgijbobfiocopaaGreatDoor.topAlone
