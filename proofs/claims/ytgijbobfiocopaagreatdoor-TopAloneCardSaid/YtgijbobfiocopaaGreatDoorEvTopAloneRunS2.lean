/- TopAlone: the evaluator's answers, by the kernel. -/
import Derived.Test.YtgijbobfiocopaaGreatDoorEvTopAloneRun
import Derived.KernelRfl
namespace Go.Proofs.YtgijbobfiocopaaGreatDoor.topAlone
open Go.YtgijbobfiocopaaGreatDoorEv
set_option maxRecDepth 100000
theorem s2 (W : World)  : tst W [.resl (.ofNat 250) (lanT 90 10)] = true := by kernel_rfl
end Go.Proofs.YtgijbobfiocopaaGreatDoor.topAlone
