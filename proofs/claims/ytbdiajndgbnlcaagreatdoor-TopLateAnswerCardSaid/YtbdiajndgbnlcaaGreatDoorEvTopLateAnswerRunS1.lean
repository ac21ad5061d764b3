/- TopLateAnswer: the evaluator's answers, by the kernel. -/
import Derived.Test.YtbdiajndgbnlcaaGreatDoorEvTopLateAnswerRun
import Derived.KernelRfl
namespace Go.Proofs.YtbdiajndgbnlcaaGreatDoor.topLateAnswer
open Go.YtbdiajndgbnlcaaGreatDoorEv
set_option maxRecDepth 100000
theorem s2 (W : World) (a0 : Int) (h0 : ((a0.tmod (.ofNat 9)).natAbs : Int) = .ofNat 2) : tst W [.res a0 (.ofNat 9) (.ofNat 2) h0] = true := by kernel_rfl
theorem s3 (W : World) (a0 : Int) (h0 : ((a0.tmod (.ofNat 9)).natAbs : Int) = .ofNat 3) : tst W [.res a0 (.ofNat 9) (.ofNat 3) h0] = true := by kernel_rfl
end Go.Proofs.YtbdiajndgbnlcaaGreatDoor.topLateAnswer
