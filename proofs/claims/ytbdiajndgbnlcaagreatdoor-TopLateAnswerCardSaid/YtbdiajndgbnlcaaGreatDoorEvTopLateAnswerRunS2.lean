/- TopLateAnswer: the evaluator's answers, by the kernel. -/
import Derived.Test.YtbdiajndgbnlcaaGreatDoorEvTopLateAnswerRun
import Derived.KernelRfl
namespace Go.Proofs.YtbdiajndgbnlcaaGreatDoor.topLateAnswer
open Go.YtbdiajndgbnlcaaGreatDoorEv
set_option maxRecDepth 100000
theorem s4 (W : World) (a0 : Int) (h0 : ((a0.tmod (.ofNat 9)).natAbs : Int) = .ofNat 4) : tst W [.res a0 (.ofNat 9) (.ofNat 4) h0] = true := by kernel_rfl
theorem s5 (W : World) (a0 : Int) (h0 : ((a0.tmod (.ofNat 9)).natAbs : Int) = .ofNat 5) : tst W [.res a0 (.ofNat 9) (.ofNat 5) h0] = true := by kernel_rfl
end Go.Proofs.YtbdiajndgbnlcaaGreatDoor.topLateAnswer
