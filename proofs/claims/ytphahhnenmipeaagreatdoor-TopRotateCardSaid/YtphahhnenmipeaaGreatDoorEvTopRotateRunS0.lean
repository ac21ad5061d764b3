/- TopRotate: the evaluator's answers, by the kernel. -/
import Derived.Test.YtphahhnenmipeaaGreatDoorEvTopRotateRun
import Derived.KernelRfl
namespace Go.Proofs.YtphahhnenmipeaaGreatDoor.topRotate
open Go.YtphahhnenmipeaaGreatDoorEv
set_option maxRecDepth 100000
theorem s0 (W : World) (a1 : Int) (h1 : ((a1.tmod (.ofNat 5)).natAbs : Int) = .ofNat 0) : tst W [.bool true, .res a1 (.ofNat 5) (.ofNat 0) h1] = true := by kernel_rfl
theorem s1 (W : World) (a1 : Int) (h1 : ((a1.tmod (.ofNat 5)).natAbs : Int) = .ofNat 1) : tst W [.bool true, .res a1 (.ofNat 5) (.ofNat 1) h1] = true := by kernel_rfl
end Go.Proofs.YtphahhnenmipeaaGreatDoor.topRotate
