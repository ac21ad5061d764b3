/- TopRotate: the evaluator's answers, by the kernel. -/
import Derived.Test.YtphahhnenmipeaaGreatDoorEvTopRotateRun
import Derived.KernelRfl
namespace Go.Proofs.YtphahhnenmipeaaGreatDoor.topRotate
open Go.YtphahhnenmipeaaGreatDoorEv
set_option maxRecDepth 100000
theorem s2 (W : World) (a1 : Int) (h1 : ((a1.tmod (.ofNat 5)).natAbs : Int) = .ofNat 2) : tst W [.bool true, .res a1 (.ofNat 5) (.ofNat 2) h1] = true := by kernel_rfl
theorem s3 (W : World) (a1 : Int) (h1 : ((a1.tmod (.ofNat 5)).natAbs : Int) = .ofNat 3) : tst W [.bool true, .res a1 (.ofNat 5) (.ofNat 3) h1] = true := by kernel_rfl
end Go.Proofs.YtphahhnenmipeaaGreatDoor.topRotate
